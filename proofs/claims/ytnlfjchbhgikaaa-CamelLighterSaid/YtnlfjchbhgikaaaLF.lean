/- Walks and plain laws that lead to the given statement, part 6 of 7. -/
import Derived.Test.YtnlfjchbhgikaaaLE
import Derived.Laws.BytesString
set_option maxRecDepth 100000
set_option maxHeartbeats 4000000
namespace Go.Proofs.Ytnlfjchbhgikaaa
open Go Go.Sx Go.Azalai
theorem uwn {n : Int} (h0 : 0 ≤ n) (h1 : n < 18446744073709551616) : IntKind.u64.wrap n = n := by
  have e : n % 2 ^ IntKind.u64.bits = n := Int.emod_eq_of_lt h0 (by show n < 2 ^ 64; omega)
  simp only [IntKind.wrap, e, show IntKind.u64.signed = false from rfl, Bool.false_and]
  rfl
theorem half_run (m : Int) (q0 : 0 ≤ m) (w : World) : (binOp .shr 153 (.int .u64 m) (.int .u64 1)).run Try.prog w = .ok (.int .u64 (m / 2)) w := by
  simp only [binOp, Op.shift]
  rw [if_neg (by decide)]
  have : m.fdiv (2 ^ 1) = m / 2 := by rw [Int.fdiv_eq_ediv_of_nonneg _ (by decide)]; rfl
  show Result.ok (Value.int .u64 (m.fdiv (2 ^ (min (1 : Int).toNat IntKind.u64.bits)))) w = _
  rw [show min (1 : Int).toNat IntKind.u64.bits = 1 from by decide, this]
/-- the symmetric merge: parts of at most N members -/
theorem sym_ok (v N : Nat) : ∀ (a m b : Nat) (l : List Meet), b - a ≤ N → a < m → m < b → b ≤ l.length → l.length < 4611686018427387904 → Srt Meet.day a m l → Srt Meet.day m b l →
    CtM Try.prog 106 [(0, .row v 4 (l.map meetL) 73)] 1 [.mr 0 v, I a, I m, I b, .cl 81 []] (fun o => ∃ l', PIn a b l l' ∧ Srt Meet.day a b l' ∧ o = rowO v l') := by
  induction N with
  | zero => intro a m b l h1 h2 h3; omega
  | succ N ih =>
  intro a m b l hN ham hmb hb hL hs1 hs2
  refine m106 (by simp [hpb]) (fun o ho => by obtain ⟨l', _, _, rfl⟩ := ho; simp [rowO, KX, KXL, KXP, KXH, KFR_iff, KFL, KF, meetL]) ?_
  dsimp only [c106, r106, go_sem, Nat.reduceAdd, Nat.reduceMul, Nat.reduceSub]
  rw [w64_in (n := (m : Int) - (a : Int)) (by omega) (by omega)]
  by_cases hm1 : m = a + 1
  · refine br_t (by simp; omega) ?_
    dsimp only [go_sem, Nat.reduceAdd, Nat.reduceMul, Nat.reduceSub]
    refine loopO (fun s : Nat × Nat => [(10, I (s.1 : Nat)), (11, I (s.2 : Nat))]) (fun _ => []) (fun s => m ≤ s.1 ∧ s.1 ≤ s.2 ∧ s.2 ≤ b ∧ (∀ c, m ≤ c → c < s.1 → ky Meet.day l c < ky Meet.day l a) ∧ ∀ c, s.2 ≤ c → c < b → ky Meet.day l a ≤ ky Meet.day l c) (fun s => s.2 - s.1) (m, b) ⟨Nat.le_refl _, by simp only; omega, Nat.le_refl _, fun c h1 h2 => by simp only at h2; omega, fun c h1 h2 => by simp only at h1; omega⟩ ?_ ?_
    · (refine ent_id ?_ ?_ ?_ rfl rfl <;> dsimp only [meetL, id, go_sem, Nat.reduceAdd, Nat.reduceMul, Nat.reduceSub] <;> simp [meetL, KFR_iff, KFR_app, KFR, KFL, KF, mtL_same, mtO, Nat.beq_refl])
    rintro ⟨i, j⟩ ⟨hi, hij, hj, hlo, hhi⟩
    simp only at hi hij hj hlo hhi
    dsimp only [go_sem, Nat.reduceAdd, Nat.reduceMul, Nat.reduceSub]
    by_cases hlt : i < j
    · refine br_t (by simpa using hlt) ?_
      dsimp only [go_sem, Nat.reduceAdd, Nat.reduceMul, Nat.reduceSub]
      simp (disch := omega) only [w64_in]
      rw [uwn (by omega) (by omega)]
      refine raw_bin rfl (.inr rfl) (half_run _ (by omega)) rfl ?_
      dsimp only [go_sem, Nat.reduceAdd, Nat.reduceMul, Nat.reduceSub]
      obtain ⟨h, hh⟩ : ∃ h : Nat, ((i : Int) + (j : Int)) / 2 = (h : Int) := ⟨(i + j) / 2, by omega⟩
      rw [hh, w64_in (n := (h : Int)) (by omega) (by omega)]
      have hih : i ≤ h ∧ h < j := by omega
      ((try dsimp only [go_sem, Nat.reduceAdd, Nat.reduceMul, Nat.reduceSub]); repeat (simp only [Nat.beq_refl]; try dsimp only [go_sem, Nat.reduceAdd, Nat.reduceMul, Nat.reduceSub]))
      refine ixrm h rfl (by simp; omega) ?_
      ((try dsimp only [go_sem, Nat.reduceAdd, Nat.reduceMul, Nat.reduceSub]); repeat (simp only [Nat.beq_refl]; try dsimp only [go_sem, Nat.reduceAdd, Nat.reduceMul, Nat.reduceSub]))
      refine ldrm (by omega) ?_
      ((try dsimp only [meetL, go_sem, Nat.reduceAdd, Nat.reduceMul, Nat.reduceSub]); repeat (simp only [Nat.beq_refl]; try dsimp only [go_sem, Nat.reduceAdd, Nat.reduceMul, Nat.reduceSub]))
      refine ixrm a rfl (by simp; omega) ?_
      ((try dsimp only [go_sem, Nat.reduceAdd, Nat.reduceMul, Nat.reduceSub]); repeat (simp only [Nat.beq_refl]; try dsimp only [go_sem, Nat.reduceAdd, Nat.reduceMul, Nat.reduceSub]))
      refine ldrm (by omega) ?_
      ((try dsimp only [meetL, go_sem, Nat.reduceAdd, Nat.reduceMul, Nat.reduceSub]); repeat (simp only [Nat.beq_refl]; try dsimp only [go_sem, Nat.reduceAdd, Nat.reduceMul, Nat.reduceSub]))
      refine call (less_ok l[h] l[a]) ?_
      ((try dsimp only [go_sem, Nat.reduceAdd, Nat.reduceMul, Nat.reduceSub]); repeat (simp only [Nat.beq_refl]; try dsimp only [go_sem, Nat.reduceAdd, Nat.reduceMul, Nat.reduceSub]))
      by_cases hk : l[h].day < l[a].day
      · refine br_t (by simp [cmpZ, hk]) ?_
        dsimp only [go_sem, Nat.reduceAdd, Nat.reduceMul, Nat.reduceSub]
        rw [w64_in (n := (h : Int) + 1) (by omega) (by omega)]
        have hkk : ky Meet.day l h < ky Meet.day l a := by rw [ky_eq Meet.day (l := l) (i := h) (by omega), ky_eq Meet.day (l := l) (i := a) (by omega)]; exact hk
        refine ⟨(h + 1, j), ⟨by simp only; omega, by simp only; omega, hj, fun c g1 g2 => ?_, hhi⟩, by simp only; omega, ?_⟩
        · have := hs2.le Meet.day g1 (show c ≤ h by simp only at g2; omega) (by omega); omega
        (refine ent_id ?_ ?_ ?_ rfl rfl <;> dsimp only [meetL, id, go_sem, Nat.reduceAdd, Nat.reduceMul, Nat.reduceSub] <;> simp [meetL, KFR_iff, KFR_app, KFR, KFL, KF, mtL_same, mtO, Nat.beq_refl])
      · refine br_f (by simp [cmpZ, hk]; split <;> decide) ?_
        dsimp only [go_sem, Nat.reduceAdd, Nat.reduceMul, Nat.reduceSub]
        have hkk : ky Meet.day l a ≤ ky Meet.day l h := by rw [ky_eq Meet.day (l := l) (i := h) (by omega), ky_eq Meet.day (l := l) (i := a) (by omega)]; exact Int.not_lt.1 hk
        refine ⟨(i, h), ⟨hi, by simp only; omega, by simp only; omega, hlo, fun c g1 g2 => ?_⟩, by simp only; omega, ?_⟩
        · have := hs2.le Meet.day (show m ≤ h by omega) g1 g2; omega
        (refine ent_id ?_ ?_ ?_ rfl rfl <;> dsimp only [meetL, id, go_sem, Nat.reduceAdd, Nat.reduceMul, Nat.reduceSub] <;> simp [meetL, KFR_iff, KFR_app, KFR, KFL, KF, mtL_same, mtO, Nat.beq_refl])
    refine br_f (by simp; omega) ?_
    dsimp only [go_sem, Nat.reduceAdd, Nat.reduceMul, Nat.reduceSub]
    have hij' : i = j := by omega
    subst hij'
    refine loopO (fun s : Nat × List Meet => [(13, I (s.1 : Nat))]) (fun s => [(0, .row v 4 (s.2.map meetL) 73)]) (fun s => (a ≤ s.1 ∧ s.1 ≤ i - 1) ∧ PIn a b l s.2 ∧ ∀ p, ky Meet.day s.2 p = if a ≤ p ∧ p < s.1 then ky Meet.day l (p + 1) else if p = s.1 then ky Meet.day l a else ky Meet.day l p) (fun s => i - s.1) (a, l) ⟨by simp only; omega, .refl _ _ _, fun p => by
      simp only
      rw [if_neg (by omega)]
      split
      · rename_i h; rw [h]
      · rfl⟩ ?_ ?_
    · (refine ent_id ?_ ?_ ?_ rfl rfl <;> dsimp only [meetL, id, go_sem, Nat.reduceAdd, Nat.reduceMul, Nat.reduceSub] <;> simp [meetL, KFR_iff, KFR_app, KFR, KFL, KF, mtL_same, mtO, Nat.beq_refl])
    rintro ⟨k, l1⟩ ⟨⟨hk0, hk⟩, hp, hky⟩
    simp only at hk0 hk hp hky
    have hl1 := hp.len
    dsimp only [go_sem, Nat.reduceAdd, Nat.reduceMul, Nat.reduceSub]
    rw [w64_in (n := (i : Int) - 1) (by omega) (by omega)]
    by_cases hlt : k < i - 1
    · refine br_t (by simp; omega) ?_
      ((try dsimp only [go_sem, Nat.reduceAdd, Nat.reduceMul, Nat.reduceSub]); repeat (simp only [Nat.beq_refl]; try dsimp only [go_sem, Nat.reduceAdd, Nat.reduceMul, Nat.reduceSub]))
      rw [w64_in (n := (k : Int) + 1) (by omega) (by omega)]
      refine ixrm (k + 1) (by omega) (by simp; omega) ?_
      ((try dsimp only [go_sem, Nat.reduceAdd, Nat.reduceMul, Nat.reduceSub]); repeat (simp only [Nat.beq_refl]; try dsimp only [go_sem, Nat.reduceAdd, Nat.reduceMul, Nat.reduceSub]))
      refine ldrm (by omega) ?_
      ((try dsimp only [meetL, go_sem, Nat.reduceAdd, Nat.reduceMul, Nat.reduceSub]); repeat (simp only [Nat.beq_refl]; try dsimp only [go_sem, Nat.reduceAdd, Nat.reduceMul, Nat.reduceSub]))
      refine ixrm k rfl (by simp; omega) ?_
      ((try dsimp only [go_sem, Nat.reduceAdd, Nat.reduceMul, Nat.reduceSub]); repeat (simp only [Nat.beq_refl]; try dsimp only [go_sem, Nat.reduceAdd, Nat.reduceMul, Nat.reduceSub]))
      refine ldrm (by omega) ?_
      ((try dsimp only [meetL, go_sem, Nat.reduceAdd, Nat.reduceMul, Nat.reduceSub]); repeat (simp only [Nat.beq_refl]; try dsimp only [go_sem, Nat.reduceAdd, Nat.reduceMul, Nat.reduceSub]))
      refine ixrm k rfl (by simp; omega) ?_
      ((try dsimp only [go_sem, Nat.reduceAdd, Nat.reduceMul, Nat.reduceSub]); repeat (simp only [Nat.beq_refl]; try dsimp only [go_sem, Nat.reduceAdd, Nat.reduceMul, Nat.reduceSub]))
      refine strm l1[k + 1] (by omega) (by simp [meetL]) (by simp [meetL, splice]) ?_
      ((try dsimp only [go_sem, Nat.reduceAdd, Nat.reduceMul, Nat.reduceSub]); repeat (simp only [Nat.beq_refl]; try dsimp only [go_sem, Nat.reduceAdd, Nat.reduceMul, Nat.reduceSub]))
      refine ixrm (k + 1) (by first | omega | (rw [w64_in (by omega) (by omega)]; omega)) (by simp; omega) ?_
      ((try dsimp only [go_sem, Nat.reduceAdd, Nat.reduceMul, Nat.reduceSub]); repeat (simp only [Nat.beq_refl]; try dsimp only [go_sem, Nat.reduceAdd, Nat.reduceMul, Nat.reduceSub]))
      refine strm l1[k] (by simp; omega) (by simp [meetL]) (by simp [meetL, splice]) ?_
      rw [← swp_eq (l := l1) (i := k) (j := k + 1) (by omega) (by omega)]
      ((try dsimp only [go_sem, Nat.reduceAdd, Nat.reduceMul, Nat.reduceSub]); repeat (simp only [Nat.beq_refl]; try dsimp only [go_sem, Nat.reduceAdd, Nat.reduceMul, Nat.reduceSub]))
      try rw [w64_in (n := (k : Int) + 1) (by omega) (by omega)]
      rw [show (k : Int) + 1 = ((k + 1 : Nat) : Int) from by omega]
      refine ⟨(k + 1, swp l1 k (k + 1)), ⟨by simp only; omega, hp.trans (.swap (by omega) (by omega) (by omega) (by omega) (by omega)), fun p => ?_⟩, by simp only; omega, ?_⟩
      · simp only
        rw [swp_ky Meet.day (by omega) (by omega), hky, hky, hky]
        by_cases h1 : p = k
        · subst h1
          rw [if_pos rfl, if_neg (by omega), if_neg (by omega), if_pos (by omega)]
        · rw [if_neg h1]
          by_cases h2 : p = k + 1
          · subst h2
            rw [if_pos rfl, if_neg (by omega), if_pos rfl, if_neg (by omega), if_pos rfl]
          · rw [if_neg h2, if_neg h2]
            by_cases h3 : a ≤ p ∧ p < k
            · rw [if_pos h3, if_pos (by omega)]
            · rw [if_neg h3, if_neg h1, if_neg (by omega)]
      (refine ent_id ?_ ?_ ?_ rfl rfl <;> dsimp only [meetL, id, go_sem, Nat.reduceAdd, Nat.reduceMul, Nat.reduceSub] <;> simp [meetL, KFR_iff, KFR_app, KFR, KFL, KF, mtL_same, mtO, Nat.beq_refl])
    refine br_f (by simp; omega) ?_
    dsimp only [go_sem, Nat.reduceAdd, Nat.reduceMul, Nat.reduceSub]
    have hki : k = i - 1 := by omega
    refine ⟨_, ⟨l1, hp, fun p q g1 g2 g3 => ?_, rfl⟩, ?_⟩
    · rw [hky, hky]
      by_cases h1 : p < k
      · rw [if_pos (by omega)]
        by_cases h2 : q < k
        · rw [if_pos (by omega)]; exact hs2 _ _ (by omega) (by omega) (by omega)
        · rw [if_neg (by omega)]
          by_cases h3 : q = k
          · rw [if_pos h3]; exact Int.le_of_lt (hlo _ (by omega) (by omega))
          · rw [if_neg h3]; exact hs2 _ _ (by omega) (by omega) (by omega)
      · rw [if_neg (by omega), if_neg (c := a ≤ q ∧ q < k) (by omega), if_neg (c := q = k) (by omega)]
        by_cases h3 : p = k
        · rw [if_pos h3]; exact hhi _ (by omega) (by omega)
        · rw [if_neg h3]; exact hs2 _ _ (by omega) (by omega) (by omega)
    · simp only [rowO]
      (refine entO_id ?_ ?_ ?_ rfl <;> dsimp only [meetL, id, go_sem, Nat.reduceAdd, Nat.reduceMul, Nat.reduceSub] <;> simp [meetL, KFR_iff, KFR_app, KFR, KFL, KF, mtL_same, mtO, Nat.beq_refl])
  refine br_f (by simp; omega) ?_
  dsimp only [go_sem, Nat.reduceAdd, Nat.reduceMul, Nat.reduceSub]
  rw [w64_in (n := (b : Int) - (m : Int)) (by omega) (by omega)]
  by_cases hb1 : b = m + 1
  · refine br_t (by simp; omega) ?_
    dsimp only [go_sem, Nat.reduceAdd, Nat.reduceMul, Nat.reduceSub]
    refine loopO (fun s : Nat × Nat => [(14, I (s.1 : Nat)), (15, I (s.2 : Nat))]) (fun _ => []) (fun s => a ≤ s.1 ∧ s.1 ≤ s.2 ∧ s.2 ≤ m ∧ (∀ c, a ≤ c → c < s.1 → ky Meet.day l c ≤ ky Meet.day l m) ∧ ∀ c, s.2 ≤ c → c < m → ky Meet.day l m < ky Meet.day l c) (fun s => s.2 - s.1) (a, m) ⟨Nat.le_refl _, by simp only; omega, Nat.le_refl _, fun c h1 h2 => by simp only at h2; omega, fun c h1 h2 => by simp only at h1; omega⟩ ?_ ?_
    · (refine ent_id ?_ ?_ ?_ rfl rfl <;> dsimp only [meetL, id, go_sem, Nat.reduceAdd, Nat.reduceMul, Nat.reduceSub] <;> simp [meetL, KFR_iff, KFR_app, KFR, KFL, KF, mtL_same, mtO, Nat.beq_refl])
    rintro ⟨i, j⟩ ⟨hi, hij, hj, hlo, hhi⟩
    simp only at hi hij hj hlo hhi
    dsimp only [go_sem, Nat.reduceAdd, Nat.reduceMul, Nat.reduceSub]
    by_cases hlt : i < j
    · refine br_t (by simpa using hlt) ?_
      dsimp only [go_sem, Nat.reduceAdd, Nat.reduceMul, Nat.reduceSub]
      simp (disch := omega) only [w64_in]
      rw [uwn (by omega) (by omega)]
      refine raw_bin rfl (.inr rfl) (half_run _ (by omega)) rfl ?_
      dsimp only [go_sem, Nat.reduceAdd, Nat.reduceMul, Nat.reduceSub]
      obtain ⟨h, hh⟩ : ∃ h : Nat, ((i : Int) + (j : Int)) / 2 = (h : Int) := ⟨(i + j) / 2, by omega⟩
      rw [hh, w64_in (n := (h : Int)) (by omega) (by omega)]
      have hih : i ≤ h ∧ h < j := by omega
      ((try dsimp only [go_sem, Nat.reduceAdd, Nat.reduceMul, Nat.reduceSub]); repeat (simp only [Nat.beq_refl]; try dsimp only [go_sem, Nat.reduceAdd, Nat.reduceMul, Nat.reduceSub]))
      refine ixrm m rfl (by simp; omega) ?_
      ((try dsimp only [go_sem, Nat.reduceAdd, Nat.reduceMul, Nat.reduceSub]); repeat (simp only [Nat.beq_refl]; try dsimp only [go_sem, Nat.reduceAdd, Nat.reduceMul, Nat.reduceSub]))
      refine ldrm (by omega) ?_
      ((try dsimp only [meetL, go_sem, Nat.reduceAdd, Nat.reduceMul, Nat.reduceSub]); repeat (simp only [Nat.beq_refl]; try dsimp only [go_sem, Nat.reduceAdd, Nat.reduceMul, Nat.reduceSub]))
      refine ixrm h rfl (by simp; omega) ?_
      ((try dsimp only [go_sem, Nat.reduceAdd, Nat.reduceMul, Nat.reduceSub]); repeat (simp only [Nat.beq_refl]; try dsimp only [go_sem, Nat.reduceAdd, Nat.reduceMul, Nat.reduceSub]))
      refine ldrm (by omega) ?_
      ((try dsimp only [meetL, go_sem, Nat.reduceAdd, Nat.reduceMul, Nat.reduceSub]); repeat (simp only [Nat.beq_refl]; try dsimp only [go_sem, Nat.reduceAdd, Nat.reduceMul, Nat.reduceSub]))
      refine call (less_ok l[m] l[h]) ?_
      ((try dsimp only [go_sem, Nat.reduceAdd, Nat.reduceMul, Nat.reduceSub]); repeat (simp only [Nat.beq_refl]; try dsimp only [go_sem, Nat.reduceAdd, Nat.reduceMul, Nat.reduceSub]))
      by_cases hk : l[m].day < l[h].day
      · refine br_f (by simp [cmpZ, hk]) ?_
        dsimp only [go_sem, Nat.reduceAdd, Nat.reduceMul, Nat.reduceSub]
        have hkk : ky Meet.day l m < ky Meet.day l h := by rw [ky_eq Meet.day (l := l) (i := h) (by omega), ky_eq Meet.day (l := l) (i := m) (by omega)]; exact hk
        refine ⟨(i, h), ⟨hi, by simp only; omega, by simp only; omega, hlo, fun c g1 g2 => ?_⟩, by simp only; omega, ?_⟩
        · have := hs1.le Meet.day (show a ≤ h by omega) g1 g2; omega
        (refine ent_id ?_ ?_ ?_ rfl rfl <;> dsimp only [meetL, id, go_sem, Nat.reduceAdd, Nat.reduceMul, Nat.reduceSub] <;> simp [meetL, KFR_iff, KFR_app, KFR, KFL, KF, mtL_same, mtO, Nat.beq_refl])
      · refine br_t (by simp [cmpZ, hk]; split <;> decide) ?_
        dsimp only [go_sem, Nat.reduceAdd, Nat.reduceMul, Nat.reduceSub]
        rw [w64_in (n := (h : Int) + 1) (by omega) (by omega)]
        have hkk : ky Meet.day l h ≤ ky Meet.day l m := by rw [ky_eq Meet.day (l := l) (i := h) (by omega), ky_eq Meet.day (l := l) (i := m) (by omega)]; exact Int.not_lt.1 hk
        refine ⟨(h + 1, j), ⟨by simp only; omega, by simp only; omega, hj, fun c g1 g2 => ?_, hhi⟩, by simp only; omega, ?_⟩
        · have := hs1.le Meet.day g1 (show c ≤ h by simp only at g2; omega) (by omega); omega
        (refine ent_id ?_ ?_ ?_ rfl rfl <;> dsimp only [meetL, id, go_sem, Nat.reduceAdd, Nat.reduceMul, Nat.reduceSub] <;> simp [meetL, KFR_iff, KFR_app, KFR, KFL, KF, mtL_same, mtO, Nat.beq_refl])
    refine br_f (by simp; omega) ?_
    dsimp only [go_sem, Nat.reduceAdd, Nat.reduceMul, Nat.reduceSub]
    have hij' : i = j := by omega
    subst hij'
    refine loopO (fun s : Nat × List Meet => [(17, I (s.1 : Nat))]) (fun s => [(0, .row v 4 (s.2.map meetL) 73)]) (fun s => (i ≤ s.1 ∧ s.1 ≤ m) ∧ PIn a b l s.2 ∧ ∀ p, ky Meet.day s.2 p = if s.1 < p ∧ p ≤ m then ky Meet.day l (p - 1) else if p = s.1 then ky Meet.day l m else ky Meet.day l p) (fun s => s.1) (m, l) ⟨by simp only; omega, .refl _ _ _, fun p => by
      simp only
      rw [if_neg (by omega)]
      split
      · rename_i h; rw [h]
      · rfl⟩ ?_ ?_
    · (refine ent_id ?_ ?_ ?_ rfl rfl <;> dsimp only [meetL, id, go_sem, Nat.reduceAdd, Nat.reduceMul, Nat.reduceSub] <;> simp [meetL, KFR_iff, KFR_app, KFR, KFL, KF, mtL_same, mtO, Nat.beq_refl])
    rintro ⟨k, l1⟩ ⟨⟨hk0, hk⟩, hp, hky⟩
    simp only at hk0 hk hp hky
    have hl1 := hp.len
    dsimp only [go_sem, Nat.reduceAdd, Nat.reduceMul, Nat.reduceSub]
    by_cases hlt : i < k
    · refine br_t (by simp; omega) ?_
      ((try dsimp only [go_sem, Nat.reduceAdd, Nat.reduceMul, Nat.reduceSub]); repeat (simp only [Nat.beq_refl]; try dsimp only [go_sem, Nat.reduceAdd, Nat.reduceMul, Nat.reduceSub]))
      rw [w64_in (n := (k : Int) - 1) (by omega) (by omega)]
      refine ixrm (k - 1) (by omega) (by simp; omega) ?_
      ((try dsimp only [go_sem, Nat.reduceAdd, Nat.reduceMul, Nat.reduceSub]); repeat (simp only [Nat.beq_refl]; try dsimp only [go_sem, Nat.reduceAdd, Nat.reduceMul, Nat.reduceSub]))
      refine ldrm (by omega) ?_
      ((try dsimp only [meetL, go_sem, Nat.reduceAdd, Nat.reduceMul, Nat.reduceSub]); repeat (simp only [Nat.beq_refl]; try dsimp only [go_sem, Nat.reduceAdd, Nat.reduceMul, Nat.reduceSub]))
      refine ixrm k rfl (by simp; omega) ?_
      ((try dsimp only [go_sem, Nat.reduceAdd, Nat.reduceMul, Nat.reduceSub]); repeat (simp only [Nat.beq_refl]; try dsimp only [go_sem, Nat.reduceAdd, Nat.reduceMul, Nat.reduceSub]))
      refine ldrm (by omega) ?_
      ((try dsimp only [meetL, go_sem, Nat.reduceAdd, Nat.reduceMul, Nat.reduceSub]); repeat (simp only [Nat.beq_refl]; try dsimp only [go_sem, Nat.reduceAdd, Nat.reduceMul, Nat.reduceSub]))
      refine ixrm k rfl (by simp; omega) ?_
      ((try dsimp only [go_sem, Nat.reduceAdd, Nat.reduceMul, Nat.reduceSub]); repeat (simp only [Nat.beq_refl]; try dsimp only [go_sem, Nat.reduceAdd, Nat.reduceMul, Nat.reduceSub]))
      refine strm l1[k - 1] (by omega) (by simp [meetL]) (by simp [meetL, splice]) ?_
      ((try dsimp only [go_sem, Nat.reduceAdd, Nat.reduceMul, Nat.reduceSub]); repeat (simp only [Nat.beq_refl]; try dsimp only [go_sem, Nat.reduceAdd, Nat.reduceMul, Nat.reduceSub]))
      refine ixrm (k - 1) (by first | omega | (rw [w64_in (by omega) (by omega)]; omega)) (by simp; omega) ?_
      ((try dsimp only [go_sem, Nat.reduceAdd, Nat.reduceMul, Nat.reduceSub]); repeat (simp only [Nat.beq_refl]; try dsimp only [go_sem, Nat.reduceAdd, Nat.reduceMul, Nat.reduceSub]))
      refine strm l1[k] (by simp; omega) (by simp [meetL]) (by simp [meetL, splice]) ?_
      rw [← swp_eq (l := l1) (i := k) (j := k - 1) (by omega) (by omega)]
      ((try dsimp only [go_sem, Nat.reduceAdd, Nat.reduceMul, Nat.reduceSub]); repeat (simp only [Nat.beq_refl]; try dsimp only [go_sem, Nat.reduceAdd, Nat.reduceMul, Nat.reduceSub]))
      try rw [w64_in (n := (k : Int) - 1) (by omega) (by omega)]
      rw [show (k : Int) - 1 = ((k - 1 : Nat) : Int) from by omega]
      refine ⟨(k - 1, swp l1 k (k - 1)), ⟨by simp only; omega, hp.trans (.swap (by omega) (by omega) (by omega) (by omega) (by omega)), fun p => ?_⟩, by simp only; omega, ?_⟩
      · simp only
        rw [swp_ky Meet.day (by omega) (by omega), hky, hky, hky]
        by_cases h1 : p = k
        · subst h1
          rw [if_pos rfl, if_neg (by omega), if_neg (by omega), if_pos (by omega)]
        · rw [if_neg h1]
          by_cases h2 : p = k - 1
          · subst h2
            rw [if_pos rfl, if_neg (by omega), if_pos rfl, if_neg (by omega), if_pos rfl]
          · rw [if_neg h2, if_neg h2]
            by_cases h3 : k < p ∧ p ≤ m
            · rw [if_pos h3, if_pos (by omega)]
            · rw [if_neg h3, if_neg h1, if_neg (by omega)]
      (refine ent_id ?_ ?_ ?_ rfl rfl <;> dsimp only [meetL, id, go_sem, Nat.reduceAdd, Nat.reduceMul, Nat.reduceSub] <;> simp [meetL, KFR_iff, KFR_app, KFR, KFL, KF, mtL_same, mtO, Nat.beq_refl])
    refine br_f (by simp; omega) ?_
    dsimp only [go_sem, Nat.reduceAdd, Nat.reduceMul, Nat.reduceSub]
    have hki : k = i := by omega
    refine ⟨_, ⟨l1, hp, fun p q g1 g2 g3 => ?_, rfl⟩, ?_⟩
    · rw [hky, hky]
      by_cases h1 : p < k
      · rw [if_neg (by omega), if_neg (c := p = k) (by omega)]
        by_cases h2 : q < k
        · rw [if_neg (by omega), if_neg (c := q = k) (by omega)]; exact hs1 _ _ (by omega) (by omega) (by omega)
        · by_cases h3 : q = k
          · rw [if_neg (by omega), if_pos h3]; exact hlo _ (by omega) (by omega)
          · rw [if_pos (by omega)]; exact hs1.le Meet.day (by omega) (by omega) (by omega)
      · rw [if_pos (c := k < q ∧ q ≤ m) (by omega)]
        by_cases h3 : p = k
        · rw [if_neg (by omega), if_pos h3]; exact Int.le_of_lt (hhi _ (by omega) (by omega))
        · rw [if_pos (by omega)]; exact hs1 _ _ (by omega) (by omega) (by omega)
    · simp only [rowO]
      (refine entO_id ?_ ?_ ?_ rfl <;> dsimp only [meetL, id, go_sem, Nat.reduceAdd, Nat.reduceMul, Nat.reduceSub] <;> simp [meetL, KFR_iff, KFR_app, KFR, KFL, KF, mtL_same, mtO, Nat.beq_refl])
  refine br_f (by simp; omega) ?_
  dsimp only [go_sem, Nat.reduceAdd, Nat.reduceMul, Nat.reduceSub]
  simp (disch := omega) only [w64_in]
  rw [uwn (by omega) (by omega)]
  refine raw_bin rfl (.inr rfl) (half_run _ (by omega)) rfl ?_
  dsimp only [go_sem, Nat.reduceAdd, Nat.reduceMul, Nat.reduceSub]
  obtain ⟨mid, hmid⟩ : ∃ h : Nat, ((a : Int) + (b : Int)) / 2 = (h : Int) := ⟨(a + b) / 2, by omega⟩
  rw [hmid, w64_in (n := (mid : Int)) (by omega) (by omega)]
  have hm1' : 2 * mid ≤ a + b ∧ a + b ≤ 2 * mid + 1 := by omega
  rw [w64_in (n := (mid : Int) + (m : Int)) (by omega) (by omega)]
  have tail0 : ∀ s0 r0 : Nat, s0 = (if m > mid then mid + m - b else a) → r0 = (if m > mid then mid else m) → a ≤ s0 ∧ s0 ≤ r0 ∧ r0 ≤ m ∧ (∀ c, s0 ≤ c → c < r0 → m ≤ mid + m - 1 - c ∧ mid + m - 1 - c < b) := fun s0 r0 h1 h2 => by
    by_cases hgt : m > mid
    · rw [if_pos hgt] at h1 h2; subst h1; subst h2; refine ⟨by omega, by omega, by omega, fun c _ _ => by omega⟩
    · rw [if_neg hgt] at h1 h2; subst h1; subst h2; refine ⟨by omega, by omega, by omega, fun c _ _ => by omega⟩
  obtain ⟨s0, hs0⟩ : ∃ s0 : Nat, s0 = (if m > mid then mid + m - b else a) := ⟨_, rfl⟩
  obtain ⟨r0, hr0⟩ : ∃ r0 : Nat, r0 = (if m > mid then mid else m) := ⟨_, rfl⟩
  obtain ⟨t1, t2, t3, t4⟩ := tail0 s0 r0 hs0 hr0
  by_cases hgt : m > mid
  · refine br_t (by simp; omega) ?_
    dsimp only [go_sem, Nat.reduceAdd, Nat.reduceMul, Nat.reduceSub]
    rw [w64_in (n := (mid : Int) + (m : Int) - (b : Int)) (by omega) (by omega), w64_in (n := (mid : Int) + (m : Int) - 1) (by omega) (by omega)]
    have e1 : (mid : Int) + (m : Int) - (b : Int) = (s0 : Int) := by rw [if_pos hgt] at hs0; omega
    have e2 : mid = r0 := by rw [if_pos hgt] at hr0; omega
    rw [e1]
    have hM : ((mid : Int)) = (r0 : Int) := by omega
    refine loopO (fun s : Nat × Nat => [(20, I (s.1 : Nat)), (21, I (s.2 : Nat))]) (fun _ => []) (fun s => s0 ≤ s.1 ∧ s.1 ≤ s.2 ∧ s.2 ≤ r0 ∧ Srch (mid + m - 1) s0 r0 s.1 s.2 (ky Meet.day l)) (fun s => s.2 - s.1) (s0, r0) ⟨Nat.le_refl _, t2, Nat.le_refl _, srch_start _ _ _ _⟩ ?_ ?_
    · rw [hM]; (refine ent_id ?_ ?_ ?_ rfl rfl <;> dsimp only [meetL, id, go_sem, Nat.reduceAdd, Nat.reduceMul, Nat.reduceSub] <;> simp [meetL, KFR_iff, KFR_app, KFR, KFL, KF, mtL_same, mtO, Nat.beq_refl])
    rintro ⟨i, j⟩ ⟨hi, hij, hj, hsr⟩
    simp only at hi hij hj hsr
    dsimp only [go_sem, Nat.reduceAdd, Nat.reduceMul, Nat.reduceSub]
    by_cases hlt : i < j
    · refine br_t (by simpa using hlt) ?_
      dsimp only [go_sem, Nat.reduceAdd, Nat.reduceMul, Nat.reduceSub]
      simp (disch := omega) only [w64_in]
      rw [uwn (by omega) (by omega)]
      refine raw_bin rfl (.inr rfl) (half_run _ (by omega)) rfl ?_
      dsimp only [go_sem, Nat.reduceAdd, Nat.reduceMul, Nat.reduceSub]
      obtain ⟨h, hh⟩ : ∃ h : Nat, ((i : Int) + (j : Int)) / 2 = (h : Int) := ⟨(i + j) / 2, by omega⟩
      rw [hh, w64_in (n := (h : Int)) (by omega) (by omega)]
      have hih : i ≤ h ∧ h < j := by omega
      have hph := t4 h (by omega) (by omega)
      rw [w64_in (n := (mid : Int) + (m : Int) - 1 - (h : Int)) (by omega) (by omega)]
      ((try dsimp only [go_sem, Nat.reduceAdd, Nat.reduceMul, Nat.reduceSub]); repeat (simp only [Nat.beq_refl]; try dsimp only [go_sem, Nat.reduceAdd, Nat.reduceMul, Nat.reduceSub]))
      refine ixrm (mid + m - 1 - h) (by omega) (by simp; omega) ?_
      ((try dsimp only [go_sem, Nat.reduceAdd, Nat.reduceMul, Nat.reduceSub]); repeat (simp only [Nat.beq_refl]; try dsimp only [go_sem, Nat.reduceAdd, Nat.reduceMul, Nat.reduceSub]))
      refine ldrm (by omega) ?_
      ((try dsimp only [meetL, go_sem, Nat.reduceAdd, Nat.reduceMul, Nat.reduceSub]); repeat (simp only [Nat.beq_refl]; try dsimp only [go_sem, Nat.reduceAdd, Nat.reduceMul, Nat.reduceSub]))
      refine ixrm h rfl (by simp; omega) ?_
      ((try dsimp only [go_sem, Nat.reduceAdd, Nat.reduceMul, Nat.reduceSub]); repeat (simp only [Nat.beq_refl]; try dsimp only [go_sem, Nat.reduceAdd, Nat.reduceMul, Nat.reduceSub]))
      refine ldrm (by omega) ?_
      ((try dsimp only [meetL, go_sem, Nat.reduceAdd, Nat.reduceMul, Nat.reduceSub]); repeat (simp only [Nat.beq_refl]; try dsimp only [go_sem, Nat.reduceAdd, Nat.reduceMul, Nat.reduceSub]))
      refine call (less_ok l[mid + m - 1 - h] l[h]) ?_
      ((try dsimp only [go_sem, Nat.reduceAdd, Nat.reduceMul, Nat.reduceSub]); repeat (simp only [Nat.beq_refl]; try dsimp only [go_sem, Nat.reduceAdd, Nat.reduceMul, Nat.reduceSub]))
      by_cases hk : l[mid + m - 1 - h].day < l[h].day
      · refine br_f (by simp [cmpZ, hk]) ?_
        dsimp only [go_sem, Nat.reduceAdd, Nat.reduceMul, Nat.reduceSub]
        have hkk : ky Meet.day l (mid + m - 1 - h) < ky Meet.day l h := by rw [ky_eq Meet.day (l := l) (i := h) (by omega), ky_eq Meet.day (l := l) (i := mid + m - 1 - h) (by omega)]; exact hk
        refine ⟨(i, h), ⟨hi, by simp only; omega, by simp only; omega, srch_down hsr hs1 hs2 t1 t3 t4 hih.1 hih.2 hj hkk hi⟩, by simp only; omega, ?_⟩
        (refine ent_id ?_ ?_ ?_ rfl rfl <;> dsimp only [meetL, id, go_sem, Nat.reduceAdd, Nat.reduceMul, Nat.reduceSub] <;> simp [meetL, KFR_iff, KFR_app, KFR, KFL, KF, mtL_same, mtO, Nat.beq_refl])
      · refine br_t (by simp [cmpZ, hk]; split <;> decide) ?_
        dsimp only [go_sem, Nat.reduceAdd, Nat.reduceMul, Nat.reduceSub]
        rw [w64_in (n := (h : Int) + 1) (by omega) (by omega)]
        have hkk : ky Meet.day l h ≤ ky Meet.day l (mid + m - 1 - h) := by rw [ky_eq Meet.day (l := l) (i := h) (by omega), ky_eq Meet.day (l := l) (i := mid + m - 1 - h) (by omega)]; exact Int.not_lt.1 hk
        refine ⟨(h + 1, j), ⟨by simp only; omega, by simp only; omega, hj, srch_up hsr hs1 hs2 t1 t3 t4 hih.1 hih.2 hj hkk hi⟩, by simp only; omega, ?_⟩
        (refine ent_id ?_ ?_ ?_ rfl rfl <;> dsimp only [meetL, id, go_sem, Nat.reduceAdd, Nat.reduceMul, Nat.reduceSub] <;> simp [meetL, KFR_iff, KFR_app, KFR, KFL, KF, mtL_same, mtO, Nat.beq_refl])
    refine br_f (by simp; omega) ?_
    dsimp only [go_sem, Nat.reduceAdd, Nat.reduceMul, Nat.reduceSub]
    have cut := cut_of (s := i) ham hmb hm1'.1 hm1'.2 s0 r0 hs0 hr0 hi (by omega) (by rwa [show j = i from by omega] at hsr)
    rw [w64_in (n := (mid : Int) + (m : Int) - (i : Int)) (by omega) (by omega), show (mid : Int) + (m : Int) - (i : Int) = ((mid + m - i : Nat) : Int) from by omega]
    by_cases hr : i < m ∧ m < mid + m - i
    · rw [show decide ((i : Int) < (m : Int)) = true from by simp; omega]
      repeat (refine .inl ⟨rfl, ?_⟩; ((try dsimp only [go_sem, Nat.reduceAdd, Nat.reduceMul, Nat.reduceSub]); repeat (simp only [Nat.beq_refl]; try dsimp only [go_sem, Nat.reduceAdd, Nat.reduceMul, Nat.reduceSub])))
      refine br_t (by simp; omega) ?_
      dsimp only [go_sem, Nat.reduceAdd, Nat.reduceMul, Nat.reduceSub]
      refine callmP [0] (rot_ok v i m (mid + m - i) l hr.1 hr.2 (by omega) hL) rfl rfl rfl ?_ ?_ ?_
      · ((try dsimp only [go_sem, Nat.reduceAdd, Nat.reduceMul, Nat.reduceSub]); repeat (simp only [Nat.beq_refl]; try dsimp only [go_sem, Nat.reduceAdd, Nat.reduceMul, Nat.reduceSub]))
        simp [mtL, mtB, mtS]
      · ((try dsimp only [go_sem, Nat.reduceAdd, Nat.reduceMul, Nat.reduceSub]); repeat (simp only [Nat.beq_refl]; try dsimp only [go_sem, Nat.reduceAdd, Nat.reduceMul, Nat.reduceSub]))
        simp [KFR_iff, meetL, KFL, KF]
      rintro _ ⟨l1, hp1, hk1, rfl⟩
      ((try dsimp only [rowO, go_sem, Nat.reduceAdd, Nat.reduceMul, Nat.reduceSub]); repeat (simp only [Nat.beq_refl]; try dsimp only [go_sem, Nat.reduceAdd, Nat.reduceMul, Nat.reduceSub]))
      have cd := cutd_rot Meet.day cut hs1 hs2 hk1
      have pp : PIn a b l l1 := hp1.mono (by omega) (by have := cut.e1; omega)
      have hl1 := pp.len
      by_cases hf : a < i ∧ i < mid
      · rw [show decide ((a : Int) < (i : Int)) = true from by simp; omega]
        repeat (refine .inl ⟨rfl, ?_⟩; ((try dsimp only [go_sem, Nat.reduceAdd, Nat.reduceMul, Nat.reduceSub]); repeat (simp only [Nat.beq_refl]; try dsimp only [go_sem, Nat.reduceAdd, Nat.reduceMul, Nat.reduceSub])))
        refine br_t (by simp; omega) ?_
        dsimp only [go_sem, Nat.reduceAdd, Nat.reduceMul, Nat.reduceSub]
        refine callmP [0] (ih a i mid l1 (by omega) hf.1 hf.2 (by omega) (by omega) cd.s1 cd.s2) rfl rfl rfl ?_ ?_ ?_
        · ((try dsimp only [go_sem, Nat.reduceAdd, Nat.reduceMul, Nat.reduceSub]); repeat (simp only [Nat.beq_refl]; try dsimp only [go_sem, Nat.reduceAdd, Nat.reduceMul, Nat.reduceSub]))
          simp [mtL, mtB, mtS]
        · ((try dsimp only [go_sem, Nat.reduceAdd, Nat.reduceMul, Nat.reduceSub]); repeat (simp only [Nat.beq_refl]; try dsimp only [go_sem, Nat.reduceAdd, Nat.reduceMul, Nat.reduceSub]))
          simp [KFR_iff, meetL, KFL, KF]
        rintro _ ⟨l2, hp2, hs3, rfl⟩
        ((try dsimp only [rowO, go_sem, Nat.reduceAdd, Nat.reduceMul, Nat.reduceSub]); repeat (simp only [Nat.beq_refl]; try dsimp only [go_sem, Nat.reduceAdd, Nat.reduceMul, Nat.reduceSub]))
        have ce := cutl_rec Meet.day cd hp2 hs3 (by omega)
        have pq : PIn a b l l2 := pp.trans (hp2.mono (by omega) (by omega))
        have hl2 := pq.len
        by_cases hg : mid < mid + m - i ∧ mid + m - i < b
        · rw [show decide ((mid : Int) < ((mid + m - i : Nat) : Int)) = true from by simp; omega]
          repeat (refine .inl ⟨rfl, ?_⟩; ((try dsimp only [go_sem, Nat.reduceAdd, Nat.reduceMul, Nat.reduceSub]); repeat (simp only [Nat.beq_refl]; try dsimp only [go_sem, Nat.reduceAdd, Nat.reduceMul, Nat.reduceSub])))
          refine br_t (by simp; omega) ?_
          dsimp only [go_sem, Nat.reduceAdd, Nat.reduceMul, Nat.reduceSub]
          refine callmP [0] (ih mid (mid + m - i) b l2 (by omega) hg.1 hg.2 (by omega) (by omega) ce.s3 ce.s4) rfl rfl rfl ?_ ?_ ?_
          · ((try dsimp only [go_sem, Nat.reduceAdd, Nat.reduceMul, Nat.reduceSub]); repeat (simp only [Nat.beq_refl]; try dsimp only [go_sem, Nat.reduceAdd, Nat.reduceMul, Nat.reduceSub]))
            simp [mtL, mtB, mtS]
          · ((try dsimp only [go_sem, Nat.reduceAdd, Nat.reduceMul, Nat.reduceSub]); repeat (simp only [Nat.beq_refl]; try dsimp only [go_sem, Nat.reduceAdd, Nat.reduceMul, Nat.reduceSub]))
            simp [KFR_iff, meetL, KFL, KF]
          rintro _ ⟨l3, hp3, hs4, rfl⟩
          ((try dsimp only [rowO, go_sem, Nat.reduceAdd, Nat.reduceMul, Nat.reduceSub]); repeat (simp only [Nat.beq_refl]; try dsimp only [go_sem, Nat.reduceAdd, Nat.reduceMul, Nat.reduceSub]))
          refine ⟨_, ⟨l3, pq.trans (hp3.mono (by omega) (by omega)), cut_rec Meet.day ce hp3 hs4 (by omega), rfl⟩, ?_⟩
          try simp only [rowO]
          (refine entO_id ?_ ?_ ?_ rfl <;> dsimp only [meetL, id, go_sem, Nat.reduceAdd, Nat.reduceMul, Nat.reduceSub] <;> simp [meetL, KFR_iff, KFR_app, KFR, KFL, KF, mtL_same, mtO, Nat.beq_refl])
        · skip
          repeat (refine gb ?_; ((try dsimp only [go_sem, Nat.reduceAdd, Nat.reduceMul, Nat.reduceSub]); repeat (simp only [Nat.beq_refl]; try dsimp only [go_sem, Nat.reduceAdd, Nat.reduceMul, Nat.reduceSub])))
          refine br_f (by simp; omega) ?_
          dsimp only [go_sem, Nat.reduceAdd, Nat.reduceMul, Nat.reduceSub]
          refine ⟨_, ⟨l2, pq, cut_no Meet.day ce hg, rfl⟩, ?_⟩
          try simp only [rowO]
          (refine entO_id ?_ ?_ ?_ rfl <;> dsimp only [meetL, id, go_sem, Nat.reduceAdd, Nat.reduceMul, Nat.reduceSub] <;> simp [meetL, KFR_iff, KFR_app, KFR, KFL, KF, mtL_same, mtO, Nat.beq_refl])
      · skip
        repeat (refine gb ?_; ((try dsimp only [go_sem, Nat.reduceAdd, Nat.reduceMul, Nat.reduceSub]); repeat (simp only [Nat.beq_refl]; try dsimp only [go_sem, Nat.reduceAdd, Nat.reduceMul, Nat.reduceSub])))
        refine br_f (by simp; omega) ?_
        dsimp only [go_sem, Nat.reduceAdd, Nat.reduceMul, Nat.reduceSub]
        have ce := cutl_no Meet.day cd hf
        have pq := pp
        have hl2 := pq.len
        by_cases hg : mid < mid + m - i ∧ mid + m - i < b
        · rw [show decide ((mid : Int) < ((mid + m - i : Nat) : Int)) = true from by simp; omega]
          repeat (refine .inl ⟨rfl, ?_⟩; ((try dsimp only [go_sem, Nat.reduceAdd, Nat.reduceMul, Nat.reduceSub]); repeat (simp only [Nat.beq_refl]; try dsimp only [go_sem, Nat.reduceAdd, Nat.reduceMul, Nat.reduceSub])))
          refine br_t (by simp; omega) ?_
          dsimp only [go_sem, Nat.reduceAdd, Nat.reduceMul, Nat.reduceSub]
          refine callmP [0] (ih mid (mid + m - i) b l1 (by omega) hg.1 hg.2 (by omega) (by omega) ce.s3 ce.s4) rfl rfl rfl ?_ ?_ ?_
          · ((try dsimp only [go_sem, Nat.reduceAdd, Nat.reduceMul, Nat.reduceSub]); repeat (simp only [Nat.beq_refl]; try dsimp only [go_sem, Nat.reduceAdd, Nat.reduceMul, Nat.reduceSub]))
            simp [mtL, mtB, mtS]
          · ((try dsimp only [go_sem, Nat.reduceAdd, Nat.reduceMul, Nat.reduceSub]); repeat (simp only [Nat.beq_refl]; try dsimp only [go_sem, Nat.reduceAdd, Nat.reduceMul, Nat.reduceSub]))
            simp [KFR_iff, meetL, KFL, KF]
          rintro _ ⟨l3, hp3, hs4, rfl⟩
          ((try dsimp only [rowO, go_sem, Nat.reduceAdd, Nat.reduceMul, Nat.reduceSub]); repeat (simp only [Nat.beq_refl]; try dsimp only [go_sem, Nat.reduceAdd, Nat.reduceMul, Nat.reduceSub]))
          refine ⟨_, ⟨l3, pq.trans (hp3.mono (by omega) (by omega)), cut_rec Meet.day ce hp3 hs4 (by omega), rfl⟩, ?_⟩
          try simp only [rowO]
          (refine entO_id ?_ ?_ ?_ rfl <;> dsimp only [meetL, id, go_sem, Nat.reduceAdd, Nat.reduceMul, Nat.reduceSub] <;> simp [meetL, KFR_iff, KFR_app, KFR, KFL, KF, mtL_same, mtO, Nat.beq_refl])
        · skip
          repeat (refine gb ?_; ((try dsimp only [go_sem, Nat.reduceAdd, Nat.reduceMul, Nat.reduceSub]); repeat (simp only [Nat.beq_refl]; try dsimp only [go_sem, Nat.reduceAdd, Nat.reduceMul, Nat.reduceSub])))
          refine br_f (by simp; omega) ?_
          dsimp only [go_sem, Nat.reduceAdd, Nat.reduceMul, Nat.reduceSub]
          refine ⟨_, ⟨l1, pq, cut_no Meet.day ce hg, rfl⟩, ?_⟩
          try simp only [rowO]
          (refine entO_id ?_ ?_ ?_ rfl <;> dsimp only [meetL, id, go_sem, Nat.reduceAdd, Nat.reduceMul, Nat.reduceSub] <;> simp [meetL, KFR_iff, KFR_app, KFR, KFL, KF, mtL_same, mtO, Nat.beq_refl])
    · skip
      repeat (refine gb ?_; ((try dsimp only [go_sem, Nat.reduceAdd, Nat.reduceMul, Nat.reduceSub]); repeat (simp only [Nat.beq_refl]; try dsimp only [go_sem, Nat.reduceAdd, Nat.reduceMul, Nat.reduceSub])))
      refine br_f (by simp; omega) ?_
      dsimp only [go_sem, Nat.reduceAdd, Nat.reduceMul, Nat.reduceSub]
      have cd := cutd_no Meet.day cut hs1 hs2 hr
      have pp : PIn a b l l := .refl _ _ _
      have hl1 := pp.len
      by_cases hf : a < i ∧ i < mid
      · rw [show decide ((a : Int) < (i : Int)) = true from by simp; omega]
        repeat (refine .inl ⟨rfl, ?_⟩; ((try dsimp only [go_sem, Nat.reduceAdd, Nat.reduceMul, Nat.reduceSub]); repeat (simp only [Nat.beq_refl]; try dsimp only [go_sem, Nat.reduceAdd, Nat.reduceMul, Nat.reduceSub])))
        refine br_t (by simp; omega) ?_
        dsimp only [go_sem, Nat.reduceAdd, Nat.reduceMul, Nat.reduceSub]
        refine callmP [0] (ih a i mid l (by omega) hf.1 hf.2 (by omega) (by omega) cd.s1 cd.s2) rfl rfl rfl ?_ ?_ ?_
        · ((try dsimp only [go_sem, Nat.reduceAdd, Nat.reduceMul, Nat.reduceSub]); repeat (simp only [Nat.beq_refl]; try dsimp only [go_sem, Nat.reduceAdd, Nat.reduceMul, Nat.reduceSub]))
          simp [mtL, mtB, mtS]
        · ((try dsimp only [go_sem, Nat.reduceAdd, Nat.reduceMul, Nat.reduceSub]); repeat (simp only [Nat.beq_refl]; try dsimp only [go_sem, Nat.reduceAdd, Nat.reduceMul, Nat.reduceSub]))
          simp [KFR_iff, meetL, KFL, KF]
        rintro _ ⟨l2, hp2, hs3, rfl⟩
        ((try dsimp only [rowO, go_sem, Nat.reduceAdd, Nat.reduceMul, Nat.reduceSub]); repeat (simp only [Nat.beq_refl]; try dsimp only [go_sem, Nat.reduceAdd, Nat.reduceMul, Nat.reduceSub]))
        have ce := cutl_rec Meet.day cd hp2 hs3 (by omega)
        have pq : PIn a b l l2 := pp.trans (hp2.mono (by omega) (by omega))
        have hl2 := pq.len
        by_cases hg : mid < mid + m - i ∧ mid + m - i < b
        · rw [show decide ((mid : Int) < ((mid + m - i : Nat) : Int)) = true from by simp; omega]
          repeat (refine .inl ⟨rfl, ?_⟩; ((try dsimp only [go_sem, Nat.reduceAdd, Nat.reduceMul, Nat.reduceSub]); repeat (simp only [Nat.beq_refl]; try dsimp only [go_sem, Nat.reduceAdd, Nat.reduceMul, Nat.reduceSub])))
          refine br_t (by simp; omega) ?_
          dsimp only [go_sem, Nat.reduceAdd, Nat.reduceMul, Nat.reduceSub]
          refine callmP [0] (ih mid (mid + m - i) b l2 (by omega) hg.1 hg.2 (by omega) (by omega) ce.s3 ce.s4) rfl rfl rfl ?_ ?_ ?_
          · ((try dsimp only [go_sem, Nat.reduceAdd, Nat.reduceMul, Nat.reduceSub]); repeat (simp only [Nat.beq_refl]; try dsimp only [go_sem, Nat.reduceAdd, Nat.reduceMul, Nat.reduceSub]))
            simp [mtL, mtB, mtS]
          · ((try dsimp only [go_sem, Nat.reduceAdd, Nat.reduceMul, Nat.reduceSub]); repeat (simp only [Nat.beq_refl]; try dsimp only [go_sem, Nat.reduceAdd, Nat.reduceMul, Nat.reduceSub]))
            simp [KFR_iff, meetL, KFL, KF]
          rintro _ ⟨l3, hp3, hs4, rfl⟩
          ((try dsimp only [rowO, go_sem, Nat.reduceAdd, Nat.reduceMul, Nat.reduceSub]); repeat (simp only [Nat.beq_refl]; try dsimp only [go_sem, Nat.reduceAdd, Nat.reduceMul, Nat.reduceSub]))
          refine ⟨_, ⟨l3, pq.trans (hp3.mono (by omega) (by omega)), cut_rec Meet.day ce hp3 hs4 (by omega), rfl⟩, ?_⟩
          try simp only [rowO]
          (refine entO_id ?_ ?_ ?_ rfl <;> dsimp only [meetL, id, go_sem, Nat.reduceAdd, Nat.reduceMul, Nat.reduceSub] <;> simp [meetL, KFR_iff, KFR_app, KFR, KFL, KF, mtL_same, mtO, Nat.beq_refl])
        · skip
          repeat (refine gb ?_; ((try dsimp only [go_sem, Nat.reduceAdd, Nat.reduceMul, Nat.reduceSub]); repeat (simp only [Nat.beq_refl]; try dsimp only [go_sem, Nat.reduceAdd, Nat.reduceMul, Nat.reduceSub])))
          refine br_f (by simp; omega) ?_
          dsimp only [go_sem, Nat.reduceAdd, Nat.reduceMul, Nat.reduceSub]
          refine ⟨_, ⟨l2, pq, cut_no Meet.day ce hg, rfl⟩, ?_⟩
          try simp only [rowO]
          (refine entO_id ?_ ?_ ?_ rfl <;> dsimp only [meetL, id, go_sem, Nat.reduceAdd, Nat.reduceMul, Nat.reduceSub] <;> simp [meetL, KFR_iff, KFR_app, KFR, KFL, KF, mtL_same, mtO, Nat.beq_refl])
      · skip
        repeat (refine gb ?_; ((try dsimp only [go_sem, Nat.reduceAdd, Nat.reduceMul, Nat.reduceSub]); repeat (simp only [Nat.beq_refl]; try dsimp only [go_sem, Nat.reduceAdd, Nat.reduceMul, Nat.reduceSub])))
        refine br_f (by simp; omega) ?_
        dsimp only [go_sem, Nat.reduceAdd, Nat.reduceMul, Nat.reduceSub]
        have ce := cutl_no Meet.day cd hf
        have pq := pp
        have hl2 := pq.len
        by_cases hg : mid < mid + m - i ∧ mid + m - i < b
        · rw [show decide ((mid : Int) < ((mid + m - i : Nat) : Int)) = true from by simp; omega]
          repeat (refine .inl ⟨rfl, ?_⟩; ((try dsimp only [go_sem, Nat.reduceAdd, Nat.reduceMul, Nat.reduceSub]); repeat (simp only [Nat.beq_refl]; try dsimp only [go_sem, Nat.reduceAdd, Nat.reduceMul, Nat.reduceSub])))
          refine br_t (by simp; omega) ?_
          dsimp only [go_sem, Nat.reduceAdd, Nat.reduceMul, Nat.reduceSub]
          refine callmP [0] (ih mid (mid + m - i) b l (by omega) hg.1 hg.2 (by omega) (by omega) ce.s3 ce.s4) rfl rfl rfl ?_ ?_ ?_
          · ((try dsimp only [go_sem, Nat.reduceAdd, Nat.reduceMul, Nat.reduceSub]); repeat (simp only [Nat.beq_refl]; try dsimp only [go_sem, Nat.reduceAdd, Nat.reduceMul, Nat.reduceSub]))
            simp [mtL, mtB, mtS]
          · ((try dsimp only [go_sem, Nat.reduceAdd, Nat.reduceMul, Nat.reduceSub]); repeat (simp only [Nat.beq_refl]; try dsimp only [go_sem, Nat.reduceAdd, Nat.reduceMul, Nat.reduceSub]))
            simp [KFR_iff, meetL, KFL, KF]
          rintro _ ⟨l3, hp3, hs4, rfl⟩
          ((try dsimp only [rowO, go_sem, Nat.reduceAdd, Nat.reduceMul, Nat.reduceSub]); repeat (simp only [Nat.beq_refl]; try dsimp only [go_sem, Nat.reduceAdd, Nat.reduceMul, Nat.reduceSub]))
          refine ⟨_, ⟨l3, pq.trans (hp3.mono (by omega) (by omega)), cut_rec Meet.day ce hp3 hs4 (by omega), rfl⟩, ?_⟩
          try simp only [rowO]
          (refine entO_id ?_ ?_ ?_ rfl <;> dsimp only [meetL, id, go_sem, Nat.reduceAdd, Nat.reduceMul, Nat.reduceSub] <;> simp [meetL, KFR_iff, KFR_app, KFR, KFL, KF, mtL_same, mtO, Nat.beq_refl])
        · skip
          repeat (refine gb ?_; ((try dsimp only [go_sem, Nat.reduceAdd, Nat.reduceMul, Nat.reduceSub]); repeat (simp only [Nat.beq_refl]; try dsimp only [go_sem, Nat.reduceAdd, Nat.reduceMul, Nat.reduceSub])))
          refine br_f (by simp; omega) ?_
          dsimp only [go_sem, Nat.reduceAdd, Nat.reduceMul, Nat.reduceSub]
          refine ⟨_, ⟨l, pq, cut_no Meet.day ce hg, rfl⟩, ?_⟩
          try simp only [rowO]
          (refine entO_id ?_ ?_ ?_ rfl <;> dsimp only [meetL, id, go_sem, Nat.reduceAdd, Nat.reduceMul, Nat.reduceSub] <;> simp [meetL, KFR_iff, KFR_app, KFR, KFL, KF, mtL_same, mtO, Nat.beq_refl])
  · refine br_f (by simp; omega) ?_
    dsimp only [go_sem, Nat.reduceAdd, Nat.reduceMul, Nat.reduceSub]
    rw [w64_in (n := (mid : Int) + (m : Int) - 1) (by omega) (by omega)]
    have hA : (a : Int) = (s0 : Int) := by rw [if_neg hgt] at hs0; omega
    have hM : (m : Int) = (r0 : Int) := by rw [if_neg hgt] at hr0; omega
    refine loopO (fun s : Nat × Nat => [(20, I (s.1 : Nat)), (21, I (s.2 : Nat))]) (fun _ => []) (fun s => s0 ≤ s.1 ∧ s.1 ≤ s.2 ∧ s.2 ≤ r0 ∧ Srch (mid + m - 1) s0 r0 s.1 s.2 (ky Meet.day l)) (fun s => s.2 - s.1) (s0, r0) ⟨Nat.le_refl _, t2, Nat.le_refl _, srch_start _ _ _ _⟩ ?_ ?_
    · have e3 : s0 = a := by omega
      have e4 : r0 = m := by omega
      subst e3; subst e4; (refine ent_id ?_ ?_ ?_ rfl rfl <;> dsimp only [meetL, id, go_sem, Nat.reduceAdd, Nat.reduceMul, Nat.reduceSub] <;> simp [meetL, KFR_iff, KFR_app, KFR, KFL, KF, mtL_same, mtO, Nat.beq_refl])
    rintro ⟨i, j⟩ ⟨hi, hij, hj, hsr⟩
    simp only at hi hij hj hsr
    dsimp only [go_sem, Nat.reduceAdd, Nat.reduceMul, Nat.reduceSub]
    by_cases hlt : i < j
    · refine br_t (by simpa using hlt) ?_
      dsimp only [go_sem, Nat.reduceAdd, Nat.reduceMul, Nat.reduceSub]
      simp (disch := omega) only [w64_in]
      rw [uwn (by omega) (by omega)]
      refine raw_bin rfl (.inr rfl) (half_run _ (by omega)) rfl ?_
      dsimp only [go_sem, Nat.reduceAdd, Nat.reduceMul, Nat.reduceSub]
      obtain ⟨h, hh⟩ : ∃ h : Nat, ((i : Int) + (j : Int)) / 2 = (h : Int) := ⟨(i + j) / 2, by omega⟩
      rw [hh, w64_in (n := (h : Int)) (by omega) (by omega)]
      have hih : i ≤ h ∧ h < j := by omega
      have hph := t4 h (by omega) (by omega)
      rw [w64_in (n := (mid : Int) + (m : Int) - 1 - (h : Int)) (by omega) (by omega)]
      ((try dsimp only [go_sem, Nat.reduceAdd, Nat.reduceMul, Nat.reduceSub]); repeat (simp only [Nat.beq_refl]; try dsimp only [go_sem, Nat.reduceAdd, Nat.reduceMul, Nat.reduceSub]))
      refine ixrm (mid + m - 1 - h) (by omega) (by simp; omega) ?_
      ((try dsimp only [go_sem, Nat.reduceAdd, Nat.reduceMul, Nat.reduceSub]); repeat (simp only [Nat.beq_refl]; try dsimp only [go_sem, Nat.reduceAdd, Nat.reduceMul, Nat.reduceSub]))
      refine ldrm (by omega) ?_
      ((try dsimp only [meetL, go_sem, Nat.reduceAdd, Nat.reduceMul, Nat.reduceSub]); repeat (simp only [Nat.beq_refl]; try dsimp only [go_sem, Nat.reduceAdd, Nat.reduceMul, Nat.reduceSub]))
      refine ixrm h rfl (by simp; omega) ?_
      ((try dsimp only [go_sem, Nat.reduceAdd, Nat.reduceMul, Nat.reduceSub]); repeat (simp only [Nat.beq_refl]; try dsimp only [go_sem, Nat.reduceAdd, Nat.reduceMul, Nat.reduceSub]))
      refine ldrm (by omega) ?_
      ((try dsimp only [meetL, go_sem, Nat.reduceAdd, Nat.reduceMul, Nat.reduceSub]); repeat (simp only [Nat.beq_refl]; try dsimp only [go_sem, Nat.reduceAdd, Nat.reduceMul, Nat.reduceSub]))
      refine call (less_ok l[mid + m - 1 - h] l[h]) ?_
      ((try dsimp only [go_sem, Nat.reduceAdd, Nat.reduceMul, Nat.reduceSub]); repeat (simp only [Nat.beq_refl]; try dsimp only [go_sem, Nat.reduceAdd, Nat.reduceMul, Nat.reduceSub]))
      by_cases hk : l[mid + m - 1 - h].day < l[h].day
      · refine br_f (by simp [cmpZ, hk]) ?_
        dsimp only [go_sem, Nat.reduceAdd, Nat.reduceMul, Nat.reduceSub]
        have hkk : ky Meet.day l (mid + m - 1 - h) < ky Meet.day l h := by rw [ky_eq Meet.day (l := l) (i := h) (by omega), ky_eq Meet.day (l := l) (i := mid + m - 1 - h) (by omega)]; exact hk
        refine ⟨(i, h), ⟨hi, by simp only; omega, by simp only; omega, srch_down hsr hs1 hs2 t1 t3 t4 hih.1 hih.2 hj hkk hi⟩, by simp only; omega, ?_⟩
        (refine ent_id ?_ ?_ ?_ rfl rfl <;> dsimp only [meetL, id, go_sem, Nat.reduceAdd, Nat.reduceMul, Nat.reduceSub] <;> simp [meetL, KFR_iff, KFR_app, KFR, KFL, KF, mtL_same, mtO, Nat.beq_refl])
      · refine br_t (by simp [cmpZ, hk]; split <;> decide) ?_
        dsimp only [go_sem, Nat.reduceAdd, Nat.reduceMul, Nat.reduceSub]
        rw [w64_in (n := (h : Int) + 1) (by omega) (by omega)]
        have hkk : ky Meet.day l h ≤ ky Meet.day l (mid + m - 1 - h) := by rw [ky_eq Meet.day (l := l) (i := h) (by omega), ky_eq Meet.day (l := l) (i := mid + m - 1 - h) (by omega)]; exact Int.not_lt.1 hk
        refine ⟨(h + 1, j), ⟨by simp only; omega, by simp only; omega, hj, srch_up hsr hs1 hs2 t1 t3 t4 hih.1 hih.2 hj hkk hi⟩, by simp only; omega, ?_⟩
        (refine ent_id ?_ ?_ ?_ rfl rfl <;> dsimp only [meetL, id, go_sem, Nat.reduceAdd, Nat.reduceMul, Nat.reduceSub] <;> simp [meetL, KFR_iff, KFR_app, KFR, KFL, KF, mtL_same, mtO, Nat.beq_refl])
    refine br_f (by simp; omega) ?_
    dsimp only [go_sem, Nat.reduceAdd, Nat.reduceMul, Nat.reduceSub]
    have cut := cut_of (s := i) ham hmb hm1'.1 hm1'.2 s0 r0 hs0 hr0 hi (by omega) (by rwa [show j = i from by omega] at hsr)
    rw [w64_in (n := (mid : Int) + (m : Int) - (i : Int)) (by omega) (by omega), show (mid : Int) + (m : Int) - (i : Int) = ((mid + m - i : Nat) : Int) from by omega]
    by_cases hr : i < m ∧ m < mid + m - i
    · rw [show decide ((i : Int) < (m : Int)) = true from by simp; omega]
      repeat (refine .inl ⟨rfl, ?_⟩; ((try dsimp only [go_sem, Nat.reduceAdd, Nat.reduceMul, Nat.reduceSub]); repeat (simp only [Nat.beq_refl]; try dsimp only [go_sem, Nat.reduceAdd, Nat.reduceMul, Nat.reduceSub])))
      refine br_t (by simp; omega) ?_
      dsimp only [go_sem, Nat.reduceAdd, Nat.reduceMul, Nat.reduceSub]
      refine callmP [0] (rot_ok v i m (mid + m - i) l hr.1 hr.2 (by omega) hL) rfl rfl rfl ?_ ?_ ?_
      · ((try dsimp only [go_sem, Nat.reduceAdd, Nat.reduceMul, Nat.reduceSub]); repeat (simp only [Nat.beq_refl]; try dsimp only [go_sem, Nat.reduceAdd, Nat.reduceMul, Nat.reduceSub]))
        simp [mtL, mtB, mtS]
      · ((try dsimp only [go_sem, Nat.reduceAdd, Nat.reduceMul, Nat.reduceSub]); repeat (simp only [Nat.beq_refl]; try dsimp only [go_sem, Nat.reduceAdd, Nat.reduceMul, Nat.reduceSub]))
        simp [KFR_iff, meetL, KFL, KF]
      rintro _ ⟨l1, hp1, hk1, rfl⟩
      ((try dsimp only [rowO, go_sem, Nat.reduceAdd, Nat.reduceMul, Nat.reduceSub]); repeat (simp only [Nat.beq_refl]; try dsimp only [go_sem, Nat.reduceAdd, Nat.reduceMul, Nat.reduceSub]))
      have cd := cutd_rot Meet.day cut hs1 hs2 hk1
      have pp : PIn a b l l1 := hp1.mono (by omega) (by have := cut.e1; omega)
      have hl1 := pp.len
      by_cases hf : a < i ∧ i < mid
      · rw [show decide ((a : Int) < (i : Int)) = true from by simp; omega]
        repeat (refine .inl ⟨rfl, ?_⟩; ((try dsimp only [go_sem, Nat.reduceAdd, Nat.reduceMul, Nat.reduceSub]); repeat (simp only [Nat.beq_refl]; try dsimp only [go_sem, Nat.reduceAdd, Nat.reduceMul, Nat.reduceSub])))
        refine br_t (by simp; omega) ?_
        dsimp only [go_sem, Nat.reduceAdd, Nat.reduceMul, Nat.reduceSub]
        refine callmP [0] (ih a i mid l1 (by omega) hf.1 hf.2 (by omega) (by omega) cd.s1 cd.s2) rfl rfl rfl ?_ ?_ ?_
        · ((try dsimp only [go_sem, Nat.reduceAdd, Nat.reduceMul, Nat.reduceSub]); repeat (simp only [Nat.beq_refl]; try dsimp only [go_sem, Nat.reduceAdd, Nat.reduceMul, Nat.reduceSub]))
          simp [mtL, mtB, mtS]
        · ((try dsimp only [go_sem, Nat.reduceAdd, Nat.reduceMul, Nat.reduceSub]); repeat (simp only [Nat.beq_refl]; try dsimp only [go_sem, Nat.reduceAdd, Nat.reduceMul, Nat.reduceSub]))
          simp [KFR_iff, meetL, KFL, KF]
        rintro _ ⟨l2, hp2, hs3, rfl⟩
        ((try dsimp only [rowO, go_sem, Nat.reduceAdd, Nat.reduceMul, Nat.reduceSub]); repeat (simp only [Nat.beq_refl]; try dsimp only [go_sem, Nat.reduceAdd, Nat.reduceMul, Nat.reduceSub]))
        have ce := cutl_rec Meet.day cd hp2 hs3 (by omega)
        have pq : PIn a b l l2 := pp.trans (hp2.mono (by omega) (by omega))
        have hl2 := pq.len
        by_cases hg : mid < mid + m - i ∧ mid + m - i < b
        · rw [show decide ((mid : Int) < ((mid + m - i : Nat) : Int)) = true from by simp; omega]
          repeat (refine .inl ⟨rfl, ?_⟩; ((try dsimp only [go_sem, Nat.reduceAdd, Nat.reduceMul, Nat.reduceSub]); repeat (simp only [Nat.beq_refl]; try dsimp only [go_sem, Nat.reduceAdd, Nat.reduceMul, Nat.reduceSub])))
          refine br_t (by simp; omega) ?_
          dsimp only [go_sem, Nat.reduceAdd, Nat.reduceMul, Nat.reduceSub]
          refine callmP [0] (ih mid (mid + m - i) b l2 (by omega) hg.1 hg.2 (by omega) (by omega) ce.s3 ce.s4) rfl rfl rfl ?_ ?_ ?_
          · ((try dsimp only [go_sem, Nat.reduceAdd, Nat.reduceMul, Nat.reduceSub]); repeat (simp only [Nat.beq_refl]; try dsimp only [go_sem, Nat.reduceAdd, Nat.reduceMul, Nat.reduceSub]))
            simp [mtL, mtB, mtS]
          · ((try dsimp only [go_sem, Nat.reduceAdd, Nat.reduceMul, Nat.reduceSub]); repeat (simp only [Nat.beq_refl]; try dsimp only [go_sem, Nat.reduceAdd, Nat.reduceMul, Nat.reduceSub]))
            simp [KFR_iff, meetL, KFL, KF]
          rintro _ ⟨l3, hp3, hs4, rfl⟩
          ((try dsimp only [rowO, go_sem, Nat.reduceAdd, Nat.reduceMul, Nat.reduceSub]); repeat (simp only [Nat.beq_refl]; try dsimp only [go_sem, Nat.reduceAdd, Nat.reduceMul, Nat.reduceSub]))
          refine ⟨_, ⟨l3, pq.trans (hp3.mono (by omega) (by omega)), cut_rec Meet.day ce hp3 hs4 (by omega), rfl⟩, ?_⟩
          try simp only [rowO]
          (refine entO_id ?_ ?_ ?_ rfl <;> dsimp only [meetL, id, go_sem, Nat.reduceAdd, Nat.reduceMul, Nat.reduceSub] <;> simp [meetL, KFR_iff, KFR_app, KFR, KFL, KF, mtL_same, mtO, Nat.beq_refl])
        · skip
          repeat (refine gb ?_; ((try dsimp only [go_sem, Nat.reduceAdd, Nat.reduceMul, Nat.reduceSub]); repeat (simp only [Nat.beq_refl]; try dsimp only [go_sem, Nat.reduceAdd, Nat.reduceMul, Nat.reduceSub])))
          refine br_f (by simp; omega) ?_
          dsimp only [go_sem, Nat.reduceAdd, Nat.reduceMul, Nat.reduceSub]
          refine ⟨_, ⟨l2, pq, cut_no Meet.day ce hg, rfl⟩, ?_⟩
          try simp only [rowO]
          (refine entO_id ?_ ?_ ?_ rfl <;> dsimp only [meetL, id, go_sem, Nat.reduceAdd, Nat.reduceMul, Nat.reduceSub] <;> simp [meetL, KFR_iff, KFR_app, KFR, KFL, KF, mtL_same, mtO, Nat.beq_refl])
      · skip
        repeat (refine gb ?_; ((try dsimp only [go_sem, Nat.reduceAdd, Nat.reduceMul, Nat.reduceSub]); repeat (simp only [Nat.beq_refl]; try dsimp only [go_sem, Nat.reduceAdd, Nat.reduceMul, Nat.reduceSub])))
        refine br_f (by simp; omega) ?_
        dsimp only [go_sem, Nat.reduceAdd, Nat.reduceMul, Nat.reduceSub]
        have ce := cutl_no Meet.day cd hf
        have pq := pp
        have hl2 := pq.len
        by_cases hg : mid < mid + m - i ∧ mid + m - i < b
        · rw [show decide ((mid : Int) < ((mid + m - i : Nat) : Int)) = true from by simp; omega]
          repeat (refine .inl ⟨rfl, ?_⟩; ((try dsimp only [go_sem, Nat.reduceAdd, Nat.reduceMul, Nat.reduceSub]); repeat (simp only [Nat.beq_refl]; try dsimp only [go_sem, Nat.reduceAdd, Nat.reduceMul, Nat.reduceSub])))
          refine br_t (by simp; omega) ?_
          dsimp only [go_sem, Nat.reduceAdd, Nat.reduceMul, Nat.reduceSub]
          refine callmP [0] (ih mid (mid + m - i) b l1 (by omega) hg.1 hg.2 (by omega) (by omega) ce.s3 ce.s4) rfl rfl rfl ?_ ?_ ?_
          · ((try dsimp only [go_sem, Nat.reduceAdd, Nat.reduceMul, Nat.reduceSub]); repeat (simp only [Nat.beq_refl]; try dsimp only [go_sem, Nat.reduceAdd, Nat.reduceMul, Nat.reduceSub]))
            simp [mtL, mtB, mtS]
          · ((try dsimp only [go_sem, Nat.reduceAdd, Nat.reduceMul, Nat.reduceSub]); repeat (simp only [Nat.beq_refl]; try dsimp only [go_sem, Nat.reduceAdd, Nat.reduceMul, Nat.reduceSub]))
            simp [KFR_iff, meetL, KFL, KF]
          rintro _ ⟨l3, hp3, hs4, rfl⟩
          ((try dsimp only [rowO, go_sem, Nat.reduceAdd, Nat.reduceMul, Nat.reduceSub]); repeat (simp only [Nat.beq_refl]; try dsimp only [go_sem, Nat.reduceAdd, Nat.reduceMul, Nat.reduceSub]))
          refine ⟨_, ⟨l3, pq.trans (hp3.mono (by omega) (by omega)), cut_rec Meet.day ce hp3 hs4 (by omega), rfl⟩, ?_⟩
          try simp only [rowO]
          (refine entO_id ?_ ?_ ?_ rfl <;> dsimp only [meetL, id, go_sem, Nat.reduceAdd, Nat.reduceMul, Nat.reduceSub] <;> simp [meetL, KFR_iff, KFR_app, KFR, KFL, KF, mtL_same, mtO, Nat.beq_refl])
        · skip
          repeat (refine gb ?_; ((try dsimp only [go_sem, Nat.reduceAdd, Nat.reduceMul, Nat.reduceSub]); repeat (simp only [Nat.beq_refl]; try dsimp only [go_sem, Nat.reduceAdd, Nat.reduceMul, Nat.reduceSub])))
          refine br_f (by simp; omega) ?_
          dsimp only [go_sem, Nat.reduceAdd, Nat.reduceMul, Nat.reduceSub]
          refine ⟨_, ⟨l1, pq, cut_no Meet.day ce hg, rfl⟩, ?_⟩
          try simp only [rowO]
          (refine entO_id ?_ ?_ ?_ rfl <;> dsimp only [meetL, id, go_sem, Nat.reduceAdd, Nat.reduceMul, Nat.reduceSub] <;> simp [meetL, KFR_iff, KFR_app, KFR, KFL, KF, mtL_same, mtO, Nat.beq_refl])
    · skip
      repeat (refine gb ?_; ((try dsimp only [go_sem, Nat.reduceAdd, Nat.reduceMul, Nat.reduceSub]); repeat (simp only [Nat.beq_refl]; try dsimp only [go_sem, Nat.reduceAdd, Nat.reduceMul, Nat.reduceSub])))
      refine br_f (by simp; omega) ?_
      dsimp only [go_sem, Nat.reduceAdd, Nat.reduceMul, Nat.reduceSub]
      have cd := cutd_no Meet.day cut hs1 hs2 hr
      have pp : PIn a b l l := .refl _ _ _
      have hl1 := pp.len
      by_cases hf : a < i ∧ i < mid
      · rw [show decide ((a : Int) < (i : Int)) = true from by simp; omega]
        repeat (refine .inl ⟨rfl, ?_⟩; ((try dsimp only [go_sem, Nat.reduceAdd, Nat.reduceMul, Nat.reduceSub]); repeat (simp only [Nat.beq_refl]; try dsimp only [go_sem, Nat.reduceAdd, Nat.reduceMul, Nat.reduceSub])))
        refine br_t (by simp; omega) ?_
        dsimp only [go_sem, Nat.reduceAdd, Nat.reduceMul, Nat.reduceSub]
        refine callmP [0] (ih a i mid l (by omega) hf.1 hf.2 (by omega) (by omega) cd.s1 cd.s2) rfl rfl rfl ?_ ?_ ?_
        · ((try dsimp only [go_sem, Nat.reduceAdd, Nat.reduceMul, Nat.reduceSub]); repeat (simp only [Nat.beq_refl]; try dsimp only [go_sem, Nat.reduceAdd, Nat.reduceMul, Nat.reduceSub]))
          simp [mtL, mtB, mtS]
        · ((try dsimp only [go_sem, Nat.reduceAdd, Nat.reduceMul, Nat.reduceSub]); repeat (simp only [Nat.beq_refl]; try dsimp only [go_sem, Nat.reduceAdd, Nat.reduceMul, Nat.reduceSub]))
          simp [KFR_iff, meetL, KFL, KF]
        rintro _ ⟨l2, hp2, hs3, rfl⟩
        ((try dsimp only [rowO, go_sem, Nat.reduceAdd, Nat.reduceMul, Nat.reduceSub]); repeat (simp only [Nat.beq_refl]; try dsimp only [go_sem, Nat.reduceAdd, Nat.reduceMul, Nat.reduceSub]))
        have ce := cutl_rec Meet.day cd hp2 hs3 (by omega)
        have pq : PIn a b l l2 := pp.trans (hp2.mono (by omega) (by omega))
        have hl2 := pq.len
        by_cases hg : mid < mid + m - i ∧ mid + m - i < b
        · rw [show decide ((mid : Int) < ((mid + m - i : Nat) : Int)) = true from by simp; omega]
          repeat (refine .inl ⟨rfl, ?_⟩; ((try dsimp only [go_sem, Nat.reduceAdd, Nat.reduceMul, Nat.reduceSub]); repeat (simp only [Nat.beq_refl]; try dsimp only [go_sem, Nat.reduceAdd, Nat.reduceMul, Nat.reduceSub])))
          refine br_t (by simp; omega) ?_
          dsimp only [go_sem, Nat.reduceAdd, Nat.reduceMul, Nat.reduceSub]
          refine callmP [0] (ih mid (mid + m - i) b l2 (by omega) hg.1 hg.2 (by omega) (by omega) ce.s3 ce.s4) rfl rfl rfl ?_ ?_ ?_
          · ((try dsimp only [go_sem, Nat.reduceAdd, Nat.reduceMul, Nat.reduceSub]); repeat (simp only [Nat.beq_refl]; try dsimp only [go_sem, Nat.reduceAdd, Nat.reduceMul, Nat.reduceSub]))
            simp [mtL, mtB, mtS]
          · ((try dsimp only [go_sem, Nat.reduceAdd, Nat.reduceMul, Nat.reduceSub]); repeat (simp only [Nat.beq_refl]; try dsimp only [go_sem, Nat.reduceAdd, Nat.reduceMul, Nat.reduceSub]))
            simp [KFR_iff, meetL, KFL, KF]
          rintro _ ⟨l3, hp3, hs4, rfl⟩
          ((try dsimp only [rowO, go_sem, Nat.reduceAdd, Nat.reduceMul, Nat.reduceSub]); repeat (simp only [Nat.beq_refl]; try dsimp only [go_sem, Nat.reduceAdd, Nat.reduceMul, Nat.reduceSub]))
          refine ⟨_, ⟨l3, pq.trans (hp3.mono (by omega) (by omega)), cut_rec Meet.day ce hp3 hs4 (by omega), rfl⟩, ?_⟩
          try simp only [rowO]
          (refine entO_id ?_ ?_ ?_ rfl <;> dsimp only [meetL, id, go_sem, Nat.reduceAdd, Nat.reduceMul, Nat.reduceSub] <;> simp [meetL, KFR_iff, KFR_app, KFR, KFL, KF, mtL_same, mtO, Nat.beq_refl])
        · skip
          repeat (refine gb ?_; ((try dsimp only [go_sem, Nat.reduceAdd, Nat.reduceMul, Nat.reduceSub]); repeat (simp only [Nat.beq_refl]; try dsimp only [go_sem, Nat.reduceAdd, Nat.reduceMul, Nat.reduceSub])))
          refine br_f (by simp; omega) ?_
          dsimp only [go_sem, Nat.reduceAdd, Nat.reduceMul, Nat.reduceSub]
          refine ⟨_, ⟨l2, pq, cut_no Meet.day ce hg, rfl⟩, ?_⟩
          try simp only [rowO]
          (refine entO_id ?_ ?_ ?_ rfl <;> dsimp only [meetL, id, go_sem, Nat.reduceAdd, Nat.reduceMul, Nat.reduceSub] <;> simp [meetL, KFR_iff, KFR_app, KFR, KFL, KF, mtL_same, mtO, Nat.beq_refl])
      · skip
        repeat (refine gb ?_; ((try dsimp only [go_sem, Nat.reduceAdd, Nat.reduceMul, Nat.reduceSub]); repeat (simp only [Nat.beq_refl]; try dsimp only [go_sem, Nat.reduceAdd, Nat.reduceMul, Nat.reduceSub])))
        refine br_f (by simp; omega) ?_
        dsimp only [go_sem, Nat.reduceAdd, Nat.reduceMul, Nat.reduceSub]
        have ce := cutl_no Meet.day cd hf
        have pq := pp
        have hl2 := pq.len
        by_cases hg : mid < mid + m - i ∧ mid + m - i < b
        · rw [show decide ((mid : Int) < ((mid + m - i : Nat) : Int)) = true from by simp; omega]
          repeat (refine .inl ⟨rfl, ?_⟩; ((try dsimp only [go_sem, Nat.reduceAdd, Nat.reduceMul, Nat.reduceSub]); repeat (simp only [Nat.beq_refl]; try dsimp only [go_sem, Nat.reduceAdd, Nat.reduceMul, Nat.reduceSub])))
          refine br_t (by simp; omega) ?_
          dsimp only [go_sem, Nat.reduceAdd, Nat.reduceMul, Nat.reduceSub]
          refine callmP [0] (ih mid (mid + m - i) b l (by omega) hg.1 hg.2 (by omega) (by omega) ce.s3 ce.s4) rfl rfl rfl ?_ ?_ ?_
          · ((try dsimp only [go_sem, Nat.reduceAdd, Nat.reduceMul, Nat.reduceSub]); repeat (simp only [Nat.beq_refl]; try dsimp only [go_sem, Nat.reduceAdd, Nat.reduceMul, Nat.reduceSub]))
            simp [mtL, mtB, mtS]
          · ((try dsimp only [go_sem, Nat.reduceAdd, Nat.reduceMul, Nat.reduceSub]); repeat (simp only [Nat.beq_refl]; try dsimp only [go_sem, Nat.reduceAdd, Nat.reduceMul, Nat.reduceSub]))
            simp [KFR_iff, meetL, KFL, KF]
          rintro _ ⟨l3, hp3, hs4, rfl⟩
          ((try dsimp only [rowO, go_sem, Nat.reduceAdd, Nat.reduceMul, Nat.reduceSub]); repeat (simp only [Nat.beq_refl]; try dsimp only [go_sem, Nat.reduceAdd, Nat.reduceMul, Nat.reduceSub]))
          refine ⟨_, ⟨l3, pq.trans (hp3.mono (by omega) (by omega)), cut_rec Meet.day ce hp3 hs4 (by omega), rfl⟩, ?_⟩
          try simp only [rowO]
          (refine entO_id ?_ ?_ ?_ rfl <;> dsimp only [meetL, id, go_sem, Nat.reduceAdd, Nat.reduceMul, Nat.reduceSub] <;> simp [meetL, KFR_iff, KFR_app, KFR, KFL, KF, mtL_same, mtO, Nat.beq_refl])
        · skip
          repeat (refine gb ?_; ((try dsimp only [go_sem, Nat.reduceAdd, Nat.reduceMul, Nat.reduceSub]); repeat (simp only [Nat.beq_refl]; try dsimp only [go_sem, Nat.reduceAdd, Nat.reduceMul, Nat.reduceSub])))
          refine br_f (by simp; omega) ?_
          dsimp only [go_sem, Nat.reduceAdd, Nat.reduceMul, Nat.reduceSub]
          refine ⟨_, ⟨l, pq, cut_no Meet.day ce hg, rfl⟩, ?_⟩
          try simp only [rowO]
          (refine entO_id ?_ ?_ ?_ rfl <;> dsimp only [meetL, id, go_sem, Nat.reduceAdd, Nat.reduceMul, Nat.reduceSub] <;> simp [meetL, KFR_iff, KFR_app, KFR, KFL, KF, mtL_same, mtO, Nat.beq_refl])
end Go.Proofs.Ytnlfjchbhgikaaa
namespace Go.Azalai
section
variable {α : Type} (key : α → Int)
/-- among the places from a to b, those of one block are sorted -/
def Blk (s a b : Nat) (l : List α) : Prop := ∀ p q, a ≤ p → p < q → q < b → p / s = q / s → ky key l p ≤ ky key l q
theorem blk_none {s : Nat} {l : List α} : Blk key s 0 0 l := fun p q h1 h2 h3 => by omega
/-- a place not before a block's begin lies in this block or behind -/
theorem in_blk {s c p q : Nat} (h : p / s = q / s) (h1 : s * c ≤ q) (hs : 0 < s) : s * c ≤ p := by
  have e1 : c ≤ q / s := (Nat.le_div_iff_mul_le hs).2 (by rw [Nat.mul_comm]; exact h1)
  rw [← h] at e1
  have := (Nat.le_div_iff_mul_le hs).1 e1
  rwa [Nat.mul_comm] at this
theorem blk_step {s c b : Nat} {l l' : List α} (hs : 0 < s) (h : Blk key s 0 (s * c) l) (hp : PIn (s * c) b l l') (h' : Srt key (s * c) b l') : Blk key s 0 b l' := fun p q g1 g2 g3 e => by
  by_cases hq : q < s * c
  · rw [hp.ky key (.inl (by omega)), hp.ky key (.inl hq)]; exact h p q g1 g2 hq e
  · exact h' p q (in_blk e (by omega) hs) g2 g3
theorem blk_rest {s a b n : Nat} {l l' : List α} (h : Blk key s a n l) (hp : PIn a b l l') (hab : a ≤ b) : Blk key s b n l' := fun p q g1 g2 g3 e => by
  rw [hp.ky key (.inr g1), hp.ky key (.inr (by omega))]; exact h p q (by omega) g2 g3 e
theorem same_blk {s c p : Nat} (h1 : s * c ≤ p) (h2 : p < s * c + s) : p / s = c := by
  have hs : 0 < s := by omega
  apply Nat.le_antisymm
  · have : p / s < c + 1 := (Nat.div_lt_iff_lt_mul hs).2 (by rw [Nat.add_mul, Nat.one_mul, Nat.mul_comm]; exact h2)
    omega
  · exact (Nat.le_div_iff_mul_le hs).2 (by rw [Nat.mul_comm]; exact h1)
/-- one whole block, or what is left of it -/
theorem blk_srt {s c a b n : Nat} {l : List α} (h : Blk key s a n l) (ha : a ≤ s * c) (hb : b ≤ s * c + s) (hn : b ≤ n) : Srt key (s * c) b l := fun p q g1 g2 g3 => by
  refine h p q (by omega) g2 (by omega) ?_
  rw [same_blk g1 (by omega), same_blk (c := c) (p := q) (by omega) (by omega)]
end
end Go.Azalai
set_option maxRecDepth 100000
set_option maxHeartbeats 4000000
namespace Go.Proofs.Ytnlfjchbhgikaaa
open Go Go.Sx Go.Azalai
theorem stb_ok (v n : Nat) (l : List Meet) (hn : n = l.length) (hL : l.length < 1152921504606846976) :
    CtM Try.prog 98 [(0, .row v 4 (l.map meetL) 73)] 1 [.mr 0 v, I n, .cl 81 []] (fun o => ∃ l', PIn 0 n l l' ∧ Srt Meet.day 0 n l' ∧ o = rowO v l') := by
  refine m98 (by simp [hpb]) (fun o ho => by obtain ⟨l', _, _, rfl⟩ := ho; simp [rowO, KX, KXL, KXP, KXH, KFR_iff, KFL, KF, meetL]) ?_
  dsimp only [c98, r98, go_sem, Nat.reduceAdd, Nat.reduceMul, Nat.reduceSub]
  refine loopO (fun s : Nat × List Meet => [(7, I (20 * s.1 : Nat)), (8, I (20 * s.1 + 20 : Nat))]) (fun s => [(0, .row v 4 (s.2.map meetL) 73)]) (fun s => 20 * s.1 ≤ n ∧ PIn 0 n l s.2 ∧ Blk Meet.day 20 0 (20 * s.1) s.2) (fun s => n - 20 * s.1) (0, l) ⟨by simp only; omega, .refl _ _ _, blk_none Meet.day⟩ ?_ ?_
  · (refine ent_id ?_ ?_ ?_ rfl rfl <;> dsimp only [meetL, id, go_sem, Nat.reduceAdd, Nat.reduceMul, Nat.reduceSub] <;> simp [meetL, KFR_iff, KFR_app, KFR, KFL, KF, mtL_same, mtO, Nat.beq_refl])
  rintro ⟨c, l1⟩ ⟨hc, hp, hb⟩
  simp only at hc hp hb
  have hl1 := hp.len
  dsimp only [go_sem, Nat.reduceAdd, Nat.reduceMul, Nat.reduceSub]
  by_cases hlt : 20 * c + 20 ≤ n
  · refine br_t (by simp; omega) ?_
    dsimp only [go_sem, Nat.reduceAdd, Nat.reduceMul, Nat.reduceSub]
    refine callmP [0] (inss_ok v (20 * c) (20 * c + 20) l1 (by omega) (by omega) (by omega)) rfl rfl rfl ?_ ?_ ?_
    · ((try dsimp only [go_sem, Nat.reduceAdd, Nat.reduceMul, Nat.reduceSub]); repeat (simp only [Nat.beq_refl]; try dsimp only [go_sem, Nat.reduceAdd, Nat.reduceMul, Nat.reduceSub]))
      simp [mtL, mtB, mtS]
    · ((try dsimp only [go_sem, Nat.reduceAdd, Nat.reduceMul, Nat.reduceSub]); repeat (simp only [Nat.beq_refl]; try dsimp only [go_sem, Nat.reduceAdd, Nat.reduceMul, Nat.reduceSub]))
      simp [KFR_iff, meetL, KFL, KF]
    rintro _ ⟨l2, hp2, hs2, rfl⟩
    ((try dsimp only [rowO, go_sem, Nat.reduceAdd, Nat.reduceMul, Nat.reduceSub]); repeat (simp only [Nat.beq_refl]; try dsimp only [go_sem, Nat.reduceAdd, Nat.reduceMul, Nat.reduceSub]))
    rw [w64_in (n := ((20 * c + 20 : Nat) : Int) + 20) (by omega) (by omega)]
    refine ⟨(c + 1, l2), ⟨by simp only; omega, hp.trans (hp2.mono (by omega) (by omega)), ?_⟩, by simp only; omega, ?_⟩
    · exact blk_step Meet.day (by omega) hb hp2 hs2
    rw [show ((20 * c + 20 : Nat) : Int) + 20 = ((20 * (c + 1) + 20 : Nat) : Int) from by omega, show 20 * c + 20 = 20 * (c + 1) from by omega]
    (refine ent_id ?_ ?_ ?_ rfl rfl <;> dsimp only [meetL, id, go_sem, Nat.reduceAdd, Nat.reduceMul, Nat.reduceSub] <;> simp [meetL, KFR_iff, KFR_app, KFR, KFL, KF, mtL_same, mtO, Nat.beq_refl])
  refine br_f (by simp; omega) ?_
  dsimp only [go_sem, Nat.reduceAdd, Nat.reduceMul, Nat.reduceSub]
  refine callmP [0] (inss_ok v (20 * c) n l1 (by omega) (by omega) (by omega)) rfl rfl rfl ?_ ?_ ?_
  · ((try dsimp only [go_sem, Nat.reduceAdd, Nat.reduceMul, Nat.reduceSub]); repeat (simp only [Nat.beq_refl]; try dsimp only [go_sem, Nat.reduceAdd, Nat.reduceMul, Nat.reduceSub]))
    simp [mtL, mtB, mtS]
  · ((try dsimp only [go_sem, Nat.reduceAdd, Nat.reduceMul, Nat.reduceSub]); repeat (simp only [Nat.beq_refl]; try dsimp only [go_sem, Nat.reduceAdd, Nat.reduceMul, Nat.reduceSub]))
    simp [KFR_iff, meetL, KFL, KF]
  rintro _ ⟨l2, hp2, hs2, rfl⟩
  ((try dsimp only [rowO, go_sem, Nat.reduceAdd, Nat.reduceMul, Nat.reduceSub]); repeat (simp only [Nat.beq_refl]; try dsimp only [go_sem, Nat.reduceAdd, Nat.reduceMul, Nat.reduceSub]))
  have hb2 := blk_step Meet.day (by omega) hb hp2 hs2
  refine loopO (fun s : Nat × List Meet × Int × Int => [(6, I (s.1 : Nat)), (7, I s.2.2.1), (8, I s.2.2.2)]) (fun s => [(0, .row v 4 (s.2.1.map meetL) 73)]) (fun s => (0 < s.1 ∧ s.1 ≤ 2 * n + 20) ∧ PIn 0 n l s.2.1 ∧ Blk Meet.day s.1 0 n s.2.1) (fun s => n - s.1) (20, l2, ((20 * c : Nat) : Int), ((20 * c + 20 : Nat) : Int)) ⟨by simp only; omega, hp.trans (hp2.mono (by omega) (by omega)), hb2⟩ ?_ ?_
  · (refine ent_id ?_ ?_ ?_ rfl rfl <;> dsimp only [meetL, id, go_sem, Nat.reduceAdd, Nat.reduceMul, Nat.reduceSub] <;> simp [meetL, KFR_iff, KFR_app, KFR, KFL, KF, mtL_same, mtO, Nat.beq_refl])
  rintro ⟨s, l3, z1, z2⟩ ⟨⟨hs0, hs1⟩, hp3, hb3⟩
  simp only at hs0 hs1 hp3 hb3
  have hl3 := hp3.len
  dsimp only [go_sem, Nat.reduceAdd, Nat.reduceMul, Nat.reduceSub]
  by_cases hlt : s < n
  case neg =>
    refine br_f (by simp; omega) ?_
    dsimp only [go_sem, Nat.reduceAdd, Nat.reduceMul, Nat.reduceSub]
    refine ⟨_, ⟨l3, hp3, ?_, rfl⟩, ?_⟩
    · have := blk_srt Meet.day (c := 0) hb3 (Nat.zero_le _) (show n ≤ s * 0 + s by omega) (Nat.le_refl _)
      rwa [Nat.mul_zero] at this
    · try simp only [rowO]
      (refine entO_id ?_ ?_ ?_ rfl <;> dsimp only [meetL, id, go_sem, Nat.reduceAdd, Nat.reduceMul, Nat.reduceSub] <;> simp [meetL, KFR_iff, KFR_app, KFR, KFL, KF, mtL_same, mtO, Nat.beq_refl])
  refine br_t (by simp; omega) ?_
  dsimp only [go_sem, Nat.reduceAdd, Nat.reduceMul, Nat.reduceSub]
  rw [w64_in (n := 2 * (s : Int)) (by omega) (by omega)]
  refine loopO (fun z : Nat × List Meet => [(7, I (2 * s * z.1 : Nat)), (8, I (2 * s * z.1 + 2 * s : Nat))]) (fun z => [(0, .row v 4 (z.2.map meetL) 73)]) (fun z => 2 * s * z.1 ≤ n ∧ PIn 0 n l z.2 ∧ Blk Meet.day (2 * s) 0 (2 * s * z.1) z.2 ∧ Blk Meet.day s (2 * s * z.1) n z.2) (fun z => n - 2 * s * z.1) (0, l3) ⟨by simp only; omega, hp3, blk_none Meet.day, hb3⟩ ?_ ?_
  · rw [show 2 * (s : Int) = ((2 * s * 0 + 2 * s : Nat) : Int) from by omega]
    (refine ent_id ?_ ?_ ?_ rfl rfl <;> dsimp only [meetL, id, go_sem, Nat.reduceAdd, Nat.reduceMul, Nat.reduceSub] <;> simp [meetL, KFR_iff, KFR_app, KFR, KFL, KF, mtL_same, mtO, Nat.beq_refl])
  rintro ⟨c', l4⟩ ⟨hc4, hp4, hb4, hb5⟩
  simp only at hc4 hp4 hb4 hb5
  have hl4 := hp4.len
  have e5 : s * (2 * c') = 2 * s * c' := by rw [← Nat.mul_assoc, Nat.mul_comm s 2]
  have e6 : s * (2 * c' + 1) = 2 * s * c' + s := by rw [Nat.mul_add, e5, Nat.mul_one]
  have e7 : 2 * s * (c' + 1) = 2 * s * c' + 2 * s := by rw [Nat.mul_add, Nat.mul_one]
  dsimp only [go_sem, Nat.reduceAdd, Nat.reduceMul, Nat.reduceSub]
  have hq1 : 2 * s * c' + s ≤ n → Srt Meet.day (2 * s * c') (2 * s * c' + s) l4 := fun h => by
    have := blk_srt Meet.day (c := 2 * c') (b := 2 * s * c' + s) hb5 (by omega) (by omega) (by omega)
    rwa [e5] at this
  have hq2 : ∀ b, b ≤ 2 * s * c' + 2 * s → b ≤ n → Srt Meet.day (2 * s * c' + s) b l4 := fun b h1 h2 => by
    have := blk_srt Meet.day (c := 2 * c' + 1) (b := b) hb5 (by omega) (by omega) (by omega)
    rwa [e6] at this
  have hstep : ∀ b l', PIn (2 * s * c') b l4 l' → Srt Meet.day (2 * s * c') b l' → Blk Meet.day (2 * s) 0 b l' := fun b l' h1 h2 => blk_step Meet.day (by omega) hb4 h1 h2
  have hlast : n ≤ 2 * s * c' + s → Blk Meet.day (2 * s) 0 n l4 := fun h => by
    have := blk_srt Meet.day (c := 2 * c') (b := n) hb5 (by omega) (by omega) (by omega)
    rw [e5] at this
    exact hstep n l4 (.refl _ _ _) this
  clear hb4
  clear e5 e6
  generalize ha : 2 * s * c' = a at *
  by_cases hlt2 : a + 2 * s ≤ n
  · refine br_t (by simp; omega) ?_
    dsimp only [go_sem, Nat.reduceAdd, Nat.reduceMul, Nat.reduceSub]
    rw [w64_in (n := (a : Int) + (s : Int)) (by omega) (by omega), show (a : Int) + (s : Int) = ((a + s : Nat) : Int) from by omega]
    refine callmP [0] (sym_ok v _ a (a + s) (a + 2 * s) l4 (Nat.le_refl _) (by omega) (by omega) (by omega) (by omega) (hq1 (by omega)) (hq2 _ (by omega) (by omega))) rfl rfl rfl ?_ ?_ ?_
    · ((try dsimp only [go_sem, Nat.reduceAdd, Nat.reduceMul, Nat.reduceSub]); repeat (simp only [Nat.beq_refl]; try dsimp only [go_sem, Nat.reduceAdd, Nat.reduceMul, Nat.reduceSub]))
      simp [mtL, mtB, mtS]
    · ((try dsimp only [go_sem, Nat.reduceAdd, Nat.reduceMul, Nat.reduceSub]); repeat (simp only [Nat.beq_refl]; try dsimp only [go_sem, Nat.reduceAdd, Nat.reduceMul, Nat.reduceSub]))
      simp [KFR_iff, meetL, KFL, KF]
    rintro _ ⟨l5, hp5, hs5, rfl⟩
    ((try dsimp only [rowO, go_sem, Nat.reduceAdd, Nat.reduceMul, Nat.reduceSub]); repeat (simp only [Nat.beq_refl]; try dsimp only [go_sem, Nat.reduceAdd, Nat.reduceMul, Nat.reduceSub]))
    rw [w64_in (n := 2 * (s : Int)) (by omega) (by omega), w64_in (n := ((a + 2 * s : Nat) : Int) + 2 * (s : Int)) (by omega) (by omega)]
    refine ⟨(c' + 1, l5), ⟨by simp only; omega, hp4.trans (hp5.mono (by omega) (by omega)), ?_, ?_⟩, by simp only [e7, ha]; omega, ?_⟩
    · simp only; rw [e7]; exact hstep _ _ hp5 hs5
    · simp only; rw [e7]; exact blk_rest Meet.day hb5 hp5 (by omega)
    · simp only [e7]
      rw [show ((a + 2 * s : Nat) : Int) + 2 * (s : Int) = ((a + 2 * s + 2 * s : Nat) : Int) from by omega]
      (refine ent_id ?_ ?_ ?_ rfl rfl <;> dsimp only [meetL, id, go_sem, Nat.reduceAdd, Nat.reduceMul, Nat.reduceSub] <;> simp [meetL, KFR_iff, KFR_app, KFR, KFL, KF, mtL_same, mtO, Nat.beq_refl])
  refine br_f (by simp; omega) ?_
  dsimp only [go_sem, Nat.reduceAdd, Nat.reduceMul, Nat.reduceSub]
  rw [w64_in (n := (a : Int) + (s : Int)) (by omega) (by omega), show (a : Int) + (s : Int) = ((a + s : Nat) : Int) from by omega]
  by_cases hm : a + s < n
  · refine br_t (by simp; omega) ?_
    dsimp only [go_sem, Nat.reduceAdd, Nat.reduceMul, Nat.reduceSub]
    refine callmP [0] (sym_ok v _ a (a + s) n l4 (Nat.le_refl _) (by omega) (by omega) (by omega) (by omega) (hq1 (by omega)) (hq2 _ (by omega) (by omega))) rfl rfl rfl ?_ ?_ ?_
    · ((try dsimp only [go_sem, Nat.reduceAdd, Nat.reduceMul, Nat.reduceSub]); repeat (simp only [Nat.beq_refl]; try dsimp only [go_sem, Nat.reduceAdd, Nat.reduceMul, Nat.reduceSub]))
      simp [mtL, mtB, mtS]
    · ((try dsimp only [go_sem, Nat.reduceAdd, Nat.reduceMul, Nat.reduceSub]); repeat (simp only [Nat.beq_refl]; try dsimp only [go_sem, Nat.reduceAdd, Nat.reduceMul, Nat.reduceSub]))
      simp [KFR_iff, meetL, KFL, KF]
    rintro _ ⟨l5, hp5, hs5, rfl⟩
    ((try dsimp only [rowO, go_sem, Nat.reduceAdd, Nat.reduceMul, Nat.reduceSub]); repeat (simp only [Nat.beq_refl]; try dsimp only [go_sem, Nat.reduceAdd, Nat.reduceMul, Nat.reduceSub]))
    rw [w64_in (n := (s : Int) * 2) (by omega) (by omega), show (s : Int) * 2 = ((2 * s : Nat) : Int) from by omega]
    refine ⟨(2 * s, l5, (a : Int), ((a + 2 * s : Nat) : Int)), ⟨by simp only; omega, hp4.trans (hp5.mono (by omega) (by omega)), hstep _ _ hp5 hs5⟩, by simp only; omega, ?_⟩
    (refine ent_id ?_ ?_ ?_ rfl rfl <;> dsimp only [meetL, id, go_sem, Nat.reduceAdd, Nat.reduceMul, Nat.reduceSub] <;> simp [meetL, KFR_iff, KFR_app, KFR, KFL, KF, mtL_same, mtO, Nat.beq_refl])
  refine br_f (by simp; omega) ?_
  dsimp only [go_sem, Nat.reduceAdd, Nat.reduceMul, Nat.reduceSub]
  rw [w64_in (n := (s : Int) * 2) (by omega) (by omega), show (s : Int) * 2 = ((2 * s : Nat) : Int) from by omega]
  refine ⟨(2 * s, l4, (a : Int), ((a + 2 * s : Nat) : Int)), ⟨by simp only; omega, hp4, hlast (by omega)⟩, by simp only; omega, ?_⟩
  (refine ent_id ?_ ?_ ?_ rfl rfl <;> dsimp only [meetL, id, go_sem, Nat.reduceAdd, Nat.reduceMul, Nat.reduceSub] <;> simp [meetL, KFR_iff, KFR_app, KFR, KFL, KF, mtL_same, mtO, Nat.beq_refl])
/-- the sort, of an owned row -/
theorem sort_ok (v : Nat) (l : List Meet) (hL : l.length < 1152921504606846976) :
    CtM Try.prog 80 [(0, .row v 4 (l.map meetL) 73)] 1 [.mr 0 v, .cl 81 []] (fun o => ∃ l', PIn 0 l.length l l' ∧ Srt Meet.day 0 l.length l' ∧ o = rowO v l') := by
  refine m80 (by simp [hpb]) (fun o ho => by obtain ⟨l', _, _, rfl⟩ := ho; simp [rowO, KX, KXL, KXP, KXH, KFR_iff, KFL, KF, meetL]) ?_
  dsimp only [c80, r80, go_sem, Nat.reduceAdd, Nat.reduceMul, Nat.reduceSub]
  ((try dsimp only [go_sem, Nat.reduceAdd, Nat.reduceMul, Nat.reduceSub]); repeat (simp only [Nat.beq_refl]; try dsimp only [go_sem, Nat.reduceAdd, Nat.reduceMul, Nat.reduceSub]))
  simp only [List.length_map]
  refine callmP [0] (stb_ok v l.length l rfl hL) rfl rfl rfl ?_ ?_ ?_
  · ((try dsimp only [go_sem, Nat.reduceAdd, Nat.reduceMul, Nat.reduceSub]); repeat (simp only [Nat.beq_refl]; try dsimp only [go_sem, Nat.reduceAdd, Nat.reduceMul, Nat.reduceSub]))
    simp [mtL, mtB, mtS]
  · ((try dsimp only [go_sem, Nat.reduceAdd, Nat.reduceMul, Nat.reduceSub]); repeat (simp only [Nat.beq_refl]; try dsimp only [go_sem, Nat.reduceAdd, Nat.reduceMul, Nat.reduceSub]))
    simp [KFR_iff, meetL, KFL, KF]
  rintro _ ⟨l5, hp5, hs5, rfl⟩
  ((try dsimp only [rowO, go_sem, Nat.reduceAdd, Nat.reduceMul, Nat.reduceSub]); repeat (simp only [Nat.beq_refl]; try dsimp only [go_sem, Nat.reduceAdd, Nat.reduceMul, Nat.reduceSub]))
  refine ⟨_, ⟨l5, hp5, hs5, rfl⟩, ?_⟩
  try simp only [rowO]
  (refine entO_id ?_ ?_ ?_ rfl <;> dsimp only [meetL, id, go_sem, Nat.reduceAdd, Nat.reduceMul, Nat.reduceSub] <;> simp [meetL, KFR_iff, KFR_app, KFR, KFL, KF, mtL_same, mtO, Nat.beq_refl])
end Go.Proofs.Ytnlfjchbhgikaaa
set_option maxRecDepth 100000
set_option maxHeartbeats 4000000
namespace Go.Azalai
def oddM (n : Int) (m : Meet) : Bool := !(inR 0 (n - 1) m.a && inR 0 (n - 1) m.b) || decide (m.a = m.b) || !inR 0 100000 m.day
end Go.Azalai
namespace Go.Proofs.Ytnlfjchbhgikaaa
open Go Go.Sx Go.Azalai

theorem idx97 (h : Nat) (caps : List SV) (hk : KFL caps) (g : Meet → Bool) (l : List Meet) (hg : ∀ x ∈ l, Ct Try.prog h (.agg (meetL x) :: caps) (B (g x))) (hl : l.length < 4611686018427387904) {c : Bool} :
    Ct Try.prog 97 [.sl c 4 (l.map meetL), .cl h caps] (I (idxF g l 0)) := by
  refine t97 ⟨by simp [KF, KFR_iff, KFL, meetL], hk, trivial⟩ (by simp [KF]) ?_
  dsimp only [c97, r97, go_sem, Nat.reduceAdd, Nat.reduceMul, Nat.reduceSub]
  refine loopO (fun k : Nat => [(8, I k)]) (fun _ => []) (fun k => k ≤ l.length ∧ idxF g (l.drop k) k = idxF g l 0) (fun k => l.length - k) 0 ⟨Nat.zero_le _, rfl⟩ ?_ ?_
  · (refine ent_id ?_ ?_ ?_ rfl rfl <;> dsimp only [meetL, hk, id, go_sem, Nat.reduceAdd, Nat.reduceMul, Nat.reduceSub] <;> simp [meetL, hk, KFR_iff, KFR_app, KFR, KFL, KF, mtL_same, mtO, Nat.beq_refl])
  · intro k ⟨hk', hi⟩
    dsimp only [go_sem, Nat.reduceAdd, Nat.reduceMul, Nat.reduceSub]
    refine br ?_ ?_
    · intro hlt
      have hlt : k < l.length := by simpa using hlt
      dsimp only [go_sem, Nat.reduceAdd, Nat.reduceMul, Nat.reduceSub]
      refine ixs_map k hlt rfl ?_
      dsimp only [meetL, go_sem, Nat.reduceAdd, Nat.reduceMul, Nat.reduceSub]
      refine call (hg l[k] (List.getElem_mem _)) ?_
      dsimp only [go_sem, Nat.reduceAdd, Nat.reduceMul, Nat.reduceSub]
      refine br ?_ ?_
      · intro hgx
        dsimp only [go_sem, Nat.reduceAdd, Nat.reduceMul, Nat.reduceSub]
        rw [← hi, List.drop_eq_getElem_cons hlt]
        simp [idxF, hgx]
      · intro hgx
        dsimp only [go_sem, Nat.reduceAdd, Nat.reduceMul, Nat.reduceSub]
        refine ⟨k + 1, ⟨by omega, ?_⟩, by omega, ?_⟩
        · rw [← hi, List.drop_eq_getElem_cons hlt]; simp [idxF, hgx]
        · rw [w64_in (by omega) (by omega)]
          (refine ent_id ?_ ?_ ?_ rfl rfl <;> dsimp only [meetL, hk, id, go_sem, Nat.reduceAdd, Nat.reduceMul, Nat.reduceSub] <;> simp [meetL, hk, KFR_iff, KFR_app, KFR, KFL, KF, mtL_same, mtO, Nat.beq_refl])
    · intro hlt
      have hlt : k = l.length := by simp at hlt; omega
      dsimp only [go_sem, Nat.reduceAdd, Nat.reduceMul, Nat.reduceSub]
      rw [← hi, hlt]; simp [idxF]

theorem con78 (h : Nat) (caps : List SV) (hk : KFL caps) (g : Meet → Bool) (l : List Meet) (hg : ∀ x ∈ l, Ct Try.prog h (.agg (meetL x) :: caps) (B (g x))) (hl : l.length < 4611686018427387904) {c : Bool} :
    Ct Try.prog 78 [.sl c 4 (l.map meetL), .cl h caps] (B (l.any g)) := by
  refine t78 ⟨by simp [KF, KFR_iff, KFL, meetL], hk, trivial⟩ (by simp [KF]) ?_
  dsimp only [c78, r78, go_sem, Nat.reduceAdd, Nat.reduceMul, Nat.reduceSub]
  refine call (idx97 h caps hk g l hg hl) ?_
  dsimp only [go_sem, Nat.reduceAdd, Nat.reduceMul, Nat.reduceSub]
  rw [idxF_any]

theorem del_ok (m : Meet) : Ct Try.prog 85 [.agg (meetL m)] (B (!m.close)) := by
  refine t85 (by simp [meetL, KFL, KF]) (by simp [KFL, KF]) ?_
  dsimp only [c85, r85, meetL, go_sem, Nat.reduceAdd, Nat.reduceMul, Nat.reduceSub]
theorem odd_ok (n : Int) (hn : 1 ≤ n) (hn' : n ≤ 30) (m : Meet) : Ct Try.prog 77 [.agg (meetL m), .ps [I n] 0] (B (oddM n m)) := by
  refine t77 (by simp [meetL, KFL, KF]) (by simp [KFL, KF]) ?_
  dsimp only [c77, r77, meetL, go_sem, Nat.reduceAdd, Nat.reduceMul, Nat.reduceSub]
  rw [w64_in (n := n - 1) (by omega) (by omega)]
  refine call (from2 0 (n - 1) m.a m.b true) ?_
  dsimp only [go_sem, Nat.reduceAdd, Nat.reduceMul, Nat.reduceSub]
  repeat (refine gb ?_; dsimp only [go_sem, Nat.reduceAdd, Nat.reduceMul, Nat.reduceSub])
  refine call (from1 0 100000 m.day true) ?_
  dsimp only [go_sem, Nat.reduceAdd, Nat.reduceMul, Nat.reduceSub]
  repeat (refine gb ?_; dsimp only [go_sem, Nat.reduceAdd, Nat.reduceMul, Nat.reduceSub])
  simp only [Option.some.injEq, SV.v.injEq, Value.bool.injEq, oddM]
  rfl
/-- a row of one number, n times -/
theorem repi_ok (x : Int) (n : Nat) (h0 : 1 ≤ n) (h1 : n ≤ 1000) (k : Bool) : CtM Try.prog 100 [] 0 [.sl k 1 [[I x]], I n] (fun o => o = ⟨false, .mr 0 0, [(0, .row 0 1 (List.replicate n [I x]) 3)], 1⟩) := by
  have hm : KFL [I x] := by simp [KFL, KF]
  have hone : allOne [I x] = true := rfl
  have hkr := kfr_rep hm n
  refine m100 (by simp [hpb]) (fun o ho => by subst ho; simp only [KX, KXL, KXP, KXH]; exact ⟨trivial, hkr, trivial⟩) ?_
  generalize [I x] = row at hm hone hkr
  dsimp only [c100, r100, go_sem, Nat.reduceAdd, Nat.reduceMul, Nat.reduceSub]
  refine br_f (by simp) ?_
  dsimp only [go_sem, Nat.reduceAdd, Nat.reduceMul, Nat.reduceSub]
  rw [show ((1 : Nat) : Int) = 1 from rfl]
  simp (disch := omega) only [uw]
  refine call (mul_ok n (by omega) (by omega)) ?_
  dsimp only [U64, go_sem, Nat.reduceAdd, Nat.reduceMul, Nat.reduceSub]
  refine gb ?_
  dsimp only [go_sem, Nat.reduceAdd, Nat.reduceMul, Nat.reduceSub]
  refine gb ?_
  dsimp only [go_sem, Nat.reduceAdd, Nat.reduceMul, Nat.reduceSub]
  refine br_f (by simp; omega) ?_
  dsimp only [go_sem, Nat.reduceAdd, Nat.reduceMul, Nat.reduceSub]
  refine ⟨n, w64_in (by omega) (by omega), by omega, ?_⟩
  have hz : KFL [SV.v (Value.int IntKind.i64 0)] := by simp [KFL, KF]
  generalize [SV.v (Value.int IntKind.i64 0)] = z at hz
  dsimp only [go_sem, Nat.reduceAdd, Nat.reduceMul, Nat.reduceSub]
  refine ⟨(by intro c hc; simp only [List.mem_singleton] at hc; subst hc; exact hone), by simp, ?_⟩
  have hmin : min n 1 = 1 := by omega
  simp only [List.length_replicate, List.length_singleton, hmin, List.drop_replicate]
  dsimp only [go_sem, Nat.reduceAdd, Nat.reduceMul, Nat.reduceSub]
  refine loopO (fun j : Nat => [(8, I j)]) (fun j => [(0, .row 0 1 (List.replicate j row ++ List.replicate (n - j) z) 3)]) (fun j => 1 ≤ j ∧ j ≤ n) (fun j => n - j) 1 ⟨Nat.le_refl _, h0⟩ ?_ ?_
  · refine ent_id ?_ ?_ ?_ rfl rfl <;> dsimp only [id, go_sem, Nat.reduceAdd, Nat.reduceMul, Nat.reduceSub] <;> simp [KFR_app, kfr_rep, hz, hm, mtL_same, mtO, Nat.beq_refl, KFR, KFL, KF]
  rintro j ⟨hj0, hj⟩
  dsimp only [go_sem, Nat.reduceAdd, Nat.reduceMul, Nat.reduceSub]
  simp only [List.length_append, List.length_replicate, show j + (n - j) = n from by omega]
  by_cases hlt : j < n
  · refine br_t (by simpa using hlt) ?_
    dsimp only [go_sem, Nat.reduceAdd, Nat.reduceMul, Nat.reduceSub]
    refine ⟨j, n, ⟨rfl, by simp; omega, by omega, by simp; omega⟩, ?_⟩
    dsimp only [go_sem, Nat.reduceAdd, Nat.reduceMul, Nat.reduceSub]
    refine ⟨0, j, ⟨rfl, rfl, by omega, by simp⟩, ?_⟩
    dsimp only [go_sem, Nat.reduceAdd, Nat.reduceMul, Nat.reduceSub]
    have hx : List.take (j - 0) (List.replicate j row ++ List.replicate (n - j) z) = List.replicate j row := by rw [Nat.sub_zero]; exact List.take_left' (by simp)
    have hx' : List.take j (List.replicate j row ++ List.replicate (n - j) z) = List.replicate j row := List.take_left' (by simp)
    rw [hx]
    refine ⟨by simp, (by intro c hc; rw [List.eq_of_mem_replicate hc]; exact hone), by simp, ?_⟩
    simp only [List.length_replicate]
    generalize hN : min (n - j) j = N
    have e : List.take j (List.replicate j row ++ List.replicate (n - j) z) ++ (List.take N (List.replicate j row) ++ List.drop (j + N) (List.replicate j row ++ List.replicate (n - j) z)) = List.replicate (j + N) row ++ List.replicate (n - (j + N)) z := by
      rw [hx', List.take_replicate, List.drop_append, List.drop_of_length_le (l := List.replicate j row) (by simp), List.length_replicate, List.nil_append, List.drop_replicate, ← List.append_assoc, List.replicate_append_replicate, show min N j = N from by omega]
      congr 2; omega
    rw [e]
    dsimp only [go_sem, Nat.reduceAdd, Nat.reduceMul, Nat.reduceSub]
    rw [show (j : Int) + (N : Int) = ((j + N : Nat) : Int) from by omega, w64_in (n := ((j + N : Nat) : Int)) (by omega) (by omega)]
    refine ⟨j + N, ⟨by omega, by omega⟩, by omega, ?_⟩
    refine ent_id ?_ ?_ ?_ rfl rfl <;> dsimp only [id, go_sem, Nat.reduceAdd, Nat.reduceMul, Nat.reduceSub] <;> simp [KFR_app, kfr_rep, hz, hm, mtL_same, mtO, Nat.beq_refl, KFR, KFL, KF]
  refine br_f (by simp; omega) ?_
  dsimp only [go_sem, Nat.reduceAdd, Nat.reduceMul, Nat.reduceSub]
  have hje : j = n := by omega
  subst hje
  simp only [Nat.sub_self, List.replicate_zero, List.append_nil]
  refine ⟨_, rfl, ?_⟩
  refine entO_id ?_ ?_ ?_ rfl <;> dsimp only [id, go_sem, Nat.reduceAdd, Nat.reduceMul, Nat.reduceSub] <;> simp [KFR_app, kfr_rep, hm, mtL_same, mtO, Nat.beq_refl, KFR, KFL, KF]
theorem clone_ok (l : List Meet) (hL : l.length ≤ 1000) (k : Bool) : CtM Try.prog 79 [] 0 [.sl k 4 (l.map meetL)] (fun o => o = ⟨false, .mr 0 0, [(0, .row 0 4 (l.map meetL) 73)], 1⟩) := by
  refine m79 (by simp [hpb]) (fun o ho => by subst ho; simp [KX, KXL, KXP, KXH, KFR_iff, KFL, KF, meetL]) ?_
  dsimp only [c79, r79, go_sem, Nat.reduceAdd, Nat.reduceMul, Nat.reduceSub]
  intro b hb
  dsimp only [go_sem, Nat.reduceAdd, Nat.reduceMul, Nat.reduceSub]
  cases b with
  | true =>
    have hl : l = [] := by simpa using hb rfl
    subst hl
    refine br_t rfl ?_
    dsimp only [go_sem, Nat.reduceAdd, Nat.reduceMul, Nat.reduceSub]
    refine ⟨_, rfl, ?_⟩
    refine entO_of (ent_trans (ent_nilslot 0 4 73 rfl rfl) ?_) (fun _ _ _ e => by cases e)
    (refine ent_id ?_ ?_ ?_ rfl rfl <;> dsimp only [meetL, id, go_sem, Nat.reduceAdd, Nat.reduceMul, Nat.reduceSub] <;> simp [meetL, KFR_iff, KFR_app, KFR, KFL, KF, mtL_same, mtO, Nat.beq_refl])
  | false =>
    refine br_f rfl ?_
    dsimp only [go_sem, Nat.reduceAdd, Nat.reduceMul, Nat.reduceSub]
    refine ⟨by simp; omega, ?_⟩
    dsimp only [go_sem, Nat.reduceAdd, Nat.reduceMul, Nat.reduceSub]
    refine ⟨_, rfl, ?_⟩
    (refine entO_id ?_ ?_ ?_ rfl <;> dsimp only [meetL, id, go_sem, Nat.reduceAdd, Nat.reduceMul, Nat.reduceSub] <;> simp [meetL, KFR_iff, KFR_app, KFR, KFL, KF, mtL_same, mtO, Nat.beq_refl])
end Go.Proofs.Ytnlfjchbhgikaaa
set_option maxRecDepth 100000
set_option maxHeartbeats 4000000
namespace Go.Azalai
theorem idxF_none {α : Type} (g : α → Bool) : ∀ (l : List α) (k : Nat), idxF g l k = -1 → l.filter (fun x => !g x) = l
  | [], k, _ => rfl
  | x :: l, k, h => by
    unfold idxF at h
    split at h
    · omega
    · rename_i hx
      rw [List.filter_cons_of_pos (by simp [hx]), idxF_none g l (k + 1) h]
theorem idxF_some {α : Type} (g : α → Bool) : ∀ (l : List α) (k : Nat), idxF g l k ≠ -1 → ∃ i, i < l.length ∧ idxF g l k = ((k + i : Nat) : Int) ∧ (l.take (i + 1)).filter (fun x => !g x) = l.take i
  | [], k, h => by simp [idxF] at h
  | x :: l, k, h => by
    unfold idxF at h ⊢
    by_cases hx : g x = true
    · rw [if_pos hx]; exact ⟨0, by simp, by simp, by simp [hx]⟩
    · rw [if_neg hx] at h ⊢
      obtain ⟨i, h1, h2, h3⟩ := idxF_some g l (k + 1) h
      refine ⟨i + 1, by simp; omega, by rw [h2]; congr 1; omega, ?_⟩
      rw [List.take_succ_cons, List.filter_cons_of_pos (by simp [hx]), h3, List.take_succ_cons]
end Go.Azalai
namespace Go.Proofs.Ytnlfjchbhgikaaa
open Go Go.Sx Go.Azalai
def delPost (v : Nat) (l : List Meet) (o : Ot) : Prop :=
  (l.filter (·.close) = l ∧ o = ⟨false, .mr 0 v, [(0, .row v 4 (l.map meetL) 73)], 1⟩) ∨
    ∃ l' : List Meet, l'.length = l.length ∧ (l.filter (·.close)).length ≤ l'.length ∧ l'.take (l.filter (·.close)).length = l.filter (·.close) ∧ o = ⟨false, .ms 0 v 4 0 (l.filter (·.close)).length, [(0, .row v 4 (l'.map meetL) 73)], 1⟩
theorem delete_ok (v : Nat) (l : List Meet) (hL : l.length ≤ 1000) :
    CtM Try.prog 84 [(0, .row v 4 (l.map meetL) 73)] 1 [.mr 0 v, .cl 85 []] (delPost v l) := by
  refine m84 (by simp [hpb]) (fun o ho => by rcases ho with ⟨_, rfl⟩ | ⟨l', _, _, _, rfl⟩ <;> simp [KX, KXL, KXP, KXH, KFR_iff, KFL, KF, meetL]) ?_
  dsimp only [c84, r84, go_sem, Nat.reduceAdd, Nat.reduceMul, Nat.reduceSub]
  refine callv (by simp [FLT]) (res := I (idxF (fun m : Meet => !m.close) l 0)) ?_ ?_
  · ((try dsimp only [go_sem, Nat.reduceAdd, Nat.reduceMul, Nat.reduceSub]); repeat (simp only [Nat.beq_refl]; try dsimp only [go_sem, Nat.reduceAdd, Nat.reduceMul, Nat.reduceSub]))
    exact idx97 85 [] trivial (fun m : Meet => !m.close) l (fun m _ => del_ok m) (by omega)
  dsimp only [go_sem, Nat.reduceAdd, Nat.reduceMul, Nat.reduceSub]
  by_cases hn : idxF (fun m : Meet => !m.close) l 0 = -1
  · refine br_t (by simpa using hn) ?_
    dsimp only [go_sem, Nat.reduceAdd, Nat.reduceMul, Nat.reduceSub]
    refine ⟨_, .inl ⟨by simpa using idxF_none _ l 0 hn, rfl⟩, ?_⟩
    (refine entO_id ?_ ?_ ?_ rfl <;> dsimp only [meetL, id, go_sem, Nat.reduceAdd, Nat.reduceMul, Nat.reduceSub] <;> simp [meetL, KFR_iff, KFR_app, KFR, KFL, KF, mtL_same, mtO, Nat.beq_refl])
  refine br_f (by simpa using hn) ?_
  dsimp only [go_sem, Nat.reduceAdd, Nat.reduceMul, Nat.reduceSub]
  obtain ⟨i0, h1, h2, h3⟩ := idxF_some _ l 0 hn
  rw [Nat.zero_add] at h2
  rw [h2]
  rw [w64_in (n := (i0 : Int) + 1) (by omega) (by omega)]
  simp only [Bool.not_not] at h3
  refine loopO (fun s : Nat × Nat × List Meet => [(5, I s.1), (6, I s.2.1)]) (fun s => [(0, .row v 4 (s.2.2.map meetL) 73)]) (fun s => (s.1 < s.2.1 ∧ s.2.1 ≤ l.length) ∧ s.2.2.length = l.length ∧ s.1 = ((l.take s.2.1).filter (·.close)).length ∧ s.2.2.take s.1 = (l.take s.2.1).filter (·.close) ∧ ∀ p, s.2.1 ≤ p → s.2.2[p]? = l[p]?) (fun s => l.length - s.2.1) (i0, i0 + 1, l) ⟨by simp only; omega, rfl, by simp only [h3]; simp; omega, h3.symm, fun _ _ => rfl⟩ ?_ ?_
  · rw [show (i0 : Int) + 1 = ((i0 + 1 : Nat) : Int) from by omega]
    (refine ent_id ?_ ?_ ?_ rfl rfl <;> dsimp only [meetL, id, go_sem, Nat.reduceAdd, Nat.reduceMul, Nat.reduceSub] <;> simp [meetL, KFR_iff, KFR_app, KFR, KFL, KF, mtL_same, mtO, Nat.beq_refl])
  rintro ⟨i, j, l1⟩ ⟨⟨hij, hj⟩, hl1, hi, ht, hd⟩
  simp only at hij hj hl1 hi ht hd
  ((try dsimp only [go_sem, Nat.reduceAdd, Nat.reduceMul, Nat.reduceSub]); repeat (simp only [Nat.beq_refl]; try dsimp only [go_sem, Nat.reduceAdd, Nat.reduceMul, Nat.reduceSub]))
  simp only [List.length_map]
  by_cases hlt : j < l.length
  · refine br_t (by simp; omega) ?_
    ((try dsimp only [go_sem, Nat.reduceAdd, Nat.reduceMul, Nat.reduceSub]); repeat (simp only [Nat.beq_refl]; try dsimp only [go_sem, Nat.reduceAdd, Nat.reduceMul, Nat.reduceSub]))
    refine ixrm j rfl (by simp; omega) ?_
    ((try dsimp only [go_sem, Nat.reduceAdd, Nat.reduceMul, Nat.reduceSub]); repeat (simp only [Nat.beq_refl]; try dsimp only [go_sem, Nat.reduceAdd, Nat.reduceMul, Nat.reduceSub]))
    refine ldrm (by omega) ?_
    ((try dsimp only [meetL, go_sem, Nat.reduceAdd, Nat.reduceMul, Nat.reduceSub]); repeat (simp only [Nat.beq_refl]; try dsimp only [go_sem, Nat.reduceAdd, Nat.reduceMul, Nat.reduceSub]))
    have hlj : l1[j] = l[j] := by
      have := hd j (Nat.le_refl _)
      rw [List.getElem?_eq_getElem (by omega), List.getElem?_eq_getElem hlt] at this
      exact Option.some.inj this
    have htake : l.take (j + 1) = l.take j ++ [l[j]] := (List.take_append_getElem hlt).symm
    refine call (del_ok l1[j]) ?_
    ((try dsimp only [go_sem, Nat.reduceAdd, Nat.reduceMul, Nat.reduceSub]); repeat (simp only [Nat.beq_refl]; try dsimp only [go_sem, Nat.reduceAdd, Nat.reduceMul, Nat.reduceSub]))
    by_cases hc : l1[j].close = true
    · refine br_t (by simp [hc]) ?_
      ((try dsimp only [go_sem, Nat.reduceAdd, Nat.reduceMul, Nat.reduceSub]); repeat (simp only [Nat.beq_refl]; try dsimp only [go_sem, Nat.reduceAdd, Nat.reduceMul, Nat.reduceSub]))
      refine ixrm i rfl (by simp; omega) ?_
      ((try dsimp only [go_sem, Nat.reduceAdd, Nat.reduceMul, Nat.reduceSub]); repeat (simp only [Nat.beq_refl]; try dsimp only [go_sem, Nat.reduceAdd, Nat.reduceMul, Nat.reduceSub]))
      refine strm l1[j] (by omega) (by simp [meetL]) (by simp [meetL, splice]) ?_
      ((try dsimp only [go_sem, Nat.reduceAdd, Nat.reduceMul, Nat.reduceSub]); repeat (simp only [Nat.beq_refl]; try dsimp only [go_sem, Nat.reduceAdd, Nat.reduceMul, Nat.reduceSub]))
      simp (disch := omega) only [w64_in]
      refine ⟨(i + 1, j + 1, l1.set i l1[j]), ⟨by simp only; omega, by simp [hl1], ?_, ?_, fun p hp => ?_⟩, by simp only; omega, ?_⟩
      · simp only; rw [htake, List.filter_append, List.length_append, ← hi]; rw [hlj] at hc; simp [hc]
      · simp only
        rw [htake, List.filter_append, ← ht, hlj]
        rw [hlj] at hc
        rw [List.take_succ_eq_append_getElem (by simp; omega)]
        simp [hc, List.take_set_of_le]
      · simp only at hp ⊢
        rw [List.getElem?_set_ne (by omega)]; exact hd p (by omega)
      · rw [show (i : Int) + 1 = ((i + 1 : Nat) : Int) from by omega, show (j : Int) + 1 = ((j + 1 : Nat) : Int) from by omega]
        generalize l1.set i l1[j] = l2
        (refine ent_id ?_ ?_ ?_ rfl rfl <;> dsimp only [meetL, id, go_sem, Nat.reduceAdd, Nat.reduceMul, Nat.reduceSub] <;> simp [meetL, KFR_iff, KFR_app, KFR, KFL, KF, mtL_same, mtO, Nat.beq_refl])
    · refine br_f (by simp [hc]) ?_
      ((try dsimp only [go_sem, Nat.reduceAdd, Nat.reduceMul, Nat.reduceSub]); repeat (simp only [Nat.beq_refl]; try dsimp only [go_sem, Nat.reduceAdd, Nat.reduceMul, Nat.reduceSub]))
      simp (disch := omega) only [w64_in]
      refine ⟨(i, j + 1, l1), ⟨by simp only; omega, hl1, ?_, ?_, fun p hp => hd p (by simp only at hp; omega)⟩, by simp only; omega, ?_⟩
      · simp only; rw [htake, List.filter_append, List.length_append, ← hi]; rw [hlj] at hc; simp [hc]
      · simp only; rw [htake, List.filter_append, ht]; rw [hlj] at hc; simp [hc]
      · rw [show (j : Int) + 1 = ((j + 1 : Nat) : Int) from by omega]
        (refine ent_id ?_ ?_ ?_ rfl rfl <;> dsimp only [meetL, id, go_sem, Nat.reduceAdd, Nat.reduceMul, Nat.reduceSub] <;> simp [meetL, KFR_iff, KFR_app, KFR, KFL, KF, mtL_same, mtO, Nat.beq_refl])
  refine br_f (by simp; omega) ?_
  ((try dsimp only [go_sem, Nat.reduceAdd, Nat.reduceMul, Nat.reduceSub]); repeat (simp only [Nat.beq_refl]; try dsimp only [go_sem, Nat.reduceAdd, Nat.reduceMul, Nat.reduceSub]))
  have hje : j = l.length := by omega
  subst hje
  rw [List.take_length] at hi ht
  refine ⟨i, l.length, ⟨rfl, by simp; omega, by omega, by simp; omega⟩, ?_⟩
  ((try dsimp only [go_sem, Nat.reduceAdd, Nat.reduceMul, Nat.reduceSub]); repeat (simp only [Nat.beq_refl]; try dsimp only [go_sem, Nat.reduceAdd, Nat.reduceMul, Nat.reduceSub]))
  refine raw_clear (z := .agg #[.int .i64 0, .int .i64 0, .int .i64 0, .bool false]) (zl := [.int .i64 0, .int .i64 0, .int .i64 0, .bool false]) rfl rfl (by simp; omega) (by kernel_rfl) (by kernel_rfl) rfl rfl (by intro v hv; simp at hv; rcases hv with rfl | rfl <;> rfl) ?_
  have hrow : List.take i (List.map meetL l1) ++ (List.replicate (l.length - i) (List.map SV.v [Value.int IntKind.i64 0, Value.int IntKind.i64 0, Value.int IntKind.i64 0, Value.bool false]) ++ List.drop (i + (l.length - i)) (List.map meetL l1)) = (l1.take i ++ List.replicate (l.length - i) (⟨0, 0, 0, false⟩ : Meet)).map meetL := by
    rw [List.drop_of_length_le (by simp; omega), List.append_nil, List.map_append, List.map_take, List.map_replicate]
    rfl
  rw [hrow]
  obtain ⟨l2, hl2⟩ : ∃ l2, l2 = l1.take i ++ List.replicate (l.length - i) (⟨0, 0, 0, false⟩ : Meet) := ⟨_, rfl⟩
  rw [← hl2]
  have hlen : l2.length = l.length := by rw [hl2]; simp; omega
  have ht2 : l2.take i = l.filter (·.close) := by rw [hl2, List.take_left' (by simp; omega), ht]
  ((try dsimp only [go_sem, Nat.reduceAdd, Nat.reduceMul, Nat.reduceSub]); repeat (simp only [Nat.beq_refl]; try dsimp only [go_sem, Nat.reduceAdd, Nat.reduceMul, Nat.reduceSub]))
  refine ⟨0, i, ⟨rfl, rfl, by omega, by simp; omega⟩, ?_⟩
  rw [Nat.sub_zero]
  ((try dsimp only [go_sem, Nat.reduceAdd, Nat.reduceMul, Nat.reduceSub]); repeat (simp only [Nat.beq_refl]; try dsimp only [go_sem, Nat.reduceAdd, Nat.reduceMul, Nat.reduceSub]))
  subst hi
  refine ⟨_, .inr ⟨l2, hlen, by omega, ht2, rfl⟩, ?_⟩
  (refine entO_id ?_ ?_ ?_ rfl <;> dsimp only [meetL, id, go_sem, Nat.reduceAdd, Nat.reduceMul, Nat.reduceSub] <;> simp [meetL, KFR_iff, KFR_app, KFR, KFL, KF, mtL_same, mtO, Nat.beq_refl])
end Go.Proofs.Ytnlfjchbhgikaaa
set_option maxRecDepth 100000
set_option maxHeartbeats 4000000
namespace Go.Azalai
def gI (s : List Int) (i : Int) : Int := s.getD i.toNat 0
def inf1 (w d a b : Int) (s : List Int) : List Int := if gI s a ≤ d then s.set b.toNat (min (gI s b) (d + w)) else s
def meetS (w : Int) (m : Meet) (s : List Int) : List Int := inf1 w m.day m.b m.a (inf1 w m.day m.a m.b s)
def spreadF (w last : Int) : List Meet → List Int → List Int
  | [], s => s
  | m :: l, s => if m.day > last then s else spreadF w last l (meetS w m s)
def baseF : List Int → List Int → List Int
  | [], s => s
  | i :: l, s => baseF l (s.set i.toNat 0)
theorem inf1_len (w d a b : Int) (s : List Int) : (inf1 w d a b s).length = s.length := by unfold inf1; split <;> simp
def okM (n : Int) (m : Meet) : Prop := (0 ≤ m.a ∧ m.a < n) ∧ (0 ≤ m.b ∧ m.b < n) ∧ m.a ≠ m.b ∧ 0 ≤ m.day ∧ m.day ≤ 100000
theorem gI_eq {s : List Int} {i : Int} {k : Nat} (h : i = k) (hk : k < s.length) : gI s i = s[k] := by
  unfold gI; rw [h, Int.toNat_natCast, List.getD_eq_getElem?_getD, List.getElem?_eq_getElem hk]; rfl
end Go.Azalai
namespace Go.Proofs.Ytnlfjchbhgikaaa
open Go Go.Sx Go.Azalai
theorem spread_ok (n : Nat) (first : List Int) (meets : List Meet) (w last : Int) (c1 c2 : Bool) (hn : 1 ≤ n) (hn' : n ≤ 30) (hf : ∀ i ∈ first, 0 ≤ i ∧ i < n) (hm : ∀ m ∈ meets, okM n m) (hw : 0 ≤ w ∧ w ≤ 60) (hl1 : first.length ≤ 1000) (hl2 : meets.length ≤ 1000) :
    Ct Try.prog 83 [I n, .sl c1 1 (first.map intL), .sl c2 4 (meets.map meetL), I w, I last] (.sl false 1 ((spreadF w last meets (baseF first (List.replicate n 100061))).map intL)) := by
  refine t83 (by simp [meetL, KFR_iff, intL, KFL, KF]) (by simp [KFR_iff, intL, KFL, KF]) ?_
  dsimp only [c83, r83, go_sem, Nat.reduceAdd, Nat.reduceMul, Nat.reduceSub]
  refine callmP [] (repi_ok 100061 n hn (by omega) true) rfl rfl rfl ?_ ?_ ?_
  · ((try dsimp only [go_sem, Nat.reduceAdd, Nat.reduceMul, Nat.reduceSub]); repeat (simp only [Nat.beq_refl]; try dsimp only [go_sem, Nat.reduceAdd, Nat.reduceMul, Nat.reduceSub]))
    simp [mtL, mtB, mtS, KFR, KFL, KF]
  · ((try dsimp only [go_sem, Nat.reduceAdd, Nat.reduceMul, Nat.reduceSub]); repeat (simp only [Nat.beq_refl]; try dsimp only [go_sem, Nat.reduceAdd, Nat.reduceMul, Nat.reduceSub]))
  rintro _ rfl
  ((try dsimp only [go_sem, Nat.reduceAdd, Nat.reduceMul, Nat.reduceSub]); repeat (simp only [Nat.beq_refl]; try dsimp only [go_sem, Nat.reduceAdd, Nat.reduceMul, Nat.reduceSub]))
  simp only [List.length_map]
  rw [show List.replicate n [I 100061] = (List.replicate n (100061 : Int)).map intL from by simp [intL]]
  have hbl : ∀ (l s : List Int), (baseF l s).length = s.length := fun l => by
    induction l with
    | nil => intro s; rfl
    | cons i l ih => intro s; rw [baseF, ih]; simp
  have hsI : (List.replicate n (100061 : Int)).length = n := by simp
  generalize List.replicate n (100061 : Int) = sI at hsI
  refine loopO (fun z : Nat × List Int => [(22, I z.1)]) (fun z => [(0, .row 0 1 (z.2.map intL) 3)]) (fun z => z.1 ≤ first.length ∧ z.2.length = n ∧ baseF (first.drop z.1) z.2 = baseF first sI) (fun z => first.length - z.1) (0, sI) ⟨Nat.zero_le _, hsI, by simp⟩ ?_ ?_
  · (refine ent_id ?_ ?_ ?_ rfl rfl <;> dsimp only [meetL, intL, id, go_sem, Nat.reduceAdd, Nat.reduceMul, Nat.reduceSub] <;> simp [meetL, intL, KFR_iff, KFR_app, KFR, KFL, KF, mtL_same, mtO, Nat.beq_refl])
  rintro ⟨k, s⟩ ⟨hk, hs, hb⟩
  simp only at hk hs hb
  dsimp only [go_sem, Nat.reduceAdd, Nat.reduceMul, Nat.reduceSub]
  by_cases hlt : k < first.length
  · refine br_t (by simpa using hlt) ?_
    dsimp only [go_sem, Nat.reduceAdd, Nat.reduceMul, Nat.reduceSub]
    refine ixs_map k hlt rfl ?_
    dsimp only [intL, go_sem, Nat.reduceAdd, Nat.reduceMul, Nat.reduceSub]
    have hfk := hf first[k] (List.getElem_mem _)
    obtain ⟨p, hp⟩ : ∃ p : Nat, first[k] = (p : Int) := ⟨first[k].toNat, by omega⟩
    rw [List.drop_eq_getElem_cons hlt, hp] at hb
    rw [hp] at hfk
    rw [hp]
    refine ixrm p rfl (by first | omega | (simp; omega)) ?_
    ((try dsimp only [go_sem, Nat.reduceAdd, Nat.reduceMul, Nat.reduceSub]); repeat (simp only [Nat.beq_refl]; try dsimp only [go_sem, Nat.reduceAdd, Nat.reduceMul, Nat.reduceSub]))
    refine strm (0 : Int) (by first | omega | (simp; omega)) (by simp [intL]) (by simp [intL, splice]) ?_
    ((try dsimp only [go_sem, Nat.reduceAdd, Nat.reduceMul, Nat.reduceSub]); repeat (simp only [Nat.beq_refl]; try dsimp only [go_sem, Nat.reduceAdd, Nat.reduceMul, Nat.reduceSub]))
    rw [w64_in (n := (k : Int) + 1) (by omega) (by omega)]
    refine ⟨(k + 1, s.set p 0), ⟨hlt, by simp [hs], by simpa [baseF] using hb⟩, by simp only; omega, ?_⟩
    generalize s.set p 0 = s2
    (refine ent_id ?_ ?_ ?_ rfl rfl <;> dsimp only [meetL, intL, id, go_sem, Nat.reduceAdd, Nat.reduceMul, Nat.reduceSub] <;> simp [meetL, intL, KFR_iff, KFR_app, KFR, KFL, KF, mtL_same, mtO, Nat.beq_refl])
  refine br_f (by simp; omega) ?_
  dsimp only [go_sem, Nat.reduceAdd, Nat.reduceMul, Nat.reduceSub]
  rw [show k = first.length from by omega, List.drop_length] at hb
  simp only [baseF] at hb
  subst hb
  generalize baseF first sI = s0 at hs
  refine loopO (fun z : Nat × List Int => [(32, I z.1)]) (fun z => [(0, .row 0 1 (z.2.map intL) 3)]) (fun z => z.1 ≤ meets.length ∧ z.2.length = n ∧ spreadF w last (meets.drop z.1) z.2 = spreadF w last meets s0) (fun z => meets.length - z.1) (0, s0) ⟨Nat.zero_le _, hs, by simp⟩ ?_ ?_
  · (refine ent_id ?_ ?_ ?_ rfl rfl <;> dsimp only [meetL, intL, id, go_sem, Nat.reduceAdd, Nat.reduceMul, Nat.reduceSub] <;> simp [meetL, intL, KFR_iff, KFR_app, KFR, KFL, KF, mtL_same, mtO, Nat.beq_refl])
  rintro ⟨j, s⟩ ⟨hj, hs', hr⟩
  simp only at hj hs' hr
  dsimp only [go_sem, Nat.reduceAdd, Nat.reduceMul, Nat.reduceSub]
  by_cases hlt : j < meets.length
  case neg =>
    refine br_f (by simp; omega) ?_
    dsimp only [go_sem, Nat.reduceAdd, Nat.reduceMul, Nat.reduceSub]
    rw [show j = meets.length from by omega, List.drop_length] at hr
    simp only [spreadF] at hr
    rw [← hr]
  refine br_t (by simpa using hlt) ?_
  dsimp only [go_sem, Nat.reduceAdd, Nat.reduceMul, Nat.reduceSub]
  refine ixs_map j hlt rfl ?_
  dsimp only [meetL, go_sem, Nat.reduceAdd, Nat.reduceMul, Nat.reduceSub]
  refine ixs_map j hlt rfl ?_
  dsimp only [meetL, go_sem, Nat.reduceAdd, Nat.reduceMul, Nat.reduceSub]
  refine ixs_map j hlt rfl ?_
  dsimp only [meetL, go_sem, Nat.reduceAdd, Nat.reduceMul, Nat.reduceSub]
  refine ixs_map j hlt rfl ?_
  dsimp only [meetL, go_sem, Nat.reduceAdd, Nat.reduceMul, Nat.reduceSub]
  have hmj := hm meets[j] (List.getElem_mem _)
  rw [List.drop_eq_getElem_cons hlt] at hr
  generalize hmm : meets[j] = m at hmj hr
  obtain ⟨ma, mb, md, mc⟩ := m
  obtain ⟨⟨ha0, ha1⟩, ⟨hb0, hb1⟩, hab, hd0, hd1⟩ := hmj
  simp only at ha0 ha1 hb0 hb1 hab hd0 hd1
  obtain ⟨pa, rfl⟩ : ∃ p : Nat, ma = p := ⟨ma.toNat, by omega⟩
  obtain ⟨pb, rfl⟩ : ∃ p : Nat, mb = p := ⟨mb.toNat, by omega⟩
  simp only
  refine loopO (fun z : Nat × List Int => [(58, I z.1)]) (fun z => [(0, .row 0 1 (z.2.map intL) 3)]) (fun z => (z.1 = 0 ∧ z.2 = s) ∨ (z.1 = 1 ∧ ¬ md > last ∧ z.2 = inf1 w md pa pb s) ∨ (z.1 = 2 ∧ ¬ md > last ∧ z.2 = inf1 w md pb pa (inf1 w md pa pb s))) (fun z => 2 - z.1) (0, s) (.inl ⟨rfl, rfl⟩) ?_ ?_
  · (refine ent_id ?_ ?_ ?_ rfl rfl <;> dsimp only [meetL, intL, id, go_sem, Nat.reduceAdd, Nat.reduceMul, Nat.reduceSub] <;> simp [meetL, intL, KFR_iff, KFR_app, KFR, KFL, KF, mtL_same, mtO, Nat.beq_refl])
  rintro ⟨q, s1⟩ hq
  simp only at hq
  have hs1 : s1.length = n := by
    rcases hq with ⟨_, h⟩ | ⟨_, _, h⟩ | ⟨_, _, h⟩ <;> rw [h] <;> simp [inf1_len, hs']
  dsimp only [go_sem, Nat.reduceAdd, Nat.reduceMul, Nat.reduceSub]
  rcases hq with ⟨rfl, hss⟩ | ⟨rfl, hday, hss⟩ | ⟨rfl, hday, hss⟩
  · skip
    refine br_t (by decide) ?_
    dsimp only [go_sem, Nat.reduceAdd, Nat.reduceMul, Nat.reduceSub]
    refine ixa 0 rfl (by decide) ?_
    ((try dsimp only [go_sem, Nat.reduceAdd, Nat.reduceMul, Nat.reduceSub]); repeat (simp only [Nat.beq_refl]; try dsimp only [go_sem, Nat.reduceAdd, Nat.reduceMul, Nat.reduceSub]))
    refine ixs_map j hlt rfl ?_
    rw [hmm]
    dsimp only [meetL, go_sem, Nat.reduceAdd, Nat.reduceMul, Nat.reduceSub]
    by_cases hday : md > last
    · refine br_t (by simpa using hday) ?_
      dsimp only [go_sem, Nat.reduceAdd, Nat.reduceMul, Nat.reduceSub]
      simp only [spreadF] at hr
      rw [if_pos hday] at hr
      rw [← hr, hss]
    refine br_f (by simpa using hday) ?_
    ((try dsimp only [go_sem, Nat.reduceAdd, Nat.reduceMul, Nat.reduceSub]); repeat (simp only [Nat.beq_refl]; try dsimp only [go_sem, Nat.reduceAdd, Nat.reduceMul, Nat.reduceSub]))
    refine ixa 0 rfl (by decide) ?_
    ((try dsimp only [go_sem, Nat.reduceAdd, Nat.reduceMul, Nat.reduceSub]); repeat (simp only [Nat.beq_refl]; try dsimp only [go_sem, Nat.reduceAdd, Nat.reduceMul, Nat.reduceSub]))
    refine ixrm pa rfl (by first | omega | (simp; omega)) ?_
    ((try dsimp only [go_sem, Nat.reduceAdd, Nat.reduceMul, Nat.reduceSub]); repeat (simp only [Nat.beq_refl]; try dsimp only [go_sem, Nat.reduceAdd, Nat.reduceMul, Nat.reduceSub]))
    refine ldrm (by first | omega | (simp; omega)) ?_
    ((try dsimp only [intL, go_sem, Nat.reduceAdd, Nat.reduceMul, Nat.reduceSub]); repeat (simp only [Nat.beq_refl]; try dsimp only [go_sem, Nat.reduceAdd, Nat.reduceMul, Nat.reduceSub]))
    refine ixs_map j hlt rfl ?_
    rw [hmm]
    dsimp only [meetL, go_sem, Nat.reduceAdd, Nat.reduceMul, Nat.reduceSub]
    have hgpa : gI s1 (pa : Int) = s1[pa] := gI_eq rfl (by omega)
    have hgpb : gI s1 (pb : Int) = s1[pb] := gI_eq rfl (by omega)
    by_cases hle : s1[pa] ≤ md
    · refine br_t (by simpa using hle) ?_
      ((try dsimp only [go_sem, Nat.reduceAdd, Nat.reduceMul, Nat.reduceSub]); repeat (simp only [Nat.beq_refl]; try dsimp only [go_sem, Nat.reduceAdd, Nat.reduceMul, Nat.reduceSub]))
      refine ixa 1 rfl (by decide) ?_
      ((try dsimp only [go_sem, Nat.reduceAdd, Nat.reduceMul, Nat.reduceSub]); repeat (simp only [Nat.beq_refl]; try dsimp only [go_sem, Nat.reduceAdd, Nat.reduceMul, Nat.reduceSub]))
      refine ixa 1 rfl (by decide) ?_
      ((try dsimp only [go_sem, Nat.reduceAdd, Nat.reduceMul, Nat.reduceSub]); repeat (simp only [Nat.beq_refl]; try dsimp only [go_sem, Nat.reduceAdd, Nat.reduceMul, Nat.reduceSub]))
      refine ixrm pb rfl (by first | omega | (simp; omega)) ?_
      ((try dsimp only [go_sem, Nat.reduceAdd, Nat.reduceMul, Nat.reduceSub]); repeat (simp only [Nat.beq_refl]; try dsimp only [go_sem, Nat.reduceAdd, Nat.reduceMul, Nat.reduceSub]))
      refine ldrm (by first | omega | (simp; omega)) ?_
      ((try dsimp only [intL, go_sem, Nat.reduceAdd, Nat.reduceMul, Nat.reduceSub]); repeat (simp only [Nat.beq_refl]; try dsimp only [go_sem, Nat.reduceAdd, Nat.reduceMul, Nat.reduceSub]))
      refine ixs_map j hlt rfl ?_
      rw [hmm]
      dsimp only [meetL, go_sem, Nat.reduceAdd, Nat.reduceMul, Nat.reduceSub]
      rw [w64_in (n := md + w) (by omega) (by omega)]
      refine ixrm pb rfl (by first | omega | (simp; omega)) ?_
      ((try dsimp only [go_sem, Nat.reduceAdd, Nat.reduceMul, Nat.reduceSub]); repeat (simp only [Nat.beq_refl]; try dsimp only [go_sem, Nat.reduceAdd, Nat.reduceMul, Nat.reduceSub]))
      refine strm (min s1[pb] (md + w)) (by first | omega | (simp; omega)) (by simp [intL]) (by simp [intL, splice]) ?_
      ((try dsimp only [go_sem, Nat.reduceAdd, Nat.reduceMul, Nat.reduceSub]); repeat (simp only [Nat.beq_refl]; try dsimp only [go_sem, Nat.reduceAdd, Nat.reduceMul, Nat.reduceSub]))
      refine ⟨(1, s1.set pb (min s1[pb] (md + w))), .inr (.inl ⟨rfl, hday, ?_⟩), by simp only; omega, ?_⟩
      · simp only
        rw [show inf1 w md pa pb s = inf1 w md pa pb s1 from by rw [hss]]
        unfold inf1
        rw [if_pos (by rw [hgpa]; exact hle), hgpb, Int.toNat_natCast]
      generalize s1.set pb (min s1[pb] (md + w)) = s2
      (refine ent_id ?_ ?_ ?_ rfl rfl <;> dsimp only [meetL, intL, w64_1, w64_2, id, go_sem, Nat.reduceAdd, Nat.reduceMul, Nat.reduceSub] <;> simp [meetL, intL, w64_1, w64_2, KFR_iff, KFR_app, KFR, KFL, KF, mtL_same, mtO, Nat.beq_refl])
    refine br_f (by simpa using hle) ?_
    ((try dsimp only [go_sem, Nat.reduceAdd, Nat.reduceMul, Nat.reduceSub]); repeat (simp only [Nat.beq_refl]; try dsimp only [go_sem, Nat.reduceAdd, Nat.reduceMul, Nat.reduceSub]))
    refine ⟨(1, s1), .inr (.inl ⟨rfl, hday, ?_⟩), by simp only; omega, ?_⟩
    · simp only
      rw [show inf1 w md pa pb s = inf1 w md pa pb s1 from by rw [hss]]
      unfold inf1
      rw [if_neg (by rw [hgpa]; exact hle)]
    (refine ent_id ?_ ?_ ?_ rfl rfl <;> dsimp only [meetL, intL, w64_1, w64_2, id, go_sem, Nat.reduceAdd, Nat.reduceMul, Nat.reduceSub] <;> simp [meetL, intL, w64_1, w64_2, KFR_iff, KFR_app, KFR, KFL, KF, mtL_same, mtO, Nat.beq_refl])
  · skip
    refine br_t (by decide) ?_
    dsimp only [go_sem, Nat.reduceAdd, Nat.reduceMul, Nat.reduceSub]
    refine ixa 1 rfl (by decide) ?_
    ((try dsimp only [go_sem, Nat.reduceAdd, Nat.reduceMul, Nat.reduceSub]); repeat (simp only [Nat.beq_refl]; try dsimp only [go_sem, Nat.reduceAdd, Nat.reduceMul, Nat.reduceSub]))
    refine ixs_map j hlt rfl ?_
    rw [hmm]
    dsimp only [meetL, go_sem, Nat.reduceAdd, Nat.reduceMul, Nat.reduceSub]
    refine br_f (by simpa using hday) ?_
    ((try dsimp only [go_sem, Nat.reduceAdd, Nat.reduceMul, Nat.reduceSub]); repeat (simp only [Nat.beq_refl]; try dsimp only [go_sem, Nat.reduceAdd, Nat.reduceMul, Nat.reduceSub]))
    refine ixa 0 rfl (by decide) ?_
    ((try dsimp only [go_sem, Nat.reduceAdd, Nat.reduceMul, Nat.reduceSub]); repeat (simp only [Nat.beq_refl]; try dsimp only [go_sem, Nat.reduceAdd, Nat.reduceMul, Nat.reduceSub]))
    refine ixrm pb rfl (by first | omega | (simp; omega)) ?_
    ((try dsimp only [go_sem, Nat.reduceAdd, Nat.reduceMul, Nat.reduceSub]); repeat (simp only [Nat.beq_refl]; try dsimp only [go_sem, Nat.reduceAdd, Nat.reduceMul, Nat.reduceSub]))
    refine ldrm (by first | omega | (simp; omega)) ?_
    ((try dsimp only [intL, go_sem, Nat.reduceAdd, Nat.reduceMul, Nat.reduceSub]); repeat (simp only [Nat.beq_refl]; try dsimp only [go_sem, Nat.reduceAdd, Nat.reduceMul, Nat.reduceSub]))
    refine ixs_map j hlt rfl ?_
    rw [hmm]
    dsimp only [meetL, go_sem, Nat.reduceAdd, Nat.reduceMul, Nat.reduceSub]
    have hgpb : gI s1 (pb : Int) = s1[pb] := gI_eq rfl (by omega)
    have hgpa : gI s1 (pa : Int) = s1[pa] := gI_eq rfl (by omega)
    by_cases hle : s1[pb] ≤ md
    · refine br_t (by simpa using hle) ?_
      ((try dsimp only [go_sem, Nat.reduceAdd, Nat.reduceMul, Nat.reduceSub]); repeat (simp only [Nat.beq_refl]; try dsimp only [go_sem, Nat.reduceAdd, Nat.reduceMul, Nat.reduceSub]))
      refine ixa 1 rfl (by decide) ?_
      ((try dsimp only [go_sem, Nat.reduceAdd, Nat.reduceMul, Nat.reduceSub]); repeat (simp only [Nat.beq_refl]; try dsimp only [go_sem, Nat.reduceAdd, Nat.reduceMul, Nat.reduceSub]))
      refine ixa 1 rfl (by decide) ?_
      ((try dsimp only [go_sem, Nat.reduceAdd, Nat.reduceMul, Nat.reduceSub]); repeat (simp only [Nat.beq_refl]; try dsimp only [go_sem, Nat.reduceAdd, Nat.reduceMul, Nat.reduceSub]))
      refine ixrm pa rfl (by first | omega | (simp; omega)) ?_
      ((try dsimp only [go_sem, Nat.reduceAdd, Nat.reduceMul, Nat.reduceSub]); repeat (simp only [Nat.beq_refl]; try dsimp only [go_sem, Nat.reduceAdd, Nat.reduceMul, Nat.reduceSub]))
      refine ldrm (by first | omega | (simp; omega)) ?_
      ((try dsimp only [intL, go_sem, Nat.reduceAdd, Nat.reduceMul, Nat.reduceSub]); repeat (simp only [Nat.beq_refl]; try dsimp only [go_sem, Nat.reduceAdd, Nat.reduceMul, Nat.reduceSub]))
      refine ixs_map j hlt rfl ?_
      rw [hmm]
      dsimp only [meetL, go_sem, Nat.reduceAdd, Nat.reduceMul, Nat.reduceSub]
      rw [w64_in (n := md + w) (by omega) (by omega)]
      refine ixrm pa rfl (by first | omega | (simp; omega)) ?_
      ((try dsimp only [go_sem, Nat.reduceAdd, Nat.reduceMul, Nat.reduceSub]); repeat (simp only [Nat.beq_refl]; try dsimp only [go_sem, Nat.reduceAdd, Nat.reduceMul, Nat.reduceSub]))
      refine strm (min s1[pa] (md + w)) (by first | omega | (simp; omega)) (by simp [intL]) (by simp [intL, splice]) ?_
      ((try dsimp only [go_sem, Nat.reduceAdd, Nat.reduceMul, Nat.reduceSub]); repeat (simp only [Nat.beq_refl]; try dsimp only [go_sem, Nat.reduceAdd, Nat.reduceMul, Nat.reduceSub]))
      refine ⟨(2, s1.set pa (min s1[pa] (md + w))), .inr (.inr ⟨rfl, hday, ?_⟩), by simp only; omega, ?_⟩
      · simp only
        rw [show inf1 w md pb pa (inf1 w md pa pb s) = inf1 w md pb pa s1 from by rw [hss]]
        unfold inf1
        rw [if_pos (by rw [hgpb]; exact hle), hgpa, Int.toNat_natCast]
      generalize s1.set pa (min s1[pa] (md + w)) = s2
      (refine ent_id ?_ ?_ ?_ rfl rfl <;> dsimp only [meetL, intL, w64_1, w64_2, id, go_sem, Nat.reduceAdd, Nat.reduceMul, Nat.reduceSub] <;> simp [meetL, intL, w64_1, w64_2, KFR_iff, KFR_app, KFR, KFL, KF, mtL_same, mtO, Nat.beq_refl])
    refine br_f (by simpa using hle) ?_
    ((try dsimp only [go_sem, Nat.reduceAdd, Nat.reduceMul, Nat.reduceSub]); repeat (simp only [Nat.beq_refl]; try dsimp only [go_sem, Nat.reduceAdd, Nat.reduceMul, Nat.reduceSub]))
    refine ⟨(2, s1), .inr (.inr ⟨rfl, hday, ?_⟩), by simp only; omega, ?_⟩
    · simp only
      rw [show inf1 w md pb pa (inf1 w md pa pb s) = inf1 w md pb pa s1 from by rw [hss]]
      unfold inf1
      rw [if_neg (by rw [hgpb]; exact hle)]
    (refine ent_id ?_ ?_ ?_ rfl rfl <;> dsimp only [meetL, intL, w64_1, w64_2, id, go_sem, Nat.reduceAdd, Nat.reduceMul, Nat.reduceSub] <;> simp [meetL, intL, w64_1, w64_2, KFR_iff, KFR_app, KFR, KFL, KF, mtL_same, mtO, Nat.beq_refl])
  · refine br_f (by decide) ?_
    dsimp only [go_sem, Nat.reduceAdd, Nat.reduceMul, Nat.reduceSub]
    rw [w64_in (n := (j : Int) + 1) (by omega) (by omega)]
    refine ⟨(j + 1, s1), ⟨hlt, hs1, ?_⟩, by simp only; omega, ?_⟩
    · simp only [spreadF, meetS] at hr
      rw [if_neg hday] at hr
      show spreadF w last (List.drop (j + 1) meets) s1 = _
      rw [hss]; exact hr
    (refine ent_id ?_ ?_ ?_ rfl rfl <;> dsimp only [meetL, intL, id, go_sem, Nat.reduceAdd, Nat.reduceMul, Nat.reduceSub] <;> simp [meetL, intL, KFR_iff, KFR_app, KFR, KFL, KF, mtL_same, mtO, Nat.beq_refl])
end Go.Proofs.Ytnlfjchbhgikaaa
namespace Go.Azalai
inductive Inf (first : List Int) (M : Meet → Prop) (w : Int) : Int → Int → Prop
  | base {i : Int} : i ∈ first → Inf first M w i 0
  | l {m : Meet} {t : Int} : M m → Inf first M w m.a t → t ≤ m.day → Inf first M w m.b (m.day + w)
  | r {m : Meet} {t : Int} : M m → Inf first M w m.b t → t ≤ m.day → Inf first M w m.a (m.day + w)
def Sick (first : List Int) (M : Meet → Prop) (w i day : Int) : Prop := ∃ t, t ≤ day ∧ Inf first M w i t
theorem Inf.mono {first : List Int} {M M' : Meet → Prop} {w i t : Int} (h : ∀ m, M m → M' m) (hi : Inf first M w i t) : Inf first M' w i t := by
  induction hi with
  | base hb => exact .base hb
  | l hm _ ht ih => exact .l (h _ hm) ih ht
  | r hm _ ht ih => exact .r (h _ hm) ih ht
theorem Inf.rng {n : Int} {first : List Int} {M : Meet → Prop} {w i t : Int} (hf : ∀ i ∈ first, 0 ≤ i ∧ i < n) (hm : ∀ m, M m → okM n m) (hi : Inf first M w i t) : 0 ≤ i ∧ i < n := by
  cases hi with
  | base hb => exact hf _ hb
  | l h _ _ => exact (hm _ h).2.1
  | r h _ _ => exact (hm _ h).1
theorem Inf.earlier {first : List Int} {M M' : Meet → Prop} {w w' i t : Int} (h : ∀ m, M m → M' m) (hw : w' ≤ w) (hi : Inf first M w i t) : ∃ t', t' ≤ t ∧ Inf first M' w' i t' := by
  induction hi with
  | base hb => exact ⟨0, Int.le_refl _, .base hb⟩
  | l hm _ ht ih => obtain ⟨t', h1, h2⟩ := ih; exact ⟨_, by omega, .l (h _ hm) h2 (by omega)⟩
  | r hm _ ht ih => obtain ⟨t', h1, h2⟩ := ih; exact ⟨_, by omega, .r (h _ hm) h2 (by omega)⟩
theorem gI_set {s : List Int} {b i x : Int} (hb : 0 ≤ b) (hbl : b < s.length) (hi : 0 ≤ i) : gI (s.set b.toNat x) i = if i = b then x else gI s i := by
  unfold gI
  rw [List.getD_eq_getElem?_getD, List.getD_eq_getElem?_getD]
  by_cases h : i = b
  · subst h; rw [if_pos rfl, List.getElem?_set_self (by omega)]; rfl
  · rw [if_neg h, List.getElem?_set_ne (by omega)]
theorem inf1_le {w d a b i : Int} {s : List Int} (hb : 0 ≤ b) (hbl : b < s.length) (hi : 0 ≤ i) : gI (inf1 w d a b s) i ≤ gI s i := by
  unfold inf1
  split
  · rw [gI_set hb hbl hi]; split
    · rename_i h; subst h; omega
    · exact Int.le_refl _
  · exact Int.le_refl _
theorem inf1_new {w d a b : Int} {s : List Int} (hb : 0 ≤ b) (hbl : b < s.length) (ha : gI s a ≤ d) : gI (inf1 w d a b s) b ≤ d + w := by
  unfold inf1
  rw [if_pos ha, gI_set hb hbl hb, if_pos rfl]; omega
theorem meetS_len (w : Int) (m : Meet) (s : List Int) : (meetS w m s).length = s.length := by unfold meetS; rw [inf1_len, inf1_len]
/-- one more meeting, not before the others -/
theorem inf_add {first : List Int} {P : Meet → Prop} {w : Int} {m : Meet} (hw : 1 ≤ w) (hd : ∀ p, P p → p.day ≤ m.day) {i t : Int} (hi : Inf first (fun x => P x ∨ x = m) w i t) :
    Inf first P w i t ∨ (i = m.b ∧ t = m.day + w ∧ ∃ t', Inf first P w m.a t' ∧ t' ≤ m.day) ∨ (i = m.a ∧ t = m.day + w ∧ ∃ t', Inf first P w m.b t' ∧ t' ≤ m.day) := by
  induction hi with
  | base hb => exact .inl (.base hb)
  | l hm hp ht ih =>
    rename_i m' t'
    have hle : m'.day ≤ m.day := by
      rcases hm with h | h
      · exact hd _ h
      · rw [h]; exact Int.le_refl _
    rcases ih with h | ⟨_, h, _⟩ | ⟨_, h, _⟩
    · rcases hm with hm | hm
      · exact .inl (.l hm h ht)
      · subst hm; exact .inr (.inl ⟨rfl, rfl, t', h, ht⟩)
    · omega
    · omega
  | r hm hp ht ih =>
    rename_i m' t'
    have hle : m'.day ≤ m.day := by
      rcases hm with h | h
      · exact hd _ h
      · rw [h]; exact Int.le_refl _
    rcases ih with h | ⟨_, h, _⟩ | ⟨_, h, _⟩
    · rcases hm with hm | hm
      · exact .inl (.r hm h ht)
      · subst hm; exact .inr (.inr ⟨rfl, rfl, t', h, ht⟩)
    · omega
    · omega
/-- what is before a day hangs on the meetings before it alone -/
theorem inf_cut {first : List Int} {Q P : Meet → Prop} {w last : Int} (hw : 1 ≤ w) (h : ∀ m, Q m → m.day ≤ last → P m) {i t : Int} (hi : Inf first Q w i t) (ht : t ≤ last) : Inf first P w i t := by
  induction hi with
  | base hb => exact .base hb
  | l hm hp htt ih => exact .l (h _ hm (by omega)) (ih (by omega)) htt
  | r hm hp htt ih => exact .r (h _ hm (by omega)) (ih (by omega)) htt
theorem spread_le {n : Int} {first : List Int} {w last : Int} (hw : 1 ≤ w) (hf : ∀ i ∈ first, 0 ≤ i ∧ i < n) : ∀ (l : List Meet) (P : Meet → Prop) (s : List Int), s.length = n → (∀ m ∈ l, okM n m) → (∀ m, P m → okM n m) → l.Pairwise (fun x y => x.day ≤ y.day) → (∀ p, P p → ∀ m ∈ l, p.day ≤ m.day) →
    (∀ i t, Inf first P w i t → gI s i ≤ t) → ∀ i t, Inf first (fun m => P m ∨ m ∈ l) w i t → t ≤ last → gI (spreadF w last l s) i ≤ t
  | [], P, s, hs, hm, hP, hso, hd, hA, i, t, hi, ht => hA i t (hi.mono fun m h => by simpa using h)
  | m :: l, P, s, hs, hm, hP, hso, hd, hA, i, t, hi, ht => by
    have hso' := List.pairwise_cons.1 hso
    unfold spreadF
    by_cases hlast : m.day > last
    · rw [if_pos hlast]
      refine hA i t (inf_cut hw (fun q hq hql => ?_) hi ht)
      rcases hq with hq | hq
      · exact hq
      · rcases List.mem_cons.1 hq with rfl | hq
        · omega
        · have := hso'.1 q hq; omega
    · rw [if_neg hlast]
      have hmo := hm m (by simp)
      refine spread_le hw hf l (fun x => P x ∨ x = m) (meetS w m s) (by rw [meetS_len]; exact hs) (fun x hx => hm x (by simp [hx])) (fun x hx => by rcases hx with h | h; exact hP x h; rw [h]; exact hmo) hso'.2 (fun p hp x hx => ?_) (fun j t' hj => ?_) i t (hi.mono fun x hx => ?_) ht
      · rcases hp with hp | rfl
        · exact hd p hp x (by simp [hx])
        · exact hso'.1 x hx
      · have hr := hj.rng hf (fun x hx => by rcases hx with h | h; exact hP x h; rw [h]; exact hmo)
        obtain ⟨⟨a0, a1⟩, ⟨b0, b1⟩, _, _, _⟩ := hmo
        have l1 : (inf1 w m.day m.a m.b s).length = n := by rw [inf1_len]; exact hs
        have q1 := inf1_le (w := w) (d := m.day) (a := m.b) (b := m.a) (i := j) (s := inf1 w m.day m.a m.b s) a0 (by omega) hr.1
        have q2 := inf1_le (w := w) (d := m.day) (a := m.a) (b := m.b) (i := j) (s := s) b0 (by omega) hr.1
        rcases inf_add hw (fun p hp => hd p hp m (by simp)) hj with h | ⟨rfl, rfl, t1, h1, h2⟩ | ⟨rfl, rfl, t1, h1, h2⟩
        · have := hA j t' h; unfold meetS; omega
        · have h3 := hA _ _ h1
          have := inf1_new (w := w) (d := m.day) (a := m.a) (b := m.b) (s := s) b0 (by omega) (by omega)
          unfold meetS; omega
        · have h3 := hA _ _ h1
          have q3 := inf1_le (w := w) (d := m.day) (a := m.a) (b := m.b) (i := m.b) (s := s) b0 (by omega) b0
          exact inf1_new (w := w) (d := m.day) (a := m.b) (b := m.a) (s := inf1 w m.day m.a m.b s) a0 (by omega) (by omega)
      · rcases hx with hx | hx
        · exact .inl (.inl hx)
        · rcases List.mem_cons.1 hx with h | h
          · exact .inl (.inr h)
          · exact .inr h
theorem inf1_ok {n : Int} {first : List Int} {Q : Meet → Prop} {w W : Int} {s : List Int} {a b d : Int} (hs : s.length = n) (hb0 : 0 ≤ b) (hb1 : b < n) (ha0 : 0 ≤ a) (ha1 : a < n) (hd : d < W) (hB : ∀ i, 0 ≤ i → i < n → gI s i = W ∨ Inf first Q w i (gI s i)) (hQ : ∀ t, Inf first Q w a t → t ≤ d → Inf first Q w b (d + w)) :
    ∀ i, 0 ≤ i → i < n → gI (inf1 w d a b s) i = W ∨ Inf first Q w i (gI (inf1 w d a b s) i) := fun i h0 h1 => by
  unfold inf1
  by_cases ha : gI s a ≤ d
  · rw [if_pos ha, gI_set hb0 (by omega) h0]
    by_cases hib : i = b
    · subst hib
      rw [if_pos rfl]
      rcases Int.le_total (gI s i) (d + w) with h | h
      · rw [Int.min_eq_left h]; exact hB i h0 h1
      · rw [Int.min_eq_right h]
        rcases hB a ha0 ha1 with h2 | h2
        · omega
        · exact .inr (hQ _ h2 ha)
    · rw [if_neg hib]; exact hB i h0 h1
  · rw [if_neg ha]; exact hB i h0 h1
theorem spread_inf {n : Int} {first : List Int} {Q : Meet → Prop} {w last W : Int} (hW : 100000 < W) : ∀ (l : List Meet) (s : List Int), s.length = n → (∀ m ∈ l, okM n m ∧ Q m) → (∀ i, 0 ≤ i → i < n → gI s i = W ∨ Inf first Q w i (gI s i)) →
    ∀ i, 0 ≤ i → i < n → gI (spreadF w last l s) i = W ∨ Inf first Q w i (gI (spreadF w last l s) i)
  | [], s, hs, hm, hB => hB
  | m :: l, s, hs, hm, hB => by
    unfold spreadF
    split
    · exact hB
    · obtain ⟨⟨⟨a0, a1⟩, ⟨b0, b1⟩, _, d0, d1⟩, hQ⟩ := hm m (by simp)
      refine spread_inf hW l (meetS w m s) (by rw [meetS_len]; exact hs) (fun x hx => hm x (by simp [hx])) ?_
      unfold meetS
      refine inf1_ok (by rw [inf1_len]; exact hs) a0 a1 b0 b1 (by omega) (inf1_ok hs b0 b1 a0 a1 (by omega) hB (fun t h1 h2 => .l hQ h1 h2)) (fun t h1 h2 => .r hQ h1 h2)
theorem baseF_len : ∀ (l s : List Int), (baseF l s).length = s.length
  | [], s => rfl
  | i :: l, s => by rw [baseF, baseF_len l]; simp
theorem spreadF_len (w last : Int) : ∀ (l : List Meet) (s : List Int), (spreadF w last l s).length = s.length
  | [], s => rfl
  | m :: l, s => by unfold spreadF; split; rfl; rw [spreadF_len w last l, meetS_len]
theorem baseF_gI {n : Int} : ∀ (l s : List Int), s.length = n → (∀ i ∈ l, 0 ≤ i ∧ i < n) → ∀ i, 0 ≤ i → gI (baseF l s) i = if i ∈ l then 0 else gI s i
  | [], s, hs, hl, i, hi => by simp [baseF]
  | j :: l, s, hs, hl, i, hi => by
    have hj := hl j (by simp)
    rw [baseF, baseF_gI l _ (by simpa using hs) (fun i h => hl i (by simp [h])) i hi, gI_set hj.1 (by omega) hi]
    by_cases h1 : i ∈ l
    · simp [h1]
    · by_cases h2 : i = j
      · simp [h2]
      · simp [h1, h2]
theorem gI_rep {n : Nat} {x i : Int} (h0 : 0 ≤ i) (h1 : i < n) : gI (List.replicate n x) i = x := by
  unfold gI; rw [List.getD_eq_getElem?_getD, List.getElem?_replicate, if_pos (by omega)]; rfl
/-- what the spreading says, of meetings in order of their days -/
theorem spread_sick {n : Nat} {first : List Int} {l : List Meet} {w day : Int} (hw : 1 ≤ w) (hday : day ≤ 100000) (hf : ∀ i ∈ first, 0 ≤ i ∧ i < (n : Int)) (hm : ∀ m ∈ l, okM n m) (hso : l.Pairwise (fun x y => x.day ≤ y.day)) {i : Int} (h0 : 0 ≤ i) (h1 : i < n) :
    gI (spreadF w day l (baseF first (List.replicate n 100061))) i ≤ day ↔ Sick first (· ∈ l) w i day := by
  have hlen : ((baseF first (List.replicate n (100061 : Int))).length : Int) = n := by rw [baseF_len]; simp
  have hb := baseF_gI (n := n) first (List.replicate n 100061) (by simp) hf
  constructor
  · intro h
    have := spread_inf (n := n) (first := first) (Q := (· ∈ l)) (w := w) (last := day) (W := 100061) (by omega) l _ hlen (fun m h => ⟨hm m h, h⟩) (fun j g0 g1 => by
      rw [hb j g0]
      split
      · rename_i h; exact .inr (.base h)
      · exact .inl (gI_rep g0 g1)) i h0 h1
    rcases this with h2 | h2
    · omega
    · exact ⟨_, h, h2⟩
  · rintro ⟨t, ht, hi⟩
    refine Int.le_trans (spread_le (n := n) hw hf l (fun _ => False) _ hlen hm (fun _ h => h.elim) hso (fun _ h => h.elim) (fun j t' hj => ?_) i t (hi.mono fun m h => .inr h) ht) ht
    cases hj with
    | base hj => rw [hb j (hf j hj).1, if_pos hj]; exact Int.le_refl _
    | l h _ _ => exact h.elim
    | r h _ _ => exact h.elim
end Go.Azalai
set_option maxRecDepth 100000
set_option maxHeartbeats 4000000
namespace Go.Azalai
def sumN : List Int → Nat
  | [] => 0
  | x :: l => x.toNat + sumN l
theorem sumN_set : ∀ (s : List Int) (k : Nat) (x : Int) (h : k < s.length), sumN (s.set k x) + s[k].toNat = sumN s + x.toNat
  | y :: l, 0, x, h => by simp [sumN]; omega
  | y :: l, k + 1, x, h => by
    have := sumN_set l k x (by simpa using h)
    simp only [List.set_cons_succ, sumN, List.getElem_cons_succ]; omega
def never : Int := 1099511627776
/-- relaxing: nothing new, or less -/
theorem inf1_dec {w d a b : Int} {s : List Int} (h0 : 0 ≤ d + w) (hb0 : 0 ≤ b) (hb1 : b < s.length) : inf1 w d a b s = s ∨ sumN (inf1 w d a b s) < sumN s := by
  unfold inf1
  split
  · obtain ⟨k, rfl⟩ : ∃ k : Nat, b = k := ⟨b.toNat, by omega⟩
    have hk : k < s.length := by omega
    rw [gI_eq rfl hk, Int.toNat_natCast]
    rcases Int.lt_or_le (d + w) s[k] with h | h
    · right
      have := sumN_set s k (min s[k] (d + w)) hk
      rw [Int.min_eq_right (by omega)] at this ⊢
      omega
    · left; rw [Int.min_eq_left h]; exact List.set_getElem_self hk
  · exact .inl rfl
def act (close : Bool) (meets : List Meet) (m : Meet) : Prop := m ∈ meets ∧ (close = true → m.close = true)
structure Sk (n : Nat) (first : List Int) (M : Meet → Prop) (w : Int) (s : List Int) : Prop where
  len : s.length = n
  inf : ∀ i : Int, 0 ≤ i → i < n → gI s i = never ∨ Inf first M w i (gI s i)
  fst : ∀ i ∈ first, gI s i ≤ 0
  up : ∀ i : Int, 0 ≤ i → i < n → gI s i ≤ never
theorem Sk.step {n : Nat} {first : List Int} {M : Meet → Prop} {w : Int} {s : List Int} (h : Sk n first M w s) (hf : ∀ i ∈ first, 0 ≤ i ∧ i < (n : Int)) {a b d : Int} (ha : 0 ≤ a ∧ a < n) (hb : 0 ≤ b ∧ b < n) (hd : d ≤ 100000) (hM : ∀ t, Inf first M w a t → t ≤ d → Inf first M w b (d + w)) : Sk n first M w (inf1 w d a b s) := by
  have hl := h.len
  refine ⟨by rw [inf1_len]; exact hl, inf1_ok (W := never) (n := n) (by rw [hl]) hb.1 hb.2 ha.1 ha.2 (by unfold never; omega) h.inf hM, fun i hi => ?_, fun i h0 h1 => ?_⟩
  · exact Int.le_trans (inf1_le hb.1 (by omega) (hf i hi).1) (h.fst i hi)
  · exact Int.le_trans (inf1_le hb.1 (by omega) h0) (h.up i h0 h1)
/-- nothing more to relax: the least days -/
structure Least (n : Nat) (first : List Int) (M : Meet → Prop) (w : Int) (s : List Int) : Prop extends Sk n first M w s where
  le : ∀ i t, Inf first M w i t → gI s i ≤ t
theorem Sk.least {n : Nat} {first : List Int} {M : Meet → Prop} {w : Int} {s : List Int} (h : Sk n first M w s) (hm : ∀ m, M m → okM n m) (hs : ∀ m, M m → inf1 w m.day m.a m.b s = s ∧ inf1 w m.day m.b m.a s = s) : Least n first M w s := by
  refine ⟨h, fun i t hi => ?_⟩
  have hl := h.len
  induction hi with
  | base hb => exact h.fst _ hb
  | l hM _ ht ih =>
    have := inf1_new (w := w) (hm _ hM).2.1.1 (by have := (hm _ hM).2.1.2; omega) (Int.le_trans ih ht)
    rwa [(hs _ hM).1] at this
  | r hM _ ht ih =>
    have := inf1_new (w := w) (hm _ hM).1.1 (by have := (hm _ hM).1.2; omega) (Int.le_trans ih ht)
    rwa [(hs _ hM).2] at this
theorem Least.unique {n : Nat} {first : List Int} {M : Meet → Prop} {w : Int} {s s' : List Int} (h : Least n first M w s) (h' : Least n first M w s') : s = s' := by
  have e : ∀ i : Int, 0 ≤ i → i < n → gI s i = gI s' i := fun i h0 h1 => by
    have q1 := h.up i h0 h1
    have q2 := h'.up i h0 h1
    rcases h.inf i h0 h1 with g | g <;> rcases h'.inf i h0 h1 with g' | g'
    · rw [g, g']
    · have := h.le _ _ g'; omega
    · have := h'.le _ _ g; omega
    · have := h.le _ _ g'; have := h'.le _ _ g; omega
  apply List.ext_getElem (by rw [h.len, h'.len])
  intro k k1 k2
  have := e k (by omega) (by rw [← h.len]; omega)
  rwa [gI_eq rfl k1, gI_eq rfl k2] at this
open Classical in
noncomputable def sickF (n : Nat) (first : List Int) (M : Meet → Prop) (w : Int) : List Int := if h : ∃ s, Least n first M w s then Classical.choose h else []
theorem Least.sickF {n : Nat} {first : List Int} {M : Meet → Prop} {w : Int} {s : List Int} (h : Least n first M w s) : sickF n first M w = s := by
  have : ∃ s, Least n first M w s := ⟨s, h⟩
  unfold Go.Azalai.sickF
  rw [dif_pos this]
  exact (Classical.choose_spec this).unique h
theorem Least.sick {n : Nat} {first : List Int} {M : Meet → Prop} {w : Int} {s : List Int} (h : Least n first M w s) {i day : Int} (hd : day ≤ 100000) (h0 : 0 ≤ i) (h1 : i < n) : gI s i ≤ day ↔ Sick first M w i day := by
  constructor
  · intro hs
    rcases h.inf i h0 h1 with g | g
    · unfold never at g; omega
    · exact ⟨_, hs, g⟩
  · rintro ⟨t, ht, hi⟩
    exact Int.le_trans (h.le i t hi) ht
end Go.Azalai
set_option maxRecDepth 100000
set_option maxHeartbeats 4000000
namespace Go.Proofs.Ytnlfjchbhgikaaa
open Go Go.Sx Go.Azalai
end Go.Proofs.Ytnlfjchbhgikaaa
set_option maxRecDepth 100000
set_option maxHeartbeats 4000000
namespace Go.Azalai
def meetsE (n : Int) (first : List Int) (meets : List Meet) (wait : Span) (day : Int) : Int :=
  if !(inR 1 30 n && okSp 1 60 wait && inR 0 100000 day) then 2 else if first.length > 30 ∨ meets.length > 200 then 4 else if !(first.all (inR 0 (n - 1))) || meets.any (oddM n) then 14 else 0
end Go.Azalai
namespace Go.Proofs.Ytnlfjchbhgikaaa
open Go Go.Sx Go.Azalai
end Go.Proofs.Ytnlfjchbhgikaaa
set_option maxRecDepth 100000
set_option maxHeartbeats 4000000
namespace Go.Azalai
def knF (day x y : Int) : Int := if day < x then 0 else if y ≤ day then 2 else 1
noncomputable def mangeK (n : Int) (first : List Int) (meets : List Meet) (wait : Span) (day : Int) : List Int :=
  (List.range n.toNat).map fun i : Nat => knF day (gI (sickF n.toNat first (act false meets) wait.lo) (i : Nat)) (gI (sickF n.toNat first (act true meets) wait.hi) (i : Nat))
theorem least_go {n : Nat} {first : List Int} {M : Meet → Prop} {w : Int} (hf : ∀ i ∈ first, 0 ≤ i ∧ i < (n : Int)) (hm : ∀ m, M m → okM n m) (hw : 0 ≤ w) : ∀ (N : Nat) (s : List Int), sumN s ≤ N → Sk n first M w s → ∃ s, Least n first M w s := fun N => by
  induction N with
  | zero =>
    intro s hN hs
    refine ⟨s, hs.least hm fun m hM => ?_⟩
    obtain ⟨⟨a0, a1⟩, ⟨b0, b1⟩, _, d0, d1⟩ := hm m hM
    have hl := hs.len
    refine ⟨?_, ?_⟩
    · rcases inf1_dec (w := w) (d := m.day) (a := m.a) (b := m.b) (s := s) (by omega) b0 (by omega) with h | h
      · exact h
      · omega
    · rcases inf1_dec (w := w) (d := m.day) (a := m.b) (b := m.a) (s := s) (by omega) a0 (by omega) with h | h
      · exact h
      · omega
  | succ N ih =>
    intro s hN hs
    by_cases hall : ∀ m, M m → inf1 w m.day m.a m.b s = s ∧ inf1 w m.day m.b m.a s = s
    · exact ⟨s, hs.least hm hall⟩
    · have ⟨m, hq⟩ := Classical.not_forall.1 hall
      have ⟨hM, hne⟩ := Classical.not_imp.1 hq
      obtain ⟨⟨a0, a1⟩, ⟨b0, b1⟩, _, d0, d1⟩ := hm m hM
      have hl := hs.len
      by_cases e1 : inf1 w m.day m.a m.b s = s
      · have e2 : inf1 w m.day m.b m.a s ≠ s := fun e2 => hne ⟨e1, e2⟩
        rcases inf1_dec (w := w) (d := m.day) (a := m.b) (b := m.a) (s := s) (by omega) a0 (by omega) with h | h
        · exact absurd h e2
        · exact ih _ (by omega) (hs.step hf ⟨b0, b1⟩ ⟨a0, a1⟩ d1 (fun t g1 g2 => .r hM g1 g2))
      · rcases inf1_dec (w := w) (d := m.day) (a := m.a) (b := m.b) (s := s) (by omega) b0 (by omega) with h | h
        · exact absurd h e1
        · exact ih _ (by omega) (hs.step hf ⟨a0, a1⟩ ⟨b0, b1⟩ d1 (fun t g1 g2 => .l hM g1 g2))
theorem least_ex {n : Nat} {first : List Int} {M : Meet → Prop} {w : Int} (hf : ∀ i ∈ first, 0 ≤ i ∧ i < (n : Int)) (hm : ∀ m, M m → okM n m) (hw : 0 ≤ w) : ∃ s, Least n first M w s := by
  refine least_go hf hm hw _ (baseF first (List.replicate n never)) (Nat.le_refl _) ?_
  have hb := baseF_gI (n := n) first (List.replicate n never) (by simp) hf
  refine ⟨by rw [baseF_len]; simp, fun i h0 h1 => ?_, fun i hi => ?_, fun i h0 h1 => ?_⟩
  · rw [hb i h0]
    split
    · rename_i h; exact .inr (.base h)
    · exact .inl (gI_rep h0 h1)
  · rw [hb i (hf i hi).1, if_pos hi]; exact Int.le_refl _
  · rw [hb i h0]
    split
    · unfold never; omega
    · rw [gI_rep h0 h1]; exact Int.le_refl _
theorem meetsE_0 {n : Int} {first : List Int} {meets : List Meet} {wait : Span} {day : Int} (h : meetsE n first meets wait day = 0) : (1 ≤ n ∧ n ≤ 30) ∧ (1 ≤ wait.lo ∧ wait.lo ≤ wait.hi ∧ wait.hi ≤ 60) ∧ (0 ≤ day ∧ day ≤ 100000) ∧ first.length ≤ 30 ∧ meets.length ≤ 200 ∧ (∀ i ∈ first, 0 ≤ i ∧ i < n) ∧ ∀ m ∈ meets, okM n m := by
  unfold meetsE at h
  split at h
  · cases h
  rename_i h1
  split at h
  · cases h
  rename_i h2
  split at h
  · cases h
  rename_i h3
  simp only [Bool.not_eq_true', Bool.not_eq_false, Bool.and_eq_true, inR, okSp, decide_eq_true_eq, Bool.or_eq_true, not_or, Bool.not_eq_true] at h1 h3
  refine ⟨h1.1.1, h1.1.2, h1.2, by omega, by omega, fun i hi => ?_, fun m hm => ?_⟩
  · have := List.all_eq_true.1 h3.1 i hi
    simp only [inR, decide_eq_true_eq] at this
    omega
  · have := List.any_eq_false.1 h3.2 m hm
    unfold oddM inR at this
    simp only [Bool.or_eq_true, Bool.not_eq_true', Bool.and_eq_false_iff, decide_eq_false_iff_not, decide_eq_true_eq, not_or] at this
    unfold okM
    omega
end Go.Azalai
namespace Go.Proofs.Ytnlfjchbhgikaaa
open Go Go.Sx Go.Azalai
def u8L (n : Int) : List SV := [U8 n]
def rowsK (e : Int) (l : List Int) : SV := if e = 0 then .sl false 1 (l.map u8L) else .v (.slice none 0 0)
end Go.Proofs.Ytnlfjchbhgikaaa
set_option maxRecDepth 100000
set_option maxHeartbeats 4000000
namespace Go.Azalai
theorem pairwise_of_srt {l : List Meet} (h : Srt Meet.day 0 l.length l) : l.Pairwise (fun x y => x.day ≤ y.day) := by
  rw [List.pairwise_iff_getElem]
  intro i j hi hj hij
  have := h i j (Nat.zero_le _) hij hj
  rwa [ky_eq Meet.day hi, ky_eq Meet.day hj] at this
/-- what the code knows is what is known -/
theorem mange_eq {n : Nat} {first : List Int} {meets l : List Meet} {wait : Span} {day : Int} (hw : 1 ≤ wait.lo ∧ wait.lo ≤ wait.hi) (hd : 0 ≤ day ∧ day ≤ 100000) (hf : ∀ i ∈ first, 0 ≤ i ∧ i < (n : Int)) (hm : ∀ m ∈ meets, okM n m)
    (hp : l.Perm meets) (hs : l.Pairwise (fun x y => x.day ≤ y.day)) (hl : ∃ s, Least n first (act false meets) wait.lo s) (hl2 : ∃ s, Least n first (act true meets) wait.hi s) {i : Nat} (hi : i < n) :
    (if gI (spreadF wait.hi day (l.filter (·.close)) (baseF first (List.replicate n 100061))) i ≤ day then 2 else if gI (spreadF wait.lo day l (baseF first (List.replicate n 100061))) i ≤ day then 1 else 0) = knF day (gI (sickF n first (act false meets) wait.lo) i) (gI (sickF n first (act true meets) wait.hi) i) := by
  obtain ⟨s1, h1⟩ := hl
  obtain ⟨s2, h2⟩ := hl2
  rw [h1.sickF, h2.sickF]
  have hml : ∀ m ∈ l, okM n m := fun m h => hm m (hp.mem_iff.1 h)
  have e1 := spread_sick (n := n) (first := first) (l := l) (w := wait.lo) (day := day) hw.1 hd.2 hf hml hs (i := (i : Int)) (by omega) (by omega)
  have e2 := spread_sick (n := n) (first := first) (l := l.filter (·.close)) (w := wait.hi) (day := day) (by omega) hd.2 hf (fun m h => hml m (List.mem_filter.1 h).1) (hs.filter _) (i := (i : Int)) (by omega) (by omega)
  have g1 := h1.sick (day := day) hd.2 (i := (i : Int)) (by omega) (by omega)
  have g2 := h2.sick (day := day) hd.2 (i := (i : Int)) (by omega) (by omega)
  have c1 : Sick first (· ∈ l) wait.lo i day ↔ Sick first (act false meets) wait.lo i day :=
    ⟨fun ⟨t, ht, h⟩ => ⟨t, ht, h.mono fun m hm => ⟨hp.mem_iff.1 hm, fun h => by cases h⟩⟩, fun ⟨t, ht, h⟩ => ⟨t, ht, h.mono fun m hm => hp.mem_iff.2 hm.1⟩⟩
  have c2 : Sick first (· ∈ l.filter (·.close)) wait.hi i day ↔ Sick first (act true meets) wait.hi i day :=
    ⟨fun ⟨t, ht, h⟩ => ⟨t, ht, h.mono fun m hm => ⟨hp.mem_iff.1 (List.mem_filter.1 hm).1, fun _ => (List.mem_filter.1 hm).2⟩⟩, fun ⟨t, ht, h⟩ => ⟨t, ht, h.mono fun m hm => List.mem_filter.2 ⟨hp.mem_iff.2 hm.1, hm.2 rfl⟩⟩⟩
  have c3 : Sick first (act true meets) wait.hi i day → Sick first (act false meets) wait.lo i day := fun ⟨t, ht, h⟩ => by
    obtain ⟨t', q1, q2⟩ := h.earlier (M' := act false meets) (w' := wait.lo) (fun m hm => ⟨hm.1, fun h => by cases h⟩) hw.2
    exact ⟨t', by omega, q2⟩
  rw [c1, ← g1] at e1
  rw [c2, ← g2] at e2
  rw [← g1, ← g2] at c3
  unfold knF
  by_cases q2 : gI s2 (i : Int) ≤ day
  · have := c3 q2
    rw [if_pos (e2.2 q2), if_neg (by omega), if_pos q2]
  · rw [if_neg (fun h => q2 (e2.1 h))]
    by_cases q1 : gI s1 (i : Int) ≤ day
    · rw [if_pos (e1.2 q1), if_neg (by omega), if_neg q2]
    · rw [if_neg (fun h => q1 (e1.1 h)), if_pos (by omega)]
end Go.Azalai
namespace Go.Proofs.Ytnlfjchbhgikaaa
open Go Go.Sx Go.Azalai
theorem mange_ok (n : Int) (first : List Int) (meets : List Meet) (wait : Span) (day : Int) (c1 c2 : Bool) (hl1 : first.length ≤ 1000) (hl2 : meets.length ≤ 1000) :
    Ct Try.prog 35 [I n, .sl c1 1 (first.map intL), .sl c2 4 (meets.map meetL), .agg (spanL wait), I day] (.tup [rowsK (meetsE n first meets wait day) (mangeK n first meets wait day), I (meetsE n first meets wait day)]) := by
  have hkr : KF (rowsK (meetsE n first meets wait day) (mangeK n first meets wait day)) := by
    unfold rowsK; split <;> simp [KF, KFR_iff, KFL, u8L, U8]
  refine t35 (by simp [meetL, KFR_iff, intL, spanL, KFL, KF]) (by simp [KF, KFL, hkr]) ?_
  dsimp only [c35, r35, spanL, go_sem, Nat.reduceAdd, Nat.reduceMul, Nat.reduceSub]
  refine call (from1 1 30 n true) ?_
  dsimp only [go_sem, Nat.reduceAdd, Nat.reduceMul, Nat.reduceSub]
  repeat (first | (refine gb ?_; dsimp only [go_sem, Nat.reduceAdd, Nat.reduceMul, Nat.reduceSub]) | (refine call (ordered1 1 60 wait true) ?_; dsimp only [go_sem, Nat.reduceAdd, Nat.reduceMul, Nat.reduceSub]) | (refine call (from1 0 100000 day true) ?_; dsimp only [go_sem, Nat.reduceAdd, Nat.reduceMul, Nat.reduceSub]))
  by_cases h1 : (inR 1 30 n && okSp 1 60 wait && inR 0 100000 day) = true
  case neg =>
    refine br_t (by revert h1; cases inR 1 30 n <;> cases okSp 1 60 wait <;> cases inR 0 100000 day <;> simp) ?_
    dsimp only [go_sem, Nat.reduceAdd, Nat.reduceMul, Nat.reduceSub]
    have hE : meetsE n first meets wait day = 2 := by
      unfold meetsE
      rw [if_pos (by revert h1; cases inR 1 30 n <;> cases okSp 1 60 wait <;> cases inR 0 100000 day <;> simp)]
    simp [rowsK, hE]
  refine br_f (by revert h1; cases inR 1 30 n <;> cases okSp 1 60 wait <;> cases inR 0 100000 day <;> simp) ?_
  dsimp only [go_sem, Nat.reduceAdd, Nat.reduceMul, Nat.reduceSub]
  repeat (refine gb ?_; dsimp only [go_sem, Nat.reduceAdd, Nat.reduceMul, Nat.reduceSub])
  simp only [List.length_map]
  by_cases h2 : first.length > 30 ∨ meets.length > 200
  · refine br_t (by simp; omega) ?_
    dsimp only [go_sem, Nat.reduceAdd, Nat.reduceMul, Nat.reduceSub]
    have hE : meetsE n first meets wait day = 4 := by
      unfold meetsE
      rw [if_neg (by simp [h1]), if_pos h2]
    simp [rowsK, hE]
  refine br_f (by simp; omega) ?_
  dsimp only [go_sem, Nat.reduceAdd, Nat.reduceMul, Nat.reduceSub]
  have hn : 1 ≤ n ∧ n ≤ 30 := by simp only [Bool.and_eq_true, inR, decide_eq_true_eq] at h1; exact h1.1.1
  have hE0 : meetsE n first meets wait day = if !(first.all (inR 0 (n - 1))) || meets.any (oddM n) then 14 else 0 := by
    unfold meetsE
    rw [if_neg (by simp [h1]), if_neg h2]
  rw [w64_in (n := n - 1) (by omega) (by omega)]
  refine call (from_any 0 (n - 1) first (by omega) c1) ?_
  dsimp only [go_sem, Nat.reduceAdd, Nat.reduceMul, Nat.reduceSub]
  repeat (refine gb ?_; dsimp only [go_sem, Nat.reduceAdd, Nat.reduceMul, Nat.reduceSub])
  refine callv (by simp [FLT]) (res := B (meets.any (oddM n))) ?_ ?_
  · dsimp only [go_sem, Nat.reduceAdd, Nat.reduceMul, Nat.reduceSub]
    exact con78 77 [.ps [I n] 0] (by simp [KFL, KF]) (oddM n) meets (fun x _ => odd_ok n hn.1 hn.2 x) (by omega)
  dsimp only [go_sem, Nat.reduceAdd, Nat.reduceMul, Nat.reduceSub]
  repeat (refine gb ?_; dsimp only [go_sem, Nat.reduceAdd, Nat.reduceMul, Nat.reduceSub])
  by_cases h3 : (!(first.all (inR 0 (n - 1))) || meets.any (oddM n)) = true
  · refine br_t (by revert h3; cases first.all (inR 0 (n - 1)) <;> cases meets.any (oddM n) <;> simp) ?_
    dsimp only [go_sem, Nat.reduceAdd, Nat.reduceMul, Nat.reduceSub]
    rw [if_pos h3] at hE0
    simp [rowsK, hE0]
  refine br_f (by revert h3; cases first.all (inR 0 (n - 1)) <;> cases meets.any (oddM n) <;> simp) ?_
  dsimp only [go_sem, Nat.reduceAdd, Nat.reduceMul, Nat.reduceSub]
  rw [if_neg h3] at hE0
  obtain ⟨_, hw, hd, hf1, hm1, hf, hm⟩ := meetsE_0 hE0
  clear h1 h2 h3
  refine callmP [] (clone_ok meets (by omega) c2) rfl rfl rfl ?_ ?_ ?_
  · ((try dsimp only [go_sem, Nat.reduceAdd, Nat.reduceMul, Nat.reduceSub]); repeat (simp only [Nat.beq_refl]; try dsimp only [go_sem, Nat.reduceAdd, Nat.reduceMul, Nat.reduceSub]))
    simp [mtL, mtB, mtS, KFR_iff, KFR, KFL, KF, meetL]
  · ((try dsimp only [go_sem, Nat.reduceAdd, Nat.reduceMul, Nat.reduceSub]); repeat (simp only [Nat.beq_refl]; try dsimp only [go_sem, Nat.reduceAdd, Nat.reduceMul, Nat.reduceSub]))
  rintro _ rfl
  ((try dsimp only [go_sem, Nat.reduceAdd, Nat.reduceMul, Nat.reduceSub]); repeat (simp only [Nat.beq_refl]; try dsimp only [go_sem, Nat.reduceAdd, Nat.reduceMul, Nat.reduceSub]))
  refine gh ent_refl ?_
  ((try dsimp only [go_sem, Nat.reduceAdd, Nat.reduceMul, Nat.reduceSub]); repeat (simp only [Nat.beq_refl]; try dsimp only [go_sem, Nat.reduceAdd, Nat.reduceMul, Nat.reduceSub]))
  refine callmP [2] (sort_ok 0 meets (by omega)) rfl rfl rfl ?_ ?_ ?_
  · ((try dsimp only [go_sem, Nat.reduceAdd, Nat.reduceMul, Nat.reduceSub]); repeat (simp only [Nat.beq_refl]; try dsimp only [go_sem, Nat.reduceAdd, Nat.reduceMul, Nat.reduceSub]))
    simp [mtL, mtB, mtS]
  · ((try dsimp only [go_sem, Nat.reduceAdd, Nat.reduceMul, Nat.reduceSub]); repeat (simp only [Nat.beq_refl]; try dsimp only [go_sem, Nat.reduceAdd, Nat.reduceMul, Nat.reduceSub]))
    simp [KFR_iff, meetL, KFL, KF]
  rintro _ ⟨l, hpl, hsl, rfl⟩
  ((try dsimp only [rowO, go_sem, Nat.reduceAdd, Nat.reduceMul, Nat.reduceSub]); repeat (simp only [Nat.beq_refl]; try dsimp only [go_sem, Nat.reduceAdd, Nat.reduceMul, Nat.reduceSub]))
  refine gh (ent_frz 13 2 0 rfl rfl rfl rfl) ?_
  obtain ⟨k, rfl⟩ : ∃ k : Nat, n = k := ⟨n.toNat, by omega⟩
  have hll := hpl.len
  have hso := pairwise_of_srt (by rw [hll]; exact hsl)
  have hml : ∀ m ∈ l, okM k m := fun m h => hm m (hpl.perm.mem_iff.1 h)
  ((try dsimp only [go_sem, Nat.reduceAdd, Nat.reduceMul, Nat.reduceSub]); repeat (simp only [Nat.beq_refl]; try dsimp only [go_sem, Nat.reduceAdd, Nat.reduceMul, Nat.reduceSub]))
  refine call (spread_ok k first l wait.lo day c1 false (by omega) (by omega) hf hml (by omega) hl1 (by omega)) ?_
  ((try dsimp only [go_sem, Nat.reduceAdd, Nat.reduceMul, Nat.reduceSub]); repeat (simp only [Nat.beq_refl]; try dsimp only [go_sem, Nat.reduceAdd, Nat.reduceMul, Nat.reduceSub]))
  refine callmP [] (clone_ok l (by omega) false) rfl rfl rfl ?_ ?_ ?_
  · ((try dsimp only [go_sem, Nat.reduceAdd, Nat.reduceMul, Nat.reduceSub]); repeat (simp only [Nat.beq_refl]; try dsimp only [go_sem, Nat.reduceAdd, Nat.reduceMul, Nat.reduceSub]))
    simp [mtL, mtB, mtS, KFR_iff, KFR, KFL, KF, meetL]
  · ((try dsimp only [go_sem, Nat.reduceAdd, Nat.reduceMul, Nat.reduceSub]); repeat (simp only [Nat.beq_refl]; try dsimp only [go_sem, Nat.reduceAdd, Nat.reduceMul, Nat.reduceSub]))
  rintro _ rfl
  ((try dsimp only [go_sem, Nat.reduceAdd, Nat.reduceMul, Nat.reduceSub]); repeat (simp only [Nat.beq_refl]; try dsimp only [go_sem, Nat.reduceAdd, Nat.reduceMul, Nat.reduceSub]))
  refine callmP [3] (delete_ok 0 l (by omega)) rfl rfl rfl ?_ ?_ ?_
  · ((try dsimp only [go_sem, Nat.reduceAdd, Nat.reduceMul, Nat.reduceSub]); repeat (simp only [Nat.beq_refl]; try dsimp only [go_sem, Nat.reduceAdd, Nat.reduceMul, Nat.reduceSub]))
    simp [mtL, mtB, mtS]
  · ((try dsimp only [go_sem, Nat.reduceAdd, Nat.reduceMul, Nat.reduceSub]); repeat (simp only [Nat.beq_refl]; try dsimp only [go_sem, Nat.reduceAdd, Nat.reduceMul, Nat.reduceSub]))
    simp [KFR_iff, meetL, KFL, KF]
  rintro _ (⟨hfl, rfl⟩ | ⟨l', hl', hle, htk, rfl⟩)
  · ((try dsimp only [go_sem, Nat.reduceAdd, Nat.reduceMul, Nat.reduceSub]); repeat (simp only [Nat.beq_refl]; try dsimp only [go_sem, Nat.reduceAdd, Nat.reduceMul, Nat.reduceSub]))
    refine gh (ent_frz 15 3 0 rfl rfl rfl rfl) ?_
    rw [show l.map meetL = (l.filter (·.close)).map meetL from by rw [hfl]]
    clear hfl
    generalize hfl0 : l.filter (·.close) = fl at *
    ((try dsimp only [go_sem, Nat.reduceAdd, Nat.reduceMul, Nat.reduceSub]); repeat (simp only [Nat.beq_refl]; try dsimp only [go_sem, Nat.reduceAdd, Nat.reduceMul, Nat.reduceSub]))
    refine call (spread_ok k first fl wait.hi day c1 false (by omega) (by omega) hf (fun m h => hml m (by rw [← hfl0] at h; exact (List.mem_filter.1 h).1)) (by omega) hl1 (by rw [← hfl0]; exact Nat.le_trans (List.length_filter_le _ _) (by omega))) ?_
    ((try dsimp only [go_sem, Nat.reduceAdd, Nat.reduceMul, Nat.reduceSub]); repeat (simp only [Nat.beq_refl]; try dsimp only [go_sem, Nat.reduceAdd, Nat.reduceMul, Nat.reduceSub]))
    have hlenE : (spreadF wait.lo day l (baseF first (List.replicate k 100061))).length = k := by rw [spreadF_len, baseF_len]; simp
    have hlenL : (spreadF wait.hi day fl (baseF first (List.replicate k 100061))).length = k := by rw [spreadF_len, baseF_len]; simp
    have heq : ∀ i : Nat, i < k → (if gI (spreadF wait.hi day fl (baseF first (List.replicate k 100061))) (i : Int) ≤ day then 2 else if gI (spreadF wait.lo day l (baseF first (List.replicate k 100061))) (i : Int) ≤ day then 1 else 0) = knF day (gI (sickF k first (act false meets) wait.lo) i) (gI (sickF k first (act true meets) wait.hi) i) := fun i hi => by
      have := mange_eq (meets := meets) (l := l) ⟨hw.1, hw.2.1⟩ hd hf hm hpl.perm hso (least_ex hf (fun m h => hm m h.1) (by omega)) (least_ex hf (fun m h => hm m h.1) (by omega)) hi
      rw [hfl0] at this
      exact this
    generalize spreadF wait.lo day l (baseF first (List.replicate k 100061)) = E at hlenE heq
    generalize spreadF wait.hi day fl (baseF first (List.replicate k 100061)) = L at hlenL heq
    refine ⟨k, rfl, by omega, ?_⟩
    ((try dsimp only [go_sem, Nat.reduceAdd, Nat.reduceMul, Nat.reduceSub]); repeat (simp only [Nat.beq_refl]; try dsimp only [go_sem, Nat.reduceAdd, Nat.reduceMul, Nat.reduceSub]))
    rw [show List.replicate k [SV.v (Value.int IntKind.u8 0)] = (List.replicate k (0 : Int)).map u8L from by simp [u8L, U8]]
    simp only [List.length_map, List.length_replicate]
    have hs0 : (List.replicate k (0 : Int)).length = k ∧ ∀ i, i < k → (List.replicate k (0 : Int))[i]? = some 0 := ⟨by simp, fun i hi => by rw [List.getElem?_replicate, if_pos hi]⟩
    generalize List.replicate k (0 : Int) = ks0 at hs0
    refine loopO (fun z : Nat × List Int => [(79, I z.1)]) (fun z => [(4, .row 0 1 (z.2.map u8L) 5)]) (fun z => z.1 ≤ k ∧ z.2.length = k ∧ ∀ i, i < k → z.2[i]? = some (if i < z.1 then (if gI L (i : Int) ≤ day then 2 else if gI E (i : Int) ≤ day then 1 else 0) else 0)) (fun z => k - z.1) (0, ks0) ⟨Nat.zero_le _, hs0.1, fun i hi => by rw [hs0.2 i hi, if_neg (Nat.not_lt_zero _)]⟩ ?_ ?_
    · (refine ent_id ?_ ?_ ?_ rfl rfl <;> dsimp only [meetL, intL, u8L, U8, id, go_sem, Nat.reduceAdd, Nat.reduceMul, Nat.reduceSub] <;> simp [meetL, intL, u8L, U8, KFR_iff, KFR_app, KFR, KFL, KF, mtL_same, mtO, Nat.beq_refl])
    rintro ⟨j, ks⟩ ⟨hj, hkl, hki⟩
    simp only at hj hkl hki
    ((try dsimp only [go_sem, Nat.reduceAdd, Nat.reduceMul, Nat.reduceSub]); repeat (simp only [Nat.beq_refl]; try dsimp only [go_sem, Nat.reduceAdd, Nat.reduceMul, Nat.reduceSub]))
    by_cases hlt : j < k
    · refine br_t (by simpa using hlt) ?_
      ((try dsimp only [go_sem, Nat.reduceAdd, Nat.reduceMul, Nat.reduceSub]); repeat (simp only [Nat.beq_refl]; try dsimp only [go_sem, Nat.reduceAdd, Nat.reduceMul, Nat.reduceSub]))
      have gL : gI L (j : Int) = L[j] := gI_eq rfl (by omega)
      have gE : gI E (j : Int) = E[j] := gI_eq rfl (by omega)
      refine ixs_map j (by omega) rfl ?_
      ((try dsimp only [intL, go_sem, Nat.reduceAdd, Nat.reduceMul, Nat.reduceSub]); repeat (simp only [Nat.beq_refl]; try dsimp only [go_sem, Nat.reduceAdd, Nat.reduceMul, Nat.reduceSub]))
      by_cases q2 : L[j] ≤ day
      · refine br_t (by simpa using q2) ?_
        have hx : (if gI L (j : Int) ≤ day then (2 : Int) else if gI E (j : Int) ≤ day then 1 else 0) = 2 := by rw [gL, if_pos q2]
        ((try dsimp only [go_sem, Nat.reduceAdd, Nat.reduceMul, Nat.reduceSub]); repeat (simp only [Nat.beq_refl]; try dsimp only [go_sem, Nat.reduceAdd, Nat.reduceMul, Nat.reduceSub]))
        refine ixrm j rfl (by first | omega | (simp; omega)) ?_
        ((try dsimp only [go_sem, Nat.reduceAdd, Nat.reduceMul, Nat.reduceSub]); repeat (simp only [Nat.beq_refl]; try dsimp only [go_sem, Nat.reduceAdd, Nat.reduceMul, Nat.reduceSub]))
        refine strm (2 : Int) (by first | omega | (simp; omega)) (by simp [u8L, U8]) (by simp [u8L, U8, splice]) ?_
        ((try dsimp only [go_sem, Nat.reduceAdd, Nat.reduceMul, Nat.reduceSub]); repeat (simp only [Nat.beq_refl]; try dsimp only [go_sem, Nat.reduceAdd, Nat.reduceMul, Nat.reduceSub]))
        rw [w64_in (n := (j : Int) + 1) (by omega) (by omega)]
        refine ⟨(j + 1, ks.set j 2), ⟨hlt, by simp [hkl], fun i hi => ?_⟩, by simp only; omega, ?_⟩
        · dsimp only
          have := hki i hi
          by_cases hij : i = j
          · subst hij; rw [List.getElem?_set_self (by omega), if_pos (Nat.lt_succ_self i), hx]
          · rw [List.getElem?_set_ne (by omega), this]
            by_cases hij2 : i < j
            · rw [if_pos hij2, if_pos (c := i < j + 1) (by omega)]
            · rw [if_neg hij2, if_neg (c := i < j + 1) (by omega)]
        generalize ks.set j 2 = ks2
        (refine ent_id ?_ ?_ ?_ rfl rfl <;> dsimp only [meetL, intL, u8L, U8, id, go_sem, Nat.reduceAdd, Nat.reduceMul, Nat.reduceSub] <;> simp [meetL, intL, u8L, U8, KFR_iff, KFR_app, KFR, KFL, KF, mtL_same, mtO, Nat.beq_refl])
      refine br_f (by simpa using q2) ?_
      ((try dsimp only [go_sem, Nat.reduceAdd, Nat.reduceMul, Nat.reduceSub]); repeat (simp only [Nat.beq_refl]; try dsimp only [go_sem, Nat.reduceAdd, Nat.reduceMul, Nat.reduceSub]))
      refine ixs_map j (by omega) rfl ?_
      ((try dsimp only [intL, go_sem, Nat.reduceAdd, Nat.reduceMul, Nat.reduceSub]); repeat (simp only [Nat.beq_refl]; try dsimp only [go_sem, Nat.reduceAdd, Nat.reduceMul, Nat.reduceSub]))
      by_cases q1 : E[j] ≤ day
      · refine br_t (by simpa using q1) ?_
        have hx : (if gI L (j : Int) ≤ day then (2 : Int) else if gI E (j : Int) ≤ day then 1 else 0) = 1 := by rw [gL, gE, if_neg q2, if_pos q1]
        ((try dsimp only [go_sem, Nat.reduceAdd, Nat.reduceMul, Nat.reduceSub]); repeat (simp only [Nat.beq_refl]; try dsimp only [go_sem, Nat.reduceAdd, Nat.reduceMul, Nat.reduceSub]))
        refine ixrm j rfl (by first | omega | (simp; omega)) ?_
        ((try dsimp only [go_sem, Nat.reduceAdd, Nat.reduceMul, Nat.reduceSub]); repeat (simp only [Nat.beq_refl]; try dsimp only [go_sem, Nat.reduceAdd, Nat.reduceMul, Nat.reduceSub]))
        refine strm (1 : Int) (by first | omega | (simp; omega)) (by simp [u8L, U8]) (by simp [u8L, U8, splice]) ?_
        ((try dsimp only [go_sem, Nat.reduceAdd, Nat.reduceMul, Nat.reduceSub]); repeat (simp only [Nat.beq_refl]; try dsimp only [go_sem, Nat.reduceAdd, Nat.reduceMul, Nat.reduceSub]))
        rw [w64_in (n := (j : Int) + 1) (by omega) (by omega)]
        refine ⟨(j + 1, ks.set j 1), ⟨hlt, by simp [hkl], fun i hi => ?_⟩, by simp only; omega, ?_⟩
        · dsimp only
          have := hki i hi
          by_cases hij : i = j
          · subst hij; rw [List.getElem?_set_self (by omega), if_pos (Nat.lt_succ_self i), hx]
          · rw [List.getElem?_set_ne (by omega), this]
            by_cases hij2 : i < j
            · rw [if_pos hij2, if_pos (c := i < j + 1) (by omega)]
            · rw [if_neg hij2, if_neg (c := i < j + 1) (by omega)]
        generalize ks.set j 1 = ks2
        (refine ent_id ?_ ?_ ?_ rfl rfl <;> dsimp only [meetL, intL, u8L, U8, id, go_sem, Nat.reduceAdd, Nat.reduceMul, Nat.reduceSub] <;> simp [meetL, intL, u8L, U8, KFR_iff, KFR_app, KFR, KFL, KF, mtL_same, mtO, Nat.beq_refl])
      refine br_f (by simpa using q1) ?_
      have hx : (if gI L (j : Int) ≤ day then (2 : Int) else if gI E (j : Int) ≤ day then 1 else 0) = 0 := by rw [gL, gE, if_neg q2, if_neg q1]
      ((try dsimp only [go_sem, Nat.reduceAdd, Nat.reduceMul, Nat.reduceSub]); repeat (simp only [Nat.beq_refl]; try dsimp only [go_sem, Nat.reduceAdd, Nat.reduceMul, Nat.reduceSub]))
      rw [w64_in (n := (j : Int) + 1) (by omega) (by omega)]
      refine ⟨(j + 1, ks), ⟨hlt, hkl, fun i hi => ?_⟩, by simp only; omega, ?_⟩
      · dsimp only
        have := hki i hi
        by_cases hij : i = j
        · subst hij; rw [this, if_neg (Nat.lt_irrefl i), if_pos (Nat.lt_succ_self i), hx]
        · rw [this]
          by_cases hij2 : i < j
          · rw [if_pos hij2, if_pos (c := i < j + 1) (by omega)]
          · rw [if_neg hij2, if_neg (c := i < j + 1) (by omega)]
      (refine ent_id ?_ ?_ ?_ rfl rfl <;> dsimp only [meetL, intL, u8L, U8, id, go_sem, Nat.reduceAdd, Nat.reduceMul, Nat.reduceSub] <;> simp [meetL, intL, u8L, U8, KFR_iff, KFR_app, KFR, KFL, KF, mtL_same, mtO, Nat.beq_refl])
    refine br_f (by simp; omega) ?_
    ((try dsimp only [go_sem, Nat.reduceAdd, Nat.reduceMul, Nat.reduceSub]); repeat (simp only [Nat.beq_refl]; try dsimp only [go_sem, Nat.reduceAdd, Nat.reduceMul, Nat.reduceSub]))
    have hjk : j = k := by omega
    subst hjk
    have hks : ks = mangeK j first meets wait day := by
      apply List.ext_getElem? 
      intro i
      unfold mangeK
      rw [Int.toNat_natCast, List.getElem?_map]
      by_cases hi : i < j
      · rw [hki i hi, if_pos hi, heq i hi, List.getElem?_range hi]; rfl
      · rw [List.getElem?_eq_none (by omega), List.getElem?_eq_none (by simp; omega)]; rfl
    rw [hks]
    simp [rowsK, hE0]
  · ((try dsimp only [go_sem, Nat.reduceAdd, Nat.reduceMul, Nat.reduceSub]); repeat (simp only [Nat.beq_refl]; try dsimp only [go_sem, Nat.reduceAdd, Nat.reduceMul, Nat.reduceSub]))
    refine gh (ent_frzp 15 3 0 _ rfl rfl rfl rfl (by simpa using hle)) ?_
    rw [← List.map_take, htk]
    clear htk hle
    generalize hfl0 : l.filter (·.close) = fl at *
    ((try dsimp only [go_sem, Nat.reduceAdd, Nat.reduceMul, Nat.reduceSub]); repeat (simp only [Nat.beq_refl]; try dsimp only [go_sem, Nat.reduceAdd, Nat.reduceMul, Nat.reduceSub]))
    refine call (spread_ok k first fl wait.hi day c1 false (by omega) (by omega) hf (fun m h => hml m (by rw [← hfl0] at h; exact (List.mem_filter.1 h).1)) (by omega) hl1 (by rw [← hfl0]; exact Nat.le_trans (List.length_filter_le _ _) (by omega))) ?_
    ((try dsimp only [go_sem, Nat.reduceAdd, Nat.reduceMul, Nat.reduceSub]); repeat (simp only [Nat.beq_refl]; try dsimp only [go_sem, Nat.reduceAdd, Nat.reduceMul, Nat.reduceSub]))
    have hlenE : (spreadF wait.lo day l (baseF first (List.replicate k 100061))).length = k := by rw [spreadF_len, baseF_len]; simp
    have hlenL : (spreadF wait.hi day fl (baseF first (List.replicate k 100061))).length = k := by rw [spreadF_len, baseF_len]; simp
    have heq : ∀ i : Nat, i < k → (if gI (spreadF wait.hi day fl (baseF first (List.replicate k 100061))) (i : Int) ≤ day then 2 else if gI (spreadF wait.lo day l (baseF first (List.replicate k 100061))) (i : Int) ≤ day then 1 else 0) = knF day (gI (sickF k first (act false meets) wait.lo) i) (gI (sickF k first (act true meets) wait.hi) i) := fun i hi => by
      have := mange_eq (meets := meets) (l := l) ⟨hw.1, hw.2.1⟩ hd hf hm hpl.perm hso (least_ex hf (fun m h => hm m h.1) (by omega)) (least_ex hf (fun m h => hm m h.1) (by omega)) hi
      rw [hfl0] at this
      exact this
    generalize spreadF wait.lo day l (baseF first (List.replicate k 100061)) = E at hlenE heq
    generalize spreadF wait.hi day fl (baseF first (List.replicate k 100061)) = L at hlenL heq
    refine ⟨k, rfl, by omega, ?_⟩
    ((try dsimp only [go_sem, Nat.reduceAdd, Nat.reduceMul, Nat.reduceSub]); repeat (simp only [Nat.beq_refl]; try dsimp only [go_sem, Nat.reduceAdd, Nat.reduceMul, Nat.reduceSub]))
    rw [show List.replicate k [SV.v (Value.int IntKind.u8 0)] = (List.replicate k (0 : Int)).map u8L from by simp [u8L, U8]]
    simp only [List.length_map, List.length_replicate]
    have hs0 : (List.replicate k (0 : Int)).length = k ∧ ∀ i, i < k → (List.replicate k (0 : Int))[i]? = some 0 := ⟨by simp, fun i hi => by rw [List.getElem?_replicate, if_pos hi]⟩
    generalize List.replicate k (0 : Int) = ks0 at hs0
    refine loopO (fun z : Nat × List Int => [(79, I z.1)]) (fun z => [(4, .row 0 1 (z.2.map u8L) 5)]) (fun z => z.1 ≤ k ∧ z.2.length = k ∧ ∀ i, i < k → z.2[i]? = some (if i < z.1 then (if gI L (i : Int) ≤ day then 2 else if gI E (i : Int) ≤ day then 1 else 0) else 0)) (fun z => k - z.1) (0, ks0) ⟨Nat.zero_le _, hs0.1, fun i hi => by rw [hs0.2 i hi, if_neg (Nat.not_lt_zero _)]⟩ ?_ ?_
    · (refine ent_id ?_ ?_ ?_ rfl rfl <;> dsimp only [meetL, intL, u8L, U8, id, go_sem, Nat.reduceAdd, Nat.reduceMul, Nat.reduceSub] <;> simp [meetL, intL, u8L, U8, KFR_iff, KFR_app, KFR, KFL, KF, mtL_same, mtO, Nat.beq_refl])
    rintro ⟨j, ks⟩ ⟨hj, hkl, hki⟩
    simp only at hj hkl hki
    ((try dsimp only [go_sem, Nat.reduceAdd, Nat.reduceMul, Nat.reduceSub]); repeat (simp only [Nat.beq_refl]; try dsimp only [go_sem, Nat.reduceAdd, Nat.reduceMul, Nat.reduceSub]))
    by_cases hlt : j < k
    · refine br_t (by simpa using hlt) ?_
      ((try dsimp only [go_sem, Nat.reduceAdd, Nat.reduceMul, Nat.reduceSub]); repeat (simp only [Nat.beq_refl]; try dsimp only [go_sem, Nat.reduceAdd, Nat.reduceMul, Nat.reduceSub]))
      have gL : gI L (j : Int) = L[j] := gI_eq rfl (by omega)
      have gE : gI E (j : Int) = E[j] := gI_eq rfl (by omega)
      refine ixs_map j (by omega) rfl ?_
      ((try dsimp only [intL, go_sem, Nat.reduceAdd, Nat.reduceMul, Nat.reduceSub]); repeat (simp only [Nat.beq_refl]; try dsimp only [go_sem, Nat.reduceAdd, Nat.reduceMul, Nat.reduceSub]))
      by_cases q2 : L[j] ≤ day
      · refine br_t (by simpa using q2) ?_
        have hx : (if gI L (j : Int) ≤ day then (2 : Int) else if gI E (j : Int) ≤ day then 1 else 0) = 2 := by rw [gL, if_pos q2]
        ((try dsimp only [go_sem, Nat.reduceAdd, Nat.reduceMul, Nat.reduceSub]); repeat (simp only [Nat.beq_refl]; try dsimp only [go_sem, Nat.reduceAdd, Nat.reduceMul, Nat.reduceSub]))
        refine ixrm j rfl (by first | omega | (simp; omega)) ?_
        ((try dsimp only [go_sem, Nat.reduceAdd, Nat.reduceMul, Nat.reduceSub]); repeat (simp only [Nat.beq_refl]; try dsimp only [go_sem, Nat.reduceAdd, Nat.reduceMul, Nat.reduceSub]))
        refine strm (2 : Int) (by first | omega | (simp; omega)) (by simp [u8L, U8]) (by simp [u8L, U8, splice]) ?_
        ((try dsimp only [go_sem, Nat.reduceAdd, Nat.reduceMul, Nat.reduceSub]); repeat (simp only [Nat.beq_refl]; try dsimp only [go_sem, Nat.reduceAdd, Nat.reduceMul, Nat.reduceSub]))
        rw [w64_in (n := (j : Int) + 1) (by omega) (by omega)]
        refine ⟨(j + 1, ks.set j 2), ⟨hlt, by simp [hkl], fun i hi => ?_⟩, by simp only; omega, ?_⟩
        · dsimp only
          have := hki i hi
          by_cases hij : i = j
          · subst hij; rw [List.getElem?_set_self (by omega), if_pos (Nat.lt_succ_self i), hx]
          · rw [List.getElem?_set_ne (by omega), this]
            by_cases hij2 : i < j
            · rw [if_pos hij2, if_pos (c := i < j + 1) (by omega)]
            · rw [if_neg hij2, if_neg (c := i < j + 1) (by omega)]
        generalize ks.set j 2 = ks2
        (refine ent_id ?_ ?_ ?_ rfl rfl <;> dsimp only [meetL, intL, u8L, U8, id, go_sem, Nat.reduceAdd, Nat.reduceMul, Nat.reduceSub] <;> simp [meetL, intL, u8L, U8, KFR_iff, KFR_app, KFR, KFL, KF, mtL_same, mtO, Nat.beq_refl])
      refine br_f (by simpa using q2) ?_
      ((try dsimp only [go_sem, Nat.reduceAdd, Nat.reduceMul, Nat.reduceSub]); repeat (simp only [Nat.beq_refl]; try dsimp only [go_sem, Nat.reduceAdd, Nat.reduceMul, Nat.reduceSub]))
      refine ixs_map j (by omega) rfl ?_
      ((try dsimp only [intL, go_sem, Nat.reduceAdd, Nat.reduceMul, Nat.reduceSub]); repeat (simp only [Nat.beq_refl]; try dsimp only [go_sem, Nat.reduceAdd, Nat.reduceMul, Nat.reduceSub]))
      by_cases q1 : E[j] ≤ day
      · refine br_t (by simpa using q1) ?_
        have hx : (if gI L (j : Int) ≤ day then (2 : Int) else if gI E (j : Int) ≤ day then 1 else 0) = 1 := by rw [gL, gE, if_neg q2, if_pos q1]
        ((try dsimp only [go_sem, Nat.reduceAdd, Nat.reduceMul, Nat.reduceSub]); repeat (simp only [Nat.beq_refl]; try dsimp only [go_sem, Nat.reduceAdd, Nat.reduceMul, Nat.reduceSub]))
        refine ixrm j rfl (by first | omega | (simp; omega)) ?_
        ((try dsimp only [go_sem, Nat.reduceAdd, Nat.reduceMul, Nat.reduceSub]); repeat (simp only [Nat.beq_refl]; try dsimp only [go_sem, Nat.reduceAdd, Nat.reduceMul, Nat.reduceSub]))
        refine strm (1 : Int) (by first | omega | (simp; omega)) (by simp [u8L, U8]) (by simp [u8L, U8, splice]) ?_
        ((try dsimp only [go_sem, Nat.reduceAdd, Nat.reduceMul, Nat.reduceSub]); repeat (simp only [Nat.beq_refl]; try dsimp only [go_sem, Nat.reduceAdd, Nat.reduceMul, Nat.reduceSub]))
        rw [w64_in (n := (j : Int) + 1) (by omega) (by omega)]
        refine ⟨(j + 1, ks.set j 1), ⟨hlt, by simp [hkl], fun i hi => ?_⟩, by simp only; omega, ?_⟩
        · dsimp only
          have := hki i hi
          by_cases hij : i = j
          · subst hij; rw [List.getElem?_set_self (by omega), if_pos (Nat.lt_succ_self i), hx]
          · rw [List.getElem?_set_ne (by omega), this]
            by_cases hij2 : i < j
            · rw [if_pos hij2, if_pos (c := i < j + 1) (by omega)]
            · rw [if_neg hij2, if_neg (c := i < j + 1) (by omega)]
        generalize ks.set j 1 = ks2
        (refine ent_id ?_ ?_ ?_ rfl rfl <;> dsimp only [meetL, intL, u8L, U8, id, go_sem, Nat.reduceAdd, Nat.reduceMul, Nat.reduceSub] <;> simp [meetL, intL, u8L, U8, KFR_iff, KFR_app, KFR, KFL, KF, mtL_same, mtO, Nat.beq_refl])
      refine br_f (by simpa using q1) ?_
      have hx : (if gI L (j : Int) ≤ day then (2 : Int) else if gI E (j : Int) ≤ day then 1 else 0) = 0 := by rw [gL, gE, if_neg q2, if_neg q1]
      ((try dsimp only [go_sem, Nat.reduceAdd, Nat.reduceMul, Nat.reduceSub]); repeat (simp only [Nat.beq_refl]; try dsimp only [go_sem, Nat.reduceAdd, Nat.reduceMul, Nat.reduceSub]))
      rw [w64_in (n := (j : Int) + 1) (by omega) (by omega)]
      refine ⟨(j + 1, ks), ⟨hlt, hkl, fun i hi => ?_⟩, by simp only; omega, ?_⟩
      · dsimp only
        have := hki i hi
        by_cases hij : i = j
        · subst hij; rw [this, if_neg (Nat.lt_irrefl i), if_pos (Nat.lt_succ_self i), hx]
        · rw [this]
          by_cases hij2 : i < j
          · rw [if_pos hij2, if_pos (c := i < j + 1) (by omega)]
          · rw [if_neg hij2, if_neg (c := i < j + 1) (by omega)]
      (refine ent_id ?_ ?_ ?_ rfl rfl <;> dsimp only [meetL, intL, u8L, U8, id, go_sem, Nat.reduceAdd, Nat.reduceMul, Nat.reduceSub] <;> simp [meetL, intL, u8L, U8, KFR_iff, KFR_app, KFR, KFL, KF, mtL_same, mtO, Nat.beq_refl])
    refine br_f (by simp; omega) ?_
    ((try dsimp only [go_sem, Nat.reduceAdd, Nat.reduceMul, Nat.reduceSub]); repeat (simp only [Nat.beq_refl]; try dsimp only [go_sem, Nat.reduceAdd, Nat.reduceMul, Nat.reduceSub]))
    have hjk : j = k := by omega
    subst hjk
    have hks : ks = mangeK j first meets wait day := by
      apply List.ext_getElem? 
      intro i
      unfold mangeK
      rw [Int.toNat_natCast, List.getElem?_map]
      by_cases hi : i < j
      · rw [hki i hi, if_pos hi, heq i hi, List.getElem?_range hi]; rfl
      · rw [List.getElem?_eq_none (by omega), List.getElem?_eq_none (by simp; omega)]; rfl
    rw [hks]
    simp [rowsK, hE0]
end Go.Proofs.Ytnlfjchbhgikaaa
namespace Go.Sx
open Go
def byS (ns : List Int) : ByteArray := ns.foldl (fun r n => r.push (UInt8.ofNat n.toNat)) ByteArray.empty
theorem RL_vals {w : World} {E : Env} {n ok : Nat → Prop} : ∀ {l ys : List Value}, RL w E n ok (l.map SV.v) ys → ys = l
  | [], ys, h => by simpa [RL] using h
  | x :: l, ys, h => by
    simp only [List.map_cons, RL] at h
    obtain ⟨y, r, rfl, h1, h2⟩ := h
    simp only [R] at h1
    rw [h1, RL_vals h2]
theorem flat1 {α β : Type} (f : α → β) : ∀ l : List α, (l.map fun n => [f n]).flatten = l.map f
  | [] => rfl
  | x :: l => by simp only [List.map_cons, List.flatten_cons, flat1 f l]; rfl
/-- a row of bytes as a string -/
theorem raw_str {P : Program} {d : Option Nat} {u src dst ty e : Nat} {ns : List Int} {s : SV} {σ : St} {r : KT} {K : RK} (hl : lk u σ.fr = s) (hng : ∀ j b u, s ≠ .gd j b u) (hs : sprV 1 s = some (ns.map fun n => [SV.v (.int .u8 n)]))
    (hsrc : P.underlying src = some (.slice e)) (hdst : P.underlying dst = some .string) (he : P.underlying e = some (.int .u8)) (hk : putK d (.v (.string (byS ns))) none σ r K) : RAW P d (.convert src dst (.tmp u)) ty σ r K := by
  intro o C E a w next Q h1 h2 h3 hS hn hq
  have hR := FR_R (hS.fr u) (fun j b u' e => hng j b u' (hl ▸ e))
  rw [hl] at hR
  obtain ⟨cs, ⟨ad, cap, y0, y1, y2, y3⟩, hcs, _⟩ := sprV_shows hR hs
  have hflat : (ns.map fun n => [SV.v (.int .u8 n)]).flatten = (ns.map (Value.int .u8)).map SV.v := by rw [flat1 (fun n => SV.v (.int .u8 n)), List.map_map]; rfl
  rw [hflat] at hcs
  have hcs := RL_vals hcs
  subst hcs
  have hrun : (convert src dst (a.tmps.getD u undef)).run P w = .ok (.string (byS ns)) w := by
    rw [y0, run_convert_bytes_string w src dst e ad _ cap hsrc he hdst]
    cases ad with
    | none =>
      have : ns = [] := by
        rcases y3 with h | ⟨b, off, h, _⟩
        · simpa using h
        · cases h
      subst this
      simp [Conv.bytesToString, Sem.run_pure, byS]
    | some ad =>
      refine run_bytesToString w ad _ cap ns ?_
      rcases y3 with h | ⟨b, off, h, hc⟩
      · have : ns = [] := by simpa using h
        subst this
        simp [loadCells, loadCellsFrom, Sem.run_pure]
      · cases h
        have hlen : (ns.map fun n => [SV.v (.int .u8 n)]).length = (ns.map (Value.int .u8)).length := by simp
        rw [hlen]
        exact run_loadCells_list w _ _ (fun j v hv => by rw [addr_add]; exact hc j v hv)
  have hx : (execOp a.eval o).run P w = .ok (.value (.string (byS ns))) w := by
    obtain ⟨dst', op', ty', pos, after, guard⟩ := o
    simp only at h2; subst h2
    simp only [Array.getD_eq_getD_getElem?] at hrun
    simp only [execOp, Act.eval]
    simp [Sem.run_bind, hrun]
  refine wpq_res hx (by simp) ?_
  show next (a.put o.dst _) w
  rcases putK_ex hk with ⟨g1, g2⟩ | ⟨t, g1, g2, g3, g4, g5⟩
  · rw [h1, g1]; exact hn _ E _ _ g2 hS
  · rw [h1, g1]
    exact hn _ E _ _ g5 (Sim_put hS (fun b hb _ => ⟨hb, rfl⟩) (fun _ _ => Ele.rfl) (Nat.le_refl _) hS.hs g2 g3 (fun j b u e => by rw [e] at g4; cases g4) (by simp only [R]))
/-- a string and a given one -/
theorem raw_seqc {P : Program} {d : Option Nat} {u t t' ty : Nat} {op : BinOp} {q : Bool} {x y : ByteArray} {σ : St} {r : KT} {K : RK} (hu : lk u σ.fr = .v (.string x)) (hq0 : (op = .eql ∧ q = (x.toList == y.toList)) ∨ (op = .neq ∧ q = !(x.toList == y.toList))) 
    (hk : putK d (.v (.bool q)) none σ r K) : RAW P d (.binOp op t (.tmp u) (.const (.string y)) t') ty σ r K := by
  intro o C E a w next Q h1 h2 h3 hS hn hq
  have hx : a.eval (.tmp u) = .string x := by
    have := hS.fr u
    rw [hu] at this
    simp only [FR, R] at this
    exact this
  have hrun : (execOp a.eval o).run P w =   .ok (.value (.bool q)) w := by
    obtain ⟨dst', op', ty', pos, after, guard⟩ := o
    simp only at h2; subst h2
    have hc : a.eval (.const (.string y)) = .string y := rfl
    simp only [execOp, hx, hc]
    rcases hq0 with ⟨rfl, rfl⟩ | ⟨rfl, rfl⟩ <;> simp [Sem.run_bind, eqGuard, binOp, Op.stringOp, Sem.run_pure]
  refine wpq_res hrun (by simp) ?_
  show next (a.put o.dst _) w
  rcases putK_ex hk with ⟨g1, g2⟩ | ⟨t, g1, g2, g3, g4, g5⟩
  · rw [h1, g1]; exact hn _ E _ _ g2 hS
  · rw [h1, g1]
    exact hn _ E _ _ g5 (Sim_put hS (fun b hb _ => ⟨hb, rfl⟩) (fun _ _ => Ele.rfl) (Nat.le_refl _) hS.hs g2 g3 (fun j b u e => by rw [e] at g4; cases g4) (by simp only [R]))
end Go.Sx
set_option maxRecDepth 100000
set_option maxHeartbeats 4000000
namespace Go.Proofs.Ytnlfjchbhgikaaa
open Go Go.Sx Go.Azalai
end Go.Proofs.Ytnlfjchbhgikaaa
set_option maxRecDepth 100000
set_option maxHeartbeats 4000000
namespace Go.Azalai
def herdE : List Meet := [⟨0, 1, 5, false⟩, ⟨1, 2, 9, true⟩]
theorem herd_early : Least 3 [0] (act false herdE) 3 [0, 8, 12] := by
  refine Sk.least ⟨rfl, fun i h0 h1 => ?_, fun i hi => ?_, fun i h0 h1 => ?_⟩ (fun m hm => ?_) (fun m hm => ?_)
  · have e1 : Inf [0] (act false herdE) 3 0 0 := .base (by simp)
    have e2 : Inf [0] (act false herdE) 3 1 (5 + 3) := .l (m := ⟨0, 1, 5, false⟩) ⟨by simp [herdE], fun h => by cases h⟩ e1 (by decide)
    have e3 : Inf [0] (act false herdE) 3 2 (9 + 3) := .l (m := ⟨1, 2, 9, true⟩) ⟨by simp [herdE], fun h => by cases h⟩ e2 (by decide)
    have : i = 0 ∨ i = 1 ∨ i = 2 := by omega
    rcases this with rfl | rfl | rfl
    · exact .inr e1
    · exact .inr e2
    · exact .inr e3
  · simp at hi; subst hi; decide
  · have : i = 0 ∨ i = 1 ∨ i = 2 := by omega
    rcases this with rfl | rfl | rfl <;> decide
  · have := hm.1; simp [herdE] at this; rcases this with rfl | rfl <;> (unfold okM; simp)
  · have := hm.1; simp [herdE] at this; rcases this with rfl | rfl <;> decide
theorem herd_late : Least 3 [0] (act true herdE) 5 [0, never, never] := by
  refine Sk.least ⟨rfl, fun i h0 h1 => ?_, fun i hi => ?_, fun i h0 h1 => ?_⟩ (fun m hm => ?_) (fun m hm => ?_)
  · have : i = 0 ∨ i = 1 ∨ i = 2 := by omega
    rcases this with rfl | rfl | rfl
    · exact .inr (.base (by simp))
    · exact .inl rfl
    · exact .inl rfl
  · simp at hi; subst hi; decide
  · have : i = 0 ∨ i = 1 ∨ i = 2 := by omega
    rcases this with rfl | rfl | rfl <;> decide
  · have := hm.1; simp [herdE] at this; rcases this with rfl | rfl <;> (unfold okM; simp)
  · obtain ⟨h1, h2⟩ := hm
    simp [herdE] at h1
    rcases h1 with rfl | rfl
    · exact absurd (h2 rfl) (by simp)
    · decide
theorem herdK (day : Int) : mangeK 3 [0] herdE ⟨3, 5⟩ day = [knF day 0 0, knF day 8 never, knF day 12 never] := by
  unfold mangeK
  rw [show (3 : Int).toNat = 3 from rfl, herd_early.sickF, herd_late.sickF]
  rfl
end Go.Azalai
namespace Go.Proofs.Ytnlfjchbhgikaaa
open Go Go.Sx Go.Azalai
theorem herd_ok : Ct Try.prog 51 [] (.sl true 4 (herdE.map meetL)) := by
  refine t51 (by simp [KFL, KF]) (by simp [herdE, meetL, KFR, KFL, KF]) ?_
  dsimp only [c51, r51, go_sem, Nat.reduceAdd, Nat.reduceMul, Nat.reduceSub]
  rfl
theorem eFit : sres breedE animalE (fitF breedE animalE) = .tup [.agg [I 800, I 1000], I 0] := by kernel_rfl
theorem eCar : sres breedE animalE (carF breedE animalE) = .tup [.agg [I 120000, I 200000], I 0] := by kernel_rfl
theorem eCost : cres breedE false dayE = .tup [.agg [I 7000, I 9500], .agg [I 800, I 1000], I 0] := by kernel_rfl
theorem eAft : afterE breedE animalE dayE = (⟨⟨50500, 63000⟩, ⟨19000, 29200⟩, ⟨100, 300⟩, false⟩, 0, 0) := by kernel_rfl
theorem eLast : tres (lastsF breedE animalE dayE) = .tup [.agg [I 6, I 10], I 0] := by kernel_rfl
theorem eMeet : meetsE 3 [0] herdE ⟨3, 5⟩ 8 = 0 := by kernel_rfl
theorem eKn : ([knF 8 0 0, knF 8 8 never, knF 8 12 never] : List Int) = [2, 1, 0] := by kernel_rfl
theorem eRow : rowsK 0 [2, 1, 0] = .sl false 1 ([2, 1, 0].map u8L) := rfl
end Go.Proofs.Ytnlfjchbhgikaaa
set_option maxRecDepth 100000
set_option maxHeartbeats 4000000
namespace Go.Proofs.Ytnlfjchbhgikaaa
open Go Go.Sx Go.Azalai
theorem alive_ok : Ct Try.prog 38 [] (B true) := by
  refine t38 (by simp [KFL, KF]) (by simp [KFL, KF]) ?_
  dsimp only [c38, r38, go_sem, Nat.reduceAdd, Nat.reduceMul, Nat.reduceSub]
  refine call breedE_ok ?_
  dsimp only [go_sem, Nat.reduceAdd, Nat.reduceMul, Nat.reduceSub]
  refine call animalE_ok ?_
  dsimp only [go_sem, Nat.reduceAdd, Nat.reduceMul, Nat.reduceSub]
  refine call (fitness_ok breedE animalE) ?_
  rw [eFit]
  dsimp only [go_sem, Nat.reduceAdd, Nat.reduceMul, Nat.reduceSub]
  refine call breedE_ok ?_
  dsimp only [go_sem, Nat.reduceAdd, Nat.reduceMul, Nat.reduceSub]
  refine call animalE_ok ?_
  dsimp only [go_sem, Nat.reduceAdd, Nat.reduceMul, Nat.reduceSub]
  refine call (carries_ok breedE animalE) ?_
  rw [eCar]
  dsimp only [go_sem, Nat.reduceAdd, Nat.reduceMul, Nat.reduceSub]
  refine call breedE_ok ?_
  dsimp only [go_sem, Nat.reduceAdd, Nat.reduceMul, Nat.reduceSub]
  refine call dayE_ok ?_
  dsimp only [go_sem, Nat.reduceAdd, Nat.reduceMul, Nat.reduceSub]
  refine call (Cost_ok breedE false dayE) ?_
  rw [eCost]
  dsimp only [go_sem, Nat.reduceAdd, Nat.reduceMul, Nat.reduceSub]
  refine call breedE_ok ?_
  dsimp only [go_sem, Nat.reduceAdd, Nat.reduceMul, Nat.reduceSub]
  refine call animalE_ok ?_
  dsimp only [go_sem, Nat.reduceAdd, Nat.reduceMul, Nat.reduceSub]
  refine call dayE_ok ?_
  dsimp only [go_sem, Nat.reduceAdd, Nat.reduceMul, Nat.reduceSub]
  refine call (after1_ok breedE animalE dayE) ?_
  rw [eAft]
  dsimp only [camelL, U8, go_sem, Nat.reduceAdd, Nat.reduceMul, Nat.reduceSub]
  refine call breedE_ok ?_
  dsimp only [go_sem, Nat.reduceAdd, Nat.reduceMul, Nat.reduceSub]
  refine call animalE_ok ?_
  dsimp only [go_sem, Nat.reduceAdd, Nat.reduceMul, Nat.reduceSub]
  refine call dayE_ok ?_
  dsimp only [go_sem, Nat.reduceAdd, Nat.reduceMul, Nat.reduceSub]
  refine call (lasts_ok breedE animalE dayE) ?_
  rw [eLast]
  dsimp only [go_sem, Nat.reduceAdd, Nat.reduceMul, Nat.reduceSub]
  refine call herd_ok ?_
  dsimp only [go_sem, Nat.reduceAdd, Nat.reduceMul, Nat.reduceSub]
  refine call (span_ok 3 5) ?_
  dsimp only [go_sem, Nat.reduceAdd, Nat.reduceMul, Nat.reduceSub]
  refine call (mange_ok 3 [0] herdE ⟨3, 5⟩ 8 true true (by decide) (by decide)) ?_
  rw [herdK, eMeet, eKn, eRow]
  dsimp only [go_sem, Nat.reduceAdd, Nat.reduceMul, Nat.reduceSub]
  repeat (first | (refine .inl ⟨rfl, ?_⟩; dsimp only [go_sem, Nat.reduceAdd, Nat.reduceMul, Nat.reduceSub]) | (refine call (span_ok _ _) ?_; dsimp only [go_sem, Nat.reduceAdd, Nat.reduceMul, Nat.reduceSub]))
  refine raw_str (e := 5) (ns := [2, 1, 0]) rfl (fun _ _ _ e => by cases e) rfl (by kernel_rfl) (by kernel_rfl) (by kernel_rfl) ?_
  dsimp only [go_sem, Nat.reduceAdd, Nat.reduceMul, Nat.reduceSub]
  refine .inl ⟨rfl, ?_⟩
  dsimp only [go_sem, Nat.reduceAdd, Nat.reduceMul, Nat.reduceSub]
  refine raw_seqc (q := true) rfl (.inl ⟨rfl, by decide +kernel⟩) ?_
  dsimp only [go_sem, Nat.reduceAdd, Nat.reduceMul, Nat.reduceSub]
  simp
end Go.Proofs.Ytnlfjchbhgikaaa
namespace Go.Azalai
theorem tdiv_mono {a b d : Int} (h0 : 0 ≤ a) (h : a ≤ b) (hd : 0 < d) : a.tdiv d ≤ b.tdiv d := by
  rw [Int.tdiv_eq_ediv_of_nonneg h0, Int.tdiv_eq_ediv_of_nonneg (Int.le_trans h0 h)]
  exact Int.ediv_le_ediv hd h
theorem upF_mono {a b d : Int} (h0 : 0 ≤ a) (h : a ≤ b) (hd : 0 < d) : upF a d ≤ upF b d := by
  unfold upF; exact tdiv_mono (by omega) (by omega) hd
theorem workF_le {m n : March} (h1 : n.hours ≤ m.hours) (h0 : 0 ≤ n.hours) (h2 : n.load ≤ m.load) (h3 : 0 ≤ n.load) : 0 ≤ workF n ∧ workF n ≤ workF m := by
  unfold workF
  exact ⟨Int.mul_nonneg h0 (by omega), Int.mul_le_mul h1 (by omega) (by omega) (by omega)⟩
theorem mulw {x a b : Int} (hx : 0 ≤ x) (h : 0 ≤ a ∧ a ≤ b) : 0 ≤ x * a ∧ x * a ≤ x * b := ⟨Int.mul_nonneg hx h.1, Int.mul_le_mul_of_nonneg_left h.2 hx⟩
theorem lighter_law {b : Breed} {c : Camel} {m n : March} (hb : okBreed b = true) (hm : okMarch m = true) (hn : okMarch n = true) (h1 : n.hours ≤ m.hours) (h1' : n.hours = 0 ↔ m.hours = 0) (h2 : n.load ≤ m.load) (hh : n.heat = m.heat)
    (h3 : m.drinks.lo ≤ n.drinks.lo ∧ m.drinks.hi ≤ n.drinks.hi) (h4 : m.grass.lo ≤ n.grass.lo ∧ m.grass.hi ≤ n.grass.hi) (hd : (afterF b c m).2 ≠ 2) :
    (afterF b c n).2 ≠ 2 ∧ ((afterF b c m).2 = 0 → (afterF b c n).2 = 0) ∧ (afterF b c m).1.water.lo ≤ (afterF b c n).1.water.lo ∧ (afterF b c m).1.water.hi ≤ (afterF b c n).1.water.hi ∧ (afterF b c m).1.fat.lo ≤ (afterF b c n).1.fat.lo ∧ (afterF b c m).1.fat.hi ≤ (afterF b c n).1.fat.hi ∧
      (afterF b c n).1.sore.lo ≤ (afterF b c m).1.sore.lo ∧ (afterF b c n).1.sore.hi ≤ (afterF b c m).1.sore.hi := by
  have hbb := Go.Proofs.Ytnlfjchbhgikaaa.breed_bd hb
  have hmm := Go.Proofs.Ytnlfjchbhgikaaa.march_bd hm
  have hnn := Go.Proofs.Ytnlfjchbhgikaaa.march_bd hn
  have hw := workF_le h1 (by omega) h2 (by omega)
  have hl : 0 ≤ n.hours * n.load ∧ n.hours * n.load ≤ m.hours * m.load := ⟨Int.mul_nonneg (by omega) (by omega), Int.mul_le_mul h1 h2 (by omega) (by omega)⟩
  have t1 := mulw (x := b.toil.lo) (by omega) hw
  have t2 := mulw (x := b.toil.hi) (by omega) hw
  have u1 := mulw (x := b.burn.lo) (by omega) hw
  have u2 := mulw (x := b.burn.hi) (by omega) hw
  have r1 := mulw (x := b.rub.lo) (by omega) hl
  have r2 := mulw (x := b.rub.hi) (by omega) hl
  have T1 := tdiv_mono t1.1 t1.2 (d := 100000) (by decide)
  have T2 := upF_mono t2.1 t2.2 (d := 100000) (by decide)
  have U1 := tdiv_mono u1.1 u1.2 (d := 100000) (by decide)
  have U2 := upF_mono u2.1 u2.2 (d := 100000) (by decide)
  have R1 := tdiv_mono r1.1 r1.2 (d := 1000000) (by decide)
  have R2 := upF_mono r2.1 r2.2 (d := 1000000) (by decide)
  have cw : (costW b c.milks n).lo ≤ (costW b c.milks m).lo ∧ (costW b c.milks n).hi ≤ (costW b c.milks m).hi := by
    simp only [costW, hh]; omega
  have cf : (costF b n).lo ≤ (costF b m).lo ∧ (costF b n).hi ≤ (costF b m).hi := by
    simp only [costF]; omega
  have cs : (soreF b c.sore n).lo ≤ (soreF b c.sore m).lo ∧ (soreF b c.sore n).hi ≤ (soreF b c.sore m).hi := by
    unfold soreF
    by_cases h : m.hours = 0
    · rw [if_pos h, if_pos (h1'.2 h)]; exact ⟨Int.le_refl _, Int.le_refl _⟩
    · rw [if_neg h, if_neg (fun e => h (h1'.1 e))]; simp only; omega
  unfold afterF at hd ⊢
  simp only at hd ⊢
  generalize costW b c.milks n = wn at *
  generalize costW b c.milks m = wm at *
  generalize costF b n = fn at *
  generalize costF b m = fm at *
  by_cases hdm : c.water.hi < wm.lo ∨ c.fat.hi < fm.lo
  · rw [if_pos hdm] at hd; simp at hd
  rw [if_neg hdm] at hd ⊢
  rw [if_neg (by omega)]
  simp only [lostF]
  refine ⟨by split <;> simp, fun h => ?_, by omega, by omega, by omega, by omega, cs.1, cs.2⟩
  by_cases hq : c.water.lo ≥ wm.hi ∧ c.fat.lo ≥ fm.hi
  · rw [if_pos (by omega)]
  · rw [if_neg hq] at h; simp at h
end Go.Azalai
set_option maxRecDepth 100000
set_option maxHeartbeats 4000000
namespace Go.Proofs.Ytnlfjchbhgikaaa
open Go Go.Sx Go.Azalai
theorem readyF_iff {b : Breed} {c : Camel} {l : List March} : readyF b c l = true ↔ okBreed b = true ∧ okCamel b c = true ∧ l.length ≤ 60 ∧ l.all okMarch = true := by
  unfold readyF
  rw [Bool.and_eq_true, Bool.and_eq_true, decide_eq_true_eq, decide_eq_true_eq, errC_0]
  exact ⟨fun ⟨⟨⟨h1, h2⟩, h3⟩, h4⟩ => ⟨h1, h2, h3, h4⟩, fun ⟨h1, h2, h3, h4⟩ => ⟨⟨⟨h1, h2⟩, h3⟩, h4⟩⟩
theorem lighter_ok (b : Breed) (c : Camel) (m : March) (ns : List W32) (hns : ns.length ≤ 9223372036854775807) : Ct Try.prog 9 [.agg (breedL b), .agg (camelL c), .agg (marchL m), .sl false 1 (ns.map w32L)] (B true) := by
  refine t9 (by simp [breedL, camelL, marchL, KFR_iff, w32L, U32, KFL, KF]) (by simp [KFL, KF]) ?_
  dsimp only [c9, r9, breedL, camelL, marchL, go_sem, Nat.reduceAdd, Nat.reduceMul, Nat.reduceSub]
  refine call alive_ok ?_
  ((try dsimp only [go_sem, Nat.reduceAdd, Nat.reduceMul, Nat.reduceSub]); repeat (simp only [Nat.beq_refl]; try dsimp only [go_sem, Nat.reduceAdd, Nat.reduceMul, Nat.reduceSub]))
  refine br_f rfl ?_
  ((try dsimp only [go_sem, Nat.reduceAdd, Nat.reduceMul, Nat.reduceSub]); repeat (simp only [Nat.beq_refl]; try dsimp only [go_sem, Nat.reduceAdd, Nat.reduceMul, Nat.reduceSub]))
  refine call (ready_ok b c [m] (by simp) true) ?_
  ((try dsimp only [go_sem, Nat.reduceAdd, Nat.reduceMul, Nat.reduceSub]); repeat (simp only [Nat.beq_refl]; try dsimp only [go_sem, Nat.reduceAdd, Nat.reduceMul, Nat.reduceSub]))
  by_cases hr : readyF b c [m] = true
  case neg =>
    refine br_t (by simp [hr]) ?_
    ((try dsimp only [go_sem, Nat.reduceAdd, Nat.reduceMul, Nat.reduceSub]); repeat (simp only [Nat.beq_refl]; try dsimp only [go_sem, Nat.reduceAdd, Nat.reduceMul, Nat.reduceSub]))
  refine br_f (by simp [hr]) ?_
  ((try dsimp only [go_sem, Nat.reduceAdd, Nat.reduceMul, Nat.reduceSub]); repeat (simp only [Nat.beq_refl]; try dsimp only [go_sem, Nat.reduceAdd, Nat.reduceMul, Nat.reduceSub]))
  obtain ⟨hb, hc, _, hm⟩ := readyF_iff.1 hr
  have hm : okMarch m = true := by simpa using hm
  have hmm := march_bd hm
  refine call (at_ok ns 0 hns (by omega) false) ?_
  dsimp only [U32, go_sem, Nat.reduceAdd, Nat.reduceMul, Nat.reduceSub]
  have n0 := atF_bd ns 0
  have n1 := atF_bd ns 1
  have n2 := atF_bd ns 2
  have n3 := atF_bd ns 3
  rw [w64_in (n := m.load + 1) (by omega) (by omega)]
  rw [w64_in (n := atF ns 0) (by omega) (by omega)]
  refine div0 (by omega) ?_
  ((try dsimp only [go_sem, Nat.reduceAdd, Nat.reduceMul, Nat.reduceSub]); repeat (simp only [Nat.beq_refl]; try dsimp only [go_sem, Nat.reduceAdd, Nat.reduceMul, Nat.reduceSub]))
  simp only [divr]
  have r0b : 0 ≤ (atF ns 0).tmod (m.load + 1) ∧ (atF ns 0).tmod (m.load + 1) < m.load + 1 := ⟨Int.tmod_nonneg _ (by omega), Int.tmod_lt_of_pos _ (by omega)⟩
  generalize (atF ns 0).tmod (m.load + 1) = r0 at r0b
  ((try dsimp only [go_sem, Nat.reduceAdd, Nat.reduceMul, Nat.reduceSub]); repeat (simp only [Nat.beq_refl]; try dsimp only [go_sem, Nat.reduceAdd, Nat.reduceMul, Nat.reduceSub]))
  rw [w64_in (n := m.load - r0) (by omega) (by omega)]
  by_cases hh : m.hours > 0
  · refine br_t (by simpa using hh) ?_
    ((try dsimp only [go_sem, Nat.reduceAdd, Nat.reduceMul, Nat.reduceSub]); repeat (simp only [Nat.beq_refl]; try dsimp only [go_sem, Nat.reduceAdd, Nat.reduceMul, Nat.reduceSub]))
    refine call (at_ok ns 1 hns (by omega) false) ?_
    dsimp only [U32, go_sem, Nat.reduceAdd, Nat.reduceMul, Nat.reduceSub]
    rw [w64_in (n := atF ns 1) (by omega) (by omega)]
    refine div0 (by omega) ?_
    ((try dsimp only [go_sem, Nat.reduceAdd, Nat.reduceMul, Nat.reduceSub]); repeat (simp only [Nat.beq_refl]; try dsimp only [go_sem, Nat.reduceAdd, Nat.reduceMul, Nat.reduceSub]))
    simp only [divr]
    have r1b : 0 ≤ (atF ns 1).tmod (m.hours) ∧ (atF ns 1).tmod (m.hours) < m.hours := ⟨Int.tmod_nonneg _ (by omega), Int.tmod_lt_of_pos _ (by omega)⟩
    generalize (atF ns 1).tmod (m.hours) = r1 at r1b
    ((try dsimp only [go_sem, Nat.reduceAdd, Nat.reduceMul, Nat.reduceSub]); repeat (simp only [Nat.beq_refl]; try dsimp only [go_sem, Nat.reduceAdd, Nat.reduceMul, Nat.reduceSub]))
    rw [w64_in (n := m.hours - r1) (by omega) (by omega)]
    refine call (at_ok ns 2 hns (by omega) false) ?_
    dsimp only [U32, go_sem, Nat.reduceAdd, Nat.reduceMul, Nat.reduceSub]
    rw [w64_in (n := 1000000 - m.drinks.hi) (by omega) (by omega), w64_in (n := 1000000 - m.drinks.hi + 1) (by omega) (by omega)]
    rw [w64_in (n := atF ns 2) (by omega) (by omega)]
    refine div0 (by omega) ?_
    ((try dsimp only [go_sem, Nat.reduceAdd, Nat.reduceMul, Nat.reduceSub]); repeat (simp only [Nat.beq_refl]; try dsimp only [go_sem, Nat.reduceAdd, Nat.reduceMul, Nat.reduceSub]))
    simp only [divr]
    have r2b : 0 ≤ (atF ns 2).tmod (1000000 - m.drinks.hi + 1) ∧ (atF ns 2).tmod (1000000 - m.drinks.hi + 1) < 1000000 - m.drinks.hi + 1 := ⟨Int.tmod_nonneg _ (by omega), Int.tmod_lt_of_pos _ (by omega)⟩
    generalize (atF ns 2).tmod (1000000 - m.drinks.hi + 1) = r2 at r2b
    ((try dsimp only [go_sem, Nat.reduceAdd, Nat.reduceMul, Nat.reduceSub]); repeat (simp only [Nat.beq_refl]; try dsimp only [go_sem, Nat.reduceAdd, Nat.reduceMul, Nat.reduceSub]))
    rw [w64_in (n := m.drinks.lo + r2) (by omega) (by omega), w64_in (n := m.drinks.hi + r2) (by omega) (by omega)]
    refine call (span_ok _ _) ?_
    ((try dsimp only [go_sem, Nat.reduceAdd, Nat.reduceMul, Nat.reduceSub]); repeat (simp only [Nat.beq_refl]; try dsimp only [go_sem, Nat.reduceAdd, Nat.reduceMul, Nat.reduceSub]))
    refine call (at_ok ns 3 hns (by omega) false) ?_
    dsimp only [U32, go_sem, Nat.reduceAdd, Nat.reduceMul, Nat.reduceSub]
    rw [w64_in (n := 1000000 - m.grass.hi) (by omega) (by omega), w64_in (n := 1000000 - m.grass.hi + 1) (by omega) (by omega)]
    rw [w64_in (n := atF ns 3) (by omega) (by omega)]
    refine div0 (by omega) ?_
    ((try dsimp only [go_sem, Nat.reduceAdd, Nat.reduceMul, Nat.reduceSub]); repeat (simp only [Nat.beq_refl]; try dsimp only [go_sem, Nat.reduceAdd, Nat.reduceMul, Nat.reduceSub]))
    simp only [divr]
    have r3b : 0 ≤ (atF ns 3).tmod (1000000 - m.grass.hi + 1) ∧ (atF ns 3).tmod (1000000 - m.grass.hi + 1) < 1000000 - m.grass.hi + 1 := ⟨Int.tmod_nonneg _ (by omega), Int.tmod_lt_of_pos _ (by omega)⟩
    generalize (atF ns 3).tmod (1000000 - m.grass.hi + 1) = r3 at r3b
    ((try dsimp only [go_sem, Nat.reduceAdd, Nat.reduceMul, Nat.reduceSub]); repeat (simp only [Nat.beq_refl]; try dsimp only [go_sem, Nat.reduceAdd, Nat.reduceMul, Nat.reduceSub]))
    rw [w64_in (n := m.grass.lo + r3) (by omega) (by omega), w64_in (n := m.grass.hi + r3) (by omega) (by omega)]
    refine call (span_ok _ _) ?_
    ((try dsimp only [go_sem, Nat.reduceAdd, Nat.reduceMul, Nat.reduceSub]); repeat (simp only [Nat.beq_refl]; try dsimp only [go_sem, Nat.reduceAdd, Nat.reduceMul, Nat.reduceSub]))
    refine call (after1_ok b c m) ?_
    dsimp only [camelL, U8, go_sem, Nat.reduceAdd, Nat.reduceMul, Nat.reduceSub]
    refine call (after1_ok b c ⟨m.hours - r1, m.load - r0, m.heat, ⟨m.grass.lo + r3, m.grass.hi + r3⟩, ⟨m.drinks.lo + r2, m.drinks.hi + r2⟩⟩) ?_
    dsimp only [camelL, U8, go_sem, Nat.reduceAdd, Nat.reduceMul, Nat.reduceSub]
    have hn : okMarch ⟨m.hours - r1, m.load - r0, m.heat, ⟨m.grass.lo + r3, m.grass.hi + r3⟩, ⟨m.drinks.lo + r2, m.drinks.hi + r2⟩⟩ = true := by
      simp only [okMarch, inR, okSp, Bool.and_eq_true, decide_eq_true_eq]; omega
    have hlaw := lighter_law (c := c) hb hm hn (by simp only <;> omega) (by simp only <;> omega) (by simp only; omega) rfl (by simp only; omega) (by simp only; omega)
    generalize (⟨m.hours - r1, m.load - r0, m.heat, ⟨m.grass.lo + r3, m.grass.hi + r3⟩, ⟨m.drinks.lo + r2, m.drinks.hi + r2⟩⟩ : March) = n at hn hlaw
    have e0 : errC b c = 0 := errC_0.2 ⟨hb, hc⟩
    have fm := afterF_fate b c m
    have fn := afterF_fate b c n
    by_cases hd : (afterF b c m).2 = 2
    · have eA : afterE b c m = (zeroC, 0, 13) := by simp [afterE, e0, hm, hd]
      rw [eA]
      refine br_t (by decide) ?_
      ((try dsimp only [go_sem, Nat.reduceAdd, Nat.reduceMul, Nat.reduceSub]); repeat (simp only [Nat.beq_refl]; try dsimp only [go_sem, Nat.reduceAdd, Nat.reduceMul, Nat.reduceSub]))
      by_cases hd2 : (afterF b c n).2 = 2
      · have eB : afterE b c n = (zeroC, 0, 13) := by simp [afterE, e0, hn, hd2]
        rw [eB]
        repeat (refine gb ?_; ((try dsimp only [go_sem, Nat.reduceAdd, Nat.reduceMul, Nat.reduceSub]); repeat (simp only [Nat.beq_refl]; try dsimp only [go_sem, Nat.reduceAdd, Nat.reduceMul, Nat.reduceSub])))
        simp
      · have eB : afterE b c n = ((afterF b c n).1, (afterF b c n).2, 0) := by simp [afterE, e0, hn, hd2]
        rw [eB]
        repeat (refine gb ?_; ((try dsimp only [go_sem, Nat.reduceAdd, Nat.reduceMul, Nat.reduceSub]); repeat (simp only [Nat.beq_refl]; try dsimp only [go_sem, Nat.reduceAdd, Nat.reduceMul, Nat.reduceSub])))
        simp
    have eA : afterE b c m = ((afterF b c m).1, (afterF b c m).2, 0) := by simp [afterE, e0, hm, hd]
    obtain ⟨hd2, hfl, hq⟩ := hlaw hd
    have eB : afterE b c n = ((afterF b c n).1, (afterF b c n).2, 0) := by simp [afterE, e0, hn, hd2]
    rw [eA, eB]
    generalize afterF b c m = p at *
    generalize afterF b c n = q at *
    refine br_f (by simp) ?_
    ((try dsimp only [go_sem, Nat.reduceAdd, Nat.reduceMul, Nat.reduceSub]); repeat (simp only [Nat.beq_refl]; try dsimp only [go_sem, Nat.reduceAdd, Nat.reduceMul, Nat.reduceSub]))
    repeat (refine gb ?_; ((try dsimp only [go_sem, Nat.reduceAdd, Nat.reduceMul, Nat.reduceSub]); repeat (simp only [Nat.beq_refl]; try dsimp only [go_sem, Nat.reduceAdd, Nat.reduceMul, Nat.reduceSub])))
    refine br_f (by
      by_cases h0 : p.2 = 0
      · have := hfl h0; simp [h0, this]
      · simp [h0]) ?_
    ((try dsimp only [go_sem, Nat.reduceAdd, Nat.reduceMul, Nat.reduceSub]); repeat (simp only [Nat.beq_refl]; try dsimp only [go_sem, Nat.reduceAdd, Nat.reduceMul, Nat.reduceSub]))
    repeat (refine gb ?_; ((try dsimp only [go_sem, Nat.reduceAdd, Nat.reduceMul, Nat.reduceSub]); repeat (simp only [Nat.beq_refl]; try dsimp only [go_sem, Nat.reduceAdd, Nat.reduceMul, Nat.reduceSub])))
    simp; omega
  · refine br_f (by simpa using hh) ?_
    ((try dsimp only [go_sem, Nat.reduceAdd, Nat.reduceMul, Nat.reduceSub]); repeat (simp only [Nat.beq_refl]; try dsimp only [go_sem, Nat.reduceAdd, Nat.reduceMul, Nat.reduceSub]))
    refine call (at_ok ns 2 hns (by omega) false) ?_
    dsimp only [U32, go_sem, Nat.reduceAdd, Nat.reduceMul, Nat.reduceSub]
    rw [w64_in (n := 1000000 - m.drinks.hi) (by omega) (by omega), w64_in (n := 1000000 - m.drinks.hi + 1) (by omega) (by omega)]
    rw [w64_in (n := atF ns 2) (by omega) (by omega)]
    refine div0 (by omega) ?_
    ((try dsimp only [go_sem, Nat.reduceAdd, Nat.reduceMul, Nat.reduceSub]); repeat (simp only [Nat.beq_refl]; try dsimp only [go_sem, Nat.reduceAdd, Nat.reduceMul, Nat.reduceSub]))
    simp only [divr]
    have r2b : 0 ≤ (atF ns 2).tmod (1000000 - m.drinks.hi + 1) ∧ (atF ns 2).tmod (1000000 - m.drinks.hi + 1) < 1000000 - m.drinks.hi + 1 := ⟨Int.tmod_nonneg _ (by omega), Int.tmod_lt_of_pos _ (by omega)⟩
    generalize (atF ns 2).tmod (1000000 - m.drinks.hi + 1) = r2 at r2b
    ((try dsimp only [go_sem, Nat.reduceAdd, Nat.reduceMul, Nat.reduceSub]); repeat (simp only [Nat.beq_refl]; try dsimp only [go_sem, Nat.reduceAdd, Nat.reduceMul, Nat.reduceSub]))
    rw [w64_in (n := m.drinks.lo + r2) (by omega) (by omega), w64_in (n := m.drinks.hi + r2) (by omega) (by omega)]
    refine call (span_ok _ _) ?_
    ((try dsimp only [go_sem, Nat.reduceAdd, Nat.reduceMul, Nat.reduceSub]); repeat (simp only [Nat.beq_refl]; try dsimp only [go_sem, Nat.reduceAdd, Nat.reduceMul, Nat.reduceSub]))
    refine call (at_ok ns 3 hns (by omega) false) ?_
    dsimp only [U32, go_sem, Nat.reduceAdd, Nat.reduceMul, Nat.reduceSub]
    rw [w64_in (n := 1000000 - m.grass.hi) (by omega) (by omega), w64_in (n := 1000000 - m.grass.hi + 1) (by omega) (by omega)]
    rw [w64_in (n := atF ns 3) (by omega) (by omega)]
    refine div0 (by omega) ?_
    ((try dsimp only [go_sem, Nat.reduceAdd, Nat.reduceMul, Nat.reduceSub]); repeat (simp only [Nat.beq_refl]; try dsimp only [go_sem, Nat.reduceAdd, Nat.reduceMul, Nat.reduceSub]))
    simp only [divr]
    have r3b : 0 ≤ (atF ns 3).tmod (1000000 - m.grass.hi + 1) ∧ (atF ns 3).tmod (1000000 - m.grass.hi + 1) < 1000000 - m.grass.hi + 1 := ⟨Int.tmod_nonneg _ (by omega), Int.tmod_lt_of_pos _ (by omega)⟩
    generalize (atF ns 3).tmod (1000000 - m.grass.hi + 1) = r3 at r3b
    ((try dsimp only [go_sem, Nat.reduceAdd, Nat.reduceMul, Nat.reduceSub]); repeat (simp only [Nat.beq_refl]; try dsimp only [go_sem, Nat.reduceAdd, Nat.reduceMul, Nat.reduceSub]))
    rw [w64_in (n := m.grass.lo + r3) (by omega) (by omega), w64_in (n := m.grass.hi + r3) (by omega) (by omega)]
    refine call (span_ok _ _) ?_
    ((try dsimp only [go_sem, Nat.reduceAdd, Nat.reduceMul, Nat.reduceSub]); repeat (simp only [Nat.beq_refl]; try dsimp only [go_sem, Nat.reduceAdd, Nat.reduceMul, Nat.reduceSub]))
    refine call (after1_ok b c m) ?_
    dsimp only [camelL, U8, go_sem, Nat.reduceAdd, Nat.reduceMul, Nat.reduceSub]
    refine call (after1_ok b c ⟨m.hours, m.load - r0, m.heat, ⟨m.grass.lo + r3, m.grass.hi + r3⟩, ⟨m.drinks.lo + r2, m.drinks.hi + r2⟩⟩) ?_
    dsimp only [camelL, U8, go_sem, Nat.reduceAdd, Nat.reduceMul, Nat.reduceSub]
    have hn : okMarch ⟨m.hours, m.load - r0, m.heat, ⟨m.grass.lo + r3, m.grass.hi + r3⟩, ⟨m.drinks.lo + r2, m.drinks.hi + r2⟩⟩ = true := by
      simp only [okMarch, inR, okSp, Bool.and_eq_true, decide_eq_true_eq]; omega
    have hlaw := lighter_law (c := c) hb hm hn (by simp only <;> omega) (by simp only <;> omega) (by simp only; omega) rfl (by simp only; omega) (by simp only; omega)
    generalize (⟨m.hours, m.load - r0, m.heat, ⟨m.grass.lo + r3, m.grass.hi + r3⟩, ⟨m.drinks.lo + r2, m.drinks.hi + r2⟩⟩ : March) = n at hn hlaw
    have e0 : errC b c = 0 := errC_0.2 ⟨hb, hc⟩
    have fm := afterF_fate b c m
    have fn := afterF_fate b c n
    by_cases hd : (afterF b c m).2 = 2
    · have eA : afterE b c m = (zeroC, 0, 13) := by simp [afterE, e0, hm, hd]
      rw [eA]
      refine br_t (by decide) ?_
      ((try dsimp only [go_sem, Nat.reduceAdd, Nat.reduceMul, Nat.reduceSub]); repeat (simp only [Nat.beq_refl]; try dsimp only [go_sem, Nat.reduceAdd, Nat.reduceMul, Nat.reduceSub]))
      by_cases hd2 : (afterF b c n).2 = 2
      · have eB : afterE b c n = (zeroC, 0, 13) := by simp [afterE, e0, hn, hd2]
        rw [eB]
        repeat (refine gb ?_; ((try dsimp only [go_sem, Nat.reduceAdd, Nat.reduceMul, Nat.reduceSub]); repeat (simp only [Nat.beq_refl]; try dsimp only [go_sem, Nat.reduceAdd, Nat.reduceMul, Nat.reduceSub])))
        simp
      · have eB : afterE b c n = ((afterF b c n).1, (afterF b c n).2, 0) := by simp [afterE, e0, hn, hd2]
        rw [eB]
        repeat (refine gb ?_; ((try dsimp only [go_sem, Nat.reduceAdd, Nat.reduceMul, Nat.reduceSub]); repeat (simp only [Nat.beq_refl]; try dsimp only [go_sem, Nat.reduceAdd, Nat.reduceMul, Nat.reduceSub])))
        simp
    have eA : afterE b c m = ((afterF b c m).1, (afterF b c m).2, 0) := by simp [afterE, e0, hm, hd]
    obtain ⟨hd2, hfl, hq⟩ := hlaw hd
    have eB : afterE b c n = ((afterF b c n).1, (afterF b c n).2, 0) := by simp [afterE, e0, hn, hd2]
    rw [eA, eB]
    generalize afterF b c m = p at *
    generalize afterF b c n = q at *
    refine br_f (by simp) ?_
    ((try dsimp only [go_sem, Nat.reduceAdd, Nat.reduceMul, Nat.reduceSub]); repeat (simp only [Nat.beq_refl]; try dsimp only [go_sem, Nat.reduceAdd, Nat.reduceMul, Nat.reduceSub]))
    repeat (refine gb ?_; ((try dsimp only [go_sem, Nat.reduceAdd, Nat.reduceMul, Nat.reduceSub]); repeat (simp only [Nat.beq_refl]; try dsimp only [go_sem, Nat.reduceAdd, Nat.reduceMul, Nat.reduceSub])))
    refine br_f (by
      by_cases h0 : p.2 = 0
      · have := hfl h0; simp [h0, this]
      · simp [h0]) ?_
    ((try dsimp only [go_sem, Nat.reduceAdd, Nat.reduceMul, Nat.reduceSub]); repeat (simp only [Nat.beq_refl]; try dsimp only [go_sem, Nat.reduceAdd, Nat.reduceMul, Nat.reduceSub]))
    repeat (refine gb ?_; ((try dsimp only [go_sem, Nat.reduceAdd, Nat.reduceMul, Nat.reduceSub]); repeat (simp only [Nat.beq_refl]; try dsimp only [go_sem, Nat.reduceAdd, Nat.reduceMul, Nat.reduceSub])))
    simp; omega
end Go.Proofs.Ytnlfjchbhgikaaa
