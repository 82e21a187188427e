import Derived.Test.YtkjldleglbbkeaaWIr
import Derived.Test.YtkjldleglbbkeaaSpec
set_option maxRecDepth 100000
set_option maxHeartbeats 4000000
namespace Go.Proofs.Ytkjldleglbbkeaa
open Go Go.Sx Go.Azalai
def intL (n : Int) : List SV := [I n]
def spanL (s : Span) : List SV := [I s.lo, I s.hi]
def gateL (g : Gate) : List SV := [I g.opens.lo, I g.opens.hi, I g.shuts.lo, I g.shuts.hi]
def wellL (w : Well) : List SV := [I w.x, I w.y, I w.depth, I w.yld.lo, I w.yld.hi, I w.room, I w.has.lo, I w.has.hi, I w.owner]
def legL (x : Leg) : List SV := [I x.a, I x.b, I x.long.lo, I x.long.hi, .sl false 4 (x.gates.map gateL)]
def landL (l : Land) : List SV := [.sl false 9 (l.wells.map wellL), .sl false 5 (l.legs.map legL)]
def drawL (d : Draw) : List SV := [I d.well, I d.day, I d.water]
theorem idxF_any {α : Type} (g : α → Bool) (l : List α) : decide (idxF g l 0 ≥ 0) = l.any g := idxF_ge g l 0

theorem idx101 (h : Nat) (caps : List SV) (hk : KFL caps) (g : Int → Bool) (l : List Int) (hg : ∀ x ∈ l, Ct Try.prog h (I x :: caps) (B (g x))) (hl : l.length < 4611686018427387904) {c : Bool} :
    Ct Try.prog 101 [.sl c 1 (l.map intL), .cl h caps] (I (idxF g l 0)) := by
  refine t101 ⟨by simp [KF, KFR_iff, KFL, intL], hk, trivial⟩ (by simp [KF]) ?_
  dsimp only [c101, r101, go_sem, List.drop, List.take, List.length, List.cons_append, List.nil_append, Nat.beq, Nat.blt, Nat.ble, Nat.reduceAdd, Nat.zero_add, Nat.add_zero, Nat.mul_one, Nat.reduceMul, Nat.zero_mul, Nat.one_mul]
  refine loopO (fun k : Nat => [(8, I k)]) (fun _ => []) (fun k => k ≤ l.length ∧ idxF g (l.drop k) k = idxF g l 0) (fun k => l.length - k) 0 ⟨Nat.zero_le _, rfl⟩ ?_ ?_
  · (refine ent_id ?_ ?_ ?_ rfl <;> dsimp only [intL, hk, id, go_sem, List.drop, List.take, List.length, List.cons_append, List.nil_append, Nat.beq, Nat.blt, Nat.ble, Nat.reduceAdd, Nat.zero_add, Nat.add_zero, Nat.mul_one, Nat.reduceMul, Nat.zero_mul, Nat.one_mul] <;> simp [intL, hk, KFR_iff, KFR, KFL, KF, mtL_same, mtO, Nat.beq_refl])
  · intro k ⟨hk', hi⟩
    dsimp only [go_sem, List.drop, List.take, List.length, List.cons_append, List.nil_append, Nat.beq, Nat.blt, Nat.ble, Nat.reduceAdd, Nat.zero_add, Nat.add_zero, Nat.mul_one, Nat.reduceMul, Nat.zero_mul, Nat.one_mul]
    refine br ?_ ?_
    · intro hlt
      have hlt : k < l.length := by simpa using hlt
      dsimp only [go_sem, List.drop, List.take, List.length, List.cons_append, List.nil_append, Nat.beq, Nat.blt, Nat.ble, Nat.reduceAdd, Nat.zero_add, Nat.add_zero, Nat.mul_one, Nat.reduceMul, Nat.zero_mul, Nat.one_mul]
      refine ixs_map k hlt rfl ?_
      dsimp only [intL, go_sem, List.drop, List.take, List.length, List.cons_append, List.nil_append, Nat.beq, Nat.blt, Nat.ble, Nat.reduceAdd, Nat.zero_add, Nat.add_zero, Nat.mul_one, Nat.reduceMul, Nat.zero_mul, Nat.one_mul]
      refine call (hg l[k] (List.getElem_mem _)) ?_
      dsimp only [go_sem, List.drop, List.take, List.length, List.cons_append, List.nil_append, Nat.beq, Nat.blt, Nat.ble, Nat.reduceAdd, Nat.zero_add, Nat.add_zero, Nat.mul_one, Nat.reduceMul, Nat.zero_mul, Nat.one_mul]
      refine br ?_ ?_
      · intro hgx
        dsimp only [go_sem, List.drop, List.take, List.length, List.cons_append, List.nil_append, Nat.beq, Nat.blt, Nat.ble, Nat.reduceAdd, Nat.zero_add, Nat.add_zero, Nat.mul_one, Nat.reduceMul, Nat.zero_mul, Nat.one_mul]
        rw [← hi, List.drop_eq_getElem_cons hlt]
        simp [idxF, hgx]
      · intro hgx
        dsimp only [go_sem, List.drop, List.take, List.length, List.cons_append, List.nil_append, Nat.beq, Nat.blt, Nat.ble, Nat.reduceAdd, Nat.zero_add, Nat.add_zero, Nat.mul_one, Nat.reduceMul, Nat.zero_mul, Nat.one_mul]
        refine ⟨k + 1, ⟨by omega, ?_⟩, by omega, ?_⟩
        · rw [← hi, List.drop_eq_getElem_cons hlt]; simp [idxF, hgx]
        · rw [w64_in (by omega) (by omega)]
          (refine ent_id ?_ ?_ ?_ rfl <;> dsimp only [intL, hk, id, go_sem, List.drop, List.take, List.length, List.cons_append, List.nil_append, Nat.beq, Nat.blt, Nat.ble, Nat.reduceAdd, Nat.zero_add, Nat.add_zero, Nat.mul_one, Nat.reduceMul, Nat.zero_mul, Nat.one_mul] <;> simp [intL, hk, KFR_iff, KFR, KFL, KF, mtL_same, mtO, Nat.beq_refl])
    · intro hlt
      have hlt : k = l.length := by simp at hlt; omega
      dsimp only [go_sem, List.drop, List.take, List.length, List.cons_append, List.nil_append, Nat.beq, Nat.blt, Nat.ble, Nat.reduceAdd, Nat.zero_add, Nat.add_zero, Nat.mul_one, Nat.reduceMul, Nat.zero_mul, Nat.one_mul]
      rw [← hi, hlt]; simp [idxF]

theorem con90 (h : Nat) (caps : List SV) (hk : KFL caps) (g : Int → Bool) (l : List Int) (hg : ∀ x ∈ l, Ct Try.prog h (I x :: caps) (B (g x))) (hl : l.length < 4611686018427387904) {c : Bool} :
    Ct Try.prog 90 [.sl c 1 (l.map intL), .cl h caps] (B (l.any g)) := by
  refine t90 ⟨by simp [KF, KFR_iff, KFL, intL], hk, trivial⟩ (by simp [KF]) ?_
  dsimp only [c90, r90, go_sem, List.drop, List.take, List.length, List.cons_append, List.nil_append, Nat.beq, Nat.blt, Nat.ble, Nat.reduceAdd, Nat.zero_add, Nat.add_zero, Nat.mul_one, Nat.reduceMul, Nat.zero_mul, Nat.one_mul]
  refine call (idx101 h caps hk g l hg hl) ?_
  dsimp only [go_sem, List.drop, List.take, List.length, List.cons_append, List.nil_append, Nat.beq, Nat.blt, Nat.ble, Nat.reduceAdd, Nat.zero_add, Nat.add_zero, Nat.mul_one, Nat.reduceMul, Nat.zero_mul, Nat.one_mul]
  rw [idxF_any]

theorem idx95 (h : Nat) (caps : List SV) (hk : KFL caps) (g : Well → Bool) (l : List Well) (hg : ∀ x ∈ l, Ct Try.prog h (.agg (wellL x) :: caps) (B (g x))) (hl : l.length < 4611686018427387904) {c : Bool} :
    Ct Try.prog 95 [.sl c 9 (l.map wellL), .cl h caps] (I (idxF g l 0)) := by
  refine t95 ⟨by simp [KF, KFR_iff, KFL, wellL], hk, trivial⟩ (by simp [KF]) ?_
  dsimp only [c95, r95, go_sem, List.drop, List.take, List.length, List.cons_append, List.nil_append, Nat.beq, Nat.blt, Nat.ble, Nat.reduceAdd, Nat.zero_add, Nat.add_zero, Nat.mul_one, Nat.reduceMul, Nat.zero_mul, Nat.one_mul]
  refine loopO (fun k : Nat => [(8, I k)]) (fun _ => []) (fun k => k ≤ l.length ∧ idxF g (l.drop k) k = idxF g l 0) (fun k => l.length - k) 0 ⟨Nat.zero_le _, rfl⟩ ?_ ?_
  · (refine ent_id ?_ ?_ ?_ rfl <;> dsimp only [wellL, hk, id, go_sem, List.drop, List.take, List.length, List.cons_append, List.nil_append, Nat.beq, Nat.blt, Nat.ble, Nat.reduceAdd, Nat.zero_add, Nat.add_zero, Nat.mul_one, Nat.reduceMul, Nat.zero_mul, Nat.one_mul] <;> simp [wellL, hk, KFR_iff, KFR, KFL, KF, mtL_same, mtO, Nat.beq_refl])
  · intro k ⟨hk', hi⟩
    dsimp only [go_sem, List.drop, List.take, List.length, List.cons_append, List.nil_append, Nat.beq, Nat.blt, Nat.ble, Nat.reduceAdd, Nat.zero_add, Nat.add_zero, Nat.mul_one, Nat.reduceMul, Nat.zero_mul, Nat.one_mul]
    refine br ?_ ?_
    · intro hlt
      have hlt : k < l.length := by simpa using hlt
      dsimp only [go_sem, List.drop, List.take, List.length, List.cons_append, List.nil_append, Nat.beq, Nat.blt, Nat.ble, Nat.reduceAdd, Nat.zero_add, Nat.add_zero, Nat.mul_one, Nat.reduceMul, Nat.zero_mul, Nat.one_mul]
      refine ixs_map k hlt rfl ?_
      dsimp only [wellL, go_sem, List.drop, List.take, List.length, List.cons_append, List.nil_append, Nat.beq, Nat.blt, Nat.ble, Nat.reduceAdd, Nat.zero_add, Nat.add_zero, Nat.mul_one, Nat.reduceMul, Nat.zero_mul, Nat.one_mul]
      refine call (hg l[k] (List.getElem_mem _)) ?_
      dsimp only [go_sem, List.drop, List.take, List.length, List.cons_append, List.nil_append, Nat.beq, Nat.blt, Nat.ble, Nat.reduceAdd, Nat.zero_add, Nat.add_zero, Nat.mul_one, Nat.reduceMul, Nat.zero_mul, Nat.one_mul]
      refine br ?_ ?_
      · intro hgx
        dsimp only [go_sem, List.drop, List.take, List.length, List.cons_append, List.nil_append, Nat.beq, Nat.blt, Nat.ble, Nat.reduceAdd, Nat.zero_add, Nat.add_zero, Nat.mul_one, Nat.reduceMul, Nat.zero_mul, Nat.one_mul]
        rw [← hi, List.drop_eq_getElem_cons hlt]
        simp [idxF, hgx]
      · intro hgx
        dsimp only [go_sem, List.drop, List.take, List.length, List.cons_append, List.nil_append, Nat.beq, Nat.blt, Nat.ble, Nat.reduceAdd, Nat.zero_add, Nat.add_zero, Nat.mul_one, Nat.reduceMul, Nat.zero_mul, Nat.one_mul]
        refine ⟨k + 1, ⟨by omega, ?_⟩, by omega, ?_⟩
        · rw [← hi, List.drop_eq_getElem_cons hlt]; simp [idxF, hgx]
        · rw [w64_in (by omega) (by omega)]
          (refine ent_id ?_ ?_ ?_ rfl <;> dsimp only [wellL, hk, id, go_sem, List.drop, List.take, List.length, List.cons_append, List.nil_append, Nat.beq, Nat.blt, Nat.ble, Nat.reduceAdd, Nat.zero_add, Nat.add_zero, Nat.mul_one, Nat.reduceMul, Nat.zero_mul, Nat.one_mul] <;> simp [wellL, hk, KFR_iff, KFR, KFL, KF, mtL_same, mtO, Nat.beq_refl])
    · intro hlt
      have hlt : k = l.length := by simp at hlt; omega
      dsimp only [go_sem, List.drop, List.take, List.length, List.cons_append, List.nil_append, Nat.beq, Nat.blt, Nat.ble, Nat.reduceAdd, Nat.zero_add, Nat.add_zero, Nat.mul_one, Nat.reduceMul, Nat.zero_mul, Nat.one_mul]
      rw [← hi, hlt]; simp [idxF]

theorem con71 (h : Nat) (caps : List SV) (hk : KFL caps) (g : Well → Bool) (l : List Well) (hg : ∀ x ∈ l, Ct Try.prog h (.agg (wellL x) :: caps) (B (g x))) (hl : l.length < 4611686018427387904) {c : Bool} :
    Ct Try.prog 71 [.sl c 9 (l.map wellL), .cl h caps] (B (l.any g)) := by
  refine t71 ⟨by simp [KF, KFR_iff, KFL, wellL], hk, trivial⟩ (by simp [KF]) ?_
  dsimp only [c71, r71, go_sem, List.drop, List.take, List.length, List.cons_append, List.nil_append, Nat.beq, Nat.blt, Nat.ble, Nat.reduceAdd, Nat.zero_add, Nat.add_zero, Nat.mul_one, Nat.reduceMul, Nat.zero_mul, Nat.one_mul]
  refine call (idx95 h caps hk g l hg hl) ?_
  dsimp only [go_sem, List.drop, List.take, List.length, List.cons_append, List.nil_append, Nat.beq, Nat.blt, Nat.ble, Nat.reduceAdd, Nat.zero_add, Nat.add_zero, Nat.mul_one, Nat.reduceMul, Nat.zero_mul, Nat.one_mul]
  rw [idxF_any]

theorem idx96 (h : Nat) (caps : List SV) (hk : KFL caps) (g : Leg → Bool) (l : List Leg) (hg : ∀ x ∈ l, Ct Try.prog h (.agg (legL x) :: caps) (B (g x))) (hl : l.length < 4611686018427387904) {c : Bool} :
    Ct Try.prog 96 [.sl c 5 (l.map legL), .cl h caps] (I (idxF g l 0)) := by
  refine t96 ⟨by simp [KF, KFR_iff, KFL, legL, gateL], hk, trivial⟩ (by simp [KF]) ?_
  dsimp only [c96, r96, go_sem, List.drop, List.take, List.length, List.cons_append, List.nil_append, Nat.beq, Nat.blt, Nat.ble, Nat.reduceAdd, Nat.zero_add, Nat.add_zero, Nat.mul_one, Nat.reduceMul, Nat.zero_mul, Nat.one_mul]
  refine loopO (fun k : Nat => [(8, I k)]) (fun _ => []) (fun k => k ≤ l.length ∧ idxF g (l.drop k) k = idxF g l 0) (fun k => l.length - k) 0 ⟨Nat.zero_le _, rfl⟩ ?_ ?_
  · (refine ent_id ?_ ?_ ?_ rfl <;> dsimp only [legL, gateL, hk, id, go_sem, List.drop, List.take, List.length, List.cons_append, List.nil_append, Nat.beq, Nat.blt, Nat.ble, Nat.reduceAdd, Nat.zero_add, Nat.add_zero, Nat.mul_one, Nat.reduceMul, Nat.zero_mul, Nat.one_mul] <;> simp [legL, gateL, hk, KFR_iff, KFR, KFL, KF, mtL_same, mtO, Nat.beq_refl])
  · intro k ⟨hk', hi⟩
    dsimp only [go_sem, List.drop, List.take, List.length, List.cons_append, List.nil_append, Nat.beq, Nat.blt, Nat.ble, Nat.reduceAdd, Nat.zero_add, Nat.add_zero, Nat.mul_one, Nat.reduceMul, Nat.zero_mul, Nat.one_mul]
    refine br ?_ ?_
    · intro hlt
      have hlt : k < l.length := by simpa using hlt
      dsimp only [go_sem, List.drop, List.take, List.length, List.cons_append, List.nil_append, Nat.beq, Nat.blt, Nat.ble, Nat.reduceAdd, Nat.zero_add, Nat.add_zero, Nat.mul_one, Nat.reduceMul, Nat.zero_mul, Nat.one_mul]
      refine ixs_map k hlt rfl ?_
      dsimp only [legL, go_sem, List.drop, List.take, List.length, List.cons_append, List.nil_append, Nat.beq, Nat.blt, Nat.ble, Nat.reduceAdd, Nat.zero_add, Nat.add_zero, Nat.mul_one, Nat.reduceMul, Nat.zero_mul, Nat.one_mul]
      refine call (hg l[k] (List.getElem_mem _)) ?_
      dsimp only [go_sem, List.drop, List.take, List.length, List.cons_append, List.nil_append, Nat.beq, Nat.blt, Nat.ble, Nat.reduceAdd, Nat.zero_add, Nat.add_zero, Nat.mul_one, Nat.reduceMul, Nat.zero_mul, Nat.one_mul]
      refine br ?_ ?_
      · intro hgx
        dsimp only [go_sem, List.drop, List.take, List.length, List.cons_append, List.nil_append, Nat.beq, Nat.blt, Nat.ble, Nat.reduceAdd, Nat.zero_add, Nat.add_zero, Nat.mul_one, Nat.reduceMul, Nat.zero_mul, Nat.one_mul]
        rw [← hi, List.drop_eq_getElem_cons hlt]
        simp [idxF, hgx]
      · intro hgx
        dsimp only [go_sem, List.drop, List.take, List.length, List.cons_append, List.nil_append, Nat.beq, Nat.blt, Nat.ble, Nat.reduceAdd, Nat.zero_add, Nat.add_zero, Nat.mul_one, Nat.reduceMul, Nat.zero_mul, Nat.one_mul]
        refine ⟨k + 1, ⟨by omega, ?_⟩, by omega, ?_⟩
        · rw [← hi, List.drop_eq_getElem_cons hlt]; simp [idxF, hgx]
        · rw [w64_in (by omega) (by omega)]
          (refine ent_id ?_ ?_ ?_ rfl <;> dsimp only [legL, gateL, hk, id, go_sem, List.drop, List.take, List.length, List.cons_append, List.nil_append, Nat.beq, Nat.blt, Nat.ble, Nat.reduceAdd, Nat.zero_add, Nat.add_zero, Nat.mul_one, Nat.reduceMul, Nat.zero_mul, Nat.one_mul] <;> simp [legL, gateL, hk, KFR_iff, KFR, KFL, KF, mtL_same, mtO, Nat.beq_refl])
    · intro hlt
      have hlt : k = l.length := by simp at hlt; omega
      dsimp only [go_sem, List.drop, List.take, List.length, List.cons_append, List.nil_append, Nat.beq, Nat.blt, Nat.ble, Nat.reduceAdd, Nat.zero_add, Nat.add_zero, Nat.mul_one, Nat.reduceMul, Nat.zero_mul, Nat.one_mul]
      rw [← hi, hlt]; simp [idxF]

theorem con74 (h : Nat) (caps : List SV) (hk : KFL caps) (g : Leg → Bool) (l : List Leg) (hg : ∀ x ∈ l, Ct Try.prog h (.agg (legL x) :: caps) (B (g x))) (hl : l.length < 4611686018427387904) {c : Bool} :
    Ct Try.prog 74 [.sl c 5 (l.map legL), .cl h caps] (B (l.any g)) := by
  refine t74 ⟨by simp [KF, KFR_iff, KFL, legL, gateL], hk, trivial⟩ (by simp [KF]) ?_
  dsimp only [c74, r74, go_sem, List.drop, List.take, List.length, List.cons_append, List.nil_append, Nat.beq, Nat.blt, Nat.ble, Nat.reduceAdd, Nat.zero_add, Nat.add_zero, Nat.mul_one, Nat.reduceMul, Nat.zero_mul, Nat.one_mul]
  refine call (idx96 h caps hk g l hg hl) ?_
  dsimp only [go_sem, List.drop, List.take, List.length, List.cons_append, List.nil_append, Nat.beq, Nat.blt, Nat.ble, Nat.reduceAdd, Nat.zero_add, Nat.add_zero, Nat.mul_one, Nat.reduceMul, Nat.zero_mul, Nat.one_mul]
  rw [idxF_any]

theorem idx107 (h : Nat) (caps : List SV) (hk : KFL caps) (g : Span → Bool) (l : List Span) (hg : ∀ x ∈ l, Ct Try.prog h (.agg (spanL x) :: caps) (B (g x))) (hl : l.length < 4611686018427387904) {c : Bool} :
    Ct Try.prog 107 [.sl c 2 (l.map spanL), .cl h caps] (I (idxF g l 0)) := by
  refine t107 ⟨by simp [KF, KFR_iff, KFL, spanL], hk, trivial⟩ (by simp [KF]) ?_
  dsimp only [c107, r107, go_sem, List.drop, List.take, List.length, List.cons_append, List.nil_append, Nat.beq, Nat.blt, Nat.ble, Nat.reduceAdd, Nat.zero_add, Nat.add_zero, Nat.mul_one, Nat.reduceMul, Nat.zero_mul, Nat.one_mul]
  refine loopO (fun k : Nat => [(8, I k)]) (fun _ => []) (fun k => k ≤ l.length ∧ idxF g (l.drop k) k = idxF g l 0) (fun k => l.length - k) 0 ⟨Nat.zero_le _, rfl⟩ ?_ ?_
  · (refine ent_id ?_ ?_ ?_ rfl <;> dsimp only [spanL, hk, id, go_sem, List.drop, List.take, List.length, List.cons_append, List.nil_append, Nat.beq, Nat.blt, Nat.ble, Nat.reduceAdd, Nat.zero_add, Nat.add_zero, Nat.mul_one, Nat.reduceMul, Nat.zero_mul, Nat.one_mul] <;> simp [spanL, hk, KFR_iff, KFR, KFL, KF, mtL_same, mtO, Nat.beq_refl])
  · intro k ⟨hk', hi⟩
    dsimp only [go_sem, List.drop, List.take, List.length, List.cons_append, List.nil_append, Nat.beq, Nat.blt, Nat.ble, Nat.reduceAdd, Nat.zero_add, Nat.add_zero, Nat.mul_one, Nat.reduceMul, Nat.zero_mul, Nat.one_mul]
    refine br ?_ ?_
    · intro hlt
      have hlt : k < l.length := by simpa using hlt
      dsimp only [go_sem, List.drop, List.take, List.length, List.cons_append, List.nil_append, Nat.beq, Nat.blt, Nat.ble, Nat.reduceAdd, Nat.zero_add, Nat.add_zero, Nat.mul_one, Nat.reduceMul, Nat.zero_mul, Nat.one_mul]
      refine ixs_map k hlt rfl ?_
      dsimp only [spanL, go_sem, List.drop, List.take, List.length, List.cons_append, List.nil_append, Nat.beq, Nat.blt, Nat.ble, Nat.reduceAdd, Nat.zero_add, Nat.add_zero, Nat.mul_one, Nat.reduceMul, Nat.zero_mul, Nat.one_mul]
      refine call (hg l[k] (List.getElem_mem _)) ?_
      dsimp only [go_sem, List.drop, List.take, List.length, List.cons_append, List.nil_append, Nat.beq, Nat.blt, Nat.ble, Nat.reduceAdd, Nat.zero_add, Nat.add_zero, Nat.mul_one, Nat.reduceMul, Nat.zero_mul, Nat.one_mul]
      refine br ?_ ?_
      · intro hgx
        dsimp only [go_sem, List.drop, List.take, List.length, List.cons_append, List.nil_append, Nat.beq, Nat.blt, Nat.ble, Nat.reduceAdd, Nat.zero_add, Nat.add_zero, Nat.mul_one, Nat.reduceMul, Nat.zero_mul, Nat.one_mul]
        rw [← hi, List.drop_eq_getElem_cons hlt]
        simp [idxF, hgx]
      · intro hgx
        dsimp only [go_sem, List.drop, List.take, List.length, List.cons_append, List.nil_append, Nat.beq, Nat.blt, Nat.ble, Nat.reduceAdd, Nat.zero_add, Nat.add_zero, Nat.mul_one, Nat.reduceMul, Nat.zero_mul, Nat.one_mul]
        refine ⟨k + 1, ⟨by omega, ?_⟩, by omega, ?_⟩
        · rw [← hi, List.drop_eq_getElem_cons hlt]; simp [idxF, hgx]
        · rw [w64_in (by omega) (by omega)]
          (refine ent_id ?_ ?_ ?_ rfl <;> dsimp only [spanL, hk, id, go_sem, List.drop, List.take, List.length, List.cons_append, List.nil_append, Nat.beq, Nat.blt, Nat.ble, Nat.reduceAdd, Nat.zero_add, Nat.add_zero, Nat.mul_one, Nat.reduceMul, Nat.zero_mul, Nat.one_mul] <;> simp [spanL, hk, KFR_iff, KFR, KFL, KF, mtL_same, mtO, Nat.beq_refl])
    · intro hlt
      have hlt : k = l.length := by simp at hlt; omega
      dsimp only [go_sem, List.drop, List.take, List.length, List.cons_append, List.nil_append, Nat.beq, Nat.blt, Nat.ble, Nat.reduceAdd, Nat.zero_add, Nat.add_zero, Nat.mul_one, Nat.reduceMul, Nat.zero_mul, Nat.one_mul]
      rw [← hi, hlt]; simp [idxF]

theorem con102 (h : Nat) (caps : List SV) (hk : KFL caps) (g : Span → Bool) (l : List Span) (hg : ∀ x ∈ l, Ct Try.prog h (.agg (spanL x) :: caps) (B (g x))) (hl : l.length < 4611686018427387904) {c : Bool} :
    Ct Try.prog 102 [.sl c 2 (l.map spanL), .cl h caps] (B (l.any g)) := by
  refine t102 ⟨by simp [KF, KFR_iff, KFL, spanL], hk, trivial⟩ (by simp [KF]) ?_
  dsimp only [c102, r102, go_sem, List.drop, List.take, List.length, List.cons_append, List.nil_append, Nat.beq, Nat.blt, Nat.ble, Nat.reduceAdd, Nat.zero_add, Nat.add_zero, Nat.mul_one, Nat.reduceMul, Nat.zero_mul, Nat.one_mul]
  refine call (idx107 h caps hk g l hg hl) ?_
  dsimp only [go_sem, List.drop, List.take, List.length, List.cons_append, List.nil_append, Nat.beq, Nat.blt, Nat.ble, Nat.reduceAdd, Nat.zero_add, Nat.add_zero, Nat.mul_one, Nat.reduceMul, Nat.zero_mul, Nat.one_mul]
  rw [idxF_any]

theorem within_ok (n lo hi : Int) : Ct Try.prog 61 [I n, I lo, I hi] (B (inR lo hi n)) := by
  refine t61 (by simp [KFL, KF]) (by simp [KFL, KF]) ?_
  dsimp only [c61, r61, go_sem, List.drop, List.take, List.length, List.cons_append, List.nil_append, Nat.beq, Nat.blt, Nat.ble, Nat.reduceAdd, Nat.zero_add, Nat.add_zero, Nat.mul_one, Nat.reduceMul, Nat.zero_mul, Nat.one_mul]
  refine gb ?_; dsimp only [go_sem, List.drop, List.take, List.length, List.cons_append, List.nil_append, Nat.beq, Nat.blt, Nat.ble, Nat.reduceAdd, Nat.zero_add, Nat.add_zero, Nat.mul_one, Nat.reduceMul, Nat.zero_mul, Nat.one_mul]
  refine gb ?_; dsimp only [go_sem, List.drop, List.take, List.length, List.cons_append, List.nil_append, Nat.beq, Nat.blt, Nat.ble, Nat.reduceAdd, Nat.zero_add, Nat.add_zero, Nat.mul_one, Nat.reduceMul, Nat.zero_mul, Nat.one_mul]
  refine gb ?_; dsimp only [go_sem, List.drop, List.take, List.length, List.cons_append, List.nil_append, Nat.beq, Nat.blt, Nat.ble, Nat.reduceAdd, Nat.zero_add, Nat.add_zero, Nat.mul_one, Nat.reduceMul, Nat.zero_mul, Nat.one_mul]
  simp [inR]
theorem spanned_ok (s : Span) (lo hi : Int) : Ct Try.prog 92 [.agg (spanL s), I lo, I hi] (B (okSp lo hi s)) := by
  refine t92 (by simp [spanL, KFL, KF]) (by simp [KFL, KF]) ?_
  dsimp only [c92, r92, spanL, go_sem, List.drop, List.take, List.length, List.cons_append, List.nil_append, Nat.beq, Nat.blt, Nat.ble, Nat.reduceAdd, Nat.zero_add, Nat.add_zero, Nat.mul_one, Nat.reduceMul, Nat.zero_mul, Nat.one_mul]
  refine call (within_ok _ _ _) ?_
  dsimp only [go_sem, List.drop, List.take, List.length, List.cons_append, List.nil_append, Nat.beq, Nat.blt, Nat.ble, Nat.reduceAdd, Nat.zero_add, Nat.add_zero, Nat.mul_one, Nat.reduceMul, Nat.zero_mul, Nat.one_mul]
  repeat (refine gb ?_; dsimp only [go_sem, List.drop, List.take, List.length, List.cons_append, List.nil_append, Nat.beq, Nat.blt, Nat.ble, Nat.reduceAdd, Nat.zero_add, Nat.add_zero, Nat.mul_one, Nat.reduceMul, Nat.zero_mul, Nat.one_mul])
  (simp only [okSp, inR, Option.some.injEq, SV.v.injEq, Value.bool.injEq] <;> grind)
theorem from1_ok (lo hi x : Int) : Ct Try.prog 91 [I x, .ps [I lo] 0, .ps [I hi] 0] (B (!inR lo hi x)) := by
  refine t91 (by simp [KFL, KF]) (by simp [KFL, KF]) ?_
  dsimp only [c91, r91, go_sem, List.drop, List.take, List.length, List.cons_append, List.nil_append, Nat.beq, Nat.blt, Nat.ble, Nat.reduceAdd, Nat.zero_add, Nat.add_zero, Nat.mul_one, Nat.reduceMul, Nat.zero_mul, Nat.one_mul]
  repeat (refine gb ?_; dsimp only [go_sem, List.drop, List.take, List.length, List.cons_append, List.nil_append, Nat.beq, Nat.blt, Nat.ble, Nat.reduceAdd, Nat.zero_add, Nat.add_zero, Nat.mul_one, Nat.reduceMul, Nat.zero_mul, Nat.one_mul])
  (simp only [inR, Option.some.injEq, SV.v.injEq, Value.bool.injEq] <;> grind)
theorem from_any (lo hi : Int) (l : List Int) (hl : l.length < 4611686018427387904) (c : Bool) : Ct Try.prog 58 [I lo, I hi, .sl c 1 (l.map intL)] (B (l.all (inR lo hi))) := by
  refine t58 (by simp [KFR_iff, intL, KFL, KF]) (by simp [KFL, KF]) ?_
  dsimp only [c58, r58, go_sem, List.drop, List.take, List.length, List.cons_append, List.nil_append, Nat.beq, Nat.blt, Nat.ble, Nat.reduceAdd, Nat.zero_add, Nat.add_zero, Nat.mul_one, Nat.reduceMul, Nat.zero_mul, Nat.one_mul]
  refine callv (by simp [FLT]) (res := B (l.any fun x => !inR lo hi x)) ?_ ?_
  · dsimp only [go_sem, List.drop, List.take, List.length, List.cons_append, List.nil_append, Nat.beq, Nat.blt, Nat.ble, Nat.reduceAdd, Nat.zero_add, Nat.add_zero, Nat.mul_one, Nat.reduceMul, Nat.zero_mul, Nat.one_mul]
    exact con90 91 [.ps [I lo] 0, .ps [I hi] 0] (by simp [KFL, KF]) (fun x => !inR lo hi x) l (fun x _ => from1_ok lo hi x) hl
  · dsimp only [go_sem, List.drop, List.take, List.length, List.cons_append, List.nil_append, Nat.beq, Nat.blt, Nat.ble, Nat.reduceAdd, Nat.zero_add, Nat.add_zero, Nat.mul_one, Nat.reduceMul, Nat.zero_mul, Nat.one_mul]
    simp [List.all_eq_not_any_not]
theorem from1 (lo hi a : Int) (c : Bool) : Ct Try.prog 58 [I lo, I hi, .sl c 1 [[I a]]] (B (inR lo hi a)) := by
  have := from_any lo hi [a] (by simp) c
  simpa [intL] using this
theorem from2 (lo hi a b : Int) (c : Bool) : Ct Try.prog 58 [I lo, I hi, .sl c 1 [[I a], [I b]]] (B (inR lo hi a && inR lo hi b)) := by
  have := from_any lo hi [a, b] (by simp) c
  simpa [intL] using this
theorem ordered1_ok (lo hi : Int) (s : Span) : Ct Try.prog 103 [.agg (spanL s), .ps [I lo] 0, .ps [I hi] 0] (B (!okSp lo hi s)) := by
  refine t103 (by simp [spanL, KFL, KF]) (by simp [KFL, KF]) ?_
  dsimp only [c103, r103, spanL, go_sem, List.drop, List.take, List.length, List.cons_append, List.nil_append, Nat.beq, Nat.blt, Nat.ble, Nat.reduceAdd, Nat.zero_add, Nat.add_zero, Nat.mul_one, Nat.reduceMul, Nat.zero_mul, Nat.one_mul]
  repeat (first | (refine gb ?_; dsimp only [go_sem, List.drop, List.take, List.length, List.cons_append, List.nil_append, Nat.beq, Nat.blt, Nat.ble, Nat.reduceAdd, Nat.zero_add, Nat.add_zero, Nat.mul_one, Nat.reduceMul, Nat.zero_mul, Nat.one_mul]) | (refine call (from2 _ _ _ _ _) ?_; dsimp only [go_sem, List.drop, List.take, List.length, List.cons_append, List.nil_append, Nat.beq, Nat.blt, Nat.ble, Nat.reduceAdd, Nat.zero_add, Nat.add_zero, Nat.mul_one, Nat.reduceMul, Nat.zero_mul, Nat.one_mul]))
  (simp only [okSp, inR, Option.some.injEq, SV.v.injEq, Value.bool.injEq] <;> grind)
theorem ordered_any (lo hi : Int) (l : List Span) (hl : l.length < 4611686018427387904) (c : Bool) : Ct Try.prog 93 [I lo, I hi, .sl c 2 (l.map spanL)] (B (l.all (okSp lo hi))) := by
  refine t93 (by simp [KFR_iff, spanL, KFL, KF]) (by simp [KFL, KF]) ?_
  dsimp only [c93, r93, go_sem, List.drop, List.take, List.length, List.cons_append, List.nil_append, Nat.beq, Nat.blt, Nat.ble, Nat.reduceAdd, Nat.zero_add, Nat.add_zero, Nat.mul_one, Nat.reduceMul, Nat.zero_mul, Nat.one_mul]
  refine callv (by simp [FLT]) (res := B (l.any fun x => !okSp lo hi x)) ?_ ?_
  · dsimp only [go_sem, List.drop, List.take, List.length, List.cons_append, List.nil_append, Nat.beq, Nat.blt, Nat.ble, Nat.reduceAdd, Nat.zero_add, Nat.add_zero, Nat.mul_one, Nat.reduceMul, Nat.zero_mul, Nat.one_mul]
    exact con102 103 [.ps [I lo] 0, .ps [I hi] 0] (by simp [KFL, KF]) (fun x => !okSp lo hi x) l (fun x _ => ordered1_ok lo hi x) hl
  · dsimp only [go_sem, List.drop, List.take, List.length, List.cons_append, List.nil_append, Nat.beq, Nat.blt, Nat.ble, Nat.reduceAdd, Nat.zero_add, Nat.add_zero, Nat.mul_one, Nat.reduceMul, Nat.zero_mul, Nat.one_mul]
    simp [List.all_eq_not_any_not]
theorem ordered1 (lo hi : Int) (s : Span) (c : Bool) : Ct Try.prog 93 [I lo, I hi, .sl c 2 [[I s.lo, I s.hi]]] (B (okSp lo hi s)) := by
  have := ordered_any lo hi [s] (by simp) c
  simpa [spanL] using this
theorem ordered2 (lo hi : Int) (s t : Span) (c : Bool) : Ct Try.prog 93 [I lo, I hi, .sl c 2 [[I s.lo, I s.hi], [I t.lo, I t.hi]]] (B (okSp lo hi s && okSp lo hi t)) := by
  have := ordered_any lo hi [s, t] (by simp) c
  simpa [spanL] using this
theorem dug_ok (w : Well) : Ct Try.prog 73 [.agg (wellL w)] (B (okWell w)) := by
  refine t73 (by simp [wellL, KFL, KF]) (by simp [KFL, KF]) ?_
  dsimp only [c73, r73, wellL, go_sem, List.drop, List.take, List.length, List.cons_append, List.nil_append, Nat.beq, Nat.blt, Nat.ble, Nat.reduceAdd, Nat.zero_add, Nat.add_zero, Nat.mul_one, Nat.reduceMul, Nat.zero_mul, Nat.one_mul]
  repeat (first | (refine gb ?_; dsimp only [go_sem, List.drop, List.take, List.length, List.cons_append, List.nil_append, Nat.beq, Nat.blt, Nat.ble, Nat.reduceAdd, Nat.zero_add, Nat.add_zero, Nat.mul_one, Nat.reduceMul, Nat.zero_mul, Nat.one_mul]) | (refine call (from1 _ _ _ _) ?_; dsimp only [go_sem, List.drop, List.take, List.length, List.cons_append, List.nil_append, Nat.beq, Nat.blt, Nat.ble, Nat.reduceAdd, Nat.zero_add, Nat.add_zero, Nat.mul_one, Nat.reduceMul, Nat.zero_mul, Nat.one_mul]) | (refine call (from2 _ _ _ _ _) ?_; dsimp only [go_sem, List.drop, List.take, List.length, List.cons_append, List.nil_append, Nat.beq, Nat.blt, Nat.ble, Nat.reduceAdd, Nat.zero_add, Nat.add_zero, Nat.mul_one, Nat.reduceMul, Nat.zero_mul, Nat.one_mul]) | (refine call (ordered1 _ _ w.yld _) ?_; dsimp only [go_sem, List.drop, List.take, List.length, List.cons_append, List.nil_append, Nat.beq, Nat.blt, Nat.ble, Nat.reduceAdd, Nat.zero_add, Nat.add_zero, Nat.mul_one, Nat.reduceMul, Nat.zero_mul, Nat.one_mul]) | (refine call (ordered1 _ _ w.has _) ?_; dsimp only [go_sem, List.drop, List.take, List.length, List.cons_append, List.nil_append, Nat.beq, Nat.blt, Nat.ble, Nat.reduceAdd, Nat.zero_add, Nat.add_zero, Nat.mul_one, Nat.reduceMul, Nat.zero_mul, Nat.one_mul]))
  simp [okWell, Bool.and_assoc]
theorem trodden_ok (x : Leg) (n : Int) (h0 : 0 ≤ n) (h1 : n ≤ 1000) (hg : x.gates.length < 4611686018427387904) : Ct Try.prog 76 [.agg (legL x), I n] (B (okLeg n x)) := by
  have hw : IntKind.i64.wrap (n - 1) = n - 1 := w64_in (by omega) (by omega)
  refine t76 (by simp [legL, KFR_iff, gateL, KFL, KF]) (by simp [KFL, KF]) ?_
  dsimp only [c76, r76, legL, hw, go_sem, List.drop, List.take, List.length, List.cons_append, List.nil_append, Nat.beq, Nat.blt, Nat.ble, Nat.reduceAdd, Nat.zero_add, Nat.add_zero, Nat.mul_one, Nat.reduceMul, Nat.zero_mul, Nat.one_mul]
  simp only [hw]
  repeat (first | (refine gb ?_; dsimp only [go_sem, List.drop, List.take, List.length, List.cons_append, List.nil_append, Nat.beq, Nat.blt, Nat.ble, Nat.reduceAdd, Nat.zero_add, Nat.add_zero, Nat.mul_one, Nat.reduceMul, Nat.zero_mul, Nat.one_mul]) | (refine call (from2 _ _ _ _ _) ?_; dsimp only [go_sem, List.drop, List.take, List.length, List.cons_append, List.nil_append, Nat.beq, Nat.blt, Nat.ble, Nat.reduceAdd, Nat.zero_add, Nat.add_zero, Nat.mul_one, Nat.reduceMul, Nat.zero_mul, Nat.one_mul]) | (refine call (ordered1 _ _ x.long _) ?_; dsimp only [go_sem, List.drop, List.take, List.length, List.cons_append, List.nil_append, Nat.beq, Nat.blt, Nat.ble, Nat.reduceAdd, Nat.zero_add, Nat.add_zero, Nat.mul_one, Nat.reduceMul, Nat.zero_mul, Nat.one_mul]))
  simp only [List.length_map]
  refine br ?_ ?_
  · intro h
    dsimp only [go_sem, List.drop, List.take, List.length, List.cons_append, List.nil_append, Nat.beq, Nat.blt, Nat.ble, Nat.reduceAdd, Nat.zero_add, Nat.add_zero, Nat.mul_one, Nat.reduceMul, Nat.zero_mul, Nat.one_mul]
    (simp only [okLeg, Option.some.injEq, SV.v.injEq, Value.bool.injEq] <;> grind)
  · intro h
    dsimp only [go_sem, List.drop, List.take, List.length, List.cons_append, List.nil_append, Nat.beq, Nat.blt, Nat.ble, Nat.reduceAdd, Nat.zero_add, Nat.add_zero, Nat.mul_one, Nat.reduceMul, Nat.zero_mul, Nat.one_mul]
    have hh : okLeg n x = okGates 0 x.gates := by simp only [okLeg]; grind
    rw [hh]
    refine loopO (fun s : Nat × Int => [(40, I s.1), (5, I s.2)]) (fun _ => []) (fun s => s.1 ≤ x.gates.length ∧ okGates s.2 (x.gates.drop s.1) = okGates 0 x.gates) (fun s => x.gates.length - s.1) (0, 0) ⟨Nat.zero_le _, rfl⟩ ?_ ?_
    · (refine ent_id ?_ ?_ ?_ rfl <;> dsimp only [gateL, id, go_sem, List.drop, List.take, List.length, List.cons_append, List.nil_append, Nat.beq, Nat.blt, Nat.ble, Nat.reduceAdd, Nat.zero_add, Nat.add_zero, Nat.mul_one, Nat.reduceMul, Nat.zero_mul, Nat.one_mul] <;> simp [gateL, KFR_iff, KFR, KFL, KF, mtL_same, mtO, Nat.beq_refl])
    · rintro ⟨k, next⟩ ⟨hk, hi⟩
      dsimp only [go_sem, List.drop, List.take, List.length, List.cons_append, List.nil_append, Nat.beq, Nat.blt, Nat.ble, Nat.reduceAdd, Nat.zero_add, Nat.add_zero, Nat.mul_one, Nat.reduceMul, Nat.zero_mul, Nat.one_mul]
      refine br ?_ ?_
      · intro hlt
        have hlt : k < x.gates.length := by simpa using hlt
        dsimp only [go_sem, List.drop, List.take, List.length, List.cons_append, List.nil_append, Nat.beq, Nat.blt, Nat.ble, Nat.reduceAdd, Nat.zero_add, Nat.add_zero, Nat.mul_one, Nat.reduceMul, Nat.zero_mul, Nat.one_mul]
        refine ixs_map k hlt rfl ?_
        dsimp only [gateL, go_sem, List.drop, List.take, List.length, List.cons_append, List.nil_append, Nat.beq, Nat.blt, Nat.ble, Nat.reduceAdd, Nat.zero_add, Nat.add_zero, Nat.mul_one, Nat.reduceMul, Nat.zero_mul, Nat.one_mul]
        repeat (first | (refine gb ?_; dsimp only [go_sem, List.drop, List.take, List.length, List.cons_append, List.nil_append, Nat.beq, Nat.blt, Nat.ble, Nat.reduceAdd, Nat.zero_add, Nat.add_zero, Nat.mul_one, Nat.reduceMul, Nat.zero_mul, Nat.one_mul]) | (refine call (ordered2 _ _ x.gates[k].opens x.gates[k].shuts _) ?_; dsimp only [go_sem, List.drop, List.take, List.length, List.cons_append, List.nil_append, Nat.beq, Nat.blt, Nat.ble, Nat.reduceAdd, Nat.zero_add, Nat.add_zero, Nat.mul_one, Nat.reduceMul, Nat.zero_mul, Nat.one_mul]) | (refine call (from1 _ _ _ _) ?_; dsimp only [go_sem, List.drop, List.take, List.length, List.cons_append, List.nil_append, Nat.beq, Nat.blt, Nat.ble, Nat.reduceAdd, Nat.zero_add, Nat.add_zero, Nat.mul_one, Nat.reduceMul, Nat.zero_mul, Nat.one_mul]))
        have hd : x.gates.drop k = x.gates[k] :: x.gates.drop (k + 1) := List.drop_eq_getElem_cons hlt
        refine br ?_ ?_
        · intro hb
          dsimp only [go_sem, List.drop, List.take, List.length, List.cons_append, List.nil_append, Nat.beq, Nat.blt, Nat.ble, Nat.reduceAdd, Nat.zero_add, Nat.add_zero, Nat.mul_one, Nat.reduceMul, Nat.zero_mul, Nat.one_mul]
          rw [← hi, hd]
          (simp only [okGates, Option.some.injEq, SV.v.injEq, Value.bool.injEq] <;> grind)
        · intro hb
          dsimp only [go_sem, List.drop, List.take, List.length, List.cons_append, List.nil_append, Nat.beq, Nat.blt, Nat.ble, Nat.reduceAdd, Nat.zero_add, Nat.add_zero, Nat.mul_one, Nat.reduceMul, Nat.zero_mul, Nat.one_mul]
          have hs : okSp 0 100000 x.gates[k].shuts = true := by grind
          simp only [okSp, decide_eq_true_eq] at hs
          rw [w64_in (n := x.gates[k].shuts.hi + 1) (by omega) (by omega), w64_in (n := (k : Int) + 1) (by omega) (by omega)]
          refine ⟨(k + 1, x.gates[k].shuts.hi + 1), ⟨hlt, ?_⟩, by simp only; omega, ?_⟩
          · rw [← hi, hd]; simp only [okGates]; grind
          · (refine ent_id ?_ ?_ ?_ rfl <;> dsimp only [gateL, id, go_sem, List.drop, List.take, List.length, List.cons_append, List.nil_append, Nat.beq, Nat.blt, Nat.ble, Nat.reduceAdd, Nat.zero_add, Nat.add_zero, Nat.mul_one, Nat.reduceMul, Nat.zero_mul, Nat.one_mul] <;> simp [gateL, KFR_iff, KFR, KFL, KF, mtL_same, mtO, Nat.beq_refl])
      · intro hlt
        have hlt : k = x.gates.length := by simp at hlt; omega
        dsimp only [go_sem, List.drop, List.take, List.length, List.cons_append, List.nil_append, Nat.beq, Nat.blt, Nat.ble, Nat.reduceAdd, Nat.zero_add, Nat.add_zero, Nat.mul_one, Nat.reduceMul, Nat.zero_mul, Nat.one_mul]
        rw [← hi, hlt]; simp [okGates]
theorem leg1_ok (l : Land) (x : Leg) (hs : Small l) (hx : x ∈ l.legs) : Ct Try.prog 75 [.agg (legL x), .ps (landL l) 0] (B (!okLeg l.wells.length x)) := by
  have hg := hs.2.2 x hx
  refine t75 (by simp [legL, landL, wellL, gateL, KFR_iff, KFL, KF]) (by simp [KFL, KF]) ?_
  dsimp only [c75, r75, legL, landL, go_sem, List.drop, List.take, List.length, List.cons_append, List.nil_append, Nat.beq, Nat.blt, Nat.ble, Nat.reduceAdd, Nat.zero_add, Nat.add_zero, Nat.mul_one, Nat.reduceMul, Nat.zero_mul, Nat.one_mul]
  simp only [List.length_map]
  refine call (trodden_ok x l.wells.length (by omega) (by have := hs.1; omega) (by omega)) ?_
  dsimp only [go_sem, List.drop, List.take, List.length, List.cons_append, List.nil_append, Nat.beq, Nat.blt, Nat.ble, Nat.reduceAdd, Nat.zero_add, Nat.add_zero, Nat.mul_one, Nat.reduceMul, Nat.zero_mul, Nat.one_mul]
theorem well1_ok (w : Well) : Ct Try.prog 72 [.agg (wellL w)] (B (!okWell w)) := by
  refine t72 (by simp [wellL, KFL, KF]) (by simp [KFL, KF]) ?_
  dsimp only [c72, r72, wellL, go_sem, List.drop, List.take, List.length, List.cons_append, List.nil_append, Nat.beq, Nat.blt, Nat.ble, Nat.reduceAdd, Nat.zero_add, Nat.add_zero, Nat.mul_one, Nat.reduceMul, Nat.zero_mul, Nat.one_mul]
  refine call (dug_ok w) ?_
  dsimp only [go_sem, List.drop, List.take, List.length, List.cons_append, List.nil_append, Nat.beq, Nat.blt, Nat.ble, Nat.reduceAdd, Nat.zero_add, Nat.add_zero, Nat.mul_one, Nat.reduceMul, Nat.zero_mul, Nat.one_mul]
theorem check_ok (l : Land) (hs : Small l) : Ct Try.prog 26 [.agg (landL l)] (I (if okLand l = true then 0 else 30)) := by
  refine t26 (by simp [landL, wellL, legL, gateL, KFR_iff, KFL, KF]) (by simp [KFL, KF]) ?_
  dsimp only [c26, r26, landL, go_sem, List.drop, List.take, List.length, List.cons_append, List.nil_append, Nat.beq, Nat.blt, Nat.ble, Nat.reduceAdd, Nat.zero_add, Nat.add_zero, Nat.mul_one, Nat.reduceMul, Nat.zero_mul, Nat.one_mul]
  refine call (con71 72 [] (by simp [KFL]) (fun w => !okWell w) l.wells (fun w _ => well1_ok w) (by have := hs.1; omega)) ?_
  dsimp only [go_sem, List.drop, List.take, List.length, List.cons_append, List.nil_append, Nat.beq, Nat.blt, Nat.ble, Nat.reduceAdd, Nat.zero_add, Nat.add_zero, Nat.mul_one, Nat.reduceMul, Nat.zero_mul, Nat.one_mul]
  refine callv (res := B (l.legs.any fun x => !okLeg l.wells.length x)) (by simp [FLT]) ?_ ?_
  · dsimp only [go_sem, List.drop, List.take, List.length, List.cons_append, List.nil_append, Nat.beq, Nat.blt, Nat.ble, Nat.reduceAdd, Nat.zero_add, Nat.add_zero, Nat.mul_one, Nat.reduceMul, Nat.zero_mul, Nat.one_mul]
    exact con74 75 [.ps (landL l) 0] (by simp [landL, wellL, legL, gateL, KFR_iff, KFL, KF]) (fun x => !okLeg l.wells.length x) l.legs (fun x hx => leg1_ok l x hs hx) (by have := hs.2.1; omega)
  dsimp only [go_sem, List.drop, List.take, List.length, List.cons_append, List.nil_append, Nat.beq, Nat.blt, Nat.ble, Nat.reduceAdd, Nat.zero_add, Nat.add_zero, Nat.mul_one, Nat.reduceMul, Nat.zero_mul, Nat.one_mul]
  repeat (first | (refine gb ?_; dsimp only [go_sem, List.drop, List.take, List.length, List.cons_append, List.nil_append, Nat.beq, Nat.blt, Nat.ble, Nat.reduceAdd, Nat.zero_add, Nat.add_zero, Nat.mul_one, Nat.reduceMul, Nat.zero_mul, Nat.one_mul]) | (refine call (from1 _ _ _ _) ?_; dsimp only [go_sem, List.drop, List.take, List.length, List.cons_append, List.nil_append, Nat.beq, Nat.blt, Nat.ble, Nat.reduceAdd, Nat.zero_add, Nat.add_zero, Nat.mul_one, Nat.reduceMul, Nat.zero_mul, Nat.one_mul]))
  simp only [List.length_map]
  have key : okLand l = !(!inR 1 12 l.wells.length || decide ((l.legs.length : Int) > 24) || !(!l.wells.any fun w => !okWell w) || !(!l.legs.any fun x => !okLeg l.wells.length x)) := by
    simp only [okLand, List.all_eq_not_any_not]; grind
  rw [key]
  refine br ?_ ?_
  · intro h
    dsimp only [go_sem, List.drop, List.take, List.length, List.cons_append, List.nil_append, Nat.beq, Nat.blt, Nat.ble, Nat.reduceAdd, Nat.zero_add, Nat.add_zero, Nat.mul_one, Nat.reduceMul, Nat.zero_mul, Nat.one_mul]
    rw [h]; rfl
  · intro h
    dsimp only [go_sem, List.drop, List.take, List.length, List.cons_append, List.nil_append, Nat.beq, Nat.blt, Nat.ble, Nat.reduceAdd, Nat.zero_add, Nat.add_zero, Nat.mul_one, Nat.reduceMul, Nat.zero_mul, Nat.one_mul]
    rw [h]; rfl
theorem filled_wrap {w : Well} {s : Span} {n : Int} (hw : okWell w = true) (h1 : 0 ≤ s.lo) (h2 : s.lo ≤ w.room) (h3 : 0 ≤ s.hi) (h4 : s.hi ≤ w.room) (h5 : -200000 ≤ n) (h6 : n ≤ 200000) :
    IntKind.i64.wrap (s.lo + IntKind.i64.wrap (n * w.yld.lo)) = s.lo + n * w.yld.lo ∧ IntKind.i64.wrap (s.hi + IntKind.i64.wrap (n * w.yld.hi)) = s.hi + n * w.yld.hi := by
  simp only [okWell, okSp, inR, Bool.and_eq_true, decide_eq_true_eq] at hw
  have key : ∀ y : Int, 0 ≤ y → y ≤ 10000000 → -2000000000000 ≤ n * y ∧ n * y ≤ 2000000000000 := fun y a b => by
    constructor
    · have := Int.mul_le_mul_of_nonneg_right h5 a; omega
    · have := Int.mul_le_mul_of_nonneg_right h6 a; omega
  have k1 := key w.yld.lo (by omega) (by omega)
  have k2 := key w.yld.hi (by omega) (by omega)
  rw [w64_in (n := n * w.yld.lo) (by omega) (by omega), w64_in (n := n * w.yld.hi) (by omega) (by omega), w64_in (by omega) (by omega), w64_in (by omega) (by omega)]
  exact ⟨rfl, rfl⟩
theorem filled_lo {w : Well} {s : Span} {n : Int} (hw : okWell w = true) (h1 : 0 ≤ s.lo) (h2 : s.lo ≤ w.room) (h3 : 0 ≤ s.hi) (h4 : s.hi ≤ w.room) (h5 : -200000 ≤ n) (h6 : n ≤ 200000) : -2000000000000 ≤ (filled w s n).lo := by
  simp only [okWell, okSp, inR, Bool.and_eq_true, decide_eq_true_eq] at hw
  have k1 : -2000000000000 ≤ n * w.yld.lo := by
    have := Int.mul_le_mul_of_nonneg_right h5 (show 0 ≤ w.yld.lo by omega); omega
  simp only [filled]; omega
theorem filled_ok (w : Well) (s : Span) (n : Int) (hw : okWell w = true) (h1 : 0 ≤ s.lo) (h2 : s.lo ≤ w.room) (h3 : 0 ≤ s.hi) (h4 : s.hi ≤ w.room) (h5 : -200000 ≤ n) (h6 : n ≤ 200000) :
    Ct Try.prog 59 [.agg (wellL w), .agg (spanL s), I n] (.agg (spanL (filled w s n))) := by
  obtain ⟨k1, k2⟩ := filled_wrap hw h1 h2 h3 h4 h5 h6
  refine t59 (by simp [wellL, spanL, KFL, KF]) (by simp [spanL, KFL, KF]) ?_
  dsimp only [c59, r59, wellL, spanL, go_sem, List.drop, List.take, List.length, List.cons_append, List.nil_append, Nat.beq, Nat.blt, Nat.ble, Nat.reduceAdd, Nat.zero_add, Nat.add_zero, Nat.mul_one, Nat.reduceMul, Nat.zero_mul, Nat.one_mul]
  simp only [k1, k2, filled]
theorem filledR_ok (w : Well) (s : Span) (n : Int) (hw : okWell w = true) (h1 : 0 ≤ s.lo) (h2 : s.lo ≤ w.room) (h3 : 0 ≤ s.hi) (h4 : s.hi ≤ w.room) (h5 : -200000 ≤ n) (h6 : n ≤ 200000) :
    Ct Try.prog 62 [.agg (wellL w), .agg (spanL s), I n] (.agg (spanL (filled w s n))) := by
  obtain ⟨k1, k2⟩ := filled_wrap hw h1 h2 h3 h4 h5 h6
  refine t62 (by simp [wellL, spanL, KFL, KF]) (by simp [spanL, KFL, KF]) ?_
  dsimp only [c62, r62, wellL, spanL, go_sem, List.drop, List.take, List.length, List.cons_append, List.nil_append, Nat.beq, Nat.blt, Nat.ble, Nat.reduceAdd, Nat.zero_add, Nat.add_zero, Nat.mul_one, Nat.reduceMul, Nat.zero_mul, Nat.one_mul]
  simp only [k1, k2, filled]

def wres (r : Span × Int × Int) : SV := .tup [.agg (spanL r.1), I r.2.1, I r.2.2]
theorem get_well {l : Land} {well : Int} (h : inR 0 (l.wells.length - 1) well = true) : ∃ (k : Nat) (hk : k < l.wells.length), well = (k : Int) ∧ l.wells[well.toNat]? = some l.wells[k] := by
  simp only [inR, decide_eq_true_eq] at h
  refine ⟨well.toNat, by omega, by omega, ?_⟩
  rw [List.getElem?_eq_getElem (by omega)]
theorem water_ok (l : Land) (hs : Small l) (well day : Int) (draws : List Draw) (hd : draws.length ≤ 1000) :
    Ct Try.prog 17 [.agg (landL l), I well, .sl false 3 (draws.map drawL), I day] (wres (waterF l well draws day)) := by
  have hw1 : IntKind.i64.wrap ((l.wells.length : Int) - 1) = (l.wells.length : Int) - 1 := w64_in (by omega) (by have := hs.1; omega)
  refine t17 (by simp [landL, wellL, legL, gateL, drawL, KFR_iff, KFL, KF]) (by simp [wres, spanL, KFL, KF]) ?_
  dsimp only [c17, r17, landL, go_sem, List.drop, List.take, List.length, List.cons_append, List.nil_append, Nat.beq, Nat.blt, Nat.ble, Nat.reduceAdd, Nat.zero_add, Nat.add_zero, Nat.mul_one, Nat.reduceMul, Nat.zero_mul, Nat.one_mul]
  refine call (check_ok l hs) ?_
  dsimp only [go_sem, List.drop, List.take, List.length, List.cons_append, List.nil_append, Nat.beq, Nat.blt, Nat.ble, Nat.reduceAdd, Nat.zero_add, Nat.add_zero, Nat.mul_one, Nat.reduceMul, Nat.zero_mul, Nat.one_mul]
  by_cases ho : okLand l = true
  case neg =>
    rw [if_neg ho]
    refine br_t rfl ?_
    dsimp only [go_sem, List.drop, List.take, List.length, List.cons_append, List.nil_append, Nat.beq, Nat.blt, Nat.ble, Nat.reduceAdd, Nat.zero_add, Nat.add_zero, Nat.mul_one, Nat.reduceMul, Nat.zero_mul, Nat.one_mul]
    simp [waterF, ho, wres, spanL]
  rw [if_pos ho]
  refine br_f rfl ?_
  dsimp only [go_sem, List.drop, List.take, List.length, List.cons_append, List.nil_append, Nat.beq, Nat.blt, Nat.ble, Nat.reduceAdd, Nat.zero_add, Nat.add_zero, Nat.mul_one, Nat.reduceMul, Nat.zero_mul, Nat.one_mul]
  simp only [List.length_map, hw1]
  repeat (first | (refine gb ?_; dsimp only [go_sem, List.drop, List.take, List.length, List.cons_append, List.nil_append, Nat.beq, Nat.blt, Nat.ble, Nat.reduceAdd, Nat.zero_add, Nat.add_zero, Nat.mul_one, Nat.reduceMul, Nat.zero_mul, Nat.one_mul]) | (refine call (from1 _ _ _ _) ?_; dsimp only [go_sem, List.drop, List.take, List.length, List.cons_append, List.nil_append, Nat.beq, Nat.blt, Nat.ble, Nat.reduceAdd, Nat.zero_add, Nat.add_zero, Nat.mul_one, Nat.reduceMul, Nat.zero_mul, Nat.one_mul]))
  by_cases ha : (inR 0 (l.wells.length - 1) well && inR 0 100000 day) = true
  case neg =>
    refine br_t (by grind) ?_
    dsimp only [go_sem, List.drop, List.take, List.length, List.cons_append, List.nil_append, Nat.beq, Nat.blt, Nat.ble, Nat.reduceAdd, Nat.zero_add, Nat.add_zero, Nat.mul_one, Nat.reduceMul, Nat.zero_mul, Nat.one_mul]
    simp [waterF, ho, wres, spanL, ha]
  refine br_f (by grind) ?_
  dsimp only [go_sem, List.drop, List.take, List.length, List.cons_append, List.nil_append, Nat.beq, Nat.blt, Nat.ble, Nat.reduceAdd, Nat.zero_add, Nat.add_zero, Nat.mul_one, Nat.reduceMul, Nat.zero_mul, Nat.one_mul]
  by_cases hm : draws.length > 200
  case pos =>
    refine br_t (by simp; omega) ?_
    dsimp only [go_sem, List.drop, List.take, List.length, List.cons_append, List.nil_append, Nat.beq, Nat.blt, Nat.ble, Nat.reduceAdd, Nat.zero_add, Nat.add_zero, Nat.mul_one, Nat.reduceMul, Nat.zero_mul, Nat.one_mul]
    simp [waterF, ho, wres, spanL, ha, hm]
  refine br_f (by simp; omega) ?_
  dsimp only [go_sem, List.drop, List.take, List.length, List.cons_append, List.nil_append, Nat.beq, Nat.blt, Nat.ble, Nat.reduceAdd, Nat.zero_add, Nat.add_zero, Nat.mul_one, Nat.reduceMul, Nat.zero_mul, Nat.one_mul]
  refine loopO (fun s : Nat × Int => [(50, I s.1), (12, I s.2)]) (fun _ => []) (fun s => s.1 ≤ draws.length ∧ okDraws l.wells.length s.2 (draws.drop s.1) = okDraws l.wells.length 0 draws) (fun s => draws.length - s.1) (0, 0) ⟨Nat.zero_le _, rfl⟩ ?_ ?_
  · (refine ent_id ?_ ?_ ?_ rfl <;> dsimp only [gateL, wellL, legL, drawL, id, go_sem, List.drop, List.take, List.length, List.cons_append, List.nil_append, Nat.beq, Nat.blt, Nat.ble, Nat.reduceAdd, Nat.zero_add, Nat.add_zero, Nat.mul_one, Nat.reduceMul, Nat.zero_mul, Nat.one_mul] <;> simp [gateL, wellL, legL, drawL, KFR_iff, KFR, KFL, KF, mtL_same, mtO, Nat.beq_refl])
  · rintro ⟨k, last⟩ ⟨hk, hi⟩
    simp only at hk hi
    dsimp only [go_sem, List.drop, List.take, List.length, List.cons_append, List.nil_append, Nat.beq, Nat.blt, Nat.ble, Nat.reduceAdd, Nat.zero_add, Nat.add_zero, Nat.mul_one, Nat.reduceMul, Nat.zero_mul, Nat.one_mul]
    by_cases hlt : k < draws.length
    · refine br_t (by simpa using hlt) ?_
      dsimp only [go_sem, List.drop, List.take, List.length, List.cons_append, List.nil_append, Nat.beq, Nat.blt, Nat.ble, Nat.reduceAdd, Nat.zero_add, Nat.add_zero, Nat.mul_one, Nat.reduceMul, Nat.zero_mul, Nat.one_mul]
      refine ixs_map k hlt rfl ?_
      dsimp only [drawL, go_sem, List.drop, List.take, List.length, List.cons_append, List.nil_append, Nat.beq, Nat.blt, Nat.ble, Nat.reduceAdd, Nat.zero_add, Nat.add_zero, Nat.mul_one, Nat.reduceMul, Nat.zero_mul, Nat.one_mul]
      simp only [List.length_map, hw1]
      repeat (first | (refine gb ?_; dsimp only [go_sem, List.drop, List.take, List.length, List.cons_append, List.nil_append, Nat.beq, Nat.blt, Nat.ble, Nat.reduceAdd, Nat.zero_add, Nat.add_zero, Nat.mul_one, Nat.reduceMul, Nat.zero_mul, Nat.one_mul]) | (refine call (from1 _ _ _ _) ?_; dsimp only [go_sem, List.drop, List.take, List.length, List.cons_append, List.nil_append, Nat.beq, Nat.blt, Nat.ble, Nat.reduceAdd, Nat.zero_add, Nat.add_zero, Nat.mul_one, Nat.reduceMul, Nat.zero_mul, Nat.one_mul]))
      have hdr : draws.drop k = draws[k] :: draws.drop (k + 1) := List.drop_eq_getElem_cons hlt
      rw [hdr] at hi
      simp only [okDraws] at hi
      refine br ?_ ?_
      · intro h
        dsimp only [go_sem, List.drop, List.take, List.length, List.cons_append, List.nil_append, Nat.beq, Nat.blt, Nat.ble, Nat.reduceAdd, Nat.zero_add, Nat.add_zero, Nat.mul_one, Nat.reduceMul, Nat.zero_mul, Nat.one_mul]
        have : okDraws l.wells.length 0 draws = false := by rw [← hi]; grind
        simp [waterF, ho, wres, spanL, ha, hm, this]
      · intro h
        dsimp only [go_sem, List.drop, List.take, List.length, List.cons_append, List.nil_append, Nat.beq, Nat.blt, Nat.ble, Nat.reduceAdd, Nat.zero_add, Nat.add_zero, Nat.mul_one, Nat.reduceMul, Nat.zero_mul, Nat.one_mul]
        rw [w64_in (n := (k : Int) + 1) (by omega) (by omega)]
        refine ⟨(k + 1, draws[k].day), ⟨hlt, ?_⟩, by simp only; omega, ?_⟩
        · simp only; grind
        · (refine ent_id ?_ ?_ ?_ rfl <;> dsimp only [gateL, wellL, legL, drawL, id, go_sem, List.drop, List.take, List.length, List.cons_append, List.nil_append, Nat.beq, Nat.blt, Nat.ble, Nat.reduceAdd, Nat.zero_add, Nat.add_zero, Nat.mul_one, Nat.reduceMul, Nat.zero_mul, Nat.one_mul] <;> simp [gateL, wellL, legL, drawL, KFR_iff, KFR, KFL, KF, mtL_same, mtO, Nat.beq_refl])
    · refine br_f (by simp; omega) ?_
      dsimp only [go_sem, List.drop, List.take, List.length, List.cons_append, List.nil_append, Nat.beq, Nat.blt, Nat.ble, Nat.reduceAdd, Nat.zero_add, Nat.add_zero, Nat.mul_one, Nat.reduceMul, Nat.zero_mul, Nat.one_mul]
      have hk' : k = draws.length := by omega
      subst hk'
      simp only [List.drop_length, okDraws] at hi
      obtain ⟨kw, hkw, rfl, hget⟩ := get_well (Bool.and_eq_true_iff.1 ha).1
      refine ixs_map kw hkw rfl ?_
      dsimp only [wellL, go_sem, List.drop, List.take, List.length, List.cons_append, List.nil_append, Nat.beq, Nat.blt, Nat.ble, Nat.reduceAdd, Nat.zero_add, Nat.add_zero, Nat.mul_one, Nat.reduceMul, Nat.zero_mul, Nat.one_mul]
      have hwf : waterF l kw draws day = waterL l.wells[kw] kw day l.wells[kw].has (-1) 0 draws := by
        simp only [waterF, ho, ha, hm, ← hi, hget]; simp
      rw [hwf]
      have hok := okLand_well ho l.wells[kw] (List.getElem_mem _)
      have hmem := okDraws_mem hi.symm (Int.le_refl _)
      have hday : 0 ≤ day ∧ day ≤ 100000 := by simp only [inR, Bool.and_eq_true, decide_eq_true_eq] at ha; omega
      have hroom : 0 ≤ l.wells[kw].has.lo ∧ l.wells[kw].has.lo ≤ l.wells[kw].room ∧ 0 ≤ l.wells[kw].has.hi ∧ l.wells[kw].has.hi ≤ l.wells[kw].room ∧ l.wells[kw].room ≤ 1000000000 := by
        simp only [okWell, okSp, inR, Bool.and_eq_true, decide_eq_true_eq] at hok; omega
      have hroom2 : ∀ x : Int, x ≤ l.wells[kw].room → x ≤ 1000000000 := fun x h => by omega
      refine loopO (fun s : Nat × Span × Int => [(91, I s.1), (17, I s.2.2)]) (fun s => [(3, .cells (spanL s.2.1) 29)])
        (fun s => s.1 ≤ draws.length ∧ waterL l.wells[kw] kw day s.2.1 s.2.2 s.1 (draws.drop s.1) = waterL l.wells[kw] kw day l.wells[kw].has (-1) 0 draws ∧
          0 ≤ s.2.1.lo ∧ s.2.1.lo ≤ l.wells[kw].room ∧ 0 ≤ s.2.1.hi ∧ s.2.1.hi ≤ l.wells[kw].room ∧ -1 ≤ s.2.2 ∧ s.2.2 ≤ 100000) (fun s => draws.length - s.1) (0, l.wells[kw].has, -1)
        ⟨Nat.zero_le _, rfl, hroom.1, hroom.2.1, hroom.2.2.1, hroom.2.2.2.1, by simp, by simp⟩ ?_ ?_
      · (refine ent_id ?_ ?_ ?_ rfl <;> dsimp only [gateL, wellL, legL, drawL, spanL, id, go_sem, List.drop, List.take, List.length, List.cons_append, List.nil_append, Nat.beq, Nat.blt, Nat.ble, Nat.reduceAdd, Nat.zero_add, Nat.add_zero, Nat.mul_one, Nat.reduceMul, Nat.zero_mul, Nat.one_mul] <;> simp [gateL, wellL, legL, drawL, spanL, KFR_iff, KFR, KFL, KF, mtL_same, mtO, Nat.beq_refl])
      · rintro ⟨k, now, ev⟩ ⟨hk2, hi2, n1, n2, n3, n4, e1, e2⟩
        simp only at hk2 hi2 n1 n2 n3 n4 e1 e2
        dsimp only [spanL, go_sem, List.drop, List.take, List.length, List.cons_append, List.nil_append, Nat.beq, Nat.blt, Nat.ble, Nat.reduceAdd, Nat.zero_add, Nat.add_zero, Nat.mul_one, Nat.reduceMul, Nat.zero_mul, Nat.one_mul]
        by_cases hlt2 : k < draws.length
        · refine br_t (by simpa using hlt2) ?_
          dsimp only [go_sem, List.drop, List.take, List.length, List.cons_append, List.nil_append, Nat.beq, Nat.blt, Nat.ble, Nat.reduceAdd, Nat.zero_add, Nat.add_zero, Nat.mul_one, Nat.reduceMul, Nat.zero_mul, Nat.one_mul]
          refine ixs_map k hlt2 rfl ?_
          dsimp only [drawL, go_sem, List.drop, List.take, List.length, List.cons_append, List.nil_append, Nat.beq, Nat.blt, Nat.ble, Nat.reduceAdd, Nat.zero_add, Nat.add_zero, Nat.mul_one, Nat.reduceMul, Nat.zero_mul, Nat.one_mul]
          repeat (first | (refine gb ?_; dsimp only [go_sem, List.drop, List.take, List.length, List.cons_append, List.nil_append, Nat.beq, Nat.blt, Nat.ble, Nat.reduceAdd, Nat.zero_add, Nat.add_zero, Nat.mul_one, Nat.reduceMul, Nat.zero_mul, Nat.one_mul]))
          have hx := hmem draws[k] (List.getElem_mem _)
          have hdr : draws.drop k = draws[k] :: draws.drop (k + 1) := List.drop_eq_getElem_cons hlt2
          rw [hdr] at hi2
          simp only [waterL] at hi2
          by_cases hc : (draws[k].well != (kw : Int) || decide (draws[k].day ≥ day)) = true
          · refine br_t hc ?_
            dsimp only [go_sem, List.drop, List.take, List.length, List.cons_append, List.nil_append, Nat.beq, Nat.blt, Nat.ble, Nat.reduceAdd, Nat.zero_add, Nat.add_zero, Nat.mul_one, Nat.reduceMul, Nat.zero_mul, Nat.one_mul]
            rw [if_pos hc] at hi2
            rw [w64_in (n := (k : Int) + 1) (by omega) (by omega)]
            refine ⟨(k + 1, now, ev), ⟨hlt2, hi2, n1, n2, n3, n4, e1, e2⟩, by simp only; omega, ?_⟩
            (refine ent_id ?_ ?_ ?_ rfl <;> dsimp only [gateL, wellL, legL, drawL, spanL, id, go_sem, List.drop, List.take, List.length, List.cons_append, List.nil_append, Nat.beq, Nat.blt, Nat.ble, Nat.reduceAdd, Nat.zero_add, Nat.add_zero, Nat.mul_one, Nat.reduceMul, Nat.zero_mul, Nat.one_mul] <;> simp [gateL, wellL, legL, drawL, spanL, KFR_iff, KFR, KFL, KF, mtL_same, mtO, Nat.beq_refl])
          · refine br_f (by simpa using hc) ?_
            rw [if_neg hc] at hi2
            dsimp only [go_sem, List.drop, List.take, List.length, List.cons_append, List.nil_append, Nat.beq, Nat.blt, Nat.ble, Nat.reduceAdd, Nat.zero_add, Nat.add_zero, Nat.mul_one, Nat.reduceMul, Nat.zero_mul, Nat.one_mul]
            rw [w64_in (n := draws[k].day - ev) (by omega) (by omega)]
            refine call (filled_ok l.wells[kw] now (draws[k].day - ev) hok n1 n2 n3 n4 (by omega) (by omega)) ?_
            dsimp only [spanL, go_sem, List.drop, List.take, List.length, List.cons_append, List.nil_append, Nat.beq, Nat.blt, Nat.ble, Nat.reduceAdd, Nat.zero_add, Nat.add_zero, Nat.mul_one, Nat.reduceMul, Nat.zero_mul, Nat.one_mul]
            have hbig : -2000000000000 ≤ (filled l.wells[kw] now (draws[k].day - ev)).lo := filled_lo hok n1 n2 n3 n4 (by omega) (by omega)
            have hf2 : (filled l.wells[kw] now (draws[k].day - ev)).hi ≤ l.wells[kw].room := by simp only [filled]; omega
            have hf1 : (filled l.wells[kw] now (draws[k].day - ev)).lo ≤ l.wells[kw].room := by simp only [filled]; omega
            generalize hF : filled l.wells[kw] now (draws[k].day - ev) = F at *
            by_cases hdry : F.hi < draws[k].water
            · refine br_t (by simpa using hdry) ?_
              dsimp only [go_sem, List.drop, List.take, List.length, List.cons_append, List.nil_append, Nat.beq, Nat.blt, Nat.ble, Nat.reduceAdd, Nat.zero_add, Nat.add_zero, Nat.mul_one, Nat.reduceMul, Nat.zero_mul, Nat.one_mul]
              rw [if_pos hdry] at hi2
              rw [← hi2]; rfl
            · refine br_f (by simpa using hdry) ?_
              dsimp only [go_sem, List.drop, List.take, List.length, List.cons_append, List.nil_append, Nat.beq, Nat.blt, Nat.ble, Nat.reduceAdd, Nat.zero_add, Nat.add_zero, Nat.mul_one, Nat.reduceMul, Nat.zero_mul, Nat.one_mul]
              rw [if_neg hdry] at hi2
              rw [w64_in (n := F.lo - draws[k].water) (by omega) (by omega), w64_in (n := F.hi - draws[k].water) (by omega) (by omega), w64_in (n := (k : Int) + 1) (by omega) (by omega)]
              refine ⟨(k + 1, ⟨max 0 (F.lo - draws[k].water), F.hi - draws[k].water⟩, draws[k].day), ⟨hlt2, hi2, by simp only; omega, by simp only; omega, by simp only; omega, by simp only; omega, by simp only; omega, by simp only; omega⟩, by simp only; omega, ?_⟩
              (refine ent_id ?_ ?_ ?_ rfl <;> dsimp only [gateL, wellL, legL, drawL, spanL, id, go_sem, List.drop, List.take, List.length, List.cons_append, List.nil_append, Nat.beq, Nat.blt, Nat.ble, Nat.reduceAdd, Nat.zero_add, Nat.add_zero, Nat.mul_one, Nat.reduceMul, Nat.zero_mul, Nat.one_mul] <;> simp [gateL, wellL, legL, drawL, spanL, KFR_iff, KFR, KFL, KF, mtL_same, mtO, Nat.beq_refl])
        · refine br_f (by simp; omega) ?_
          dsimp only [go_sem, List.drop, List.take, List.length, List.cons_append, List.nil_append, Nat.beq, Nat.blt, Nat.ble, Nat.reduceAdd, Nat.zero_add, Nat.add_zero, Nat.mul_one, Nat.reduceMul, Nat.zero_mul, Nat.one_mul]
          rw [w64_in (n := day - 1) (by omega) (by omega), w64_in (n := day - 1 - ev) (by omega) (by omega)]
          refine call (filled_ok l.wells[kw] now (day - 1 - ev) hok n1 n2 n3 n4 (by omega) (by omega)) ?_
          dsimp only [spanL, go_sem, List.drop, List.take, List.length, List.cons_append, List.nil_append, Nat.beq, Nat.blt, Nat.ble, Nat.reduceAdd, Nat.zero_add, Nat.add_zero, Nat.mul_one, Nat.reduceMul, Nat.zero_mul, Nat.one_mul]
          have hk' : k = draws.length := by omega
          subst hk'
          simp only [List.drop_length, waterL] at hi2
          rw [← hi2]; rfl
