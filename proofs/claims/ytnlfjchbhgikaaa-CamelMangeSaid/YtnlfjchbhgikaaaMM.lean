import Derived.Test.YtnlfjchbhgikaaaML
import Derived.Test.YtnlfjchbhgikaaaMS
set_option maxRecDepth 100000
set_option maxHeartbeats 4000000
namespace Go.Proofs.Ytnlfjchbhgikaaa
open Go Go.Sx Go.Azalai
theorem mangeLaw_ok (n : Int) (first : List Int) (meets : List Meet) (wait : Span) (day : Int) : Ct Try.prog 6 [I n, .sl false 1 (first.map intL), .sl false 4 (meets.map meetL), .agg (spanL wait), I day] (B true) := by
  refine t6 (by simp [meetL, KFR_iff, intL, spanL, KFL, KF]) (by simp [KFL, KF]) ?_
  dsimp only [c6, r6, spanL, go_sem, Nat.reduceAdd, Nat.reduceMul, Nat.reduceSub]
  simp only [List.length_map]
  repeat (refine gb ?_; dsimp only [go_sem, Nat.reduceAdd, Nat.reduceMul, Nat.reduceSub])
  by_cases hg : first.length > 50 ∨ meets.length > 250
  · refine br_t (by simp; omega) ?_
    dsimp only [go_sem, Nat.reduceAdd, Nat.reduceMul, Nat.reduceSub]
  refine br_f (by simp; omega) ?_
  dsimp only [go_sem, Nat.reduceAdd, Nat.reduceMul, Nat.reduceSub]
  refine app0 (by simp; omega) ?_
  dsimp only [go_sem, Nat.reduceAdd, Nat.reduceMul, Nat.reduceSub]
  refine app0 (by simp; omega) ?_
  dsimp only [go_sem, Nat.reduceAdd, Nat.reduceMul, Nat.reduceSub]
  have hA := mange_ok n first meets wait day false false (by omega) (by omega)
  have hB := mangeR_ok n first meets wait day false false (by omega) (by omega)
  have hrow : (rowsK (meetsE n first meets wait day) (mangeK n first meets wait day) = .v (.slice none 0 0)) ∨ ∃ ns : List Int, rowsK (meetsE n first meets wait day) (mangeK n first meets wait day) = .sl false 1 (ns.map u8L) := by
    unfold rowsK; split
    · exact .inr ⟨_, rfl⟩
    · exact .inl rfl
  generalize rowsK (meetsE n first meets wait day) (mangeK n first meets wait day) = ro at hA hB hrow
  have hns : ∃ ns : List Int, sprV 1 ro = some (ns.map fun n => [SV.v (.int .u8 n)]) := by
    rcases hrow with rfl | ⟨ns, rfl⟩
    · exact ⟨[], rfl⟩
    · exact ⟨ns, rfl⟩
  obtain ⟨ns, hns⟩ := hns
  rcases hrow with rfl | ⟨ns', rfl⟩
  all_goals
    refine call hA ?_
    dsimp only [go_sem, Nat.reduceAdd, Nat.reduceMul, Nat.reduceSub]
    refine call hB ?_
    dsimp only [go_sem, Nat.reduceAdd, Nat.reduceMul, Nat.reduceSub]
    refine loopO (fun k : Nat => [(52, I k)]) (fun _ => []) (fun k => k ≤ meets.length) (fun k => meets.length - k) 0 (Nat.zero_le _) ?_ ?_
    · (refine ent_id ?_ ?_ ?_ rfl rfl <;> dsimp only [meetL, intL, u8L, U8, id, go_sem, Nat.reduceAdd, Nat.reduceMul, Nat.reduceSub] <;> simp [meetL, intL, u8L, U8, KFR_iff, KFR_app, KFR, KFL, KF, mtL_same, mtO, Nat.beq_refl])
    intro j hj
    dsimp only [go_sem, Nat.reduceAdd, Nat.reduceMul, Nat.reduceSub]
    simp only [List.length_map]
    by_cases hlt : j < meets.length
    · refine br_t (by simpa using hlt) ?_
      dsimp only [go_sem, Nat.reduceAdd, Nat.reduceMul, Nat.reduceSub]
      refine ixs_map j hlt rfl ?_
      dsimp only [go_sem, Nat.reduceAdd, Nat.reduceMul, Nat.reduceSub]
      refine ixs_map j hlt rfl ?_
      dsimp only [meetL, go_sem, Nat.reduceAdd, Nat.reduceMul, Nat.reduceSub]
      refine br_f (by simp [ngB]) ?_
      dsimp only [go_sem, Nat.reduceAdd, Nat.reduceMul, Nat.reduceSub]
      rw [w64_in (n := (j : Int) + 1) (by omega) (by omega)]
      refine ⟨j + 1, hlt, by omega, ?_⟩
      (refine ent_id ?_ ?_ ?_ rfl rfl <;> dsimp only [meetL, intL, u8L, U8, id, go_sem, Nat.reduceAdd, Nat.reduceMul, Nat.reduceSub] <;> simp [meetL, intL, u8L, U8, KFR_iff, KFR_app, KFR, KFL, KF, mtL_same, mtO, Nat.beq_refl])
    refine br_f (by simp; omega) ?_
    dsimp only [go_sem, Nat.reduceAdd, Nat.reduceMul, Nat.reduceSub]
    refine raw_str (e := 5) rfl (fun _ _ _ e => by cases e) hns (by kernel_rfl) (by kernel_rfl) (by kernel_rfl) ?_
    dsimp only [go_sem, Nat.reduceAdd, Nat.reduceMul, Nat.reduceSub]
    refine raw_str (e := 5) rfl (fun _ _ _ e => by cases e) hns (by kernel_rfl) (by kernel_rfl) (by kernel_rfl) ?_
    dsimp only [go_sem, Nat.reduceAdd, Nat.reduceMul, Nat.reduceSub]
    refine raw_seq rfl rfl ?_
    dsimp only [go_sem, Nat.reduceAdd, Nat.reduceMul, Nat.reduceSub]
    repeat (first | (refine gb ?_; dsimp only [go_sem, Nat.reduceAdd, Nat.reduceMul, Nat.reduceSub]) | (refine call (same_ok first (by omega) false false) ?_; dsimp only [go_sem, Nat.reduceAdd, Nat.reduceMul, Nat.reduceSub]))
    simp
end Go.Proofs.Ytnlfjchbhgikaaa
