/- Walks and plain laws that lead to the given statement, part 7 of 8. -/
import Derived.Test.YtkjldleglbbkeaaTF
import Derived.Test.YtkjldleglbbkeaaProg
set_option maxRecDepth 100000
namespace Go.Proofs.Ytkjldleglbbkeaa
open Go Go.Sx
def c6 : SC := (.seq (.reg [
  ⟨some 6, .box (.t 0) 0 25, none, []⟩,
  ⟨some 10, .box (.t 4) 0 29, none, []⟩,
  ⟨some 12, .mv (.c (.bool false)), none, []⟩])
  (.seq (.seq (.reg [
  ⟨some 29, .ld (.t 6) 2 true, none, []⟩,
  ⟨some 30, .call 16 [.t 29], none, []⟩,
  ⟨some 31, .mv (.t 30), none, []⟩,
  ⟨some 32, .mv (.t 5), some (31, false), []⟩,
  ⟨some 33, .len (.t 32), some (31, false), []⟩,
  ⟨some 34, .bin .gtr (.t 33) (.c (.int .i64 40)), some (31, false), []⟩,
  ⟨some 35, .pick (.t 31) (.c (.bool true)) (.t 34), none, []⟩])
  (.cond (.t 35)
  (.seq (.reg [
   ⟨some 12, .mv (.c (.bool true)), none, []⟩])
   .ret)
  .skip))
  (.seq (.reg [
  ⟨some 36, .ld (.t 6) 2 true, none, []⟩,
  ⟨some 37, .call 21 [.t 36], none, []⟩,
  ⟨some 38, .bsl 1 3 [], none, []⟩,
  ⟨some 39, .mv (.t 5), none, []⟩,
  ⟨some 40, .app 1 8 3 (.t 38) (.t 39), none, []⟩,
  ⟨some 13, .alloc [.slice none 0 0, .slice none 0 0] 25, none, []⟩,
  ⟨none, .st (.t 13) (.t 37) 2, none, []⟩,
  ⟨some 14, .mv (.t 40), none, []⟩])
  (.seq (.reg [
  ⟨some 42, .ld (.t 13) 2 true, none, []⟩,
  ⟨some 43, .mv (.t 1), none, []⟩,
  ⟨some 44, .mv (.t 3), none, []⟩,
  ⟨some 45, .ld (.t 10) 2 true, none, []⟩,
  ⟨some 46, .call 32 [.t 42, .t 43, .t 44, .t 45], none, []⟩,
  ⟨some 41, .mv (.t 46), none, []⟩,
  ⟨some 47, .ext (.t 41) 0, none, []⟩,
  ⟨some 48, .ext (.t 41) 1, none, []⟩,
  ⟨some 15, .mv (.t 47), none, []⟩,
  ⟨some 16, .mv (.t 48), none, []⟩])
  (.seq (.reg [
  ⟨some 50, .ld (.t 6) 2 true, none, []⟩,
  ⟨some 51, .mv (.t 1), none, []⟩,
  ⟨some 52, .mv (.t 3), none, []⟩,
  ⟨some 53, .ld (.t 10) 2 true, none, []⟩,
  ⟨some 54, .call 33 [.t 50, .t 51, .t 52, .t 53], none, []⟩,
  ⟨some 49, .mv (.t 54), none, []⟩,
  ⟨some 55, .ext (.t 49) 0, none, []⟩,
  ⟨some 56, .ext (.t 49) 1, none, []⟩,
  ⟨some 17, .mv (.t 55), none, []⟩,
  ⟨some 18, .mv (.t 56), none, []⟩])
  (.seq (.reg [
  ⟨some 58, .ld (.t 13) 2 true, none, []⟩,
  ⟨some 59, .mv (.t 1), none, []⟩,
  ⟨some 60, .mv (.t 3), none, []⟩,
  ⟨some 61, .ld (.t 10) 2 true, none, []⟩,
  ⟨some 62, .mv (.t 14), none, []⟩,
  ⟨some 63, .call 34 [.t 58, .t 59, .t 60, .t 61, .t 62], none, []⟩,
  ⟨some 57, .mv (.t 63), none, []⟩,
  ⟨some 64, .ext (.t 57) 0, none, []⟩,
  ⟨some 65, .ext (.t 57) 1, none, []⟩,
  ⟨some 66, .ext (.t 57) 2, none, []⟩,
  ⟨some 19, .mv (.t 64), none, []⟩,
  ⟨some 20, .mv (.t 65), none, []⟩,
  ⟨some 21, .mv (.t 66), none, []⟩])
  (.seq (.reg [
  ⟨some 68, .ld (.t 6) 2 true, none, []⟩,
  ⟨some 69, .mv (.t 1), none, []⟩,
  ⟨some 70, .mv (.t 3), none, []⟩,
  ⟨some 71, .ld (.t 10) 2 true, none, []⟩,
  ⟨some 72, .mv (.t 5), none, []⟩,
  ⟨some 73, .call 35 [.t 68, .t 69, .t 70, .t 71, .t 72], none, []⟩,
  ⟨some 67, .mv (.t 73), none, []⟩,
  ⟨some 74, .ext (.t 67) 0, none, []⟩,
  ⟨some 75, .ext (.t 67) 1, none, []⟩,
  ⟨some 76, .ext (.t 67) 2, none, []⟩,
  ⟨some 22, .mv (.t 74), none, []⟩,
  ⟨some 23, .mv (.t 75), none, []⟩,
  ⟨some 24, .mv (.t 76), none, []⟩])
  (.seq (.reg [
  ⟨some 78, .ld (.t 13) 2 true, none, []⟩,
  ⟨some 79, .mv (.t 1), none, []⟩,
  ⟨some 80, .mv (.t 2), none, []⟩,
  ⟨some 81, .mv (.t 3), none, []⟩,
  ⟨some 82, .ld (.t 10) 2 true, none, []⟩,
  ⟨some 83, .call 36 [.t 78, .t 79, .t 80, .t 81, .t 82], none, []⟩,
  ⟨some 77, .mv (.t 83), none, []⟩,
  ⟨some 84, .ext (.t 77) 0, none, []⟩,
  ⟨some 85, .ext (.t 77) 1, none, []⟩,
  ⟨some 25, .mv (.t 84), none, []⟩,
  ⟨some 26, .mv (.t 85), none, []⟩])
  (.seq (.reg [
  ⟨some 87, .ld (.t 6) 2 true, none, []⟩,
  ⟨some 88, .mv (.t 1), none, []⟩,
  ⟨some 89, .mv (.t 2), none, []⟩,
  ⟨some 90, .mv (.t 3), none, []⟩,
  ⟨some 91, .ld (.t 10) 2 true, none, []⟩,
  ⟨some 92, .call 37 [.t 87, .t 88, .t 89, .t 90, .t 91], none, []⟩,
  ⟨some 86, .mv (.t 92), none, []⟩,
  ⟨some 93, .ext (.t 86) 0, none, []⟩,
  ⟨some 94, .ext (.t 86) 1, none, []⟩,
  ⟨some 27, .mv (.t 93), none, []⟩,
  ⟨some 28, .mv (.t 94), none, []⟩])
  (.seq (.reg [
  ⟨some 95, .mv (.t 15), none, []⟩,
  ⟨some 96, .mv (.t 17), none, []⟩,
  ⟨some 97, .call 38 [.t 95, .t 96], none, []⟩,
  ⟨some 98, .mv (.t 97), none, []⟩,
  ⟨some 99, .mv (.t 16), some (98, true), []⟩,
  ⟨some 100, .mv (.t 18), some (98, true), []⟩,
  ⟨some 101, .bin .eql (.t 99) (.t 100), some (98, true), []⟩,
  ⟨some 102, .pick (.t 98) (.t 101) (.c (.bool false)), none, []⟩,
  ⟨some 103, .mv (.t 102), none, []⟩,
  ⟨some 104, .mv (.t 19), some (103, true), []⟩,
  ⟨some 105, .mv (.t 22), some (103, true), []⟩,
  ⟨some 106, .call 39 [.t 104, .t 105], some (103, true), []⟩,
  ⟨some 107, .pick (.t 103) (.t 106) (.c (.bool false)), none, []⟩,
  ⟨some 108, .mv (.t 107), none, []⟩,
  ⟨some 109, .mv (.t 20), some (108, true), []⟩,
  ⟨some 110, .mv (.t 23), some (108, true), []⟩,
  ⟨some 111, .bin .eql (.t 109) (.t 110), some (108, true), []⟩,
  ⟨some 112, .pick (.t 108) (.t 111) (.c (.bool false)), none, []⟩,
  ⟨some 113, .mv (.t 112), none, []⟩,
  ⟨some 114, .mv (.t 21), some (113, true), []⟩,
  ⟨some 115, .mv (.t 24), some (113, true), []⟩,
  ⟨some 116, .bin .eql (.t 114) (.t 115), some (113, true), []⟩,
  ⟨some 117, .pick (.t 113) (.t 116) (.c (.bool false)), none, []⟩,
  ⟨some 118, .mv (.t 117), none, []⟩,
  ⟨some 119, .mv (.t 25), some (118, true), []⟩,
  ⟨some 120, .mv (.t 27), some (118, true), []⟩,
  ⟨some 121, .call 40 [.t 119, .t 120], some (118, true), []⟩,
  ⟨some 122, .pick (.t 118) (.t 121) (.c (.bool false)), none, []⟩,
  ⟨some 123, .mv (.t 122), none, []⟩,
  ⟨some 124, .mv (.t 26), some (123, true), []⟩,
  ⟨some 125, .mv (.t 28), some (123, true), []⟩,
  ⟨some 126, .bin .eql (.t 124) (.t 125), some (123, true), []⟩,
  ⟨some 127, .pick (.t 123) (.t 126) (.c (.bool false)), none, []⟩,
  ⟨some 128, .mv (.t 127), none, []⟩,
  ⟨some 129, .ld (.t 13) 2 true, some (128, true), []⟩,
  ⟨some 130, .ld (.t 6) 2 true, some (128, true), []⟩,
  ⟨some 131, .call 28 [.t 129, .t 130], some (128, true), []⟩,
  ⟨some 132, .pick (.t 128) (.t 131) (.c (.bool false)), none, []⟩,
  ⟨some 133, .mv (.t 132), none, []⟩,
  ⟨some 134, .mv (.t 14), some (133, true), []⟩,
  ⟨some 135, .mv (.t 5), some (133, true), []⟩,
  ⟨some 136, .call 40 [.t 134, .t 135], some (133, true), []⟩,
  ⟨some 137, .pick (.t 133) (.t 136) (.c (.bool false)), none, []⟩,
  ⟨some 12, .mv (.t 137), none, []⟩])
  .ret))))))))))
def r6 : List RV := [.tmp 12]
theorem b6 : bodyB Try.prog 6 = true := by kernel_rfl
end Go.Proofs.Ytkjldleglbbkeaa
set_option maxRecDepth 100000
set_option maxHeartbeats 4000000
namespace Go.Proofs.Ytkjldleglbbkeaa
open Go Go.Sx Go.Azalai
theorem span_ext {a b : Span} (h1 : a.lo = b.lo) (h2 : a.hi = b.hi) : a = b := by
  obtain ⟨_, _⟩ := a
  obtain ⟨_, _⟩ := b
  simp_all
theorem stop_ext {a b : Stop} (h1 : a.leg = b.leg) (h2 : a.well = b.well) (h3 : a.leaves.lo = b.leaves.lo) (h4 : a.leaves.hi = b.leaves.hi) (h5 : a.arrives.lo = b.arrives.lo) (h6 : a.arrives.hi = b.arrives.hi) : a = b := by
  obtain ⟨_, _, ⟨_, _⟩, ⟨_, _⟩⟩ := a
  obtain ⟨_, _, ⟨_, _⟩, ⟨_, _⟩⟩ := b
  simp_all
theorem same38_ok (a b : List Span) (ha : a.length ≤ 1000000) (hb : b.length ≤ 1000000) (c c' : Bool) : Ct Try.prog 38 [.sl c 2 (a.map spanL), .sl c' 2 (b.map spanL)] (B (decide (a = b))) := by
  refine t38 (by simp [KFR_iff, spanL, KFL, KF]) (by simp [KFL, KF]) ?_
  dsimp only [c38, r38, go_sem, Nat.reduceAdd, Nat.reduceMul, Nat.reduceSub]
  simp only [List.length_map]
  by_cases hl : a.length = b.length
  case neg =>
    refine br_t (by simp; omega) ?_
    dsimp only [go_sem, Nat.reduceAdd, Nat.reduceMul, Nat.reduceSub]
    have : a ≠ b := fun e => hl (by rw [e])
    simp [this]
  refine br_f (by simp; omega) ?_
  dsimp only [go_sem, Nat.reduceAdd, Nat.reduceMul, Nat.reduceSub]
  refine loopO (fun j : Nat => [(5, I j)]) (fun _ => []) (fun j => j ≤ a.length ∧ a.take j = b.take j) (fun j => a.length - j) 0 ⟨Nat.zero_le _, rfl⟩ ?_ ?_
  · (refine ent_id ?_ ?_ ?_ rfl rfl <;> dsimp only [spanL, id, go_sem, Nat.reduceAdd, Nat.reduceMul, Nat.reduceSub] <;> simp [spanL, KFR_iff, KFR_app, KFR, KFL, KF, mtL_same, mtO, Nat.beq_refl])
  rintro j ⟨hj, ht⟩
  dsimp only [go_sem, Nat.reduceAdd, Nat.reduceMul, Nat.reduceSub]
  simp only [List.length_map]
  by_cases hlt : j < a.length
  · refine br_t (by simpa using hlt) ?_
    dsimp only [go_sem, Nat.reduceAdd, Nat.reduceMul, Nat.reduceSub]
    have hltb : j < b.length := by omega
    refine ixs_map j hlt rfl ?_
    dsimp only [go_sem, Nat.reduceAdd, Nat.reduceMul, Nat.reduceSub]
    refine ixs_map j hltb rfl ?_
    dsimp only [spanL, go_sem, Nat.reduceAdd, Nat.reduceMul, Nat.reduceSub]
    by_cases he : a[j] = b[j]
    · refine br_f (by rw [he]; simp [ngB]) ?_
      dsimp only [go_sem, Nat.reduceAdd, Nat.reduceMul, Nat.reduceSub]
      rw [w64_in (n := (j : Int) + 1) (by omega) (by omega)]
      refine ⟨j + 1, ⟨hlt, ?_⟩, by omega, ?_⟩
      · rw [List.take_succ_eq_append_getElem hlt, List.take_succ_eq_append_getElem hltb, ht, he]
      (refine ent_id ?_ ?_ ?_ rfl rfl <;> dsimp only [spanL, id, go_sem, Nat.reduceAdd, Nat.reduceMul, Nat.reduceSub] <;> simp [spanL, KFR_iff, KFR_app, KFR, KFL, KF, mtL_same, mtO, Nat.beq_refl])
    · refine br_t ?_ ?_
      · apply Decidable.byContradiction; intro hq; simp at hq; exact he (span_ext hq.1 hq.2)
      dsimp only [go_sem, Nat.reduceAdd, Nat.reduceMul, Nat.reduceSub]
      have : a ≠ b := fun e => he (by subst e; rfl)
      simp [this]
  refine br_f (by simp; omega) ?_
  dsimp only [go_sem, Nat.reduceAdd, Nat.reduceMul, Nat.reduceSub]
  have : a = b := by
    rw [List.take_of_length_le (by omega), List.take_of_length_le (by omega)] at ht
    exact ht
  simp [this]
theorem same39_ok (a b : List Stop) (ha : a.length ≤ 1000000) (hb : b.length ≤ 1000000) (c c' : Bool) : Ct Try.prog 39 [.sl c 6 (a.map stopL), .sl c' 6 (b.map stopL)] (B (decide (a = b))) := by
  refine t39 (by simp [KFR_iff, stopL, KFL, KF]) (by simp [KFL, KF]) ?_
  dsimp only [c39, r39, go_sem, Nat.reduceAdd, Nat.reduceMul, Nat.reduceSub]
  simp only [List.length_map]
  by_cases hl : a.length = b.length
  case neg =>
    refine br_t (by simp; omega) ?_
    dsimp only [go_sem, Nat.reduceAdd, Nat.reduceMul, Nat.reduceSub]
    have : a ≠ b := fun e => hl (by rw [e])
    simp [this]
  refine br_f (by simp; omega) ?_
  dsimp only [go_sem, Nat.reduceAdd, Nat.reduceMul, Nat.reduceSub]
  refine loopO (fun j : Nat => [(5, I j)]) (fun _ => []) (fun j => j ≤ a.length ∧ a.take j = b.take j) (fun j => a.length - j) 0 ⟨Nat.zero_le _, rfl⟩ ?_ ?_
  · (refine ent_id ?_ ?_ ?_ rfl rfl <;> dsimp only [stopL, id, go_sem, Nat.reduceAdd, Nat.reduceMul, Nat.reduceSub] <;> simp [stopL, KFR_iff, KFR_app, KFR, KFL, KF, mtL_same, mtO, Nat.beq_refl])
  rintro j ⟨hj, ht⟩
  dsimp only [go_sem, Nat.reduceAdd, Nat.reduceMul, Nat.reduceSub]
  simp only [List.length_map]
  by_cases hlt : j < a.length
  · refine br_t (by simpa using hlt) ?_
    dsimp only [go_sem, Nat.reduceAdd, Nat.reduceMul, Nat.reduceSub]
    have hltb : j < b.length := by omega
    refine ixs_map j hlt rfl ?_
    dsimp only [go_sem, Nat.reduceAdd, Nat.reduceMul, Nat.reduceSub]
    refine ixs_map j hltb rfl ?_
    dsimp only [stopL, go_sem, Nat.reduceAdd, Nat.reduceMul, Nat.reduceSub]
    by_cases he : a[j] = b[j]
    · refine br_f (by rw [he]; simp [ngB]) ?_
      dsimp only [go_sem, Nat.reduceAdd, Nat.reduceMul, Nat.reduceSub]
      rw [w64_in (n := (j : Int) + 1) (by omega) (by omega)]
      refine ⟨j + 1, ⟨hlt, ?_⟩, by omega, ?_⟩
      · rw [List.take_succ_eq_append_getElem hlt, List.take_succ_eq_append_getElem hltb, ht, he]
      (refine ent_id ?_ ?_ ?_ rfl rfl <;> dsimp only [stopL, id, go_sem, Nat.reduceAdd, Nat.reduceMul, Nat.reduceSub] <;> simp [stopL, KFR_iff, KFR_app, KFR, KFL, KF, mtL_same, mtO, Nat.beq_refl])
    · refine br_t ?_ ?_
      · apply Decidable.byContradiction; intro hq; simp at hq; exact he (stop_ext hq.1 hq.2.1 hq.2.2.1 hq.2.2.2.1 hq.2.2.2.2.1 hq.2.2.2.2.2)
      dsimp only [go_sem, Nat.reduceAdd, Nat.reduceMul, Nat.reduceSub]
      have : a ≠ b := fun e => he (by subst e; rfl)
      simp [this]
  refine br_f (by simp; omega) ?_
  dsimp only [go_sem, Nat.reduceAdd, Nat.reduceMul, Nat.reduceSub]
  have : a = b := by
    rw [List.take_of_length_le (by omega), List.take_of_length_le (by omega)] at ht
    exact ht
  simp [this]
theorem same40_ok (a b : List Int) (ha : a.length ≤ 1000000) (hb : b.length ≤ 1000000) (c c' : Bool) : Ct Try.prog 40 [.sl c 1 (a.map intL), .sl c' 1 (b.map intL)] (B (decide (a = b))) := by
  refine t40 (by simp [KFR_iff, intL, KFL, KF]) (by simp [KFL, KF]) ?_
  dsimp only [c40, r40, go_sem, Nat.reduceAdd, Nat.reduceMul, Nat.reduceSub]
  simp only [List.length_map]
  by_cases hl : a.length = b.length
  case neg =>
    refine br_t (by simp; omega) ?_
    dsimp only [go_sem, Nat.reduceAdd, Nat.reduceMul, Nat.reduceSub]
    have : a ≠ b := fun e => hl (by rw [e])
    simp [this]
  refine br_f (by simp; omega) ?_
  dsimp only [go_sem, Nat.reduceAdd, Nat.reduceMul, Nat.reduceSub]
  refine loopO (fun j : Nat => [(5, I j)]) (fun _ => []) (fun j => j ≤ a.length ∧ a.take j = b.take j) (fun j => a.length - j) 0 ⟨Nat.zero_le _, rfl⟩ ?_ ?_
  · (refine ent_id ?_ ?_ ?_ rfl rfl <;> dsimp only [intL, id, go_sem, Nat.reduceAdd, Nat.reduceMul, Nat.reduceSub] <;> simp [intL, KFR_iff, KFR_app, KFR, KFL, KF, mtL_same, mtO, Nat.beq_refl])
  rintro j ⟨hj, ht⟩
  dsimp only [go_sem, Nat.reduceAdd, Nat.reduceMul, Nat.reduceSub]
  simp only [List.length_map]
  by_cases hlt : j < a.length
  · refine br_t (by simpa using hlt) ?_
    dsimp only [go_sem, Nat.reduceAdd, Nat.reduceMul, Nat.reduceSub]
    have hltb : j < b.length := by omega
    refine ixs_map j hlt rfl ?_
    dsimp only [go_sem, Nat.reduceAdd, Nat.reduceMul, Nat.reduceSub]
    refine ixs_map j hltb rfl ?_
    dsimp only [intL, go_sem, Nat.reduceAdd, Nat.reduceMul, Nat.reduceSub]
    by_cases he : a[j] = b[j]
    · refine br_f (by rw [he]; simp [ngB]) ?_
      dsimp only [go_sem, Nat.reduceAdd, Nat.reduceMul, Nat.reduceSub]
      rw [w64_in (n := (j : Int) + 1) (by omega) (by omega)]
      refine ⟨j + 1, ⟨hlt, ?_⟩, by omega, ?_⟩
      · rw [List.take_succ_eq_append_getElem hlt, List.take_succ_eq_append_getElem hltb, ht, he]
      (refine ent_id ?_ ?_ ?_ rfl rfl <;> dsimp only [intL, id, go_sem, Nat.reduceAdd, Nat.reduceMul, Nat.reduceSub] <;> simp [intL, KFR_iff, KFR_app, KFR, KFL, KF, mtL_same, mtO, Nat.beq_refl])
    · refine br_t ?_ ?_
      · simpa using he
      dsimp only [go_sem, Nat.reduceAdd, Nat.reduceMul, Nat.reduceSub]
      have : a ≠ b := fun e => he (by subst e; rfl)
      simp [this]
  refine br_f (by simp; omega) ?_
  dsimp only [go_sem, Nat.reduceAdd, Nat.reduceMul, Nat.reduceSub]
  have : a = b := by
    rw [List.take_of_length_le (by omega), List.take_of_length_le (by omega)] at ht
    exact ht
  simp [this]
end Go.Proofs.Ytkjldleglbbkeaa
set_option maxRecDepth 100000
namespace Go.Proofs.Ytkjldleglbbkeaa
open Go Go.Sx
def c41 : SC := (.seq (.reg [
  ⟨some 0, .mv (.c (.bool false)), none, []⟩])
  (.seq (.reg [
  ⟨some 18, .call 56 [], none, []⟩,
  ⟨some 19, .call 57 [], none, []⟩,
  ⟨some 20, .call 22 [.t 18, .c (.int .i64 2), .t 19], none, []⟩,
  ⟨some 17, .mv (.t 20), none, []⟩,
  ⟨some 21, .ext (.t 17) 0, none, []⟩,
  ⟨some 22, .ext (.t 17) 1, none, []⟩,
  ⟨some 1, .alloc [.int .i64 0, .int .i64 0] 29, none, []⟩,
  ⟨none, .st (.t 1) (.t 21) 2, none, []⟩,
  ⟨some 2, .mv (.t 22), none, []⟩])
  (.seq (.reg [
  ⟨some 24, .call 56 [], none, []⟩,
  ⟨some 25, .call 57 [], none, []⟩,
  ⟨some 26, .call 24 [.t 24, .c (.int .i64 0), .c (.int .i64 6), .t 25], none, []⟩,
  ⟨some 23, .mv (.t 26), none, []⟩,
  ⟨some 27, .ext (.t 23) 0, none, []⟩,
  ⟨some 28, .ext (.t 23) 1, none, []⟩,
  ⟨some 3, .alloc [.int .i64 0, .int .i64 0] 29, none, []⟩,
  ⟨none, .st (.t 3) (.t 27) 2, none, []⟩,
  ⟨some 4, .mv (.t 28), none, []⟩])
  (.seq (.reg [
  ⟨some 30, .call 56 [], none, []⟩,
  ⟨some 31, .call 57 [], none, []⟩,
  ⟨some 32, .bsl 1 3 [.c (.int .i64 0), .c (.int .i64 1)], none, []⟩,
  ⟨some 33, .call 34 [.t 30, .c (.int .i64 0), .c (.int .i64 6), .t 31, .t 32], none, []⟩,
  ⟨some 29, .mv (.t 33), none, []⟩,
  ⟨some 34, .ext (.t 29) 0, none, []⟩,
  ⟨some 35, .ext (.t 29) 1, none, []⟩,
  ⟨some 36, .ext (.t 29) 2, none, []⟩,
  ⟨some 5, .mv (.t 34), none, []⟩,
  ⟨some 6, .mv (.t 35), none, []⟩,
  ⟨some 7, .mv (.t 36), none, []⟩])
  (.seq (.reg [
  ⟨some 38, .call 56 [], none, []⟩,
  ⟨some 39, .call 57 [], none, []⟩,
  ⟨some 40, .call 32 [.t 38, .c (.int .i64 0), .c (.int .i64 6), .t 39], none, []⟩,
  ⟨some 37, .mv (.t 40), none, []⟩,
  ⟨some 41, .ext (.t 37) 0, none, []⟩,
  ⟨some 42, .ext (.t 37) 1, none, []⟩,
  ⟨some 8, .mv (.t 41), none, []⟩,
  ⟨some 9, .mv (.t 42), none, []⟩])
  (.seq (.reg [
  ⟨some 44, .call 56 [], none, []⟩,
  ⟨some 45, .call 57 [], none, []⟩,
  ⟨some 46, .call 36 [.t 44, .c (.int .i64 0), .c (.int .i64 2), .c (.int .i64 6), .t 45], none, []⟩,
  ⟨some 43, .mv (.t 46), none, []⟩,
  ⟨some 47, .ext (.t 43) 0, none, []⟩,
  ⟨some 48, .ext (.t 43) 1, none, []⟩,
  ⟨some 10, .mv (.t 47), none, []⟩,
  ⟨some 11, .mv (.t 48), none, []⟩])
  (.seq (.reg [
  ⟨some 50, .call 56 [], none, []⟩,
  ⟨some 51, .call 57 [], none, []⟩,
  ⟨some 52, .call 29 [.t 50, .c (.int .i64 0), .c (.int .i64 2), .c (.int .i64 6), .c (.int .i64 21), .t 51], none, []⟩,
  ⟨some 49, .mv (.t 52), none, []⟩,
  ⟨some 53, .ext (.t 49) 0, none, []⟩,
  ⟨some 54, .ext (.t 49) 1, none, []⟩,
  ⟨some 12, .mv (.t 53), none, []⟩,
  ⟨some 13, .mv (.t 54), none, []⟩])
  (.seq (.reg [
  ⟨some 56, .call 56 [], none, []⟩,
  ⟨some 57, .build [.int .i64 0, .int .i64 0, .int .i64 0] [(0, 1, .c (.int .i64 1)), (2, 1, .c (.int .i64 4000))], none, []⟩,
  ⟨some 58, .bsl 3 40 [.t 57], none, []⟩,
  ⟨some 59, .call 17 [.t 56, .c (.int .i64 1), .t 58, .c (.int .i64 2)], none, []⟩,
  ⟨some 55, .mv (.t 59), none, []⟩,
  ⟨some 60, .ext (.t 55) 0, none, []⟩,
  ⟨some 61, .ext (.t 55) 1, none, []⟩,
  ⟨some 62, .ext (.t 55) 2, none, []⟩,
  ⟨some 14, .alloc [.int .i64 0, .int .i64 0] 29, none, []⟩,
  ⟨none, .st (.t 14) (.t 60) 2, none, []⟩,
  ⟨some 15, .mv (.t 61), none, []⟩,
  ⟨some 16, .mv (.t 62), none, []⟩])
  (.seq (.regd [0, 1, 2, 3, 4, 5, 6, 7, 8, 9, 10, 11, 12, 13, 14, 15, 16, 17, 18, 19, 20, 21, 22, 23, 24, 25, 26, 27, 28, 29, 30, 31, 32, 33, 34, 35, 36, 37, 38, 39, 40, 41, 42, 43, 44, 45, 46, 47, 48, 49, 50, 51, 52, 53, 54, 55, 56, 57, 58, 59, 60, 61, 62, 63, 64, 65, 66, 67, 68, 69, 70, 71, 72] [
  .op ⟨some 63, .mv (.t 2), none, []⟩,
  .op ⟨some 64, .bin .eql (.t 63) (.c (.int .i64 0)), none, [0]⟩,
  .op ⟨some 65, .mv (.t 64), none, [1]⟩,
  .op ⟨some 66, .ld (.t 1) 2 true, some (65, true), [2]⟩,
  .op ⟨some 67, .call 50 [.c (.int .i64 7), .c (.int .i64 12)], some (65, true), [2]⟩,
  .op ⟨some 68, .eqs false true [1, 1] (.t 66) (.t 67), some (65, true), [2, 3, 4]⟩,
  .op ⟨some 69, .pick (.t 65) (.t 68) (.c (.bool false)), none, [2, 5]⟩,
  .op ⟨some 70, .mv (.t 69), none, [4, 6]⟩,
  .op ⟨some 71, .mv (.t 4), some (70, true), [7]⟩,
  .op ⟨some 72, .bin .eql (.t 71) (.c (.int .i64 0)), some (70, true), [7, 8]⟩,
  .op ⟨some 73, .pick (.t 70) (.t 72) (.c (.bool false)), none, [7, 9]⟩,
  .op ⟨some 74, .mv (.t 73), none, [7, 10]⟩,
  .op ⟨some 75, .ld (.t 3) 2 true, some (74, true), [11]⟩,
  .op ⟨some 76, .call 50 [.c (.int .i64 6), .c (.int .i64 7)], some (74, true), [11]⟩,
  .op ⟨some 77, .eqs false true [1, 1] (.t 75) (.t 76), some (74, true), [11, 12, 13]⟩,
  .op ⟨some 78, .pick (.t 74) (.t 77) (.c (.bool false)), none, [11, 14]⟩,
  .op ⟨some 79, .mv (.t 78), none, [13, 15]⟩,
  .op ⟨some 80, .mv (.t 7), some (79, true), [16]⟩,
  .op ⟨some 81, .bin .eql (.t 80) (.c (.int .i64 0)), some (79, true), [16, 17]⟩,
  .op ⟨some 82, .pick (.t 79) (.t 81) (.c (.bool false)), none, [16, 18]⟩,
  .op ⟨some 83, .mv (.t 82), none, [16, 19]⟩,
  .op ⟨some 84, .mv (.t 5), some (83, true), [20]⟩,
  .op ⟨some 85, .call 50 [.c (.int .i64 6), .c (.int .i64 7)], some (83, true), [20]⟩,
  .op ⟨some 86, .call 50 [.c (.int .i64 9), .c (.int .i64 12)], some (83, true), [20, 22]⟩,
  .op ⟨some 87, .build [.int .i64 0, .int .i64 0, .int .i64 0, .int .i64 0, .int .i64 0, .int .i64 0] [(0, 1, .c (.int .i64 0)), (1, 1, .c (.int .i64 1)), (2, 2, .t 85), (4, 2, .t 86)], some (83, true), [20, 22, 23]⟩,
  .op ⟨some 88, .call 50 [.c (.int .i64 9), .c (.int .i64 18)], some (83, true), [20, 23]⟩,
  .op ⟨some 89, .call 50 [.c (.int .i64 11), .c (.int .i64 21)], some (83, true), [20, 25]⟩,
  .op ⟨some 90, .build [.int .i64 0, .int .i64 0, .int .i64 0, .int .i64 0, .int .i64 0, .int .i64 0] [(0, 1, .c (.int .i64 1)), (1, 1, .c (.int .i64 2)), (2, 2, .t 88), (4, 2, .t 89)], some (83, true), [20, 25, 26]⟩,
  .op ⟨some 91, .bsl 6 92 [.t 87, .t 90], some (83, true), [20, 24, 27]⟩,
  .op ⟨some 92, .call 39 [.t 84, .t 91], some (83, true), [20, 21, 26, 28]⟩,
  .op ⟨some 93, .pick (.t 83) (.t 92) (.c (.bool false)), none, [20, 29]⟩,
  .op ⟨some 94, .mv (.t 93), none, [29, 30]⟩,
  .op ⟨some 95, .mv (.t 9), some (94, true), [31]⟩,
  .op ⟨some 96, .bin .eql (.t 95) (.c (.int .i64 0)), some (94, true), [31, 32]⟩,
  .op ⟨some 97, .pick (.t 94) (.t 96) (.c (.bool false)), none, [31, 33]⟩,
  .op ⟨some 98, .mv (.t 97), none, [31, 34]⟩,
  .op ⟨some 99, .mv (.t 8), some (98, true), [35]⟩,
  .op ⟨some 100, .call 50 [.c (.int .i64 6), .c (.int .i64 6)], some (98, true), [35]⟩,
  .op ⟨some 101, .call 50 [.c (.int .i64 9), .c (.int .i64 12)], some (98, true), [35, 37]⟩,
  .op ⟨some 102, .call 50 [.c (.int .i64 11), .c (.int .i64 18)], some (98, true), [35, 38]⟩,
  .op ⟨some 103, .bsl 2 29 [.t 100, .t 101, .t 102], some (98, true), [35, 37, 38, 39]⟩,
  .op ⟨some 104, .call 38 [.t 99, .t 103], some (98, true), [35, 36, 39, 40]⟩,
  .op ⟨some 105, .pick (.t 98) (.t 104) (.c (.bool false)), none, [35, 41]⟩,
  .op ⟨some 106, .mv (.t 105), none, [41, 42]⟩,
  .op ⟨some 107, .mv (.t 11), some (106, true), [43]⟩,
  .op ⟨some 108, .bin .eql (.t 107) (.c (.int .i64 0)), some (106, true), [43, 44]⟩,
  .op ⟨some 109, .pick (.t 106) (.t 108) (.c (.bool false)), none, [43, 45]⟩,
  .op ⟨some 110, .mv (.t 109), none, [43, 46]⟩,
  .op ⟨some 111, .mv (.t 10), some (110, true), [47]⟩,
  .op ⟨some 112, .bsl 1 3 [.c (.int .i64 2)], some (110, true), [47]⟩,
  .op ⟨some 113, .call 40 [.t 111, .t 112], some (110, true), [47, 48, 49]⟩,
  .op ⟨some 114, .pick (.t 110) (.t 113) (.c (.bool false)), none, [47, 50]⟩,
  .op ⟨some 115, .mv (.t 114), none, [50, 51]⟩,
  .op ⟨some 116, .mv (.t 13), some (115, true), [52]⟩,
  .op ⟨some 117, .bin .eql (.t 116) (.c (.int .i64 0)), some (115, true), [52, 53]⟩,
  .op ⟨some 118, .pick (.t 115) (.t 117) (.c (.bool false)), none, [52, 54]⟩,
  .op ⟨some 119, .mv (.t 118), none, [52, 55]⟩,
  .op ⟨some 120, .mv (.t 12), some (119, true), [56]⟩,
  .op ⟨some 121, .bsl 1 3 [.c (.int .i64 0), .c (.int .i64 1)], some (119, true), [56]⟩,
  .op ⟨some 122, .bsl 1 3 [.c (.int .i64 2)], some (119, true), [56]⟩,
  .op ⟨some 123, .bsl 1 59 [.t 121, .t 122], some (119, true), [56, 58, 59]⟩,
  .op ⟨some 124, .call 31 [.t 120, .t 123], some (119, true), [56, 57, 60]⟩,
  .op ⟨some 125, .pick (.t 119) (.t 124) (.c (.bool false)), none, [56, 61]⟩,
  .op ⟨some 126, .mv (.t 125), none, [61, 62]⟩,
  .op ⟨some 127, .mv (.t 16), some (126, true), [63]⟩,
  .op ⟨some 128, .bin .eql (.t 127) (.c (.int .i64 0)), some (126, true), [63, 64]⟩,
  .op ⟨some 129, .pick (.t 126) (.t 128) (.c (.bool false)), none, [63, 65]⟩,
  .op ⟨some 130, .mv (.t 129), none, [63, 66]⟩,
  .op ⟨some 131, .ld (.t 14) 2 true, some (130, true), [67]⟩,
  .op ⟨some 132, .call 50 [.c (.int .i64 1000), .c (.int .i64 5000)], some (130, true), [67]⟩,
  .op ⟨some 133, .eqs false true [1, 1] (.t 131) (.t 132), some (130, true), [67, 68, 69]⟩,
  .op ⟨some 134, .pick (.t 130) (.t 133) (.c (.bool false)), none, [67, 70]⟩,
  .op ⟨some 0, .mv (.t 134), none, [0, 1, 2, 3, 4, 5, 6, 7, 8, 9, 10, 11, 12, 13, 14, 15, 16, 17, 18, 19, 20, 21, 22, 23, 24, 25, 26, 27, 28, 29, 30, 31, 32, 33, 34, 35, 36, 37, 38, 39, 40, 41, 42, 43, 44, 45, 46, 47, 48, 49, 50, 51, 52, 53, 54, 55, 56, 57, 58, 59, 60, 61, 62, 63, 64, 65, 66, 67, 68, 69, 70, 71]⟩] 0 0 [
])
  .ret)))))))))
def r41 : List RV := [.tmp 0]
theorem n41 : Try.f41.ntmps = 135 := by kernel_rfl
theorem b41 : bodyB Try.prog 41 = true := by kernel_rfl
theorem c41_ok : cmpC Try.prog c41 ((Try.f41.body).getD .skip) = true := by kernel_rfl
theorem r41_ok : cmpR Try.prog r41 Try.f41.results.toList = true := by kernel_rfl
theorem t41 {args : List SV} {res : SV} (ka : KFL args) (kr : KF res) (h : sx Try.prog Y0 0 c41 (st0 args 135) (retK r41 res)) (hA : Nat.ble args.length 135 = true := by rfl) : Ct Try.prog 41 args res := ct_intro Try.func41 rfl b41 c41_ok r41_ok n41 (Nat.le_of_ble_eq_true hA) ka kr h
def c42 : SC := (.seq (.reg [
  ⟨some 2, .box (.t 0) 0 25, none, []⟩,
  ⟨some 3, .box (.t 1) 0 29, none, []⟩,
  ⟨some 4, .mv (.c (.bool false)), none, []⟩])
  (.seq (.reg [
  ⟨some 5, .ld (.t 2) 2 true, none, []⟩,
  ⟨some 6, .call 16 [.t 5], none, []⟩,
  ⟨some 7, .un .not (.t 6), none, []⟩,
  ⟨some 8, .mv (.t 7), none, []⟩,
  ⟨some 9, .ld (.t 2) 2 true, some (8, true), []⟩,
  ⟨some 10, .call 27 [.t 9], some (8, true), []⟩,
  ⟨some 11, .bin .eql (.t 10) (.c (.int .i64 0)), some (8, true), []⟩,
  ⟨some 12, .pick (.t 8) (.t 11) (.c (.bool false)), none, []⟩,
  ⟨some 13, .mv (.t 12), none, []⟩,
  ⟨some 14, .ld (.t 3) 2 true, some (13, true), []⟩,
  ⟨some 15, .call 89 [.t 14], some (13, true), []⟩,
  ⟨some 16, .pick (.t 13) (.t 15) (.c (.bool false)), none, []⟩,
  ⟨some 4, .mv (.t 16), none, []⟩])
  .ret))
def r42 : List RV := [.tmp 4]
theorem n42 : Try.f42.ntmps = 17 := by kernel_rfl
theorem b42 : bodyB Try.prog 42 = true := by kernel_rfl
theorem c42_ok : cmpC Try.prog c42 ((Try.f42.body).getD .skip) = true := by kernel_rfl
theorem r42_ok : cmpR Try.prog r42 Try.f42.results.toList = true := by kernel_rfl
theorem t42 {args : List SV} {res : SV} (ka : KFL args) (kr : KF res) (h : sx Try.prog Y0 0 c42 (st0 args 17) (retK r42 res)) (hA : Nat.ble args.length 17 = true := by rfl) : Ct Try.prog 42 args res := ct_intro Try.func42 rfl b42 c42_ok r42_ok n42 (Nat.le_of_ble_eq_true hA) ka kr h
def c44 : SC := (.seq (.reg [
  ⟨some 2, .box (.t 0) 0 86, none, []⟩,
  ⟨some 4, .mv (.c (.int .i64 0)), none, []⟩])
  (.seq (.seq (.reg [
  ⟨some 5, .mv (.t 1), none, []⟩])
  (.block 0 (.seq (.reg [
   ⟨some 7, .addo (.t 2) 0, none, []⟩,
   ⟨some 8, .ld (.t 7) 1 false, none, []⟩,
   ⟨some 9, .bin .eql (.t 5) (.t 8), none, []⟩,
   ⟨some 6, .mv (.t 9), none, []⟩])
   (.cond (.t 6)
   (.seq (.reg [
    ⟨some 10, .addo (.t 2) 1, none, []⟩,
    ⟨some 11, .ld (.t 10) 1 false, none, []⟩,
    ⟨some 4, .mv (.t 11), none, []⟩])
    .ret)
   (.seq (.reg [
    ⟨some 13, .addo (.t 2) 1, none, []⟩,
    ⟨some 14, .ld (.t 13) 1 false, none, []⟩,
    ⟨some 15, .bin .eql (.t 5) (.t 14), none, []⟩,
    ⟨some 12, .mv (.t 15), none, []⟩])
    (.cond (.t 12)
    (.seq (.reg [
     ⟨some 16, .addo (.t 2) 0, none, []⟩,
     ⟨some 17, .ld (.t 16) 1 false, none, []⟩,
     ⟨some 4, .mv (.t 17), none, []⟩])
     .ret)
    .skip))))))
  (.seq (.reg [
  ⟨some 4, .mv (.c (.int .i64 (-1))), none, []⟩])
  .ret)))
def r44 : List RV := [.tmp 4]
theorem n44 : Try.f44.ntmps = 18 := by kernel_rfl
theorem b44 : bodyB Try.prog 44 = true := by kernel_rfl
theorem c44_ok : cmpC Try.prog c44 ((Try.f44.body).getD .skip) = true := by kernel_rfl
theorem r44_ok : cmpR Try.prog r44 Try.f44.results.toList = true := by kernel_rfl
theorem t44 {args : List SV} {res : SV} (ka : KFL args) (kr : KF res) (h : sx Try.prog Y0 0 c44 (st0 args 18) (retK r44 res)) (hA : Nat.ble args.length 18 = true := by rfl) : Ct Try.prog 44 args res := ct_intro Try.func44 rfl b44 c44_ok r44_ok n44 (Nat.le_of_ble_eq_true hA) ka kr h
def c45 : SC := (.seq (.reg [
  ⟨some 2, .box (.t 0) 0 29, none, []⟩,
  ⟨some 4, .mv (.c (.int .i64 0)), none, []⟩])
  (.seq (.regd [0, 1, 2, 3, 4, 5, 6, 7, 8, 9, 10, 11, 12] [
  .op ⟨some 5, .addo (.t 2) 0, none, []⟩,
  .op ⟨some 6, .ld (.t 5) 1 false, none, [0]⟩,
  .op ⟨some 7, .mv (.t 1), none, []⟩,
  .op ⟨some 8, .conv .i64 (.t 7), none, [2]⟩,
  .op ⟨some 9, .addo (.t 2) 1, none, []⟩,
  .op ⟨some 10, .ld (.t 9) 1 false, none, [4]⟩,
  .op ⟨some 11, .addo (.t 2) 0, none, []⟩,
  .op ⟨some 12, .ld (.t 11) 1 false, none, [6]⟩,
  .op ⟨some 13, .bin .sub (.t 10) (.t 12), none, [5, 7]⟩,
  .op ⟨some 14, .bin .add (.t 13) (.c (.int .i64 1)), none, [8]⟩,
  .op ⟨some 15, .div .rem (.t 8) (.t 14), none, [3, 9]⟩,
  .op ⟨some 16, .bin .add (.t 6) (.t 15), none, [1, 10]⟩,
  .op ⟨some 4, .mv (.t 16), none, [0, 1, 2, 3, 4, 5, 6, 7, 8, 9, 10, 11]⟩] 0 0 [
])
  .ret))
def r45 : List RV := [.tmp 4]
theorem n45 : Try.f45.ntmps = 17 := by kernel_rfl
theorem b45 : bodyB Try.prog 45 = true := by kernel_rfl
theorem c45_ok : cmpC Try.prog c45 ((Try.f45.body).getD .skip) = true := by kernel_rfl
theorem r45_ok : cmpR Try.prog r45 Try.f45.results.toList = true := by kernel_rfl
theorem t45 {args : List SV} {res : SV} (ka : KFL args) (kr : KF res) (h : sx Try.prog Y0 0 c45 (st0 args 17) (retK r45 res)) (hA : Nat.ble args.length 17 = true := by rfl) : Ct Try.prog 45 args res := ct_intro Try.func45 rfl b45 c45_ok r45_ok n45 (Nat.le_of_ble_eq_true hA) ka kr h
def c46 : SC := (.seq (.reg [
  ⟨some 4, .mv (.c (.int .u32 0)), none, []⟩])
  (.seq (.seq (.reg [
  ⟨some 5, .mv (.t 0), none, []⟩,
  ⟨some 6, .len (.t 5), none, []⟩,
  ⟨some 7, .bin .eql (.t 6) (.c (.int .i64 0)), none, []⟩])
  (.cond (.t 7)
  (.seq (.reg [
   ⟨some 4, .mv (.c (.int .u32 0)), none, []⟩])
   .ret)
  .skip))
  (.seq (.reg [
  ⟨some 8, .mv (.t 0), none, []⟩,
  ⟨some 9, .mv (.t 1), none, []⟩,
  ⟨some 10, .mv (.t 0), none, []⟩,
  ⟨some 11, .len (.t 10), none, []⟩,
  ⟨some 12, .div .rem (.t 9) (.t 11), none, []⟩,
  ⟨some 13, .ixs (.t 8) (.t 12) 1, none, []⟩,
  ⟨some 14, .ld (.t 13) 1 false, none, []⟩,
  ⟨some 4, .mv (.t 14), none, []⟩])
  .ret)))
def r46 : List RV := [.tmp 4]
theorem n46 : Try.f46.ntmps = 15 := by kernel_rfl
theorem b46 : bodyB Try.prog 46 = true := by kernel_rfl
theorem c46_ok : cmpC Try.prog c46 ((Try.f46.body).getD .skip) = true := by kernel_rfl
theorem r46_ok : cmpR Try.prog r46 Try.f46.results.toList = true := by kernel_rfl
theorem t46 {args : List SV} {res : SV} (ka : KFL args) (kr : KF res) (h : sx Try.prog Y0 0 c46 (st0 args 15) (retK r46 res)) (hA : Nat.ble args.length 15 = true := by rfl) : Ct Try.prog 46 args res := ct_intro Try.func46 rfl b46 c46_ok r46_ok n46 (Nat.le_of_ble_eq_true hA) ka kr h
def c47 : SC := (.seq (.reg [
  ⟨some 3, .box (.t 0) 0 86, none, []⟩,
  ⟨some 6, .mv (.c (.int .i64 0)), none, []⟩])
  (.seq (.reg [
  ⟨some 7, .mv (.c (.int .i64 100001)), none, []⟩])
  (.seq (.seq (.reg [
  ⟨some 11, .addo (.t 3) 4, none, []⟩,
  ⟨some 12, .ld (.t 11) 1 false, none, []⟩,
  ⟨some 13, .len (.t 12), none, []⟩,
  ⟨some 14, .mv (.c (.int .i64 0)), none, []⟩])
  (.block 0 (.loop (.seq (.reg [
    ⟨some 15, .bin .lss (.t 14) (.t 13), none, []⟩])
    (.seq (.cond (.t 15)
    .skip
    (.exit 0))
    (.seq (.block 1 (.seq (.reg [
     ⟨some 16, .ixs (.t 12) (.t 14) 4, none, []⟩,
     ⟨some 17, .ld (.t 16) 4 true, none, []⟩,
     ⟨some 9, .alloc [.int .i64 0, .int .i64 0, .int .i64 0, .int .i64 0] 95, none, []⟩,
     ⟨none, .st (.t 9) (.t 17) 4, none, []⟩])
     (.seq (.reg [
     ⟨some 18, .mv (.t 1), none, []⟩,
     ⟨some 19, .addo (.t 9) 0, none, []⟩,
     ⟨some 20, .addo (.t 19) 0, none, []⟩,
     ⟨some 21, .ld (.t 20) 1 false, none, []⟩,
     ⟨some 22, .mm true [.t 18, .t 21], none, []⟩,
     ⟨some 10, .mv (.t 22), none, []⟩])
     (.seq (.reg [
     ⟨some 23, .mv (.t 10), none, []⟩,
     ⟨some 24, .mv (.t 2), none, []⟩,
     ⟨some 25, .bin .add (.t 23) (.t 24), none, []⟩,
     ⟨some 26, .bin .sub (.t 25) (.c (.int .i64 1)), none, []⟩,
     ⟨some 27, .addo (.t 9) 2, none, []⟩,
     ⟨some 28, .addo (.t 27) 0, none, []⟩,
     ⟨some 29, .ld (.t 28) 1 false, none, []⟩,
     ⟨some 30, .bin .leq (.t 26) (.t 29), none, []⟩])
     (.cond (.t 30)
     (.reg [
      ⟨some 31, .mv (.t 7), none, []⟩,
      ⟨some 32, .mv (.t 10), none, []⟩,
      ⟨some 33, .mm false [.t 31, .t 32], none, []⟩,
      ⟨some 7, .mv (.t 33), none, []⟩])
     .skip)))))
    (.reg [
    ⟨some 34, .bin .add (.t 14) (.c (.int .i64 1)), none, []⟩,
    ⟨some 14, .mv (.t 34), none, []⟩])))))))
  (.seq (.reg [
  ⟨some 35, .mv (.t 7), none, []⟩,
  ⟨some 36, .mv (.t 2), none, []⟩,
  ⟨some 37, .bin .add (.t 35) (.t 36), none, []⟩,
  ⟨some 38, .mm false [.c (.int .i64 100001), .t 37], none, []⟩,
  ⟨some 6, .mv (.t 38), none, []⟩])
  .ret))))
def r47 : List RV := [.tmp 6]
theorem n47 : Try.f47.ntmps = 39 := by kernel_rfl
theorem b47 : bodyB Try.prog 47 = true := by kernel_rfl
theorem c47_ok : cmpC Try.prog c47 ((Try.f47.body).getD .skip) = true := by kernel_rfl
theorem r47_ok : cmpR Try.prog r47 Try.f47.results.toList = true := by kernel_rfl
theorem t47 {args : List SV} {res : SV} (ka : KFL args) (kr : KF res) (h : sx Try.prog Y0 0 c47 (st0 args 39) (retK r47 res)) (hA : Nat.ble args.length 39 = true := by rfl) : Ct Try.prog 47 args res := ct_intro Try.func47 rfl b47 c47_ok r47_ok n47 (Nat.le_of_ble_eq_true hA) ka kr h
def c50 : SC := (.seq (.reg [
  ⟨some 4, .alloc [.int .i64 0, .int .i64 0] 29, none, []⟩])
  (.seq (.reg [
  ⟨some 5, .mv (.t 0), none, []⟩,
  ⟨some 6, .mv (.t 1), none, []⟩,
  ⟨some 7, .build [.int .i64 0, .int .i64 0] [(0, 1, .t 5), (1, 1, .t 6)], none, []⟩,
  ⟨none, .st (.t 4) (.t 7) 2, none, []⟩])
  .ret))
def r50 : List RV := [.cell 4 2 true]
theorem n50 : Try.f50.ntmps = 8 := by kernel_rfl
theorem b50 : bodyB Try.prog 50 = true := by kernel_rfl
theorem c50_ok : cmpC Try.prog c50 ((Try.f50.body).getD .skip) = true := by kernel_rfl
theorem r50_ok : cmpR Try.prog r50 Try.f50.results.toList = true := by kernel_rfl
theorem t50 {args : List SV} {res : SV} (ka : KFL args) (kr : KF res) (h : sx Try.prog Y0 0 c50 (st0 args 8) (retK r50 res)) (hA : Nat.ble args.length 8 = true := by rfl) : Ct Try.prog 50 args res := ct_intro Try.func50 rfl b50 c50_ok r50_ok n50 (Nat.le_of_ble_eq_true hA) ka kr h
def c56 : SC := (.seq (.reg [
  ⟨some 0, .alloc [.slice none 0 0, .slice none 0 0] 25, none, []⟩])
  (.seq (.reg [
  ⟨some 1, .build [.int .i64 0, .int .i64 0, .int .i64 0, .int .i64 0, .int .i64 0, .int .i64 0, .int .i64 0, .int .i64 0, .int .i64 0] [], none, []⟩,
  ⟨some 2, .call 50 [.c (.int .i64 1000), .c (.int .i64 2000)], none, []⟩,
  ⟨some 3, .call 50 [.c (.int .i64 3000), .c (.int .i64 5000)], none, []⟩,
  ⟨some 4, .build [.int .i64 0, .int .i64 0, .int .i64 0, .int .i64 0, .int .i64 0, .int .i64 0, .int .i64 0, .int .i64 0, .int .i64 0] [(0, 1, .c (.int .i64 90000)), (2, 1, .c (.int .i64 20)), (3, 2, .t 2), (5, 1, .c (.int .i64 10000)), (6, 2, .t 3)], none, []⟩,
  ⟨some 5, .build [.int .i64 0, .int .i64 0, .int .i64 0, .int .i64 0, .int .i64 0, .int .i64 0, .int .i64 0, .int .i64 0, .int .i64 0] [(0, 1, .c (.int .i64 140000))], none, []⟩,
  ⟨some 6, .bsl 9 109 [.t 1, .t 4, .t 5], none, []⟩,
  ⟨some 7, .call 50 [.c (.int .i64 90000), .c (.int .i64 100000)], none, []⟩,
  ⟨some 8, .call 50 [.c (.int .i64 5), .c (.int .i64 7)], none, []⟩,
  ⟨some 9, .call 50 [.c (.int .i64 20), .c (.int .i64 30)], none, []⟩,
  ⟨some 10, .build [.int .i64 0, .int .i64 0, .int .i64 0, .int .i64 0] [(0, 2, .t 8), (2, 2, .t 9)], none, []⟩,
  ⟨some 11, .bsl 4 95 [.t 10], none, []⟩,
  ⟨some 12, .build [.int .i64 0, .int .i64 0, .int .i64 0, .int .i64 0, .slice none 0 0] [(0, 1, .c (.int .i64 0)), (1, 1, .c (.int .i64 1)), (2, 2, .t 7), (4, 1, .t 11)], none, []⟩,
  ⟨some 13, .call 50 [.c (.int .i64 50000), .c (.int .i64 50000)], none, []⟩,
  ⟨some 14, .call 50 [.c (.int .i64 12), .c (.int .i64 13)], none, []⟩,
  ⟨some 15, .build [.int .i64 0, .int .i64 0, .int .i64 0, .int .i64 0] [(2, 2, .t 14)], none, []⟩,
  ⟨some 16, .call 50 [.c (.int .i64 18), .c (.int .i64 18)], none, []⟩,
  ⟨some 17, .call 50 [.c (.int .i64 40), .c (.int .i64 50)], none, []⟩,
  ⟨some 18, .build [.int .i64 0, .int .i64 0, .int .i64 0, .int .i64 0] [(0, 2, .t 16), (2, 2, .t 17)], none, []⟩,
  ⟨some 19, .bsl 4 95 [.t 15, .t 18], none, []⟩,
  ⟨some 20, .build [.int .i64 0, .int .i64 0, .int .i64 0, .int .i64 0, .slice none 0 0] [(0, 1, .c (.int .i64 1)), (1, 1, .c (.int .i64 2)), (2, 2, .t 13), (4, 1, .t 19)], none, []⟩,
  ⟨some 21, .call 50 [.c (.int .i64 200000), .c (.int .i64 240000)], none, []⟩,
  ⟨some 22, .call 50 [.c (.int .i64 99), .c (.int .i64 99)], none, []⟩,
  ⟨some 23, .build [.int .i64 0, .int .i64 0, .int .i64 0, .int .i64 0] [(2, 2, .t 22)], none, []⟩,
  ⟨some 24, .bsl 4 95 [.t 23], none, []⟩,
  ⟨some 25, .build [.int .i64 0, .int .i64 0, .int .i64 0, .int .i64 0, .slice none 0 0] [(0, 1, .c (.int .i64 0)), (1, 1, .c (.int .i64 2)), (2, 2, .t 21), (4, 1, .t 24)], none, []⟩,
  ⟨some 26, .bsl 5 86 [.t 12, .t 20, .t 25], none, []⟩,
  ⟨some 27, .build [.slice none 0 0, .slice none 0 0] [(0, 1, .t 6), (1, 1, .t 26)], none, []⟩,
  ⟨none, .st (.t 0) (.t 27) 2, none, []⟩])
  .ret))
def r56 : List RV := [.cell 0 2 true]
theorem n56 : Try.f56.ntmps = 28 := by kernel_rfl
theorem b56 : bodyB Try.prog 56 = true := by kernel_rfl
theorem c56_ok : cmpC Try.prog c56 ((Try.f56.body).getD .skip) = true := by kernel_rfl
theorem r56_ok : cmpR Try.prog r56 Try.f56.results.toList = true := by kernel_rfl
def c57 : SC := (.seq (.reg [
  ⟨some 0, .alloc [.int .i64 0, .int .i64 0] 29, none, []⟩])
  (.seq (.reg [
  ⟨some 1, .call 50 [.c (.int .i64 20000), .c (.int .i64 30000)], none, []⟩,
  ⟨none, .st (.t 0) (.t 1) 2, none, []⟩])
  .ret))
def r57 : List RV := [.cell 0 2 true]
theorem n57 : Try.f57.ntmps = 2 := by kernel_rfl
theorem b57 : bodyB Try.prog 57 = true := by kernel_rfl
theorem c57_ok : cmpC Try.prog c57 ((Try.f57.body).getD .skip) = true := by kernel_rfl
theorem r57_ok : cmpR Try.prog r57 Try.f57.results.toList = true := by kernel_rfl
theorem t57 {args : List SV} {res : SV} (ka : KFL args) (kr : KF res) (h : sx Try.prog Y0 0 c57 (st0 args 2) (retK r57 res)) (hA : Nat.ble args.length 2 = true := by rfl) : Ct Try.prog 57 args res := ct_intro Try.func57 rfl b57 c57_ok r57_ok n57 (Nat.le_of_ble_eq_true hA) ka kr h
def c7 : SC := (.seq (.reg [
  ⟨some 6, .box (.t 0) 0 25, none, []⟩,
  ⟨some 9, .box (.t 3) 0 29, none, []⟩,
  ⟨some 12, .mv (.c (.bool false)), none, []⟩])
  (.seq (.reg [
  ⟨some 25, .call 41 [], none, []⟩,
  ⟨some 13, .mv (.t 25), none, []⟩])
  (.seq (.seq (.reg [
  ⟨some 26, .mv (.t 13), none, []⟩,
  ⟨some 27, .un .not (.t 26), none, []⟩])
  (.cond (.t 27)
  (.seq (.reg [
   ⟨some 12, .mv (.c (.bool false)), none, []⟩])
   .ret)
  .skip))
  (.seq (.seq (.reg [
  ⟨some 28, .ld (.t 6) 2 true, none, []⟩,
  ⟨some 29, .ld (.t 9) 2 true, none, []⟩,
  ⟨some 30, .call 42 [.t 28, .t 29], none, []⟩,
  ⟨some 31, .un .not (.t 30), none, []⟩,
  ⟨some 32, .mv (.t 31), none, []⟩,
  ⟨some 33, .mv (.t 1), some (32, false), []⟩,
  ⟨some 34, .bin .lss (.t 33) (.c (.int .i64 0)), some (32, false), []⟩,
  ⟨some 35, .pick (.t 32) (.c (.bool true)) (.t 34), none, []⟩,
  ⟨some 36, .mv (.t 35), none, []⟩,
  ⟨some 37, .mv (.t 1), some (36, false), []⟩,
  ⟨some 38, .addo (.t 6) 0, some (36, false), []⟩,
  ⟨some 39, .ld (.t 38) 1 false, some (36, false), []⟩,
  ⟨some 40, .len (.t 39), some (36, false), []⟩,
  ⟨some 41, .bin .geq (.t 37) (.t 40), some (36, false), []⟩,
  ⟨some 42, .pick (.t 36) (.c (.bool true)) (.t 41), none, []⟩,
  ⟨some 43, .mv (.t 42), none, []⟩,
  ⟨some 44, .mv (.t 2), some (43, false), []⟩,
  ⟨some 45, .bin .lss (.t 44) (.c (.int .i64 0)), some (43, false), []⟩,
  ⟨some 46, .pick (.t 43) (.c (.bool true)) (.t 45), none, []⟩,
  ⟨some 47, .mv (.t 46), none, []⟩,
  ⟨some 48, .mv (.t 2), some (47, false), []⟩,
  ⟨some 49, .bin .gtr (.t 48) (.c (.int .i64 100000)), some (47, false), []⟩,
  ⟨some 50, .pick (.t 47) (.c (.bool true)) (.t 49), none, []⟩,
  ⟨some 51, .mv (.t 50), none, []⟩,
  ⟨some 52, .mv (.t 4), some (51, false), []⟩,
  ⟨some 53, .len (.t 52), some (51, false), []⟩,
  ⟨some 54, .bin .gtr (.t 53) (.c (.int .i64 24)), some (51, false), []⟩,
  ⟨some 55, .pick (.t 51) (.c (.bool true)) (.t 54), none, []⟩])
  (.cond (.t 55)
  (.seq (.reg [
   ⟨some 56, .mv (.t 13), none, []⟩,
   ⟨some 12, .mv (.t 56), none, []⟩])
   .ret)
  .skip))
  (.seq (.reg [
  ⟨some 58, .ld (.t 6) 2 true, none, []⟩,
  ⟨some 59, .mv (.t 1), none, []⟩,
  ⟨some 60, .mv (.t 2), none, []⟩,
  ⟨some 61, .ld (.t 9) 2 true, none, []⟩,
  ⟨some 62, .mv (.t 4), none, []⟩,
  ⟨some 63, .call 34 [.t 58, .t 59, .t 60, .t 61, .t 62], none, []⟩,
  ⟨some 57, .mv (.t 63), none, []⟩,
  ⟨some 64, .ext (.t 57) 0, none, []⟩,
  ⟨some 65, .ext (.t 57) 1, none, []⟩,
  ⟨some 66, .ext (.t 57) 2, none, []⟩,
  ⟨some 14, .mv (.t 64), none, []⟩,
  ⟨some 15, .mv (.t 65), none, []⟩,
  ⟨some 16, .mv (.t 66), none, []⟩])
  (.seq (.reg [
  ⟨some 67, .ld (.t 6) 2 true, none, []⟩,
  ⟨some 68, .mv (.t 5), none, []⟩,
  ⟨some 69, .call 43 [.t 67, .t 68], none, []⟩,
  ⟨some 17, .alloc [.slice none 0 0, .slice none 0 0] 25, none, []⟩,
  ⟨none, .st (.t 17) (.t 69) 2, none, []⟩])
  (.seq (.reg [
  ⟨some 70, .mv (.t 2), none, []⟩,
  ⟨some 71, .mv (.t 1), none, []⟩,
  ⟨some 18, .mv (.t 70), none, []⟩,
  ⟨some 19, .mv (.t 71), none, []⟩])
  (.seq (.seq (.reg [
  ⟨some 72, .mv (.t 4), none, []⟩,
  ⟨some 73, .len (.t 72), none, []⟩,
  ⟨some 74, .mv (.c (.int .i64 0)), none, []⟩])
  (.block 0 (.loop (.seq (.reg [
    ⟨some 75, .bin .lss (.t 74) (.t 73), none, []⟩])
    (.seq (.cond (.t 75)
    .skip
    (.exit 0))
    (.seq (.block 1 (.seq (.reg [
     ⟨some 76, .mv (.t 74), none, []⟩,
     ⟨some 77, .ixs (.t 72) (.t 74) 1, none, []⟩,
     ⟨some 78, .ld (.t 77) 1 false, none, []⟩,
     ⟨some 20, .mv (.t 76), none, []⟩,
     ⟨some 21, .mv (.t 78), none, []⟩])
     (.seq (.seq (.reg [
     ⟨some 79, .mv (.t 21), none, []⟩,
     ⟨some 80, .bin .lss (.t 79) (.c (.int .i64 0)), none, []⟩,
     ⟨some 81, .mv (.t 80), none, []⟩,
     ⟨some 82, .mv (.t 21), some (81, false), []⟩,
     ⟨some 83, .addo (.t 6) 1, some (81, false), []⟩,
     ⟨some 84, .ld (.t 83) 1 false, some (81, false), []⟩,
     ⟨some 85, .len (.t 84), some (81, false), []⟩,
     ⟨some 86, .bin .geq (.t 82) (.t 85), some (81, false), []⟩,
     ⟨some 87, .pick (.t 81) (.c (.bool true)) (.t 86), none, []⟩,
     ⟨some 88, .mv (.t 87), none, []⟩,
     ⟨some 89, .addo (.t 6) 1, some (88, false), []⟩,
     ⟨some 90, .ld (.t 89) 1 false, some (88, false), []⟩,
     ⟨some 91, .mv (.t 21), some (88, false), []⟩,
     ⟨some 92, .ixs (.t 90) (.t 91) 5, some (88, false), []⟩,
     ⟨some 93, .ld (.t 92) 5 true, some (88, false), []⟩,
     ⟨some 94, .mv (.t 19), some (88, false), []⟩,
     ⟨some 95, .call 44 [.t 93, .t 94], some (88, false), []⟩,
     ⟨some 96, .bin .lss (.t 95) (.c (.int .i64 0)), some (88, false), []⟩,
     ⟨some 97, .pick (.t 88) (.c (.bool true)) (.t 96), none, []⟩])
     (.cond (.t 97)
     (.seq (.reg [
      ⟨some 98, .mv (.t 13), none, []⟩,
      ⟨some 99, .mv (.t 98), none, []⟩,
      ⟨some 100, .mv (.t 16), some (99, true), []⟩,
      ⟨some 101, .bin .eql (.t 100) (.c (.int .i64 8)), some (99, true), []⟩,
      ⟨some 102, .pick (.t 99) (.t 101) (.c (.bool false)), none, []⟩,
      ⟨some 12, .mv (.t 102), none, []⟩])
      .ret)
     .skip))
     (.seq (.reg [
     ⟨some 103, .addo (.t 6) 1, none, []⟩,
     ⟨some 104, .ld (.t 103) 1 false, none, []⟩,
     ⟨some 105, .mv (.t 21), none, []⟩,
     ⟨some 106, .ixs (.t 104) (.t 105) 5, none, []⟩,
     ⟨some 107, .ld (.t 106) 5 true, none, []⟩,
     ⟨some 108, .mv (.t 19), none, []⟩,
     ⟨some 109, .call 44 [.t 107, .t 108], none, []⟩,
     ⟨some 19, .mv (.t 109), none, []⟩])
     (.seq (.seq (.reg [
     ⟨some 110, .mv (.t 16), none, []⟩,
     ⟨some 111, .bin .neq (.t 110) (.c (.int .i64 0)), none, []⟩])
     (.cond (.t 111)
     (.exit 1)
     .skip))
     (.seq (.regd [0, 1, 2, 3, 4, 5, 6] [
     .op ⟨some 112, .ld (.t 9) 2 true, none, []⟩,
     .op ⟨some 113, .mv (.t 5), none, []⟩,
     .op ⟨some 114, .mv (.t 20), none, []⟩,
     .op ⟨some 115, .bin .mul (.c (.int .i64 5)) (.t 114), none, [2]⟩,
     .op ⟨some 116, .call 46 [.t 113, .t 115], none, [1, 3]⟩,
     .op ⟨some 117, .call 45 [.t 112, .t 116], none, [0, 4]⟩,
     .op ⟨some 22, .mv (.t 117), none, [0, 1, 2, 3, 4, 5]⟩] 0 0 [
])
     (.seq (.regd [0, 1, 2, 3, 4, 5, 6, 7, 8, 9, 10, 11, 12, 13, 14, 15, 16, 17] [
     .op ⟨some 118, .addo (.t 6) 1, none, []⟩,
     .op ⟨some 119, .ld (.t 118) 1 false, none, [0]⟩,
     .op ⟨some 120, .mv (.t 21), none, []⟩,
     .op ⟨some 121, .ixs (.t 119) (.t 120) 5, none, [1, 2]⟩,
     .op ⟨some 122, .addo (.t 121) 2, none, [3]⟩,
     .op ⟨some 123, .ld (.t 122) 2 true, none, [4]⟩,
     .op ⟨some 124, .mv (.t 5), none, []⟩,
     .op ⟨some 125, .mv (.t 20), none, []⟩,
     .op ⟨some 126, .bin .mul (.c (.int .i64 5)) (.t 125), none, [7]⟩,
     .op ⟨some 127, .bin .add (.t 126) (.c (.int .i64 1)), none, [8]⟩,
     .op ⟨some 128, .call 46 [.t 124, .t 127], none, [6, 9]⟩,
     .op ⟨some 129, .call 45 [.t 123, .t 128], none, [5, 10]⟩,
     .op ⟨some 130, .mv (.t 22), none, []⟩,
     .op ⟨some 131, .bin .add (.t 129) (.t 130), none, [11, 12]⟩,
     .op ⟨some 132, .bin .sub (.t 131) (.c (.int .i64 1)), none, [13]⟩,
     .op ⟨some 133, .mv (.t 22), none, []⟩,
     .op ⟨some 134, .div .quo (.t 132) (.t 133), none, [14, 15]⟩,
     .op ⟨some 23, .mv (.t 134), none, [0, 1, 2, 3, 4, 5, 6, 7, 8, 9, 10, 11, 12, 13, 14, 15, 16]⟩] 0 0 [
])
     (.seq (.reg [
     ⟨some 135, .addo (.t 17) 1, none, []⟩,
     ⟨some 136, .ld (.t 135) 1 false, none, []⟩,
     ⟨some 137, .mv (.t 21), none, []⟩,
     ⟨some 138, .ixs (.t 136) (.t 137) 5, none, []⟩,
     ⟨some 139, .ld (.t 138) 5 true, none, []⟩,
     ⟨some 140, .mv (.t 18), none, []⟩,
     ⟨some 141, .mv (.t 23), none, []⟩,
     ⟨some 142, .call 47 [.t 139, .t 140, .t 141], none, []⟩,
     ⟨some 24, .mv (.t 142), none, []⟩])
     (.seq (.seq (.reg [
     ⟨some 143, .mv (.t 24), none, []⟩,
     ⟨some 144, .bin .geq (.t 143) (.c (.int .i64 100001)), none, []⟩,
     ⟨some 145, .mv (.t 144), none, []⟩,
     ⟨some 146, .mv (.t 14), some (145, false), []⟩,
     ⟨some 147, .len (.t 146), some (145, false), []⟩,
     ⟨some 148, .mv (.t 20), some (145, false), []⟩,
     ⟨some 149, .bin .leq (.t 147) (.t 148), some (145, false), []⟩,
     ⟨some 150, .pick (.t 145) (.c (.bool true)) (.t 149), none, []⟩,
     ⟨some 151, .mv (.t 150), none, []⟩,
     ⟨some 152, .mv (.t 14), some (151, false), []⟩,
     ⟨some 153, .mv (.t 20), some (151, false), []⟩,
     ⟨some 154, .ixs (.t 152) (.t 153) 6, some (151, false), []⟩,
     ⟨some 155, .addo (.t 154) 0, some (151, false), []⟩,
     ⟨some 156, .ld (.t 155) 1 false, some (151, false), []⟩,
     ⟨some 157, .mv (.t 21), some (151, false), []⟩,
     ⟨some 158, .bin .neq (.t 156) (.t 157), some (151, false), []⟩,
     ⟨some 159, .pick (.t 151) (.c (.bool true)) (.t 158), none, []⟩,
     ⟨some 160, .mv (.t 159), none, []⟩,
     ⟨some 161, .mv (.t 14), some (160, false), []⟩,
     ⟨some 162, .mv (.t 20), some (160, false), []⟩,
     ⟨some 163, .ixs (.t 161) (.t 162) 6, some (160, false), []⟩,
     ⟨some 164, .addo (.t 163) 1, some (160, false), []⟩,
     ⟨some 165, .ld (.t 164) 1 false, some (160, false), []⟩,
     ⟨some 166, .mv (.t 19), some (160, false), []⟩,
     ⟨some 167, .bin .neq (.t 165) (.t 166), some (160, false), []⟩,
     ⟨some 168, .pick (.t 160) (.c (.bool true)) (.t 167), none, []⟩,
     ⟨some 169, .mv (.t 168), none, []⟩,
     ⟨some 170, .mv (.t 24), some (169, false), []⟩,
     ⟨some 171, .mv (.t 14), some (169, false), []⟩,
     ⟨some 172, .mv (.t 20), some (169, false), []⟩,
     ⟨some 173, .ixs (.t 171) (.t 172) 6, some (169, false), []⟩,
     ⟨some 174, .addo (.t 173) 4, some (169, false), []⟩,
     ⟨some 175, .addo (.t 174) 0, some (169, false), []⟩,
     ⟨some 176, .ld (.t 175) 1 false, some (169, false), []⟩,
     ⟨some 177, .bin .lss (.t 170) (.t 176), some (169, false), []⟩,
     ⟨some 178, .pick (.t 169) (.c (.bool true)) (.t 177), none, []⟩,
     ⟨some 179, .mv (.t 178), none, []⟩,
     ⟨some 180, .mv (.t 24), some (179, false), []⟩,
     ⟨some 181, .mv (.t 14), some (179, false), []⟩,
     ⟨some 182, .mv (.t 20), some (179, false), []⟩,
     ⟨some 183, .ixs (.t 181) (.t 182) 6, some (179, false), []⟩,
     ⟨some 184, .addo (.t 183) 4, some (179, false), []⟩,
     ⟨some 185, .addo (.t 184) 1, some (179, false), []⟩,
     ⟨some 186, .ld (.t 185) 1 false, some (179, false), []⟩,
     ⟨some 187, .bin .gtr (.t 180) (.t 186), some (179, false), []⟩,
     ⟨some 188, .pick (.t 179) (.c (.bool true)) (.t 187), none, []⟩,
     ⟨some 189, .mv (.t 188), none, []⟩,
     ⟨some 190, .mv (.t 24), some (189, false), []⟩,
     ⟨some 191, .mv (.t 23), some (189, false), []⟩,
     ⟨some 192, .bin .sub (.t 190) (.t 191), some (189, false), []⟩,
     ⟨some 193, .mv (.t 14), some (189, false), []⟩,
     ⟨some 194, .mv (.t 20), some (189, false), []⟩,
     ⟨some 195, .ixs (.t 193) (.t 194) 6, some (189, false), []⟩,
     ⟨some 196, .addo (.t 195) 2, some (189, false), []⟩,
     ⟨some 197, .addo (.t 196) 0, some (189, false), []⟩,
     ⟨some 198, .ld (.t 197) 1 false, some (189, false), []⟩,
     ⟨some 199, .bin .lss (.t 192) (.t 198), some (189, false), []⟩,
     ⟨some 200, .pick (.t 189) (.c (.bool true)) (.t 199), none, []⟩,
     ⟨some 201, .mv (.t 200), none, []⟩,
     ⟨some 202, .mv (.t 24), some (201, false), []⟩,
     ⟨some 203, .mv (.t 23), some (201, false), []⟩,
     ⟨some 204, .bin .sub (.t 202) (.t 203), some (201, false), []⟩,
     ⟨some 205, .mv (.t 14), some (201, false), []⟩,
     ⟨some 206, .mv (.t 20), some (201, false), []⟩,
     ⟨some 207, .ixs (.t 205) (.t 206) 6, some (201, false), []⟩,
     ⟨some 208, .addo (.t 207) 2, some (201, false), []⟩,
     ⟨some 209, .addo (.t 208) 1, some (201, false), []⟩,
     ⟨some 210, .ld (.t 209) 1 false, some (201, false), []⟩,
     ⟨some 211, .bin .gtr (.t 204) (.t 210), some (201, false), []⟩,
     ⟨some 212, .pick (.t 201) (.c (.bool true)) (.t 211), none, []⟩])
     (.cond (.t 212)
     (.seq (.reg [
      ⟨some 12, .mv (.c (.bool false)), none, []⟩])
      .ret)
     .skip))
     (.reg [
     ⟨some 213, .mv (.t 24), none, []⟩,
     ⟨some 18, .mv (.t 213), none, []⟩]))))))))))
    (.reg [
    ⟨some 214, .bin .add (.t 74) (.c (.int .i64 1)), none, []⟩,
    ⟨some 74, .mv (.t 214), none, []⟩])))))))
  (.seq (.seq (.reg [
  ⟨some 215, .mv (.t 16), none, []⟩,
  ⟨some 216, .bin .neq (.t 215) (.c (.int .i64 0)), none, []⟩])
  (.cond (.t 216)
  (.seq (.reg [
   ⟨some 217, .mv (.t 13), none, []⟩,
   ⟨some 218, .mv (.t 217), none, []⟩,
   ⟨some 219, .mv (.t 16), some (218, true), []⟩,
   ⟨some 220, .bin .eql (.t 219) (.c (.int .i64 34)), some (218, true), []⟩,
   ⟨some 221, .pick (.t 218) (.t 220) (.c (.bool false)), none, []⟩,
   ⟨some 222, .mv (.t 221), none, []⟩,
   ⟨some 223, .mv (.t 14), some (222, true), []⟩,
   ⟨some 224, .len (.t 223), some (222, true), []⟩,
   ⟨some 225, .bin .eql (.t 224) (.c (.int .i64 0)), some (222, true), []⟩,
   ⟨some 226, .pick (.t 222) (.t 225) (.c (.bool false)), none, []⟩,
   ⟨some 12, .mv (.t 226), none, []⟩])
   .ret)
  .skip))
  (.seq (.reg [
  ⟨some 227, .mv (.t 13), none, []⟩,
  ⟨some 228, .mv (.t 227), none, []⟩,
  ⟨some 229, .mv (.t 14), some (228, true), []⟩,
  ⟨some 230, .len (.t 229), some (228, true), []⟩,
  ⟨some 231, .mv (.t 4), some (228, true), []⟩,
  ⟨some 232, .len (.t 231), some (228, true), []⟩,
  ⟨some 233, .bin .eql (.t 230) (.t 232), some (228, true), []⟩,
  ⟨some 234, .pick (.t 228) (.t 233) (.c (.bool false)), none, []⟩,
  ⟨some 12, .mv (.t 234), none, []⟩])
  .ret))))))))))
def r7 : List RV := [.tmp 12]
theorem n7 : Try.f7.ntmps = 235 := by kernel_rfl
theorem b7 : bodyB Try.prog 7 = true := by kernel_rfl
theorem c7_ok : cmpC Try.prog c7 ((Try.f7.body).getD .skip) = true := by kernel_rfl
theorem r7_ok : cmpR Try.prog r7 Try.f7.results.toList = true := by kernel_rfl
theorem t7 {args : List SV} {res : SV} (ka : KFL args) (kr : KF res) (h : sx Try.prog Y0 0 c7 (st0 args 235) (retK r7 res)) (hA : Nat.ble args.length 235 = true := by rfl) : Ct Try.prog 7 args res := ct_intro Try.func7 rfl b7 c7_ok r7_ok n7 (Nat.le_of_ble_eq_true hA) ka kr h
def c8 : SC := (.seq (.reg [
  ⟨some 5, .box (.t 0) 0 25, none, []⟩,
  ⟨some 6, .box (.t 1) 0 3, none, []⟩,
  ⟨some 8, .box (.t 3) 0 29, none, []⟩,
  ⟨some 10, .mv (.c (.bool false)), none, []⟩])
  (.seq (.reg [
  ⟨some 20, .call 41 [], none, []⟩,
  ⟨some 11, .mv (.t 20), none, []⟩])
  (.seq (.seq (.reg [
  ⟨some 21, .mv (.t 11), none, []⟩,
  ⟨some 22, .un .not (.t 21), none, []⟩])
  (.cond (.t 22)
  (.seq (.reg [
   ⟨some 10, .mv (.c (.bool false)), none, []⟩])
   .ret)
  .skip))
  (.seq (.seq (.reg [
  ⟨some 23, .ld (.t 5) 2 true, none, []⟩,
  ⟨some 24, .ld (.t 8) 2 true, none, []⟩,
  ⟨some 25, .call 42 [.t 23, .t 24], none, []⟩,
  ⟨some 26, .un .not (.t 25), none, []⟩,
  ⟨some 27, .mv (.t 26), none, []⟩,
  ⟨some 28, .ld (.t 6) 1 false, some (27, false), []⟩,
  ⟨some 29, .bin .lss (.t 28) (.c (.int .i64 0)), some (27, false), []⟩,
  ⟨some 30, .pick (.t 27) (.c (.bool true)) (.t 29), none, []⟩,
  ⟨some 31, .mv (.t 30), none, []⟩,
  ⟨some 32, .ld (.t 6) 1 false, some (31, false), []⟩,
  ⟨some 33, .addo (.t 5) 1, some (31, false), []⟩,
  ⟨some 34, .ld (.t 33) 1 false, some (31, false), []⟩,
  ⟨some 35, .len (.t 34), some (31, false), []⟩,
  ⟨some 36, .bin .geq (.t 32) (.t 35), some (31, false), []⟩,
  ⟨some 37, .pick (.t 31) (.c (.bool true)) (.t 36), none, []⟩,
  ⟨some 38, .mv (.t 37), none, []⟩,
  ⟨some 39, .mv (.t 2), some (38, false), []⟩,
  ⟨some 40, .bin .lss (.t 39) (.c (.int .i64 0)), some (38, false), []⟩,
  ⟨some 41, .pick (.t 38) (.c (.bool true)) (.t 40), none, []⟩,
  ⟨some 42, .mv (.t 41), none, []⟩,
  ⟨some 43, .mv (.t 2), some (42, false), []⟩,
  ⟨some 44, .bin .gtr (.t 43) (.c (.int .i64 100000)), some (42, false), []⟩,
  ⟨some 45, .pick (.t 42) (.c (.bool true)) (.t 44), none, []⟩])
  (.cond (.t 45)
  (.seq (.reg [
   ⟨some 46, .mv (.t 11), none, []⟩,
   ⟨some 10, .mv (.t 46), none, []⟩])
   .ret)
  .skip))
  (.seq (.reg [
  ⟨some 48, .ld (.t 5) 2 true, none, []⟩,
  ⟨some 49, .ld (.t 6) 1 false, none, []⟩,
  ⟨some 50, .mv (.t 2), none, []⟩,
  ⟨some 51, .ld (.t 8) 2 true, none, []⟩,
  ⟨some 52, .call 24 [.t 48, .t 49, .t 50, .t 51], none, []⟩,
  ⟨some 47, .mv (.t 52), none, []⟩,
  ⟨some 53, .ext (.t 47) 0, none, []⟩,
  ⟨some 54, .ext (.t 47) 1, none, []⟩,
  ⟨some 12, .alloc [.int .i64 0, .int .i64 0] 29, none, []⟩,
  ⟨none, .st (.t 12) (.t 53) 2, none, []⟩,
  ⟨some 13, .mv (.t 54), none, []⟩])
  (.seq (.reg [
  ⟨some 56, .ld (.t 5) 2 true, none, []⟩,
  ⟨some 57, .ld (.t 6) 1 false, none, []⟩,
  ⟨some 58, .ld (.t 8) 2 true, none, []⟩,
  ⟨some 59, .call 22 [.t 56, .t 57, .t 58], none, []⟩,
  ⟨some 55, .mv (.t 59), none, []⟩,
  ⟨some 60, .ext (.t 55) 0, none, []⟩,
  ⟨some 61, .ext (.t 55) 1, none, []⟩,
  ⟨some 14, .alloc [.int .i64 0, .int .i64 0] 29, none, []⟩,
  ⟨none, .st (.t 14) (.t 60) 2, none, []⟩,
  ⟨some 15, .mv (.t 61), none, []⟩])
  (.seq (.seq (.reg [
  ⟨some 62, .mv (.t 13), none, []⟩,
  ⟨some 63, .bin .neq (.t 62) (.c (.int .i64 0)), none, []⟩,
  ⟨some 64, .mv (.t 63), none, []⟩,
  ⟨some 65, .mv (.t 15), some (64, false), []⟩,
  ⟨some 66, .bin .neq (.t 65) (.c (.int .i64 0)), some (64, false), []⟩,
  ⟨some 67, .pick (.t 64) (.c (.bool true)) (.t 66), none, []⟩,
  ⟨some 68, .mv (.t 67), none, []⟩,
  ⟨some 69, .addo (.t 14) 0, some (68, false), []⟩,
  ⟨some 70, .ld (.t 69) 1 false, some (68, false), []⟩,
  ⟨some 71, .bin .lss (.t 70) (.c (.int .i64 1)), some (68, false), []⟩,
  ⟨some 72, .pick (.t 68) (.c (.bool true)) (.t 71), none, []⟩,
  ⟨some 73, .mv (.t 72), none, []⟩,
  ⟨some 74, .addo (.t 14) 0, some (73, false), []⟩,
  ⟨some 75, .ld (.t 74) 1 false, some (73, false), []⟩,
  ⟨some 76, .addo (.t 14) 1, some (73, false), []⟩,
  ⟨some 77, .ld (.t 76) 1 false, some (73, false), []⟩,
  ⟨some 78, .bin .gtr (.t 75) (.t 77), some (73, false), []⟩,
  ⟨some 79, .pick (.t 73) (.c (.bool true)) (.t 78), none, []⟩,
  ⟨some 80, .mv (.t 79), none, []⟩,
  ⟨some 81, .addo (.t 12) 0, some (80, false), []⟩,
  ⟨some 82, .ld (.t 81) 1 false, some (80, false), []⟩,
  ⟨some 83, .mv (.t 2), some (80, false), []⟩,
  ⟨some 84, .bin .lss (.t 82) (.t 83), some (80, false), []⟩,
  ⟨some 85, .pick (.t 80) (.c (.bool true)) (.t 84), none, []⟩,
  ⟨some 86, .mv (.t 85), none, []⟩,
  ⟨some 87, .addo (.t 12) 0, some (86, false), []⟩,
  ⟨some 88, .ld (.t 87) 1 false, some (86, false), []⟩,
  ⟨some 89, .addo (.t 12) 1, some (86, false), []⟩,
  ⟨some 90, .ld (.t 89) 1 false, some (86, false), []⟩,
  ⟨some 91, .bin .gtr (.t 88) (.t 90), some (86, false), []⟩,
  ⟨some 92, .pick (.t 86) (.c (.bool true)) (.t 91), none, []⟩,
  ⟨some 93, .mv (.t 92), none, []⟩,
  ⟨some 94, .addo (.t 12) 1, some (93, false), []⟩,
  ⟨some 95, .ld (.t 94) 1 false, some (93, false), []⟩,
  ⟨some 96, .bin .gtr (.t 95) (.c (.int .i64 100001)), some (93, false), []⟩,
  ⟨some 97, .pick (.t 93) (.c (.bool true)) (.t 96), none, []⟩])
  (.cond (.t 97)
  (.seq (.reg [
   ⟨some 10, .mv (.c (.bool false)), none, []⟩])
   .ret)
  .skip))
  (.seq (.reg [
  ⟨some 98, .addo (.t 5) 1, none, []⟩,
  ⟨some 99, .ld (.t 98) 1 false, none, []⟩,
  ⟨some 100, .ld (.t 6) 1 false, none, []⟩,
  ⟨some 101, .ixs (.t 99) (.t 100) 5, none, []⟩,
  ⟨some 102, .addo (.t 101) 2, none, []⟩,
  ⟨some 103, .ld (.t 102) 2 true, none, []⟩,
  ⟨some 16, .alloc [.int .i64 0, .int .i64 0] 29, none, []⟩,
  ⟨none, .st (.t 16) (.t 103) 2, none, []⟩])
  (.seq (.seq (.reg [
  ⟨some 104, .addo (.t 14) 0, none, []⟩,
  ⟨some 105, .ld (.t 104) 1 false, none, []⟩,
  ⟨some 106, .addo (.t 8) 1, none, []⟩,
  ⟨some 107, .ld (.t 106) 1 false, none, []⟩,
  ⟨some 108, .bin .mul (.t 105) (.t 107), none, []⟩,
  ⟨some 109, .addo (.t 16) 0, none, []⟩,
  ⟨some 110, .ld (.t 109) 1 false, none, []⟩,
  ⟨some 111, .bin .lss (.t 108) (.t 110), none, []⟩,
  ⟨some 112, .mv (.t 111), none, []⟩,
  ⟨some 113, .addo (.t 14) 0, some (112, false), []⟩,
  ⟨some 114, .ld (.t 113) 1 false, some (112, false), []⟩,
  ⟨some 115, .bin .sub (.t 114) (.c (.int .i64 1)), some (112, false), []⟩,
  ⟨some 116, .addo (.t 8) 1, some (112, false), []⟩,
  ⟨some 117, .ld (.t 116) 1 false, some (112, false), []⟩,
  ⟨some 118, .bin .mul (.t 115) (.t 117), some (112, false), []⟩,
  ⟨some 119, .addo (.t 16) 0, some (112, false), []⟩,
  ⟨some 120, .ld (.t 119) 1 false, some (112, false), []⟩,
  ⟨some 121, .bin .geq (.t 118) (.t 120), some (112, false), []⟩,
  ⟨some 122, .pick (.t 112) (.c (.bool true)) (.t 121), none, []⟩,
  ⟨some 123, .mv (.t 122), none, []⟩,
  ⟨some 124, .addo (.t 14) 1, some (123, false), []⟩,
  ⟨some 125, .ld (.t 124) 1 false, some (123, false), []⟩,
  ⟨some 126, .addo (.t 8) 0, some (123, false), []⟩,
  ⟨some 127, .ld (.t 126) 1 false, some (123, false), []⟩,
  ⟨some 128, .bin .mul (.t 125) (.t 127), some (123, false), []⟩,
  ⟨some 129, .addo (.t 16) 1, some (123, false), []⟩,
  ⟨some 130, .ld (.t 129) 1 false, some (123, false), []⟩,
  ⟨some 131, .bin .lss (.t 128) (.t 130), some (123, false), []⟩,
  ⟨some 132, .pick (.t 123) (.c (.bool true)) (.t 131), none, []⟩,
  ⟨some 133, .mv (.t 132), none, []⟩,
  ⟨some 134, .addo (.t 14) 1, some (133, false), []⟩,
  ⟨some 135, .ld (.t 134) 1 false, some (133, false), []⟩,
  ⟨some 136, .bin .sub (.t 135) (.c (.int .i64 1)), some (133, false), []⟩,
  ⟨some 137, .addo (.t 8) 0, some (133, false), []⟩,
  ⟨some 138, .ld (.t 137) 1 false, some (133, false), []⟩,
  ⟨some 139, .bin .mul (.t 136) (.t 138), some (133, false), []⟩,
  ⟨some 140, .addo (.t 16) 1, some (133, false), []⟩,
  ⟨some 141, .ld (.t 140) 1 false, some (133, false), []⟩,
  ⟨some 142, .bin .geq (.t 139) (.t 141), some (133, false), []⟩,
  ⟨some 143, .pick (.t 133) (.c (.bool true)) (.t 142), none, []⟩])
  (.cond (.t 143)
  (.seq (.reg [
   ⟨some 10, .mv (.c (.bool false)), none, []⟩])
   .ret)
  .skip))
  (.seq (.reg [
  ⟨some 144, .mkf 48 [.t 5, .t 6, .t 14], none, []⟩,
  ⟨some 145, .mkf 49 [.t 5, .t 6, .t 14], none, []⟩,
  ⟨some 17, .mv (.t 144), none, []⟩,
  ⟨some 18, .mv (.t 145), none, []⟩])
  (.seq (.seq (.regd [0, 1, 2, 3, 4, 5, 6, 7, 8, 9, 10, 11, 12, 13, 14, 15, 16, 17] [
  .op ⟨some 146, .addo (.t 12) 0, none, []⟩,
  .op ⟨some 147, .ld (.t 146) 1 false, none, [0]⟩,
  .op ⟨some 148, .bin .lss (.t 147) (.c (.int .i64 100001)), none, [1]⟩,
  .op ⟨some 149, .mv (.t 17), none, []⟩,
  .op ⟨some 150, .addo (.t 12) 0, none, []⟩,
  .op ⟨some 151, .ld (.t 150) 1 false, none, [4]⟩,
  .op ⟨some 152, .calv (.t 149) [.t 151], none, [3, 5]⟩,
  .op ⟨some 153, .eqs true false [0] (.t 148) (.t 152), none, [2, 6]⟩,
  .op ⟨some 154, .mv (.t 153), none, [6, 7]⟩,
  .op ⟨some 155, .addo (.t 12) 1, some (154, false), [8]⟩,
  .op ⟨some 156, .ld (.t 155) 1 false, some (154, false), [8, 9]⟩,
  .op ⟨some 157, .bin .lss (.t 156) (.c (.int .i64 100001)), some (154, false), [8, 10]⟩,
  .op ⟨some 158, .mv (.t 18), some (154, false), [8]⟩,
  .op ⟨some 159, .addo (.t 12) 1, some (154, false), [8]⟩,
  .op ⟨some 160, .ld (.t 159) 1 false, some (154, false), [8, 13]⟩,
  .op ⟨some 161, .calv (.t 158) [.t 160], some (154, false), [8, 12, 14]⟩,
  .op ⟨some 162, .eqs true false [0] (.t 157) (.t 161), some (154, false), [8, 11, 15]⟩,
  .op ⟨some 163, .pick (.t 154) (.c (.bool true)) (.t 162), none, [8, 16]⟩] 0 0 [
])
  (.cond (.t 163)
  (.seq (.reg [
   ⟨some 10, .mv (.c (.bool false)), none, []⟩])
   .ret)
  .skip))
  (.seq (.reg [
  ⟨some 164, .mv (.t 2), none, []⟩,
  ⟨some 165, .mv (.t 4), none, []⟩,
  ⟨some 166, .conv .i64 (.t 165), none, []⟩,
  ⟨some 167, .mv (.t 2), none, []⟩,
  ⟨some 168, .bin .sub (.c (.int .i64 100000)) (.t 167), none, []⟩,
  ⟨some 169, .bin .add (.t 168) (.c (.int .i64 1)), none, []⟩,
  ⟨some 170, .div .rem (.t 166) (.t 169), none, []⟩,
  ⟨some 171, .bin .add (.t 164) (.t 170), none, []⟩,
  ⟨some 19, .mv (.t 171), none, []⟩])
  (.seq (.reg [
  ⟨some 172, .mv (.t 11), none, []⟩,
  ⟨some 173, .mv (.t 172), none, []⟩,
  ⟨some 174, .mv (.t 19), some (173, true), []⟩,
  ⟨some 175, .addo (.t 12) 0, some (173, true), []⟩,
  ⟨some 176, .ld (.t 175) 1 false, some (173, true), []⟩,
  ⟨some 177, .bin .geq (.t 174) (.t 176), some (173, true), []⟩,
  ⟨some 178, .mv (.t 177), some (173, true), []⟩,
  ⟨some 179, .mv (.t 17), some (178, false), []⟩,
  ⟨some 180, .mv (.t 19), some (178, false), []⟩,
  ⟨some 181, .calv (.t 179) [.t 180], some (178, false), []⟩,
  ⟨some 182, .un .not (.t 181), some (178, false), []⟩,
  ⟨some 183, .pick (.t 178) (.c (.bool true)) (.t 182), some (173, true), []⟩,
  ⟨some 184, .pick (.t 173) (.t 183) (.c (.bool false)), none, []⟩,
  ⟨some 185, .mv (.t 184), none, []⟩,
  ⟨some 186, .mv (.t 19), some (185, true), []⟩,
  ⟨some 187, .addo (.t 12) 1, some (185, true), []⟩,
  ⟨some 188, .ld (.t 187) 1 false, some (185, true), []⟩,
  ⟨some 189, .bin .geq (.t 186) (.t 188), some (185, true), []⟩,
  ⟨some 190, .mv (.t 189), some (185, true), []⟩,
  ⟨some 191, .mv (.t 18), some (190, false), []⟩,
  ⟨some 192, .mv (.t 19), some (190, false), []⟩,
  ⟨some 193, .calv (.t 191) [.t 192], some (190, false), []⟩,
  ⟨some 194, .un .not (.t 193), some (190, false), []⟩,
  ⟨some 195, .pick (.t 190) (.c (.bool true)) (.t 194), some (185, true), []⟩,
  ⟨some 196, .pick (.t 185) (.t 195) (.c (.bool false)), none, []⟩,
  ⟨some 10, .mv (.t 196), none, []⟩])
  .ret)))))))))))))
def c9 : SC := (.seq (.reg [
  ⟨some 6, .box (.t 0) 0 25, none, []⟩,
  ⟨some 10, .box (.t 4) 0 29, none, []⟩,
  ⟨some 12, .mv (.c (.bool false)), none, []⟩])
  (.seq (.reg [
  ⟨some 30, .call 41 [], none, []⟩,
  ⟨some 13, .mv (.t 30), none, []⟩])
  (.seq (.seq (.reg [
  ⟨some 31, .mv (.t 13), none, []⟩,
  ⟨some 32, .un .not (.t 31), none, []⟩])
  (.cond (.t 32)
  (.seq (.reg [
   ⟨some 12, .mv (.c (.bool false)), none, []⟩])
   .ret)
  .skip))
  (.seq (.seq (.reg [
  ⟨some 33, .ld (.t 6) 2 true, none, []⟩,
  ⟨some 34, .ld (.t 10) 2 true, none, []⟩,
  ⟨some 35, .call 42 [.t 33, .t 34], none, []⟩,
  ⟨some 36, .un .not (.t 35), none, []⟩,
  ⟨some 37, .mv (.t 36), none, []⟩,
  ⟨some 38, .mv (.t 1), some (37, false), []⟩,
  ⟨some 39, .bin .lss (.t 38) (.c (.int .i64 0)), some (37, false), []⟩,
  ⟨some 40, .pick (.t 37) (.c (.bool true)) (.t 39), none, []⟩,
  ⟨some 41, .mv (.t 40), none, []⟩,
  ⟨some 42, .mv (.t 1), some (41, false), []⟩,
  ⟨some 43, .addo (.t 6) 0, some (41, false), []⟩,
  ⟨some 44, .ld (.t 43) 1 false, some (41, false), []⟩,
  ⟨some 45, .len (.t 44), some (41, false), []⟩,
  ⟨some 46, .bin .geq (.t 42) (.t 45), some (41, false), []⟩,
  ⟨some 47, .pick (.t 41) (.c (.bool true)) (.t 46), none, []⟩,
  ⟨some 48, .mv (.t 47), none, []⟩,
  ⟨some 49, .mv (.t 2), some (48, false), []⟩,
  ⟨some 50, .bin .lss (.t 49) (.c (.int .i64 0)), some (48, false), []⟩,
  ⟨some 51, .pick (.t 48) (.c (.bool true)) (.t 50), none, []⟩,
  ⟨some 52, .mv (.t 51), none, []⟩,
  ⟨some 53, .mv (.t 2), some (52, false), []⟩,
  ⟨some 54, .addo (.t 6) 0, some (52, false), []⟩,
  ⟨some 55, .ld (.t 54) 1 false, some (52, false), []⟩,
  ⟨some 56, .len (.t 55), some (52, false), []⟩,
  ⟨some 57, .bin .geq (.t 53) (.t 56), some (52, false), []⟩,
  ⟨some 58, .pick (.t 52) (.c (.bool true)) (.t 57), none, []⟩,
  ⟨some 59, .mv (.t 58), none, []⟩,
  ⟨some 60, .mv (.t 3), some (59, false), []⟩,
  ⟨some 61, .bin .lss (.t 60) (.c (.int .i64 0)), some (59, false), []⟩,
  ⟨some 62, .pick (.t 59) (.c (.bool true)) (.t 61), none, []⟩,
  ⟨some 63, .mv (.t 62), none, []⟩,
  ⟨some 64, .mv (.t 3), some (63, false), []⟩,
  ⟨some 65, .bin .gtr (.t 64) (.c (.int .i64 100000)), some (63, false), []⟩,
  ⟨some 66, .pick (.t 63) (.c (.bool true)) (.t 65), none, []⟩,
  ⟨some 67, .mv (.t 66), none, []⟩,
  ⟨some 68, .mv (.t 5), some (67, false), []⟩,
  ⟨some 69, .len (.t 68), some (67, false), []⟩,
  ⟨some 70, .bin .gtr (.t 69) (.c (.int .i64 24)), some (67, false), []⟩,
  ⟨some 71, .pick (.t 67) (.c (.bool true)) (.t 70), none, []⟩])
  (.cond (.t 71)
  (.seq (.reg [
   ⟨some 72, .mv (.t 13), none, []⟩,
   ⟨some 12, .mv (.t 72), none, []⟩])
   .ret)
  .skip))
  (.seq (.reg [
  ⟨some 74, .ld (.t 6) 2 true, none, []⟩,
  ⟨some 75, .mv (.t 1), none, []⟩,
  ⟨some 76, .mv (.t 3), none, []⟩,
  ⟨some 77, .ld (.t 10) 2 true, none, []⟩,
  ⟨some 78, .call 32 [.t 74, .t 75, .t 76, .t 77], none, []⟩,
  ⟨some 73, .mv (.t 78), none, []⟩,
  ⟨some 79, .ext (.t 73) 0, none, []⟩,
  ⟨some 80, .ext (.t 73) 1, none, []⟩,
  ⟨some 14, .mv (.t 79), none, []⟩,
  ⟨some 15, .mv (.t 80), none, []⟩])
  (.seq (.seq (.regd [0, 1, 2, 3, 4, 5, 6, 7, 8, 9, 10, 11, 12, 13, 14, 15, 16, 17, 18, 19] [
  .op ⟨some 81, .mv (.t 15), none, []⟩,
  .op ⟨some 82, .bin .neq (.t 81) (.c (.int .i64 0)), none, [0]⟩,
  .op ⟨some 83, .mv (.t 82), none, [1]⟩,
  .op ⟨some 84, .mv (.t 14), some (83, false), [2]⟩,
  .op ⟨some 85, .len (.t 84), some (83, false), [2, 3]⟩,
  .op ⟨some 86, .addo (.t 6) 0, some (83, false), [2]⟩,
  .op ⟨some 87, .ld (.t 86) 1 false, some (83, false), [2, 5]⟩,
  .op ⟨some 88, .len (.t 87), some (83, false), [2, 6]⟩,
  .op ⟨some 89, .bin .neq (.t 85) (.t 88), some (83, false), [2, 4, 7]⟩,
  .op ⟨some 90, .pick (.t 83) (.c (.bool true)) (.t 89), none, [2, 8]⟩,
  .op ⟨some 91, .mv (.t 90), none, [2, 9]⟩,
  .op ⟨some 92, .mv (.t 14), some (91, false), [10]⟩,
  .op ⟨some 93, .mv (.t 1), some (91, false), [10]⟩,
  .op ⟨some 94, .ixs (.t 92) (.t 93) 2, some (91, false), [10, 11, 12]⟩,
  .op ⟨some 95, .ld (.t 94) 2 true, some (91, false), [10, 13]⟩,
  .op ⟨some 96, .mv (.t 3), some (91, false), [10]⟩,
  .op ⟨some 97, .mv (.t 3), some (91, false), [10]⟩,
  .op ⟨some 98, .call 50 [.t 96, .t 97], some (91, false), [10, 15, 16]⟩,
  .op ⟨some 99, .eqs true true [1, 1] (.t 95) (.t 98), some (91, false), [10, 14, 17]⟩,
  .op ⟨some 100, .pick (.t 91) (.c (.bool true)) (.t 99), none, [10, 18]⟩] 0 0 [
])
  (.cond (.t 100)
  (.seq (.reg [
   ⟨some 12, .mv (.c (.bool false)), none, []⟩])
   .ret)
  .skip))
  (.seq (.seq (.reg [
  ⟨some 101, .mv (.t 14), none, []⟩,
  ⟨some 102, .len (.t 101), none, []⟩,
  ⟨some 103, .mv (.c (.int .i64 0)), none, []⟩])
  (.block 0 (.loop (.seq (.reg [
    ⟨some 104, .bin .lss (.t 103) (.t 102), none, []⟩])
    (.seq (.cond (.t 104)
    .skip
    (.exit 0))
    (.seq (.block 1 (.seq (.reg [
     ⟨some 105, .ixs (.t 101) (.t 103) 2, none, []⟩,
     ⟨some 106, .ld (.t 105) 2 true, none, []⟩,
     ⟨some 17, .alloc [.int .i64 0, .int .i64 0] 29, none, []⟩,
     ⟨none, .st (.t 17) (.t 106) 2, none, []⟩])
     (.seq (.reg [
     ⟨some 107, .addo (.t 17) 0, none, []⟩,
     ⟨some 108, .ld (.t 107) 1 false, none, []⟩,
     ⟨some 109, .mv (.t 3), none, []⟩,
     ⟨some 110, .bin .lss (.t 108) (.t 109), none, []⟩,
     ⟨some 111, .mv (.t 110), none, []⟩,
     ⟨some 112, .addo (.t 17) 0, some (111, false), []⟩,
     ⟨some 113, .ld (.t 112) 1 false, some (111, false), []⟩,
     ⟨some 114, .addo (.t 17) 1, some (111, false), []⟩,
     ⟨some 115, .ld (.t 114) 1 false, some (111, false), []⟩,
     ⟨some 116, .bin .gtr (.t 113) (.t 115), some (111, false), []⟩,
     ⟨some 117, .pick (.t 111) (.c (.bool true)) (.t 116), none, []⟩,
     ⟨some 118, .mv (.t 117), none, []⟩,
     ⟨some 119, .addo (.t 17) 1, some (118, false), []⟩,
     ⟨some 120, .ld (.t 119) 1 false, some (118, false), []⟩,
     ⟨some 121, .bin .gtr (.t 120) (.c (.int .i64 100001)), some (118, false), []⟩,
     ⟨some 122, .pick (.t 118) (.c (.bool true)) (.t 121), none, []⟩])
     (.cond (.t 122)
     (.seq (.reg [
      ⟨some 12, .mv (.c (.bool false)), none, []⟩])
      .ret)
     .skip))))
    (.reg [
    ⟨some 123, .bin .add (.t 103) (.c (.int .i64 1)), none, []⟩,
    ⟨some 103, .mv (.t 123), none, []⟩])))))))
  (.seq (.reg [
  ⟨some 125, .ld (.t 6) 2 true, none, []⟩,
  ⟨some 126, .mv (.t 1), none, []⟩,
  ⟨some 127, .mv (.t 2), none, []⟩,
  ⟨some 128, .mv (.t 3), none, []⟩,
  ⟨some 129, .ld (.t 10) 2 true, none, []⟩,
  ⟨some 130, .call 36 [.t 125, .t 126, .t 127, .t 128, .t 129], none, []⟩,
  ⟨some 124, .mv (.t 130), none, []⟩,
  ⟨some 131, .ext (.t 124) 0, none, []⟩,
  ⟨some 132, .ext (.t 124) 1, none, []⟩,
  ⟨some 18, .mv (.t 131), none, []⟩,
  ⟨some 19, .mv (.t 132), none, []⟩])
  (.seq (.seq (.reg [
  ⟨some 133, .mv (.t 19), none, []⟩,
  ⟨some 134, .bin .eql (.t 133) (.c (.int .i64 0)), none, []⟩,
  ⟨some 135, .mv (.t 14), none, []⟩,
  ⟨some 136, .mv (.t 2), none, []⟩,
  ⟨some 137, .ixs (.t 135) (.t 136) 2, none, []⟩,
  ⟨some 138, .addo (.t 137) 1, none, []⟩,
  ⟨some 139, .ld (.t 138) 1 false, none, []⟩,
  ⟨some 140, .bin .lss (.t 139) (.c (.int .i64 100001)), none, []⟩,
  ⟨some 141, .eqs true false [0] (.t 134) (.t 140), none, []⟩,
  ⟨some 142, .mv (.t 141), none, []⟩,
  ⟨some 143, .mv (.t 19), some (142, false), []⟩,
  ⟨some 144, .bin .neq (.t 143) (.c (.int .i64 0)), some (142, false), []⟩,
  ⟨some 145, .mv (.t 144), some (142, false), []⟩,
  ⟨some 146, .mv (.t 19), some (145, true), []⟩,
  ⟨some 147, .bin .neq (.t 146) (.c (.int .i64 6)), some (145, true), []⟩,
  ⟨some 148, .pick (.t 145) (.t 147) (.c (.bool false)), some (142, false), []⟩,
  ⟨some 149, .pick (.t 142) (.c (.bool true)) (.t 148), none, []⟩])
  (.cond (.t 149)
  (.seq (.reg [
   ⟨some 12, .mv (.c (.bool false)), none, []⟩])
   .ret)
  .skip))
  (.seq (.reg [
  ⟨some 150, .mv (.t 3), none, []⟩,
  ⟨some 20, .mv (.t 150), none, []⟩])
  (.seq (.seq (.reg [
  ⟨some 151, .mv (.t 19), none, []⟩,
  ⟨some 152, .bin .eql (.t 151) (.c (.int .i64 0)), none, []⟩])
  (.cond (.t 152)
  (.seq (.reg [
   ⟨some 154, .ld (.t 6) 2 true, none, []⟩,
   ⟨some 155, .mv (.t 1), none, []⟩,
   ⟨some 156, .mv (.t 3), none, []⟩,
   ⟨some 157, .ld (.t 10) 2 true, none, []⟩,
   ⟨some 158, .mv (.t 18), none, []⟩,
   ⟨some 159, .call 34 [.t 154, .t 155, .t 156, .t 157, .t 158], none, []⟩,
   ⟨some 153, .mv (.t 159), none, []⟩,
   ⟨some 160, .ext (.t 153) 0, none, []⟩,
   ⟨some 161, .ext (.t 153) 1, none, []⟩,
   ⟨some 162, .ext (.t 153) 2, none, []⟩,
   ⟨some 21, .mv (.t 160), none, []⟩,
   ⟨some 22, .mv (.t 161), none, []⟩,
   ⟨some 23, .mv (.t 162), none, []⟩])
   (.seq (.seq (.reg [
   ⟨some 163, .mv (.t 23), none, []⟩,
   ⟨some 164, .bin .neq (.t 163) (.c (.int .i64 0)), none, []⟩,
   ⟨some 165, .mv (.t 164), none, []⟩,
   ⟨some 166, .mv (.t 21), some (165, false), []⟩,
   ⟨some 167, .len (.t 166), some (165, false), []⟩,
   ⟨some 168, .mv (.t 18), some (165, false), []⟩,
   ⟨some 169, .len (.t 168), some (165, false), []⟩,
   ⟨some 170, .bin .neq (.t 167) (.t 169), some (165, false), []⟩,
   ⟨some 171, .pick (.t 165) (.c (.bool true)) (.t 170), none, []⟩])
   (.cond (.t 171)
   (.seq (.reg [
    ⟨some 12, .mv (.c (.bool false)), none, []⟩])
    .ret)
   .skip))
   (.seq (.seq (.reg [
   ⟨some 172, .mv (.t 21), none, []⟩,
   ⟨some 173, .len (.t 172), none, []⟩,
   ⟨some 174, .bin .gtr (.t 173) (.c (.int .i64 0)), none, []⟩])
   (.cond (.t 174)
   (.seq (.seq (.reg [
    ⟨some 175, .mv (.t 21), none, []⟩,
    ⟨some 176, .mv (.t 21), none, []⟩,
    ⟨some 177, .len (.t 176), none, []⟩,
    ⟨some 178, .bin .sub (.t 177) (.c (.int .i64 1)), none, []⟩,
    ⟨some 179, .ixs (.t 175) (.t 178) 6, none, []⟩,
    ⟨some 180, .addo (.t 179) 1, none, []⟩,
    ⟨some 181, .ld (.t 180) 1 false, none, []⟩,
    ⟨some 182, .mv (.t 2), none, []⟩,
    ⟨some 183, .bin .neq (.t 181) (.t 182), none, []⟩])
    (.cond (.t 183)
    (.seq (.reg [
     ⟨some 12, .mv (.c (.bool false)), none, []⟩])
     .ret)
    .skip))
    (.reg [
    ⟨some 184, .mv (.t 21), none, []⟩,
    ⟨some 185, .mv (.t 21), none, []⟩,
    ⟨some 186, .len (.t 185), none, []⟩,
    ⟨some 187, .bin .sub (.t 186) (.c (.int .i64 1)), none, []⟩,
    ⟨some 188, .ixs (.t 184) (.t 187) 6, none, []⟩,
    ⟨some 189, .addo (.t 188) 4, none, []⟩,
    ⟨some 190, .addo (.t 189) 1, none, []⟩,
    ⟨some 191, .ld (.t 190) 1 false, none, []⟩,
    ⟨some 20, .mv (.t 191), none, []⟩]))
   .skip))
   (.seq (.reg [
   ⟨some 192, .mv (.t 20), none, []⟩,
   ⟨some 193, .mv (.t 14), none, []⟩,
   ⟨some 194, .mv (.t 2), none, []⟩,
   ⟨some 195, .ixs (.t 193) (.t 194) 2, none, []⟩,
   ⟨some 196, .addo (.t 195) 1, none, []⟩,
   ⟨some 197, .ld (.t 196) 1 false, none, []⟩,
   ⟨some 198, .bin .neq (.t 192) (.t 197), none, []⟩,
   ⟨some 199, .mv (.t 198), none, []⟩,
   ⟨some 200, .mv (.t 18), some (199, false), []⟩,
   ⟨some 201, .len (.t 200), some (199, false), []⟩,
   ⟨some 202, .bin .eql (.t 201) (.c (.int .i64 0)), some (199, false), []⟩,
   ⟨some 203, .mv (.t 202), some (199, false), []⟩,
   ⟨some 204, .mv (.t 1), some (203, true), []⟩,
   ⟨some 205, .mv (.t 2), some (203, true), []⟩,
   ⟨some 206, .bin .neq (.t 204) (.t 205), some (203, true), []⟩,
   ⟨some 207, .pick (.t 203) (.t 206) (.c (.bool false)), some (199, false), []⟩,
   ⟨some 208, .pick (.t 199) (.c (.bool true)) (.t 207), none, []⟩])
   (.cond (.t 208)
   (.seq (.reg [
    ⟨some 12, .mv (.c (.bool false)), none, []⟩])
    .ret)
   .skip)))))
  .skip))
  (.seq (.reg [
  ⟨some 210, .ld (.t 6) 2 true, none, []⟩,
  ⟨some 211, .mv (.t 1), none, []⟩,
  ⟨some 212, .mv (.t 3), none, []⟩,
  ⟨some 213, .ld (.t 10) 2 true, none, []⟩,
  ⟨some 214, .mv (.t 5), none, []⟩,
  ⟨some 215, .call 34 [.t 210, .t 211, .t 212, .t 213, .t 214], none, []⟩,
  ⟨some 209, .mv (.t 215), none, []⟩,
  ⟨some 216, .ext (.t 209) 0, none, []⟩,
  ⟨some 217, .ext (.t 209) 1, none, []⟩,
  ⟨some 218, .ext (.t 209) 2, none, []⟩,
  ⟨some 24, .mv (.t 216), none, []⟩,
  ⟨some 25, .mv (.t 217), none, []⟩,
  ⟨some 26, .mv (.t 218), none, []⟩])
  (.seq (.seq (.reg [
  ⟨some 219, .mv (.t 26), none, []⟩,
  ⟨some 220, .bin .neq (.t 219) (.c (.int .i64 0)), none, []⟩])
  (.cond (.t 220)
  (.seq (.reg [
   ⟨some 221, .mv (.t 13), none, []⟩,
   ⟨some 12, .mv (.t 221), none, []⟩])
   .ret)
  .skip))
  (.seq (.seq (.reg [
  ⟨some 222, .mv (.t 24), none, []⟩,
  ⟨some 223, .len (.t 222), none, []⟩,
  ⟨some 224, .mv (.c (.int .i64 0)), none, []⟩])
  (.block 2 (.loop (.seq (.reg [
    ⟨some 225, .bin .lss (.t 224) (.t 223), none, []⟩])
    (.seq (.cond (.t 225)
    .skip
    (.exit 2))
    (.seq (.block 3 (.seq (.reg [
     ⟨some 226, .mv (.t 224), none, []⟩,
     ⟨some 227, .ixs (.t 222) (.t 224) 6, none, []⟩,
     ⟨some 228, .ld (.t 227) 6 true, none, []⟩,
     ⟨some 28, .alloc [.int .i64 0, .int .i64 0, .int .i64 0, .int .i64 0, .int .i64 0, .int .i64 0] 92, none, []⟩,
     ⟨some 27, .mv (.t 226), none, []⟩,
     ⟨none, .st (.t 28) (.t 228) 6, none, []⟩])
     (.seq (.seq (.regd [0, 1, 2, 3, 4, 5, 6, 7, 8, 9, 10, 11, 12, 13, 14, 15, 16, 17, 18, 19, 20, 21, 22, 23, 24, 25, 26, 27, 28, 29, 30, 31, 32, 33] [
     .op ⟨some 229, .addo (.t 28) 1, none, []⟩,
     .op ⟨some 230, .ld (.t 229) 1 false, none, [0]⟩,
     .op ⟨some 231, .bin .lss (.t 230) (.c (.int .i64 0)), none, [1]⟩,
     .op ⟨some 232, .mv (.t 231), none, [2]⟩,
     .op ⟨some 233, .addo (.t 28) 1, some (232, false), [3]⟩,
     .op ⟨some 234, .ld (.t 233) 1 false, some (232, false), [3, 4]⟩,
     .op ⟨some 235, .mv (.t 14), some (232, false), [3]⟩,
     .op ⟨some 236, .len (.t 235), some (232, false), [3, 6]⟩,
     .op ⟨some 237, .bin .geq (.t 234) (.t 236), some (232, false), [3, 5, 7]⟩,
     .op ⟨some 238, .pick (.t 232) (.c (.bool true)) (.t 237), none, [3, 8]⟩,
     .op ⟨some 239, .mv (.t 238), none, [3, 9]⟩,
     .op ⟨some 240, .addo (.t 28) 4, some (239, false), [10]⟩,
     .op ⟨some 241, .addo (.t 240) 0, some (239, false), [10, 11]⟩,
     .op ⟨some 242, .ld (.t 241) 1 false, some (239, false), [10, 12]⟩,
     .op ⟨some 243, .mv (.t 14), some (239, false), [10]⟩,
     .op ⟨some 244, .addo (.t 28) 1, some (239, false), [10]⟩,
     .op ⟨some 245, .ld (.t 244) 1 false, some (239, false), [10, 15]⟩,
     .op ⟨some 246, .ixs (.t 243) (.t 245) 2, some (239, false), [10, 14, 16]⟩,
     .op ⟨some 247, .addo (.t 246) 0, some (239, false), [10, 17]⟩,
     .op ⟨some 248, .ld (.t 247) 1 false, some (239, false), [10, 18]⟩,
     .op ⟨some 249, .bin .lss (.t 242) (.t 248), some (239, false), [10, 13, 19]⟩,
     .op ⟨some 250, .pick (.t 239) (.c (.bool true)) (.t 249), none, [10, 20]⟩,
     .op ⟨some 251, .mv (.t 250), none, [10, 21]⟩,
     .op ⟨some 252, .addo (.t 28) 4, some (251, false), [22]⟩,
     .op ⟨some 253, .addo (.t 252) 1, some (251, false), [22, 23]⟩,
     .op ⟨some 254, .ld (.t 253) 1 false, some (251, false), [22, 24]⟩,
     .op ⟨some 255, .mv (.t 14), some (251, false), [22]⟩,
     .op ⟨some 256, .addo (.t 28) 1, some (251, false), [22]⟩,
     .op ⟨some 257, .ld (.t 256) 1 false, some (251, false), [22, 27]⟩,
     .op ⟨some 258, .ixs (.t 255) (.t 257) 2, some (251, false), [22, 26, 28]⟩,
     .op ⟨some 259, .addo (.t 258) 1, some (251, false), [22, 29]⟩,
     .op ⟨some 260, .ld (.t 259) 1 false, some (251, false), [22, 30]⟩,
     .op ⟨some 261, .bin .lss (.t 254) (.t 260), some (251, false), [22, 25, 31]⟩,
     .op ⟨some 262, .pick (.t 251) (.c (.bool true)) (.t 261), none, [22, 32]⟩] 0 0 [
])
     (.cond (.t 262)
     (.seq (.reg [
      ⟨some 12, .mv (.c (.bool false)), none, []⟩])
      .ret)
     .skip))
     (.seq (.seq (.regd [0, 1, 2, 3, 4, 5, 6, 7, 8, 9, 10, 11, 12, 13, 14] [
     .op ⟨some 263, .addo (.t 28) 1, none, []⟩,
     .op ⟨some 264, .ld (.t 263) 1 false, none, [0]⟩,
     .op ⟨some 265, .mv (.t 2), none, []⟩,
     .op ⟨some 266, .bin .neq (.t 264) (.t 265), none, [1, 2]⟩,
     .op ⟨some 267, .mv (.t 266), none, [3]⟩,
     .op ⟨some 268, .addo (.t 28) 4, some (267, false), [4]⟩,
     .op ⟨some 269, .addo (.t 268) 1, some (267, false), [4, 5]⟩,
     .op ⟨some 270, .ld (.t 269) 1 false, some (267, false), [4, 6]⟩,
     .op ⟨some 271, .mv (.t 14), some (267, false), [4]⟩,
     .op ⟨some 272, .mv (.t 2), some (267, false), [4]⟩,
     .op ⟨some 273, .ixs (.t 271) (.t 272) 2, some (267, false), [4, 8, 9]⟩,
     .op ⟨some 274, .addo (.t 273) 1, some (267, false), [4, 10]⟩,
     .op ⟨some 275, .ld (.t 274) 1 false, some (267, false), [4, 11]⟩,
     .op ⟨some 276, .bin .gtr (.t 270) (.t 275), some (267, false), [4, 7, 12]⟩,
     .op ⟨some 277, .pick (.t 267) (.c (.bool true)) (.t 276), none, [4, 13]⟩] 0 0 [
])
     (.cond (.t 277)
     (.exit 3)
     .skip))
     (.seq (.seq (.reg [
     ⟨some 278, .mv (.t 27), none, []⟩,
     ⟨some 279, .bin .add (.t 278) (.c (.int .i64 1)), none, []⟩,
     ⟨some 280, .mv (.t 18), none, []⟩,
     ⟨some 281, .len (.t 280), none, []⟩,
     ⟨some 282, .bin .lss (.t 279) (.t 281), none, []⟩])
     (.cond (.t 282)
     (.seq (.reg [
      ⟨some 12, .mv (.c (.bool false)), none, []⟩])
      .ret)
     .skip))
     (.seq (.seq (.reg [
     ⟨some 283, .mv (.t 27), none, []⟩,
     ⟨some 284, .bin .add (.t 283) (.c (.int .i64 1)), none, []⟩,
     ⟨some 285, .mv (.t 18), none, []⟩,
     ⟨some 286, .len (.t 285), none, []⟩,
     ⟨some 287, .bin .gtr (.t 284) (.t 286), none, []⟩])
     (.cond (.t 287)
     (.exit 3)
     .skip))
     (.seq (.reg [
     ⟨some 288, .mv (.t 18), none, []⟩,
     ⟨some 289, .len (.t 288), none, []⟩,
     ⟨some 290, .mv (.c (.int .i64 0)), none, []⟩])
     (.block 4 (.loop (.seq (.reg [
       ⟨some 291, .bin .lss (.t 290) (.t 289), none, []⟩])
       (.seq (.cond (.t 291)
       .skip
       (.exit 4))
       (.seq (.block 5 (.seq (.reg [
        ⟨some 292, .mv (.t 290), none, []⟩,
        ⟨some 29, .mv (.t 292), none, []⟩])
        (.seq (.regd [0, 1, 2, 3, 4, 5, 6, 7, 8] [
        .op ⟨some 293, .mv (.t 18), none, []⟩,
        .op ⟨some 294, .mv (.t 29), none, []⟩,
        .op ⟨some 295, .ixs (.t 293) (.t 294) 1, none, [0, 1]⟩,
        .op ⟨some 296, .ld (.t 295) 1 false, none, [2]⟩,
        .op ⟨some 297, .mv (.t 5), none, []⟩,
        .op ⟨some 298, .mv (.t 29), none, []⟩,
        .op ⟨some 299, .ixs (.t 297) (.t 298) 1, none, [4, 5]⟩,
        .op ⟨some 300, .ld (.t 299) 1 false, none, [6]⟩,
        .op ⟨some 301, .bin .neq (.t 296) (.t 300), none, [3, 7]⟩] 0 0 [
])
        (.cond (.t 301)
        (.seq (.seq (.regd [0, 1, 2, 3, 4, 5, 6, 7, 8] [
         .op ⟨some 302, .mv (.t 18), none, []⟩,
         .op ⟨some 303, .mv (.t 29), none, []⟩,
         .op ⟨some 304, .ixs (.t 302) (.t 303) 1, none, [0, 1]⟩,
         .op ⟨some 305, .ld (.t 304) 1 false, none, [2]⟩,
         .op ⟨some 306, .mv (.t 5), none, []⟩,
         .op ⟨some 307, .mv (.t 29), none, []⟩,
         .op ⟨some 308, .ixs (.t 306) (.t 307) 1, none, [4, 5]⟩,
         .op ⟨some 309, .ld (.t 308) 1 false, none, [6]⟩,
         .op ⟨some 310, .bin .gtr (.t 305) (.t 309), none, [3, 7]⟩] 0 0 [
])
         (.cond (.t 310)
         (.seq (.reg [
          ⟨some 12, .mv (.c (.bool false)), none, []⟩])
          .ret)
         .skip))
         (.exit 4))
        .skip))))
       (.reg [
       ⟨some 311, .bin .add (.t 290) (.c (.int .i64 1)), none, []⟩,
       ⟨some 290, .mv (.t 311), none, []⟩])))))))))))))
    (.reg [
    ⟨some 312, .bin .add (.t 224) (.c (.int .i64 1)), none, []⟩,
    ⟨some 224, .mv (.t 312), none, []⟩])))))))
  (.seq (.reg [
  ⟨some 313, .mv (.t 13), none, []⟩,
  ⟨some 12, .mv (.t 313), none, []⟩])
  .ret)))))))))))))))
end Go.Proofs.Ytkjldleglbbkeaa
set_option maxRecDepth 100000
set_option maxHeartbeats 4000000
namespace Go.Azalai
open Go.Sx
end Go.Azalai
namespace Go.Proofs.Ytkjldleglbbkeaa
open Go Go.Sx Go.Azalai
theorem natL_int (a : List Nat) : a.map natL = (a.map fun n : Nat => (n : Int)).map intL := by simp [natL, intL, Function.comp_def]
end Go.Proofs.Ytkjldleglbbkeaa
set_option maxRecDepth 100000
set_option maxHeartbeats 4000000
namespace Go.Sx
open Go Go.RowKit
def RLW (l l' : List SV) : Prop := ∀ (w : World) (E : Env) (n ok : Nat → Prop) (ys : List Value), RL w E n ok l ys → RL w E n ok l' ys
theorem rlw_rfl {l : List SV} : RLW l l := fun _ _ _ _ _ h => h
theorem rlw_cons {s s' : SV} {l l' : List SV} (h1 : Weak s s') (h2 : RLW l l') : RLW (s :: l) (s' :: l') := weak_cons h1 h2
theorem weak_agg {l l' : List SV} (h : RLW l l') : Weak (.agg l) (.agg l') := fun w E n ok y hy => by
  simp only [R] at hy ⊢
  obtain ⟨cs, h1, h2⟩ := hy
  exact ⟨cs, h1, h _ _ _ _ _ h2⟩
def RRW : List (List SV) → List (List SV) → Prop
  | [], [] => True
  | r :: xs, r' :: xs' => RLW r r' ∧ r'.length = r.length ∧ RRW xs xs'
  | _, _ => False
theorem rrw_len : ∀ {xs xs' : List (List SV)}, RRW xs xs' → xs'.length = xs.length
  | [], [], _ => rfl
  | _ :: xs, _ :: xs', h => by simp [rrw_len h.2.2]
  | [], _ :: _, h => h.elim
  | _ :: _, [], h => h.elim
theorem rrw_RR {w : World} {E : Env} {n ok : Nat → Prop} {b m : Nat} : ∀ {xs xs' : List (List SV)} {off : Nat}, RRW xs xs' → RR w E n ok b m xs off → RR w E n ok b m xs' off
  | [], [], _, _, h => h
  | r :: xs, r' :: xs', off, hw, h => by
    simp only [RR] at h ⊢
    obtain ⟨h0, ⟨cs, h1, h2⟩, h3⟩ := h
    exact ⟨by rw [hw.2.1]; exact h0, ⟨cs, hw.1 _ _ _ _ _ h1, h2⟩, rrw_RR hw.2.2 h3⟩
  | [], _ :: _, _, h, _ => h.elim
  | _ :: _, [], _, h, _ => h.elim
theorem weak_slc {c : Bool} {m : Nat} {xs xs' : List (List SV)} (h : RRW xs xs') : Weak (.sl c m xs) (.sl c m xs') := fun w E n ok y hy => by
  simp only [R] at hy ⊢
  obtain ⟨a, len, cap, h1, h2, h3, h4, h5⟩ := hy
  refine ⟨a, len, cap, h1, by rw [rrw_len h]; exact h2, h3, by rw [rrw_len h]; exact h4, ?_⟩
  rcases h5 with h5 | ⟨b, off, h5, h6⟩
  · left
    have := rrw_len h
    rw [h5] at this
    exact List.eq_nil_of_length_eq_zero this
  · exact .inr ⟨b, off, h5, rrw_RR h h6⟩
theorem weak_sl {c : Bool} {m : Nat} {xs xs' : List (List SV)} (h : RRW xs xs') : Weak (.sl c m xs) (.sl false m xs') := fun w E n ok y hy => by
  simp only [R] at hy ⊢
  obtain ⟨a, len, cap, h1, h2, h3, h4, h5⟩ := hy
  refine ⟨a, len, cap, h1, by rw [rrw_len h]; exact h2, ⟨h3.1, fun h => by cases h⟩, by rw [rrw_len h]; exact h4, ?_⟩
  rcases h5 with h5 | ⟨b, off, h5, h6⟩
  · left
    have := rrw_len h
    rw [h5] at this
    exact List.eq_nil_of_length_eq_zero this
  · exact .inr ⟨b, off, h5, rrw_RR h h6⟩
end Go.Sx
namespace Go.Azalai
def exLand : Land := ⟨[⟨0, 0, 0, ⟨0, 0⟩, 0, ⟨0, 0⟩, 0⟩, ⟨90000, 0, 20, ⟨1000, 2000⟩, 10000, ⟨3000, 5000⟩, 0⟩, ⟨140000, 0, 0, ⟨0, 0⟩, 0, ⟨0, 0⟩, 0⟩],
  [⟨0, 1, ⟨90000, 100000⟩, [⟨⟨5, 7⟩, ⟨20, 30⟩⟩]⟩, ⟨1, 2, ⟨50000, 50000⟩, [⟨⟨0, 0⟩, ⟨12, 13⟩⟩, ⟨⟨18, 18⟩, ⟨40, 50⟩⟩]⟩, ⟨0, 2, ⟨200000, 240000⟩, [⟨⟨0, 0⟩, ⟨99, 99⟩⟩]⟩]⟩
def exPace : Span := ⟨20000, 30000⟩
theorem ex_small : Small exLand := ⟨by decide, by decide, by decide⟩
theorem ex_ok : OkLP exLand exPace := ⟨by decide, by decide⟩
theorem ex_days : daysF exLand 2 exPace = (⟨7, 12⟩, 0) := by decide
theorem ex_leave : leaveF exLand 0 6 exPace = (⟨6, 7⟩, 0) := by decide
theorem ex_walk : walkF exLand exPace 0 6 [0, 1] = ([⟨0, 1, ⟨6, 7⟩, ⟨9, 12⟩⟩, ⟨1, 2, ⟨9, 18⟩, ⟨11, 21⟩⟩], 0, 0) := by decide
theorem ex_ways : waysF exLand exPace 0 2 6 21 = [[0, 1], [2]] := by decide
theorem ex_water : waterF exLand 1 [⟨1, 0, 4000⟩] 2 = (⟨1000, 5000⟩, 0, 0) := by decide
def exD (k : Bool) (v : Int) : Int := if v = 0 then 6 else if v = 1 then (if k then 12 else 9) else if v = 2 then (if k then 18 else 11) else 100001
theorem ex_reachV (k : Bool) (v : Int) : reachV k exLand exPace 0 6 v = exD k v := by
  refine (reach_eq (k := k) (s := 0) (day := 6) ex_ok (by decide) (by decide) (by decide) (by decide) (d := exD k) (by cases k <;> decide) ?_ ?_ ?_ v).symm
  · cases k <;> (intro x hx; simp only [exLand, List.mem_cons, List.not_mem_nil, or_false] at hx; rcases hx with rfl | rfl | rfl <;> decide)
  · intro v; unfold exD; repeat' split
    all_goals decide
  · intro v
    unfold exD
    split
    · rename_i h; subst h; exact .inr ⟨[], by cases k <;> decide⟩
    · split
      · rename_i h; subst h; exact .inr ⟨[0], by cases k <;> decide⟩
      · split
        · rename_i h; subst h
          cases k
          · exact .inr ⟨[0, 1], by decide⟩
          · exact .inr ⟨[2], by decide⟩
        · exact .inl rfl
theorem ex_reach : reachL exLand exPace 0 6 = [⟨6, 6⟩, ⟨9, 12⟩, ⟨11, 18⟩] := by
  have h : exLand.wells.length = 3 := rfl
  simp only [reachL, reachF, h, ex_reachV]
  decide
theorem ex_reachE : reachE exLand exPace 0 6 = 0 := by decide
theorem ex_sure : sureL exLand exPace 0 2 6 = [2] := by
  have hr : reachV true exLand exPace 0 6 2 = 18 := by rw [ex_reachV]; decide
  refine sureL_eq ⟨by rw [hr]; decide, fun b hb => ?_⟩
  rw [hr] at hb
  match b, hb with
  | [], hb => exact absurd hb (by decide)
  | [i], hb =>
    refine .inr ⟨rfl, ?_⟩
    match i, hb with
    | 0, hb => exact absurd hb (by decide)
    | 1, hb => exact absurd hb (by decide)
    | i + 2, _ => simp [lexB]
  | _ :: _ :: _, _ => exact .inl (by simp)
theorem ex_waysE : waysE exLand exPace 0 2 6 21 = 0 := by decide
end Go.Azalai
namespace Go.Proofs.Ytkjldleglbbkeaa
open Go Go.Sx Go.Azalai
theorem ex_sureE : sureE exLand exPace 0 2 6 = 0 := by
  have h1 : askF exLand exPace = 0 := by decide
  have hr : reachV true exLand exPace 0 6 2 = 18 := by rw [ex_reachV]; decide
  unfold sureE
  rw [hr, if_neg (by rw [h1]; decide), if_neg (by decide), if_neg (by decide)]
theorem span_ok (a b : Int) : Ct Try.prog 50 [I a, I b] (.agg (spanL ⟨a, b⟩)) := by
  refine t50 (by simp [KFR, KFL, KF]) (by simp [spanL, KFL, KF]) ?_
  dsimp only [c50, r50, go_sem, Nat.reduceAdd, Nat.reduceMul, Nat.reduceSub]
  rfl
theorem pace_ok : Ct Try.prog 57 [] (.agg (spanL exPace)) := by
  refine t57 (by simp [KFR, KFL, KF]) (by simp [spanL, exPace, KFL, KF]) ?_
  dsimp only [c57, r57, go_sem, Nat.reduceAdd, Nat.reduceMul, Nat.reduceSub]
  refine call (span_ok _ _) ?_
  dsimp only [spanL, go_sem, Nat.reduceAdd, Nat.reduceMul, Nat.reduceSub]
  rfl
theorem u56 {args : List SV} {res : SV} (ka : KFL args) (kr : KF res) (h : sx Try.prog Y0 0 c56 (st0 args 28) (retW r56 res)) (hA : Nat.ble args.length 28 = true := by rfl) : Ct Try.prog 56 args res := ct_introW Try.func56 rfl b56 c56_ok r56_ok n56 (Nat.le_of_ble_eq_true hA) ka kr h
theorem exland_ok : Ct Try.prog 56 [] (.agg (landL exLand)) := by
  refine u56 (by simp [KFR, KFL, KF]) (by simp [landL, wellL, legL, gateL, exLand, KFR, KFL, KF]) ?_
  dsimp only [c56, r56, go_sem, Nat.reduceAdd, Nat.reduceMul, Nat.reduceSub]
  repeat (refine call (span_ok _ _) ?_; dsimp only [spanL, go_sem, Nat.reduceAdd, Nat.reduceMul, Nat.reduceSub])
  refine ⟨_, rfl, weak_agg (rlw_cons weak_c (rlw_cons (weak_sl ?_) rlw_rfl))⟩
  refine ⟨?_, rfl, ?_, rfl, ?_, rfl, trivial⟩ <;>
    exact rlw_cons Weak.rfl (rlw_cons Weak.rfl (rlw_cons Weak.rfl (rlw_cons Weak.rfl (rlw_cons weak_c rlw_rfl))))
theorem lists_ok (a b : List (List Nat)) (ha : a.length ≤ 1000000) (hb : b.length ≤ 1000000) (h1 : ∀ x ∈ a, x.length ≤ 1000000) (h2 : ∀ x ∈ b, x.length ≤ 1000000) (c c' : Bool) : Ct Try.prog 31 [.sl c 1 (a.map rowW), .sl c' 1 (b.map rowW)] (B (decide (a = b))) := by
  refine t31 (by simp [KFR_iff, rowW, wayS, natL, KFL, KF]) (by simp [KFL, KF]) ?_
  dsimp only [c31, r31, go_sem, Nat.reduceAdd, Nat.reduceMul, Nat.reduceSub]
  simp only [List.length_map]
  by_cases hl : a.length = b.length
  case neg =>
    refine br_t (by simp; omega) ?_
    dsimp only [go_sem, Nat.reduceAdd, Nat.reduceMul, Nat.reduceSub]
    have : a ≠ b := fun e => hl (by rw [e])
    simp [this]
  refine br_f (by simp; omega) ?_
  dsimp only [go_sem, Nat.reduceAdd, Nat.reduceMul, Nat.reduceSub]
  refine loopO (fun j : Nat => [(5, I j)]) (fun _ => []) (fun j => j ≤ a.length ∧ a.take j = b.take j) (fun j => a.length - j) 0 ⟨Nat.zero_le _, rfl⟩ ?_ ?_
  · (refine ent_id ?_ ?_ ?_ rfl rfl <;> dsimp only [rowW, wayS, natL, KFR_iff, id, go_sem, Nat.reduceAdd, Nat.reduceMul, Nat.reduceSub] <;> simp [rowW, wayS, natL, KFR_iff, KFR_iff, KFR_app, KFR, KFL, KF, mtL_same, mtO, Nat.beq_refl])
  rintro j ⟨hj, ht⟩
  dsimp only [go_sem, Nat.reduceAdd, Nat.reduceMul, Nat.reduceSub]
  simp only [List.length_map]
  by_cases hlt : j < a.length
  · refine br_t (by simpa using hlt) ?_
    dsimp only [go_sem, Nat.reduceAdd, Nat.reduceMul, Nat.reduceSub]
    have hltb : j < b.length := by omega
    refine ixs_map j hlt rfl ?_
    dsimp only [rowW, go_sem, Nat.reduceAdd, Nat.reduceMul, Nat.reduceSub]
    refine ixs_map j hltb rfl ?_
    dsimp only [rowW, go_sem, Nat.reduceAdd, Nat.reduceMul, Nat.reduceSub]
    have hc := same40_ok (a[j].map fun n : Nat => (n : Int)) (b[j].map fun n : Nat => (n : Int)) (by rw [List.length_map]; exact h1 _ (List.getElem_mem _)) (by rw [List.length_map]; exact h2 _ (List.getElem_mem _)) false false
    rw [← natL_int, ← natL_int] at hc
    refine call hc ?_
    dsimp only [go_sem, Nat.reduceAdd, Nat.reduceMul, Nat.reduceSub]
    have hinj : (a[j].map (fun n : Nat => (n : Int)) = b[j].map fun n : Nat => (n : Int)) ↔ a[j] = b[j] := ⟨fun h => List.map_inj_right (fun x y h => Int.ofNat_inj.1 h) |>.1 h, fun h => by rw [h]⟩
    by_cases he : a[j] = b[j]
    · refine br_f (by simp [he]) ?_
      dsimp only [go_sem, Nat.reduceAdd, Nat.reduceMul, Nat.reduceSub]
      rw [w64_in (n := (j : Int) + 1) (by omega) (by omega)]
      refine ⟨j + 1, ⟨hlt, ?_⟩, by omega, ?_⟩
      · rw [List.take_succ_eq_append_getElem hlt, List.take_succ_eq_append_getElem hltb, ht, he]
      (refine ent_id ?_ ?_ ?_ rfl rfl <;> dsimp only [rowW, wayS, natL, KFR_iff, id, go_sem, Nat.reduceAdd, Nat.reduceMul, Nat.reduceSub] <;> simp [rowW, wayS, natL, KFR_iff, KFR_iff, KFR_app, KFR, KFL, KF, mtL_same, mtO, Nat.beq_refl])
    · have hne : ¬ (a[j].map (fun n : Nat => (n : Int)) = b[j].map fun n : Nat => (n : Int)) := fun h => he (hinj.1 h)
      refine br_t (by rw [decide_eq_false hne]; rfl) ?_
      dsimp only [go_sem, Nat.reduceAdd, Nat.reduceMul, Nat.reduceSub]
      have : a ≠ b := fun e => he (by subst e; rfl)
      simp [this]
  refine br_f (by simp; omega) ?_
  dsimp only [go_sem, Nat.reduceAdd, Nat.reduceMul, Nat.reduceSub]
  have : a = b := by
    rw [List.take_of_length_le (by omega), List.take_of_length_le (by omega)] at ht
    exact ht
  simp [this]
end Go.Proofs.Ytkjldleglbbkeaa
set_option maxRecDepth 100000
set_option maxHeartbeats 8000000
namespace Go.Proofs.Ytkjldleglbbkeaa
open Go Go.Sx Go.Azalai
theorem alive_ok : Ct Try.prog 41 [] (B true) := by
  refine t41 (by simp [KFR, KFL, KF]) (by simp [KFL, KF]) ?_
  dsimp only [c41, r41, go_sem, Nat.reduceAdd, Nat.reduceMul, Nat.reduceSub]
  have k1 := wdays_ok exLand ex_small 2 exPace
  have k2 := wleave_ok exLand ex_small 0 6 exPace
  have k3 := wwalk_ok exLand ex_small 0 6 exPace [0, 1] (by decide) true
  have k4 := wreach_ok exLand ex_small 0 6 exPace
  have k5 := wsurest_ok exLand ex_small 0 2 6 exPace
  have k6 := wways_ok exLand ex_small 0 2 6 21 exPace
  have k7 := (water_ok exLand ex_small 1 2 [⟨1, 0, 4000⟩] (by decide)).args (args0 := [.agg (landL exLand), I 1, .sl true 3 [[I 1, I 0, I 4000]], I 2]) (by simp [landL, wellL, legL, gateL, exLand, KFR, KFL, KF]) (rlw_cons Weak.rfl (rlw_cons Weak.rfl (rlw_cons weak_c rlw_rfl)))
  rw [ex_days] at k1
  rw [ex_leave] at k2
  rw [ex_walk] at k3
  rw [ex_reachE, ex_reach] at k4
  simp only [sureR, ex_sureE, ex_sure, rowsZ, if_true] at k5
  simp only [waysR, ex_waysE, ex_ways, rowsZ, if_true] at k6
  rw [ex_water] at k7
  simp only [rowsZ, if_true, walkR] at k3 k4
  refine call exland_ok ?_
  dsimp only [go_sem, Nat.reduceAdd, Nat.reduceMul, Nat.reduceSub]
  refine call pace_ok ?_
  dsimp only [go_sem, Nat.reduceAdd, Nat.reduceMul, Nat.reduceSub]
  refine call k1 ?_
  dsimp only [sres, spanL, go_sem, Nat.reduceAdd, Nat.reduceMul, Nat.reduceSub]
  refine call exland_ok ?_
  dsimp only [go_sem, Nat.reduceAdd, Nat.reduceMul, Nat.reduceSub]
  refine call pace_ok ?_
  dsimp only [go_sem, Nat.reduceAdd, Nat.reduceMul, Nat.reduceSub]
  refine call k2 ?_
  dsimp only [sres, spanL, go_sem, Nat.reduceAdd, Nat.reduceMul, Nat.reduceSub]
  refine call exland_ok ?_
  dsimp only [go_sem, Nat.reduceAdd, Nat.reduceMul, Nat.reduceSub]
  refine call pace_ok ?_
  dsimp only [go_sem, Nat.reduceAdd, Nat.reduceMul, Nat.reduceSub]
  refine call k3 ?_
  dsimp only [go_sem, Nat.reduceAdd, Nat.reduceMul, Nat.reduceSub]
  refine call exland_ok ?_
  dsimp only [go_sem, Nat.reduceAdd, Nat.reduceMul, Nat.reduceSub]
  refine call pace_ok ?_
  dsimp only [go_sem, Nat.reduceAdd, Nat.reduceMul, Nat.reduceSub]
  refine call k4 ?_
  dsimp only [go_sem, Nat.reduceAdd, Nat.reduceMul, Nat.reduceSub]
  refine call exland_ok ?_
  dsimp only [go_sem, Nat.reduceAdd, Nat.reduceMul, Nat.reduceSub]
  refine call pace_ok ?_
  dsimp only [go_sem, Nat.reduceAdd, Nat.reduceMul, Nat.reduceSub]
  refine call k5 ?_
  dsimp only [go_sem, Nat.reduceAdd, Nat.reduceMul, Nat.reduceSub]
  refine call exland_ok ?_
  dsimp only [go_sem, Nat.reduceAdd, Nat.reduceMul, Nat.reduceSub]
  refine call pace_ok ?_
  dsimp only [go_sem, Nat.reduceAdd, Nat.reduceMul, Nat.reduceSub]
  refine call k6 ?_
  dsimp only [go_sem, Nat.reduceAdd, Nat.reduceMul, Nat.reduceSub]
  refine call exland_ok ?_
  dsimp only [go_sem, Nat.reduceAdd, Nat.reduceMul, Nat.reduceSub]
  refine call k7 ?_
  dsimp only [wres, spanL, go_sem, Nat.reduceAdd, Nat.reduceMul, Nat.reduceSub]
  have q1 := same39_ok [⟨0, 1, ⟨6, 7⟩, ⟨9, 12⟩⟩, ⟨1, 2, ⟨9, 18⟩, ⟨11, 21⟩⟩] [⟨0, 1, ⟨6, 7⟩, ⟨9, 12⟩⟩, ⟨1, 2, ⟨9, 18⟩, ⟨11, 21⟩⟩] (by decide) (by decide) false true
  have q2 := same38_ok [⟨6, 6⟩, ⟨9, 12⟩, ⟨11, 18⟩] [⟨6, 6⟩, ⟨9, 12⟩, ⟨11, 18⟩] (by decide) (by decide) false true
  have q3 := same40_ok [2] [2] (by decide) (by decide) false true
  have q4 := (lists_ok [[0, 1], [2]] [[0, 1], [2]] (by decide) (by decide) (by decide) (by decide) false true).args (args0 := [.sl false 1 ([[0, 1], [2]].map rowW), .sl true 1 [[.sl true 1 [[I 0], [I 1]]], [.sl true 1 [[I 2]]]]]) (by simp [KFR_iff, rowW, wayS, natL, KFR, KFL, KF]) (rlw_cons Weak.rfl (rlw_cons (weak_slc ⟨rlw_cons weak_c rlw_rfl, rfl, rlw_cons weak_c rlw_rfl, rfl, trivial⟩) rlw_rfl))
  simp only [decide_true] at q1 q2 q3 q4
  repeat (first | (refine gb ?_; dsimp only [go_sem, Nat.reduceAdd, Nat.reduceMul, Nat.reduceSub]) | (refine call (span_ok _ _) ?_; dsimp only [spanL, go_sem, Nat.reduceAdd, Nat.reduceMul, Nat.reduceSub]) | (refine call q1 ?_; dsimp only [go_sem, Nat.reduceAdd, Nat.reduceMul, Nat.reduceSub]) | (refine call q2 ?_; dsimp only [go_sem, Nat.reduceAdd, Nat.reduceMul, Nat.reduceSub]) | (refine call q3 ?_; dsimp only [go_sem, Nat.reduceAdd, Nat.reduceMul, Nat.reduceSub]) | (refine call q4 ?_; dsimp only [go_sem, Nat.reduceAdd, Nat.reduceMul, Nat.reduceSub]))
  simp

end Go.Proofs.Ytkjldleglbbkeaa
set_option maxRecDepth 100000
set_option maxHeartbeats 8000000
namespace Go.Azalai
def W32 := {n : Int // 0 ≤ n ∧ n < 4294967296}
def atF (l : List W32) (i : Nat) : Int := match l[i % l.length]? with | some x => x.val | none => 0
theorem atF_bd (l : List W32) (i : Nat) : 0 ≤ atF l i ∧ atF l i < 4294967296 := by
  unfold atF; split
  · rename_i x _; exact x.property
  · omega
def pickF (s : Span) (n : Int) : Int := s.lo + n.tmod (s.hi - s.lo + 1)
theorem pick_bd {s : Span} {n : Int} (h : s.lo ≤ s.hi) (hn : 0 ≤ n) : s.lo ≤ pickF s n ∧ pickF s n ≤ s.hi := by
  have h1 := Int.tmod_nonneg (s.hi - s.lo + 1) hn
  have h2 := Int.tmod_lt_of_pos n (show 0 < s.hi - s.lo + 1 by omega)
  unfold pickF; omega
def readyF (l : Land) (p : Span) : Bool := !greatF l && okLand l && okPace p
theorem great_small {l : Land} (h : greatF l = false) : Small l := by
  simp only [greatF, Bool.or_eq_false_iff, decide_eq_false_iff_not, List.any_eq_false, decide_eq_true_eq] at h
  exact ⟨by omega, by omega, fun x hx => by have := h.2 x hx; omega⟩
structure Ready (l : Land) (p : Span) : Prop where
  small : Small l
  ok : OkLP l p
theorem readyF_iff {l : Land} {p : Span} (h : readyF l p = true) : Ready l p := by
  simp only [readyF, Bool.and_eq_true, Bool.not_eq_true'] at h
  exact ⟨great_small h.1.1, ⟨h.1.2, h.2⟩⟩
def mayG (o s : Gate → Int) (n m : Int) (l : List Gate) : Bool := l.any fun g => decide (m ≥ o g) && decide (m + n - 1 ≤ s g)
theorem acc_le {n day : Int} {o s : Gate → Int} {t : Int} (ht : t ≤ 100000) : ∀ {l : List Gate} {a : Int}, accL n day o s a l ≤ t ↔ a ≤ t ∨ ∃ g ∈ l, max day (o g) + n - 1 ≤ s g ∧ max day (o g) ≤ t
  | [], a => by simp [accL]
  | g :: l, a => by
    simp only [accL]
    rw [acc_le ht (l := l)]
    simp only [List.mem_cons, exists_eq_or_imp]
    by_cases h : max day (o g) + n - 1 ≤ s g
    · rw [if_pos h]
      constructor
      · rintro (q | q)
        · by_cases ha : a ≤ t
          · exact .inl ha
          · exact .inr (.inl ⟨h, by omega⟩)
        · exact .inr (.inr q)
      · rintro (q | q | q)
        · exact .inl (by omega)
        · exact .inl (by have := q.2; omega)
        · exact .inr q
    · rw [if_neg h]
      constructor
      · rintro (q | q)
        · exact .inl q
        · exact .inr (.inr q)
      · rintro (q | q | q)
        · exact .inl q
        · exact absurd q.1 h
        · exact .inr q
def oK (k : Bool) (g : Gate) : Int := bif k then g.opens.hi else g.opens.lo
def sK (k : Bool) (g : Gate) : Int := bif k then g.shuts.lo else g.shuts.hi
/-- when one leaves: the first day from the given one on which a gate is open for long enough -/
theorem leK_le {k : Bool} {x : Leg} {p : Span} {t u : Int} (h : GoodLeg x) (hp : okPace p = true) (hu : u ≤ 100000) :
    leK k x p t ≤ u ↔ ∃ g ∈ x.gates, max t (oK k g) + nK k x p - 1 ≤ sK k g ∧ max t (oK k g) ≤ u := by
  rw [(leK_acc (k := k) (t := t) h hp).1, acc_le hu]
  constructor
  · rintro (q | q)
    · omega
    · exact q
  · exact fun q => .inr q
theorem leK_bd {k : Bool} {x : Leg} {p : Span} {t : Int} (h : GoodLeg x) (hp : okPace p = true) (ht : t ≤ 100001) : t ≤ leK k x p t ∧ leK k x p t ≤ 100001 := by
  have hn := nK_bd (k := k) h hp
  obtain ⟨_, a2, a3⟩ := leK_acc (k := k) (t := t) h hp
  have := outL_ub (day := t) (o := fun g => bif k then g.opens.hi else g.opens.lo) hn.1 a3
  refine ⟨?_, by omega⟩
  apply Classical.byContradiction
  intro q
  obtain ⟨g, hg, h1, h2⟩ := (leK_le (k := k) (t := t) (u := leK k x p t) h hp (by omega)).1 (Int.le_refl _)
  omega
/-- what is rounded up is enough, and one less is not -/
theorem up_enough {a b : Int} (ha : 1 ≤ a) (hb : 1 ≤ b) : a ≤ (a + b - 1).tdiv b * b ∧ ((a + b - 1).tdiv b - 1) * b < a := by
  rw [Int.tdiv_eq_ediv_of_nonneg (by omega)]
  have h1 := Int.emod_add_mul_ediv (a + b - 1) b
  have h2 := Int.emod_nonneg (a + b - 1) (show b ≠ 0 by omega)
  have h3 := Int.emod_lt_of_pos (a + b - 1) (show 0 < b by omega)
  rw [Int.sub_mul, Int.mul_comm ((a + b - 1) / b) b]
  omega
theorem nK_mono {x : Leg} {p : Span} (h : GoodLeg x) (hp : okPace p = true) : nK false x p ≤ nK true x p := by
  simp only [okPace, okSp, decide_eq_true_eq] at hp
  obtain ⟨h1, h2, h3, _, _⟩ := h
  simp only [nK, cond_true, cond_false, dayF]
  have u := up_enough (a := x.long.lo) (b := p.hi) h1 (by omega)
  have v := up_enough (a := x.long.hi) (b := p.lo) (by omega) (by omega)
  have w : 0 ≤ (x.long.hi + p.lo - 1).tdiv p.lo := Int.tdiv_nonneg (by omega) (by omega)
  generalize (x.long.lo + p.hi - 1).tdiv p.hi = A at *
  generalize (x.long.hi + p.lo - 1).tdiv p.lo = B at *
  have q := Int.mul_le_mul_of_nonneg_left hp.2.1 w
  apply Classical.byContradiction
  intro hc
  have q2 : B * p.hi ≤ (A - 1) * p.hi := Int.mul_le_mul_of_nonneg_right (by omega) (by omega)
  omega
theorem leK_kind {x : Leg} {p : Span} {t : Int} (h : GoodLeg x) (hp : okPace p = true) (ht : t ≤ 100001) : leK false x p t ≤ leK true x p t := by
  have b0 := leK_bd (k := false) h hp ht
  have b1 := leK_bd (k := true) h hp ht
  have hn := nK_mono h hp
  apply Classical.byContradiction
  intro q
  obtain ⟨g, hg, h1, h2⟩ := (leK_le (k := true) (t := t) (u := leK true x p t) h hp (by omega)).1 (Int.le_refl _)
  have hm := okGates_mem h.g2 (Int.le_refl _) g hg
  simp only [oK, sK, cond_true] at h1 h2
  exact q ((leK_le (k := false) h hp (by omega)).2 ⟨g, hg, by simp only [oK, sK, cond_false]; omega, by simp only [oK, cond_false]; omega⟩)
end Go.Azalai
namespace Go.Proofs.Ytkjldleglbbkeaa
open Go Go.Sx Go.Azalai
def U32 (n : Int) : SV := .v (.int .u32 n)
def w32L (x : W32) : List SV := [U32 x.val]
theorem wf32 {n : Int} (h : (Lit.int .u32 n).wf = true) : 0 ≤ n ∧ n < 4294967296 := by
  simp only [Lit.wf, Bool.and_eq_true, decide_eq_true_eq] at h
  have e1 : IntKind.u32.min = 0 := rfl
  have e2 : IntKind.u32.max = 4294967295 := rfl
  omega
theorem at_ok (l : List W32) (i : Nat) (hl : l.length ≤ 9223372036854775807) (hi : i ≤ 1000000) (c : Bool) : Ct Try.prog 46 [.sl c 1 (l.map w32L), I i] (U32 (atF l i)) := by
  refine t46 (by simp [KFR_iff, w32L, U32, KFL, KF]) (by simp [U32, KFL, KF]) ?_
  dsimp only [c46, r46, go_sem, Nat.reduceAdd, Nat.reduceMul, Nat.reduceSub]
  simp only [List.length_map]
  by_cases h0 : l.length = 0
  · refine br_t (by simpa using h0) ?_
    dsimp only [go_sem, Nat.reduceAdd, Nat.reduceMul, Nat.reduceSub]
    have : l = [] := List.eq_nil_of_length_eq_zero h0
    subst this
    rfl
  refine br_f (by simpa using h0) ?_
  dsimp only [go_sem, Nat.reduceAdd, Nat.reduceMul, Nat.reduceSub]
  refine div0 (by simpa using h0) ?_
  dsimp only [go_sem, Nat.reduceAdd, Nat.reduceMul, Nat.reduceSub]
  have hlt : i % l.length < l.length := Nat.mod_lt _ (by omega)
  simp only [List.length_map, divr]
  rw [show ((i : Int)).tmod (l.length : Int) = ((i % l.length : Nat) : Int) from by rw [Int.tmod_eq_emod_of_nonneg (by omega)]; rfl]
  refine ixs_map (i % l.length) hlt rfl ?_
  dsimp only [w32L, U32, go_sem, Nat.reduceAdd, Nat.reduceMul, Nat.reduceSub]
  unfold atF
  rw [List.getElem?_eq_getElem hlt]
theorem pick_ok (s : Span) (n : Int) (h1 : 0 ≤ s.lo) (h2 : s.lo ≤ s.hi) (h3 : s.hi ≤ 1000000000) (hn : 0 ≤ n ∧ n < 4294967296) : Ct Try.prog 45 [.agg (spanL s), U32 n] (I (s.lo + n.tmod (s.hi - s.lo + 1))) := by
  refine t45 (by simp [spanL, U32, KFL, KF]) (by simp [KFL, KF]) ?_
  dsimp only [c45, r45, spanL, U32, go_sem, Nat.reduceAdd, Nat.reduceMul, Nat.reduceSub]
  rw [w64_in (n := n) (by omega) (by omega), w64_in (n := s.hi - s.lo) (by omega) (by omega), w64_in (n := s.hi - s.lo + 1) (by omega) (by omega)]
  refine div0 (by omega) ?_
  dsimp only [go_sem, Nat.reduceAdd, Nat.reduceMul, Nat.reduceSub]
  simp only [divr]
  have hr : 0 ≤ n.tmod (s.hi - s.lo + 1) ∧ n.tmod (s.hi - s.lo + 1) < s.hi - s.lo + 1 := ⟨Int.tmod_nonneg _ (by omega), Int.tmod_lt_of_pos _ (by omega)⟩
  generalize n.tmod (s.hi - s.lo + 1) = r at *
  rw [w64_in (n := s.lo + r) (by omega) (by omega)]
theorem ready_ok (l : Land) (p : Span) : Ct Try.prog 42 [.agg (landL l), .agg (spanL p)] (B (readyF l p)) := by
  refine t42 (by simp [landL, wellL, legL, gateL, spanL, KFR_iff, KFL, KF]) (by simp [KFL, KF]) ?_
  dsimp only [c42, r42, landL, spanL, go_sem, Nat.reduceAdd, Nat.reduceMul, Nat.reduceSub]
  refine call (great_ok l) ?_
  dsimp only [go_sem, Nat.reduceAdd, Nat.reduceMul, Nat.reduceSub]
  cases h : greatF l
  · have hs := great_small h
    refine gb_run rfl ?_
    dsimp only [go_sem, Nat.reduceAdd, Nat.reduceMul, Nat.reduceSub]
    refine gb_run rfl ?_
    dsimp only [go_sem, Nat.reduceAdd, Nat.reduceMul, Nat.reduceSub]
    refine call (checkR_ok l hs) ?_
    dsimp only [go_sem, Nat.reduceAdd, Nat.reduceMul, Nat.reduceSub]
    refine gb_run rfl ?_
    dsimp only [go_sem, Nat.reduceAdd, Nat.reduceMul, Nat.reduceSub]
    cases h2 : okLand l
    · rw [show readyF l p = false from by simp [readyF, h, h2]]
      simp only [Bool.false_eq_true, if_false, Bool.not_false, Bool.true_and, show ((30 : Int) == 0) = false from rfl]
      repeat (refine gb_skip (by decide) ?_; dsimp only [go_sem, Nat.reduceAdd, Nat.reduceMul, Nat.reduceSub])
    · refine gb_run rfl ?_
      dsimp only [go_sem, Nat.reduceAdd, Nat.reduceMul, Nat.reduceSub]
      refine gb_run rfl ?_
      dsimp only [go_sem, Nat.reduceAdd, Nat.reduceMul, Nat.reduceSub]
      refine call (paceR_ok p) ?_
      dsimp only [go_sem, Nat.reduceAdd, Nat.reduceMul, Nat.reduceSub]
      simp [readyF, h, h2]
  · rw [show readyF l p = false from by simp [readyF, h]]
    repeat (refine gb_skip (by decide) ?_; dsimp only [go_sem, Nat.reduceAdd, Nat.reduceMul, Nat.reduceSub])
end Go.Proofs.Ytkjldleglbbkeaa
set_option maxRecDepth 100000
set_option maxHeartbeats 4000000
namespace Go.Azalai
theorem arrK_kind {x : Leg} {p : Span} {t t' : Int} (h : GoodLeg x) (hp : okPace p = true) (ht : t ≤ t') (ht' : t' ≤ 100001) : arrK false x p t ≤ arrK true x p t' := by
  have h1 := arrK_mono (k := false) h hp ht
  have h2 := leK_kind (t := t') h hp ht'
  have h3 := nK_mono h hp
  simp only [arrK] at *; omega
/-- the stops of a way -/
def Trk (l : Land) (p : Span) : Int → Int → Int → List Int → List Stop → Prop
  | _, _, _, [], [] => True
  | v, a, b, i :: r, s :: ss => ∃ (k : Nat) (x : Leg), i = k ∧ l.legs[k]? = some x ∧ 0 ≤ otherF x v ∧ arrK true x p b ≤ 100000 ∧
      s = ⟨k, otherF x v, ⟨leK false x p a, leK true x p b⟩, ⟨arrK false x p a, arrK true x p b⟩⟩ ∧ Trk l p (otherF x v) (arrK false x p a) (arrK true x p b) r ss
  | _, _, _, _, _ => False
theorem Trk.len {l : Land} {p : Span} : ∀ {legs : List Int} {ss : List Stop} {v a b : Int}, Trk l p v a b legs ss → ss.length = legs.length
  | [], [], _, _, _, _ => rfl
  | i :: r, s :: ss, _, _, _, h => by obtain ⟨_, _, _, _, _, _, _, h⟩ := h; simp [h.len]
  | [], _ :: _, _, _, _, h => h.elim
  | _ :: _, [], _, _, _, h => h.elim
theorem Trk.at {l : Land} {p : Span} (h : OkLP l p) : ∀ {legs : List Int} {ss : List Stop} {v a b : Int}, Trk l p v a b legs ss → a ≤ b → b ≤ 100000 → ∀ (i : Nat) (s : Stop), ss[i]? = some s →
    ∃ c : List Nat, c.length = i + 1 ∧ legs.take (i + 1) = c.map (fun n : Nat => (n : Int)) ∧ goW true l p v b c = some (s.well, s.arrives.hi) ∧ goW false l p v a c = some (s.well, s.arrives.lo)
  | [], [], _, _, _, _, _, _, i, s, hs => by simp at hs
  | j :: r, s0 :: ss, v, a, b, q, hab, hb, i, s, hs => by
    obtain ⟨k, x, rfl, hx, ho, hr, rfl, q⟩ := q
    have hm := arrK_kind (h.leg hx) h.pace hab (by omega)
    cases i with
    | zero =>
      simp only [List.getElem?_cons_zero, Option.some.injEq] at hs
      subst hs
      refine ⟨[k], rfl, by simp, ?_, ?_⟩
      · simp only [goW, hx]; rw [if_neg (by omega), if_neg (by omega)]
      · simp only [goW, hx]; rw [if_neg (by omega), if_neg (by omega)]
    | succ i =>
      simp only [List.getElem?_cons_succ] at hs
      obtain ⟨c, h1, h2, h3, h4⟩ := Trk.at h q hm hr i s hs
      refine ⟨k :: c, by simp [h1], by simp [h2], ?_, ?_⟩
      · simp only [goW, hx]; rw [if_neg (by omega), if_neg (by omega)]; exact h3
      · simp only [goW, hx]; rw [if_neg (by omega), if_neg (by omega)]; exact h4
  | [], _ :: _, _, _, _, q, _, _, _, _, _ => q.elim
  | _ :: _, [], _, _, _, q, _, _, _, _, _ => q.elim
/-- a way that is gone, in steps -/
theorem goS_trk {l : Land} {p : Span} : ∀ {legs : List Int} {v a b : Int} {k : Nat} {acc ss : List Stop} {at' : Int}, badAt l v legs k = none → goS l p v a b legs k acc = (ss, at', 0) → ∃ tt, ss = acc ++ tt ∧ at' = 0 ∧ Trk l p v a b legs tt
  | [], v, a, b, k, acc, ss, at', _, h => by
    simp only [goS, Prod.mk.injEq] at h
    exact ⟨[], by simp [h.1], h.2.1.symm, trivial⟩
  | i :: r, v, a, b, k, acc, ss, at', hb, h => by
    simp only [badAt] at hb
    by_cases he : endF l i v < 0
    · rw [if_pos he] at hb; cases hb
    rw [if_neg he] at hb
    obtain ⟨n, x, rfl, hn, hx, _, e⟩ := endF_ok he
    simp only [goS, Int.toNat_natCast, hx] at h
    by_cases hr : arrK true x p b > 100000
    · rw [if_pos hr] at h; simp at h
    rw [if_neg hr] at h
    rw [e] at hb he
    obtain ⟨tt, e1, e2, e3⟩ := goS_trk hb h
    exact ⟨_ :: tt, by rw [e1, List.append_assoc]; rfl, e2, n, x, rfl, hx, by omega, by omega, rfl, e3⟩
theorem walk_trk {l : Land} {p : Span} {s day : Int} {legs : List Int} {ss : List Stop} {at' : Int} (h : walkF l p s day legs = (ss, at', 0)) : at' = 0 ∧ Trk l p s day day legs ss := by
  unfold walkF at h
  split at h
  · rename_i q; simp at h; exact absurd h.2.2 q
  split at h
  · simp at h
  split at h
  · simp at h
  split at h
  · simp at h
  · rename_i q
    obtain ⟨tt, rfl, e2, e3⟩ := goS_trk q h
    exact ⟨e2, by simpa using e3⟩
theorem Gr.ends {l : Land} {p : Span} {s day to best : Int} {n0 : Nat} (hg : OkLP l p) (hd : 0 ≤ day) (hd' : day ≤ 100000) (h0 : 0 ≤ s) (h1 : s < l.wells.length) (hb : best = reachV true l p s day to) (hb' : best ≤ 100000) :
    ∀ {n : Nat} {v t : Int} {out : List Nat}, Gr l p s day to best n0 n v t out → ∃ v' t' out', Gr l p s day to best n0 0 v' t' out'
  | 0, v, t, out, h => ⟨v, t, out, h⟩
  | n + 1, v, t, out, h => by
    obtain ⟨i, _, hf⟩ := h.ex hg hd hd' h0 h1 hb hb'
    obtain ⟨m, ⟨x, g1, g2, g3, g4⟩, hm⟩ := Go.Sx.least_ex (fun i => Fit l p to best n v t i) ⟨i, hf⟩
    exact Gr.ends hg hd hd' h0 h1 hb hb' (h.step hg hd hd' h0 h1 hb g1 g2 g3 g4 fun j hj hq => by have := hm j hq; omega)
end Go.Azalai
set_option maxRecDepth 100000
set_option maxHeartbeats 4000000
namespace Go.Azalai
/-- the gates in truth: each opens and shuts on a day that there may be; one that shuts before it opens is none -/
def gatedF (by' : List W32) (i : Nat) : Nat → List Gate → List Gate
  | _, [] => []
  | k, g :: r =>
    let a := pickF g.opens (atF by' (2 * i + 3 * k))
    let b := pickF g.shuts (atF by' (2 * i + 3 * k + 1))
    if a ≤ b then ⟨⟨a, a⟩, ⟨b, b⟩⟩ :: gatedF by' i (k + 1) r else gatedF by' i (k + 1) r
theorem gatedF_mem {by' : List W32} {i : Nat} : ∀ {l : List Gate} {k : Nat} {y : Gate}, (∀ g ∈ l, g.opens.lo ≤ g.opens.hi ∧ g.shuts.lo ≤ g.shuts.hi) → y ∈ gatedF by' i k l →
    ∃ g ∈ l, ∃ a b, y = ⟨⟨a, a⟩, ⟨b, b⟩⟩ ∧ g.opens.lo ≤ a ∧ a ≤ g.opens.hi ∧ g.shuts.lo ≤ b ∧ b ≤ g.shuts.hi
  | [], _, _, _, h => by cases h
  | g :: r, k, y, hg, h => by
    have h1 := hg g (by simp)
    simp only [gatedF] at h
    split at h
    · rcases List.mem_cons.1 h with rfl | h
      · have p1 := pick_bd h1.1 (atF_bd by' (2 * i + 3 * k)).1
        have p2 := pick_bd h1.2 (atF_bd by' (2 * i + 3 * k + 1)).1
        exact ⟨g, by simp, _, _, rfl, p1.1, p1.2, p2.1, p2.2⟩
      · obtain ⟨g', hm, h⟩ := gatedF_mem (fun g hg' => hg g (by simp [hg'])) h
        exact ⟨g', by simp [hm], h⟩
    · obtain ⟨g', hm, h⟩ := gatedF_mem (fun g hg' => hg g (by simp [hg'])) h
      exact ⟨g', by simp [hm], h⟩
theorem gatedF_of {by' : List W32} {i : Nat} : ∀ {l : List Gate} {k : Nat} {g : Gate}, (∀ g ∈ l, g.opens.lo ≤ g.opens.hi ∧ g.shuts.lo ≤ g.shuts.hi) → g ∈ l → g.opens.hi ≤ g.shuts.lo →
    ∃ a b, (⟨⟨a, a⟩, ⟨b, b⟩⟩ : Gate) ∈ gatedF by' i k l ∧ g.opens.lo ≤ a ∧ a ≤ g.opens.hi ∧ g.shuts.lo ≤ b ∧ b ≤ g.shuts.hi
  | [], _, _, _, h, _ => by cases h
  | x :: r, k, g, hg, hm, hs => by
    simp only [gatedF]
    rcases List.mem_cons.1 hm with rfl | hm
    · have h1 := hg g (by simp)
      have p1 := pick_bd h1.1 (atF_bd by' (2 * i + 3 * k)).1
      have p2 := pick_bd h1.2 (atF_bd by' (2 * i + 3 * k + 1)).1
      rw [if_pos (by omega)]
      exact ⟨_, _, List.mem_cons_self, p1.1, p1.2, p2.1, p2.2⟩
    · obtain ⟨a, b, h1, h2⟩ := gatedF_of (k := k + 1) (fun g hg' => hg g (by simp [hg'])) hm hs
      refine ⟨a, b, ?_, h2⟩
      split
      · exact List.mem_cons_of_mem _ h1
      · exact h1
/-- when one leaves in truth -/
def firstG (day n : Int) (l : List Gate) : Int := accL n day (fun g => g.opens.lo) (fun g => g.shuts.lo) 100001 l
def goneF (day n : Int) (l : List Gate) : Int := min 100001 (firstG day n l + n)
theorem firstG_bd {day n : Int} {l : List Gate} (hd : 0 ≤ day) (h : ∀ g ∈ l, 0 ≤ g.opens.lo) : 0 ≤ firstG day n l ∧ firstG day n l ≤ 100001 := by
  have key : ∀ (l : List Gate) (a : Int), (∀ g ∈ l, 0 ≤ g.opens.lo) → 0 ≤ a → a ≤ 100001 → 0 ≤ accL n day (fun g => g.opens.lo) (fun g => g.shuts.lo) a l ∧ accL n day (fun g => g.opens.lo) (fun g => g.shuts.lo) a l ≤ 100001 := by
    intro l
    induction l with
    | nil => intro a _ h0 h1; simp only [accL]; omega
    | cons g l ih =>
      intro a hg h0 h1
      simp only [accL]
      have := hg g (by simp)
      refine ih _ (fun g hm => hg g (by simp [hm])) ?_ ?_ <;> split <;> omega
  exact key l _ h (by omega) (by omega)
/-- the truth of one leg -/
theorem gone_in {x : Leg} {p : Span} {by' : List W32} {i : Nat} {now a b n : Int} (h : GoodLeg x) (hp : okPace p = true) (ha : a ≤ now) (hb : now ≤ b) (hn0 : nK false x p ≤ n) (hn1 : n ≤ nK true x p)
    (hr : arrK true x p b ≤ 100000) :
    let f := firstG now n (gatedF by' i 0 x.gates)
    leK false x p a ≤ f ∧ f ≤ leK true x p b ∧ f + n ≤ 100000 ∧ goneF now n (gatedF by' i 0 x.gates) = f + n ∧ arrK false x p a ≤ f + n ∧ f + n ≤ arrK true x p b ∧ arrK true x p b = leK true x p b + nK true x p := by
  have hg := okGates_mem h.g2 (Int.le_refl _)
  have hg' : ∀ g ∈ x.gates, g.opens.lo ≤ g.opens.hi ∧ g.shuts.lo ≤ g.shuts.hi := fun g hm => by have := hg g hm; omega
  have hl1 := nK_bd (k := true) h hp
  have hl0 := nK_bd (k := false) h hp
  have hle : leK true x p b + nK true x p ≤ 100000 := by simp only [arrK] at hr; omega
  obtain ⟨g, hm, q1, q2⟩ := (leK_le (k := true) (t := b) (u := leK true x p b) h hp (by omega)).1 (Int.le_refl _)
  simp only [oK, sK, cond_true] at q1 q2
  have hgm := hg g hm
  obtain ⟨u, v, hin, v1, v2, v3, v4⟩ := gatedF_of (by' := by') (i := i) (k := 0) hg' hm (by omega)
  have hf1 : firstG now n (gatedF by' i 0 x.gates) ≤ leK true x p b := by
    unfold firstG
    rw [acc_le (by omega)]
    exact .inr ⟨_, hin, by simp only; omega, by simp only; omega⟩
  have hf0 : leK false x p a ≤ firstG now n (gatedF by' i 0 x.gates) := by
    have hq := (acc_le (n := n) (day := now) (o := fun g => g.opens.lo) (s := fun g => g.shuts.lo) (t := firstG now n (gatedF by' i 0 x.gates)) (by omega) (l := gatedF by' i 0 x.gates) (a := 100001)).1 (Int.le_refl _)
    rcases hq with hq | ⟨y, hy, w1, w2⟩
    · omega
    · obtain ⟨g2, hm2, a2, b2, rfl, z1, z2, z3, z4⟩ := gatedF_mem hg' hy
      simp only at w1 w2
      rw [leK_le h hp (by omega)]
      exact ⟨g2, hm2, by simp only [oK, sK, cond_false]; omega, by simp only [oK, cond_false]; omega⟩
  have hk0 : arrK false x p a ≤ leK false x p a + nK false x p := by simp only [arrK]; omega
  have hk1 : arrK true x p b = leK true x p b + nK true x p := by simp only [arrK]; omega
  refine ⟨hf0, hf1, by omega, by unfold goneF; omega, by omega, by omega, hk1⟩
/-- days of a leg in truth -/
theorem up_mono {a a' b b' : Int} (ha : 1 ≤ a) (haa : a ≤ a') (hb : 1 ≤ b) (hbb : b ≤ b') : (a + b' - 1).tdiv b' ≤ (a' + b - 1).tdiv b := by
  have u := up_enough (a := a) (b := b') ha (by omega)
  have v := up_enough (a := a') (b := b) (by omega) hb
  have w : 0 ≤ (a' + b - 1).tdiv b := Int.tdiv_nonneg (by omega) (by omega)
  generalize (a + b' - 1).tdiv b' = A at *
  generalize (a' + b - 1).tdiv b = B at *
  have q := Int.mul_le_mul_of_nonneg_left hbb w
  apply Classical.byContradiction
  intro hc
  have q2 : B * b' ≤ (A - 1) * b' := Int.mul_le_mul_of_nonneg_right (by omega) (by omega)
  omega
theorem nK_in {x : Leg} {p : Span} (h : GoodLeg x) (hp : okPace p = true) {a q : Int} (h1 : x.long.lo ≤ a) (h2 : a ≤ x.long.hi) (h3 : p.lo ≤ q) (h4 : q ≤ p.hi) :
    nK false x p ≤ (a + q - 1).tdiv q ∧ (a + q - 1).tdiv q ≤ nK true x p := by
  simp only [okPace, okSp, decide_eq_true_eq] at hp
  obtain ⟨l1, l2, l3, _, _⟩ := h
  simp only [nK, cond_true, cond_false, dayF]
  exact ⟨up_mono l1 h1 (by omega) h4, up_mono (by omega) h2 (by omega) h3⟩
end Go.Azalai
namespace Go.Sx
open Go Go.RowKit
theorem Ct.res {P : Program} {f : FuncId} {args : List SV} {res res0 : SV} (h : Ct P f args res) (kr : KF res0) (hw : Weak res res0) : Ct P f args res0 :=
  ⟨h.1, h.2, kr, fun w ok vs hR => Calls.mono (h.4 w ok vs hR) fun e w' q => by
    obtain ⟨y, h1, h2, h3⟩ := q
    exact ⟨y, h1, hw _ _ _ _ _ h2, h3⟩⟩
theorem rl_rfl {l : List SV} : ∀ (w : World) (E : Env) (n ok : Nat → Prop) (ys : List Value), RL w E n ok l ys → RL w E n ok l ys := fun _ _ _ _ _ h => h
/-- of a frame some slots are kept -/
def keepF (fr : List (Nat × SV)) : List Nat → List (Nat × SV)
  | [] => []
  | t :: ts => (t, lk t fr) :: keepF fr ts
theorem keepF_nil (fr : List (Nat × SV)) : keepF fr [] = [] := rfl
theorem keepF_cons (fr : List (Nat × SV)) (t : Nat) (ts : List Nat) : keepF fr (t :: ts) = (t, lk t fr) :: keepF fr ts := rfl
attribute [go_sem] keepF_nil keepF_cons
theorem keepF_ent (fr : List (Nat × SV)) : ∀ ts, entF (keepF fr ts) fr
  | [] => trivial
  | _ :: ts => ⟨rfl, keepF_ent fr ts⟩
theorem ent_keep {m : Nat} {σ : St} (ts : List Nat) (hg : nogd (keepF σ.fr ts) = true) : Ent m σ ⟨keepF σ.fr ts, σ.hp, σ.n, σ.N, []⟩ := by
  intro C E a w _ h
  refine ⟨E, fun t => ?_, h.sz, h.df, fun t j b s ht => absurd ht (nogd_lk hg t j b s), h.hs⟩
  have hfr := h.fr t
  rcases entF_lk (keepF_ent σ.fr ts) t with h1 | h1
  · rw [h1]; exact trivial
  · rw [h1]
    have := nogd_lk hg t
    rw [h1] at this
    cases hq : lk t σ.fr <;> rw [hq] at hfr this <;> first | exact hfr | exact absurd rfl (this _ _ _)
/-- a loop whose state keeps few slots -/
theorem loopK {m : Nat} {f : CT} {σ : St} {K : Ex → St → Prop} {S : Type} (ts : List Nat) (hg : nogd (keepF σ.fr ts) = true) (ov : S → List (Nat × SV)) (hv : S → List (Nat × HB)) (rel : S → Prop) (μ : S → Nat) (s0 : S) (h0 : rel s0)
    (he : Ent m ⟨keepF σ.fr ts, σ.hp, σ.n, σ.N, []⟩ (stO ⟨keepF σ.fr ts, σ.hp, σ.n, σ.N, []⟩ ov hv s0))
    (hb : ∀ s, rel s → f (stO ⟨keepF σ.fr ts, σ.hp, σ.n, σ.N, []⟩ ov hv s) (lopK m (stO ⟨keepF σ.fr ts, σ.hp, σ.n, σ.N, []⟩ ov hv) rel μ s K)) : LOOP m f σ K :=
  loopG (ent_keep ts hg) ov hv rel μ s0 h0 he hb
end Go.Sx
set_option maxRecDepth 100000
set_option maxHeartbeats 4000000
namespace Go.Azalai
open Go.Sx
/-- a way that is gone for sure until a day, and visits no well twice, nor one of some others -/
def SureW (l : Land) (p : Span) (to till : Int) : List Int → Int → Int → List Nat → Prop
  | _, v, t, [] => v = to ∧ t ≤ till
  | been, v, t, i :: r => ∃ x, l.legs[i]? = some x ∧ 0 ≤ otherF x v ∧ arrK true x p t ≤ 100000 ∧ otherF x v ∉ v :: been ∧ SureW l p to till (v :: been) (otherF x v) (arrK true x p t) r
theorem SureW.le {l : Land} {p : Span} (h : OkLP l p) {to till : Int} : ∀ {a : List Nat} {been : List Int} {v t : Int}, SureW l p to till been v t a → t ≤ 100001 → t ≤ till
  | [], _, _, _, q, _ => q.2
  | i :: r, been, v, t, q, ht => by
    obtain ⟨x, hx, ho, hr, hn, q⟩ := q
    have := arrK_ge (k := true) (h.leg hx) h.pace ht
    have := SureW.le h q (by omega)
    omega
/-- whether a way comes before another one -/
def befF : List Int → List Int → Bool
  | a :: l, b :: r => if a ≠ b then decide (a < b) else befF l r
  | _, _ => false
/-- the stops of a way: which wells are visited, and how it ends -/
def sureS (to till : Int) : List Int → Int → Int → List Stop → Bool
  | _, v, t, [] => (v == to) && decide (t ≤ till)
  | been, v, t, s :: r => if s.well ∈ v :: been then false else sureS to till (v :: been) s.well s.arrives.hi r
/-- whether a way is one that is to be told -/
def sureB (l : Land) (p : Span) (s to day till : Int) (legs : List Int) : Bool :=
  if (walkF l p s day legs).2.2 = 0 then sureS to till [] s day (walkF l p s day legs).1 else false
/-- a way that visits no well twice has fewer legs than there are wells -/
theorem SureW.len {l : Land} {p : Span} (h : OkLP l p) {to till : Int} : ∀ {a : List Nat} {f : Nat} {been : List Int} {v t : Int}, SureW l p to till been v t a → Room l f been → v ∉ been → (0 ≤ v ∧ v < l.wells.length) → a.length + 1 ≤ f
  | [], f, been, v, t, q, hR, hv, hi => by obtain ⟨g, hg, _⟩ := hR.pos hv hi; simp; omega
  | i :: r, f, been, v, t, q, hR, hv, hi => by
    obtain ⟨g, hg, hR'⟩ := hR.pos hv hi
    obtain ⟨x, hx, ho, hr, hn, q⟩ := q
    have := SureW.len h q hR' hn (otherF_in h hx (by omega)).1
    simp; omega
end Go.Azalai
set_option maxRecDepth 100000
namespace Go.Proofs.Ytkjldleglbbkeaa
open Go Go.Sx
def cx43 : SC := (.seq (.reg [
  ⟨some 2, .box (.t 0) 0 25, none, []⟩,
  ⟨some 4, .alloc [.slice none 0 0, .slice none 0 0] 25, none, []⟩])
  (.seq (.reg [
  ⟨some 12, .ld (.t 2) 2 true, none, []⟩,
  ⟨some 13, .callm 21 [.t 12], none, []⟩,
  ⟨some 5, .alloc [.slice none 0 0, .slice none 0 0] 25, none, []⟩,
  ⟨none, .st (.t 5) (.t 13) 2, none, []⟩])
  (.gh (.seq (.seq (.reg [
  ⟨some 14, .addo (.t 5) 1, none, []⟩,
  ⟨some 15, .ld (.t 14) 1 false, none, []⟩,
  ⟨some 16, .len (.t 15), none, []⟩,
  ⟨some 17, .mv (.c (.int .i64 0)), none, []⟩])
  (.block 0 (.loop (.seq (.reg [
    ⟨some 18, .bin .lss (.t 17) (.t 16), none, []⟩])
    (.seq (.cond (.t 18)
    .skip
    (.exit 0))
    (.seq (.block 1 (.seq (.reg [
     ⟨some 19, .mv (.t 17), none, []⟩,
     ⟨some 6, .mv (.t 19), none, []⟩])
     (.seq (.reg [
     ⟨some 7, .mv (.c (.slice none 0 0)), none, []⟩])
     (.seq (.seq (.reg [
     ⟨some 20, .addo (.t 5) 1, none, []⟩,
     ⟨some 21, .ld (.t 20) 1 false, none, []⟩,
     ⟨some 22, .mv (.t 6), none, []⟩,
     ⟨some 23, .ixs (.t 21) (.t 22) 5, none, []⟩,
     ⟨some 24, .addo (.t 23) 4, none, []⟩,
     ⟨some 25, .ld (.t 24) 1 false, none, []⟩,
     ⟨some 26, .len (.t 25), none, []⟩,
     ⟨some 27, .mv (.c (.int .i64 0)), none, []⟩])
     (.block 2 (.loop (.seq (.reg [
       ⟨some 28, .bin .lss (.t 27) (.t 26), none, []⟩])
       (.seq (.cond (.t 28)
       .skip
       (.exit 2))
       (.seq (.block 3 (.seq (.reg [
        ⟨some 29, .mv (.t 27), none, []⟩,
        ⟨some 30, .ixs (.t 25) (.t 27) 4, none, []⟩,
        ⟨some 31, .ld (.t 30) 4 true, none, []⟩,
        ⟨some 9, .alloc [.int .i64 0, .int .i64 0, .int .i64 0, .int .i64 0] 95, none, []⟩,
        ⟨some 8, .mv (.t 29), none, []⟩,
        ⟨none, .st (.t 9) (.t 31) 4, none, []⟩])
        (.seq (.regd [0, 1, 2, 3, 4, 5, 6, 7, 8, 9, 10, 11, 12, 13, 14, 15, 16, 17, 18, 19, 20, 21, 22] [
        .op ⟨some 32, .addo (.t 9) 0, none, []⟩,
        .op ⟨some 33, .ld (.t 32) 2 true, none, [0]⟩,
        .op ⟨some 34, .mv (.t 1), none, []⟩,
        .op ⟨some 35, .mv (.t 6), none, []⟩,
        .op ⟨some 36, .bin .mul (.c (.int .i64 2)) (.t 35), none, [3]⟩,
        .op ⟨some 37, .mv (.t 8), none, []⟩,
        .op ⟨some 38, .bin .mul (.c (.int .i64 3)) (.t 37), none, [5]⟩,
        .op ⟨some 39, .bin .add (.t 36) (.t 38), none, [4, 6]⟩,
        .op ⟨some 40, .call 46 [.t 34, .t 39], none, [2, 7]⟩,
        .op ⟨some 41, .call 45 [.t 33, .t 40], none, [1, 8]⟩,
        .op ⟨some 42, .addo (.t 9) 2, none, []⟩,
        .op ⟨some 43, .ld (.t 42) 2 true, none, [10]⟩,
        .op ⟨some 44, .mv (.t 1), none, []⟩,
        .op ⟨some 45, .mv (.t 6), none, []⟩,
        .op ⟨some 46, .bin .mul (.c (.int .i64 2)) (.t 45), none, [13]⟩,
        .op ⟨some 47, .mv (.t 8), none, []⟩,
        .op ⟨some 48, .bin .mul (.c (.int .i64 3)) (.t 47), none, [15]⟩,
        .op ⟨some 49, .bin .add (.t 46) (.t 48), none, [14, 16]⟩,
        .op ⟨some 50, .bin .add (.t 49) (.c (.int .i64 1)), none, [17]⟩,
        .op ⟨some 51, .call 46 [.t 44, .t 50], none, [9, 12, 18]⟩,
        .op ⟨some 52, .call 45 [.t 43, .t 51], none, [11, 19]⟩,
        .op ⟨some 10, .mv (.t 41), none, [0, 1, 2, 3, 4, 5, 6, 7, 8, 9, 20]⟩,
        .op ⟨some 11, .mv (.t 52), none, [0, 1, 2, 3, 4, 5, 6, 7, 8, 9, 10, 11, 12, 13, 14, 15, 16, 17, 18, 19, 20, 21]⟩] 0 0 [
])
        (.seq (.reg [
        ⟨some 53, .mv (.t 10), none, []⟩,
        ⟨some 54, .mv (.t 11), none, []⟩,
        ⟨some 55, .bin .leq (.t 53) (.t 54), none, []⟩])
        (.cond (.t 55)
        (.reg [
         ⟨some 56, .mv (.t 7), none, []⟩,
         ⟨some 57, .mv (.t 10), none, []⟩,
         ⟨some 58, .mv (.t 10), none, []⟩,
         ⟨some 59, .call 50 [.t 57, .t 58], none, []⟩,
         ⟨some 60, .mv (.t 11), none, []⟩,
         ⟨some 61, .mv (.t 11), none, []⟩,
         ⟨some 62, .call 50 [.t 60, .t 61], none, []⟩,
         ⟨some 63, .build [.int .i64 0, .int .i64 0, .int .i64 0, .int .i64 0] [(0, 2, .t 59), (2, 2, .t 62)], none, []⟩,
         ⟨some 64, .bsl 4 95 [.t 63], none, []⟩,
         ⟨some 65, .appm 4 32 95 (.t 56) (.t 64), none, []⟩,
         ⟨some 7, .mv (.t 65), none, []⟩])
        .skip)))))
       (.reg [
       ⟨some 66, .bin .add (.t 27) (.c (.int .i64 1)), none, []⟩,
       ⟨some 27, .mv (.t 66), none, []⟩])))))))
     (.gh (.reg [
     ⟨some 67, .addo (.t 5) 1, none, []⟩,
     ⟨some 68, .ld (.t 67) 1 false, none, []⟩,
     ⟨some 69, .mv (.t 6), none, []⟩,
     ⟨some 70, .mv (.t 7), none, []⟩,
     ⟨some 71, .ixs (.t 68) (.t 69) 5, none, []⟩,
     ⟨some 72, .addo (.t 71) 4, none, []⟩,
     ⟨none, .st (.t 72) (.t 70) 1, none, []⟩]))))))
    (.gh (.reg [
    ⟨some 73, .bin .add (.t 17) (.c (.int .i64 1)), none, []⟩,
    ⟨some 17, .mv (.t 73), none, []⟩]))))))))
  (.gh (.seq (.reg [
  ⟨some 74, .ld (.t 5) 2 true, none, []⟩,
  ⟨none, .st (.t 4) (.t 74) 2, none, []⟩])
  .ret))))))
def rx43 : List RV := [.cell 4 2 true]
theorem nx43 : Try.f43.ntmps = 75 := by kernel_rfl
theorem bx43 : bodyB Try.prog 43 = true := by kernel_rfl
theorem cx43_ok : cmpC Try.prog cx43 ((Try.f43.body).getD .skip) = true := by kernel_rfl
theorem rx43_ok : cmpR Try.prog rx43 Try.f43.results.toList = true := by kernel_rfl
theorem tx43 {args : List SV} {res : SV} (ka : KFL args) (kr : KF res) (h : sx Try.prog Y0 0 cx43 (st0 args 75) (retK rx43 res)) (hA : Nat.ble args.length 75 = true := by rfl) : Ct Try.prog 43 args res := ct_intro Try.func43 rfl bx43 cx43_ok rx43_ok nx43 (Nat.le_of_ble_eq_true hA) ka kr h
end Go.Proofs.Ytkjldleglbbkeaa
set_option maxRecDepth 100000
set_option maxHeartbeats 8000000
namespace Go.Azalai
def gatedAt (by' : List W32) (i : Nat) (x : Leg) : Leg := ⟨x.a, x.b, x.long, gatedF by' i 0 x.gates⟩
def gatedL (by' : List W32) (l : Land) : Land := ⟨l.wells, l.legs.mapIdx (gatedAt by')⟩
theorem gatedL_at {by' : List W32} {l : Land} {k : Nat} (h : k < l.legs.length) : (gatedL by' l).legs[k]? = some (gatedAt by' k l.legs[k]) := by
  simp [gatedL, List.getElem?_mapIdx, List.getElem?_eq_getElem h]
/-- the first j legs are as they are in truth -/
def HalfG (by' : List W32) (l : Land) (j : Nat) (L : List Leg) : Prop := ∀ k, L[k]? = (l.legs[k]?).map fun x => if k < j then gatedAt by' k x else x
theorem HalfG.start {by' : List W32} {l : Land} : HalfG by' l 0 l.legs := fun k => by cases l.legs[k]? <;> simp
theorem HalfG.len {by' : List W32} {l : Land} {j : Nat} {L : List Leg} (h : HalfG by' l j L) : L.length = l.legs.length := by
  apply Nat.le_antisymm
  · apply Nat.le_of_not_lt; intro q
    have := h l.legs.length
    rw [List.getElem?_eq_getElem q, List.getElem?_eq_none (Nat.le_refl _)] at this; simp at this
  · apply Nat.le_of_not_lt; intro q
    have := h L.length
    rw [List.getElem?_eq_getElem q, List.getElem?_eq_none (Nat.le_refl _)] at this; simp at this
theorem HalfG.at {by' : List W32} {l : Land} {j : Nat} {L : List Leg} (h : HalfG by' l j L) (hj : j < l.legs.length) (hL : j < L.length) : L[j] = l.legs[j] := by
  have := h j
  rw [List.getElem?_eq_getElem hL, List.getElem?_eq_getElem hj] at this
  simpa using this
theorem HalfG.step {by' : List W32} {l : Land} {j : Nat} {L : List Leg} (h : HalfG by' l j L) (hj : j < l.legs.length) : HalfG by' l (j + 1) (L.set j (gatedAt by' j l.legs[j])) := fun k => by
  have hlen := h.len
  rw [List.getElem?_set]
  by_cases hk : j = k
  · subst hk
    rw [if_pos rfl, if_pos (by omega), List.getElem?_eq_getElem hj]; simp
  · rw [if_neg hk, h k]
    cases l.legs[k]? with
    | none => rfl
    | some x =>
      simp only [Option.map_some]
      by_cases hkj : k < j
      · rw [if_pos hkj, if_pos (by omega)]
      · rw [if_neg hkj, if_neg (by omega)]
theorem HalfG.done {by' : List W32} {l : Land} {j : Nat} {L : List Leg} (h : HalfG by' l j L) (hj : l.legs.length ≤ j) : L = (gatedL by' l).legs := by
  apply List.ext_getElem?
  intro k
  rw [h k, gatedL, List.getElem?_mapIdx]
  by_cases hk : k < l.legs.length
  · rw [List.getElem?_eq_getElem hk]; simp; omega
  · rw [List.getElem?_eq_none (by omega)]; rfl
theorem gatedF_len {by' : List W32} {i : Nat} : ∀ {l : List Gate} {k : Nat}, (gatedF by' i k l).length ≤ l.length
  | [], _ => by simp [gatedF]
  | g :: r, k => by
    have := gatedF_len (by' := by') (i := i) (l := r) (k := k + 1)
    simp only [gatedF]; split <;> simp <;> omega
end Go.Azalai
namespace Go.Proofs.Ytkjldleglbbkeaa
open Go Go.Sx Go.Azalai
theorem m21 {n0 : Nat} {hp0 : List (Nat × HB)} {args : List SV} {Post : Ot → Prop} (hh : hpb n0 hp0) (hx : ∀ o, Post o → KX o.res ∧ KXP o.hp) (h : sx Try.prog Y0 n0 c21 ⟨enum 0 args, hp0, n0, 35, []⟩ (retM r21 fun o => ∃ o', Post o' ∧ EntO n0 o o')) (hA : Nat.ble args.length 35 = true := by rfl) : CtM Try.prog 21 hp0 n0 args Post := ctm_intro Try.func21 rfl b21 c21_ok r21_ok n21 (Nat.le_of_ble_eq_true hA) hh hx h
theorem twinM_ok (l : Land) (hs : Small l) : CtM Try.prog 21 [] 0 [.agg (landL l)] (fun o => o = ⟨false, .agg [.sl false 9 (l.wells.map wellL), .mr 0 0], [(0, .row 0 5 (l.legs.map legL) 86)], 1⟩) := by
  refine m21 (by simp [hpb]) (fun o ho => by subst ho; simp [KX, KXL, KXP, KXH, KFR_iff, KFL, KF, landL, wellL, legL, gateL]) ?_
  dsimp only [c21, r21, landL, go_sem, Nat.reduceAdd, Nat.reduceMul, Nat.reduceSub]
  refine app0 (by simp; have := hs.1; omega) ?_
  dsimp only [go_sem, Nat.reduceAdd, Nat.reduceMul, Nat.reduceSub]
  refine ⟨by simp; have := hs.2.1; omega, ?_⟩
  dsimp only [go_sem, Nat.reduceAdd, Nat.reduceMul, Nat.reduceSub]
  refine loopO (fun k : Nat => [(3, I k)]) (fun _ => []) (fun k => k ≤ l.legs.length) (fun k => l.legs.length - k) 0 (Nat.zero_le _) ?_ ?_
  · (refine ent_id ?_ ?_ ?_ rfl rfl <;> dsimp only [gateL, wellL, legL, id, go_sem, Nat.reduceAdd, Nat.reduceMul, Nat.reduceSub] <;> simp [gateL, wellL, legL, KFR_iff, KFR_app, KFR, KFL, KF, mtL_same, mtO, Nat.beq_refl])
  intro k hk
  dsimp only [go_sem, Nat.reduceAdd, Nat.reduceMul, Nat.reduceSub]
  simp only [List.length_map]
  by_cases hlt : k < l.legs.length
  · refine br_t (by simpa using hlt) ?_
    dsimp only [go_sem, Nat.reduceAdd, Nat.reduceMul, Nat.reduceSub]
    refine ixrm k rfl (by simpa using hlt) ?_
    dsimp only [go_sem, Nat.reduceAdd, Nat.reduceMul, Nat.reduceSub]
    refine ldrm hlt ?_
    dsimp only [legL, go_sem, Nat.reduceAdd, Nat.reduceMul, Nat.reduceSub]
    refine app0 (by simp; have := hs.2.2 _ (List.getElem_mem hlt); omega) ?_
    dsimp only [go_sem, Nat.reduceAdd, Nat.reduceMul, Nat.reduceSub]
    refine ixrm k rfl (by simpa using hlt) ?_
    dsimp only [go_sem, Nat.reduceAdd, Nat.reduceMul, Nat.reduceSub]
    refine strm l.legs[k] hlt (by simp [legL]) (by simp [legL, splice]) ?_
    rw [List.set_getElem_self]
    dsimp only [go_sem, Nat.reduceAdd, Nat.reduceMul, Nat.reduceSub]
    rw [w64_in (n := (k : Int) + 1) (by omega) (by have := hs.2.1; omega)]
    refine ⟨k + 1, hlt, by omega, ?_⟩
    (refine ent_id ?_ ?_ ?_ rfl rfl <;> dsimp only [gateL, wellL, legL, id, go_sem, Nat.reduceAdd, Nat.reduceMul, Nat.reduceSub] <;> simp [gateL, wellL, legL, KFR_iff, KFR_app, KFR, KFL, KF, mtL_same, mtO, Nat.beq_refl])
  refine br_f (by simp; omega) ?_
  dsimp only [go_sem, Nat.reduceAdd, Nat.reduceMul, Nat.reduceSub]
  refine ⟨_, rfl, ?_⟩
  refine entO (fun _ => 2) ?_ ?_ ?_ (fun i hi j hj _ => by omega) rfl (fun i hi => absurd hi (Nat.not_lt_zero i)) <;> dsimp only [go_sem, Nat.reduceAdd, Nat.reduceMul, Nat.reduceSub] <;> simp [KFR_iff, KFR_app, KFR, KFL, KF, mtL_same, mtO, Nat.beq_refl, wellL, legL, gateL]
theorem other_ok (x : Leg) (v : Int) : Ct Try.prog 44 [.agg (legL x), I v] (I (otherF x v)) := by
  refine t44 (by simp [legL, gateL, KFR_iff, KFL, KF]) (by simp [KFL, KF]) ?_
  dsimp only [c44, r44, legL, go_sem, Nat.reduceAdd, Nat.reduceMul, Nat.reduceSub]
  by_cases h1 : x.a = v
  · refine br_t (by simp [h1]) ?_
    dsimp only [go_sem, Nat.reduceAdd, Nat.reduceMul, Nat.reduceSub]
    simp [otherF, h1]
  · refine br_f (by simp; exact fun e => h1 e.symm) ?_
    dsimp only [go_sem, Nat.reduceAdd, Nat.reduceMul, Nat.reduceSub]
    by_cases h2 : x.b = v
    · refine br_t (by simp [h2]) ?_
      dsimp only [go_sem, Nat.reduceAdd, Nat.reduceMul, Nat.reduceSub]
      simp [otherF, h1, h2]
    · refine br_f (by simp; exact fun e => h2 e.symm) ?_
      dsimp only [go_sem, Nat.reduceAdd, Nat.reduceMul, Nat.reduceSub]
      simp [otherF, h1, h2]
theorem gone_ok (x : Leg) (day n : Int) (hl : x.gates.length ≤ 1000000) (hg : ∀ g ∈ x.gates, (0 ≤ g.opens.lo ∧ g.opens.lo ≤ 100000) ∧ 0 ≤ g.shuts.lo ∧ g.shuts.lo ≤ 100000) (hd : 0 ≤ day ∧ day ≤ 100001) (hn : 0 ≤ n ∧ n ≤ 1000000) :
    Ct Try.prog 47 [.agg (legL x), I day, I n] (I (goneF day n x.gates)) := by
  refine t47 (by simp [legL, gateL, KFR_iff, KFL, KF]) (by simp [KFL, KF]) ?_
  dsimp only [c47, r47, legL, go_sem, Nat.reduceAdd, Nat.reduceMul, Nat.reduceSub]
  simp only [List.length_map]
  have e0 : firstG day n x.gates = accL n day (fun g => g.opens.lo) (fun g => g.shuts.lo) 100001 x.gates := rfl
  refine loopO (fun q : Nat × Int => [(14, I q.1), (7, I q.2)]) (fun _ => []) (fun q => q.1 ≤ x.gates.length ∧ (0 ≤ q.2 ∧ q.2 ≤ 100001) ∧ accL n day (fun g => g.opens.lo) (fun g => g.shuts.lo) q.2 (x.gates.drop q.1) = firstG day n x.gates) (fun q => x.gates.length - q.1) (0, 100001) ⟨Nat.zero_le _, by simp, rfl⟩ ?_ ?_
  · (refine ent_id ?_ ?_ ?_ rfl rfl <;> dsimp only [legL, gateL, id, go_sem, Nat.reduceAdd, Nat.reduceMul, Nat.reduceSub] <;> simp [legL, gateL, KFR_iff, KFR_app, KFR, KFL, KF, mtL_same, mtO, Nat.beq_refl])
  rintro ⟨j, f⟩ ⟨hj, hf, ha⟩
  simp only at hj hf ha
  dsimp only [go_sem, Nat.reduceAdd, Nat.reduceMul, Nat.reduceSub]
  by_cases hlt : j < x.gates.length
  · refine br_t (by simpa using hlt) ?_
    dsimp only [go_sem, Nat.reduceAdd, Nat.reduceMul, Nat.reduceSub]
    refine ixs_map j hlt rfl ?_
    dsimp only [gateL, go_sem, Nat.reduceAdd, Nat.reduceMul, Nat.reduceSub]
    have hb := hg _ (List.getElem_mem hlt)
    rw [w64_in (n := max day x.gates[j].opens.lo + n) (by omega) (by omega), w64_in (n := max day x.gates[j].opens.lo + n - 1) (by omega) (by omega)]
    rw [List.drop_eq_getElem_cons hlt] at ha
    simp only [accL] at ha
    by_cases hc : max day x.gates[j].opens.lo + n - 1 ≤ x.gates[j].shuts.lo
    · refine br_t (decide_eq_true hc) ?_
      dsimp only [go_sem, Nat.reduceAdd, Nat.reduceMul, Nat.reduceSub]
      rw [if_pos hc, show min (min f (max day x.gates[j].opens.lo)) 100001 = min f (max day x.gates[j].opens.lo) from by omega] at ha
      rw [w64_in (n := (j : Int) + 1) (by omega) (by omega)]
      refine ⟨(j + 1, min f (max day x.gates[j].opens.lo)), ⟨hlt, by simp only; omega, ha⟩, by simp only; omega, ?_⟩
      (refine ent_id ?_ ?_ ?_ rfl rfl <;> dsimp only [legL, gateL, id, go_sem, Nat.reduceAdd, Nat.reduceMul, Nat.reduceSub] <;> simp [legL, gateL, KFR_iff, KFR_app, KFR, KFL, KF, mtL_same, mtO, Nat.beq_refl])
    · refine br_f (decide_eq_false hc) ?_
      dsimp only [go_sem, Nat.reduceAdd, Nat.reduceMul, Nat.reduceSub]
      rw [if_neg hc] at ha
      rw [w64_in (n := (j : Int) + 1) (by omega) (by omega)]
      refine ⟨(j + 1, f), ⟨hlt, hf, ha⟩, by simp only; omega, ?_⟩
      (refine ent_id ?_ ?_ ?_ rfl rfl <;> dsimp only [legL, gateL, id, go_sem, Nat.reduceAdd, Nat.reduceMul, Nat.reduceSub] <;> simp [legL, gateL, KFR_iff, KFR_app, KFR, KFL, KF, mtL_same, mtO, Nat.beq_refl])
  refine br_f (by simp; omega) ?_
  dsimp only [go_sem, Nat.reduceAdd, Nat.reduceMul, Nat.reduceSub]
  rw [List.drop_of_length_le (by omega)] at ha
  simp only [accL] at ha
  rw [w64_in (n := f + n) (by omega) (by omega), goneF, ← ha]
theorem gated_ok (l : Land) (hs : Small l) (hg : ∀ x ∈ l.legs, GoodLeg x) (by' : List W32) (hby : by'.length ≤ 9223372036854775807) :
    Ct Try.prog 43 [.agg (landL l), .sl false 1 (by'.map w32L)] (.agg (landL (gatedL by' l))) := by
  have hl := hs.2.1
  refine tx43 (by simp [landL, wellL, legL, gateL, KFR_iff, w32L, U32, KFL, KF]) (by simp [landL, wellL, legL, gateL, KFR_iff, KFL, KF]) ?_
  dsimp only [cx43, rx43, landL, go_sem, Nat.reduceAdd, Nat.reduceMul, Nat.reduceSub]
  refine callmL [] (twinM_ok l hs) rfl rfl rfl ?_ ?_ ?_
  · exact mtL_same (by simp [landL, wellL, legL, gateL, KFR_iff, KFL, KF])
  · trivial
  dsimp only [go_sem, Nat.reduceAdd, Nat.reduceMul, Nat.reduceSub]
  refine gh ent_refl ?_
  dsimp only [go_sem, Nat.reduceAdd, Nat.reduceMul, Nat.reduceSub]
  simp only [List.length_map]
  refine loopO (fun q : Nat × List Leg => [(17, I q.1)]) (fun q => [(2, .row 0 5 (q.2.map legL) 86)]) (fun q => q.1 ≤ l.legs.length ∧ HalfG by' l q.1 q.2) (fun q => l.legs.length - q.1) (0, l.legs) ⟨Nat.zero_le _, HalfG.start⟩ ?_ ?_
  · (refine ent_id ?_ ?_ ?_ rfl rfl <;> dsimp only [legL, gateL, wellL, w32L, U32, id, go_sem, Nat.reduceAdd, Nat.reduceMul, Nat.reduceSub] <;> simp [legL, gateL, wellL, w32L, U32, KFR_iff, KFR_app, KFR, KFL, KF, mtL_same, mtO, Nat.beq_refl])
  rintro ⟨j, L⟩ ⟨hj, hh⟩
  simp only at hj hh
  have hLl := hh.len
  dsimp only [go_sem, Nat.reduceAdd, Nat.reduceMul, Nat.reduceSub]
  by_cases hlt : j < l.legs.length
  · refine br_t (by simpa using hlt) ?_
    dsimp only [go_sem, Nat.reduceAdd, Nat.reduceMul, Nat.reduceSub]
    have hjL : j < L.length := by omega
    have eL := hh.at hlt hjL
    refine ixrm j rfl (by simpa using hjL) ?_
    dsimp only [go_sem, Nat.reduceAdd, Nat.reduceMul, Nat.reduceSub]
    refine ldrm hjL ?_
    rw [eL]
    dsimp only [legL, go_sem, Nat.reduceAdd, Nat.reduceMul, Nat.reduceSub]
    simp only [List.length_map]
    have hgj := hg _ (List.getElem_mem hlt)
    have hgm := okGates_mem hgj.g2 (Int.le_refl _)
    have hg6 := hgj.g1
    refine loopG (ent_nilslot 7 4 95 rfl rfl) (fun z : Nat × Nat × List Gate => [(27, I z.1), (7, .mr 4 z.2.1)]) (fun z => [(4, .row z.2.1 4 (z.2.2.map gateL) 95)]) (fun z => z.1 ≤ l.legs[j].gates.length ∧ z.2.2.length ≤ z.1 ∧ gatedF by' j 0 l.legs[j].gates = z.2.2 ++ gatedF by' j z.1 (l.legs[j].gates.drop z.1)) (fun z => l.legs[j].gates.length - z.1) (0, 0, []) ⟨Nat.zero_le _, Nat.le_refl _, rfl⟩ ?_ ?_
    · (refine ent_id ?_ ?_ ?_ rfl rfl <;> dsimp only [legL, gateL, wellL, w32L, U32, id, go_sem, Nat.reduceAdd, Nat.reduceMul, Nat.reduceSub] <;> simp [legL, gateL, wellL, w32L, U32, KFR_iff, KFR_app, KFR, KFL, KF, mtL_same, mtO, Nat.beq_refl])
    rintro ⟨k, ver, G⟩ ⟨hk, hGl, hG⟩
    simp only at hk hGl hG
    dsimp only [go_sem, Nat.reduceAdd, Nat.reduceMul, Nat.reduceSub]
    by_cases hkl : k < l.legs[j].gates.length
    · refine br_t (by simpa using hkl) ?_
      dsimp only [go_sem, Nat.reduceAdd, Nat.reduceMul, Nat.reduceSub]
      refine ixs_map k hkl rfl ?_
      dsimp only [gateL, go_sem, Nat.reduceAdd, Nat.reduceMul, Nat.reduceSub]
      have hbk := hgm _ (List.getElem_mem hkl)
      have b0 := atF_bd by' (2 * j + 3 * k)
      have b1 := atF_bd by' (2 * j + 3 * k + 1)
      have p0 := pick_bd (s := l.legs[j].gates[k].opens) (n := atF by' (2 * j + 3 * k)) (by omega) b0.1
      have p1 := pick_bd (s := l.legs[j].gates[k].shuts) (n := atF by' (2 * j + 3 * k + 1)) (by omega) b1.1
      have s1 : IntKind.i64.wrap (2 * (j : Int)) = 2 * (j : Int) := w64_in (by omega) (by omega)
      have s2 : IntKind.i64.wrap (3 * (k : Int)) = 3 * (k : Int) := w64_in (by omega) (by omega)
      have s3 : IntKind.i64.wrap (2 * (j : Int) + 3 * (k : Int)) = ((2 * j + 3 * k : Nat) : Int) := by rw [w64_in (by omega) (by omega)]; omega
      have s4 : IntKind.i64.wrap (((2 * j + 3 * k : Nat) : Int) + 1) = ((2 * j + 3 * k + 1 : Nat) : Int) := by rw [w64_in (by omega) (by omega)]; omega
      simp only [s1, s2, s3, s4]
      refine call (at_ok by' (2 * j + 3 * k) hby (by omega) false) ?_
      dsimp only [U32, go_sem, Nat.reduceAdd, Nat.reduceMul, Nat.reduceSub]
      refine call (pick_ok l.legs[j].gates[k].opens (atF by' (2 * j + 3 * k)) (by omega) (by omega) (by omega) b0) ?_
      dsimp only [go_sem, Nat.reduceAdd, Nat.reduceMul, Nat.reduceSub]
      try simp only [s1, s2, s3, s4]
      refine call (at_ok by' (2 * j + 3 * k + 1) hby (by omega) false) ?_
      dsimp only [U32, go_sem, Nat.reduceAdd, Nat.reduceMul, Nat.reduceSub]
      refine call (pick_ok l.legs[j].gates[k].shuts (atF by' (2 * j + 3 * k + 1)) (by omega) (by omega) (by omega) b1) ?_
      dsimp only [go_sem, Nat.reduceAdd, Nat.reduceMul, Nat.reduceSub]
      rw [List.drop_eq_getElem_cons hkl] at hG
      simp only [gatedF] at hG
      simp only [show l.legs[j].gates[k].opens.lo + (atF by' (2 * j + 3 * k)).tmod (l.legs[j].gates[k].opens.hi - l.legs[j].gates[k].opens.lo + 1) = pickF l.legs[j].gates[k].opens (atF by' (2 * j + 3 * k)) from rfl,
        show l.legs[j].gates[k].shuts.lo + (atF by' (2 * j + 3 * k + 1)).tmod (l.legs[j].gates[k].shuts.hi - l.legs[j].gates[k].shuts.lo + 1) = pickF l.legs[j].gates[k].shuts (atF by' (2 * j + 3 * k + 1)) from rfl]
      generalize pickF l.legs[j].gates[k].opens (atF by' (2 * j + 3 * k)) = a at p0 hG ⊢
      generalize pickF l.legs[j].gates[k].shuts (atF by' (2 * j + 3 * k + 1)) = b at p1 hG ⊢
      have wk := w64_in (n := (k : Int) + 1) (by omega) (by omega)
      by_cases hab : a ≤ b
      · refine br_t (decide_eq_true hab) ?_
        dsimp only [go_sem, Nat.reduceAdd, Nat.reduceMul, Nat.reduceSub]
        refine call (span_ok a a) ?_
        dsimp only [spanL, go_sem, Nat.reduceAdd, Nat.reduceMul, Nat.reduceSub]
        refine call (span_ok b b) ?_
        dsimp only [spanL, go_sem, Nat.reduceAdd, Nat.reduceMul, Nat.reduceSub]
        simp only [Nat.beq_refl]
        dsimp only [go_sem, Nat.reduceAdd, Nat.reduceMul, Nat.reduceSub]
        refine ⟨(by intro c hc; simp only [List.mem_singleton] at hc; subst hc; rfl), by simp; omega, ?_⟩
        dsimp only [go_sem, Nat.reduceAdd, Nat.reduceMul, Nat.reduceSub]
        rw [wk]
        have e : G.map gateL ++ [[SV.v (.int .i64 a), SV.v (.int .i64 a), SV.v (.int .i64 b), SV.v (.int .i64 b)]] = (G ++ [(⟨⟨a, a⟩, ⟨b, b⟩⟩ : Gate)]).map gateL := by simp [gateL]
        rw [e]
        rw [if_pos hab] at hG
        refine ⟨(k + 1, ver + 1, G ++ [(⟨⟨a, a⟩, ⟨b, b⟩⟩ : Gate)]), ⟨hkl, by simp; omega, by rw [hG]; simp⟩, by simp only; omega, ?_⟩
        (refine ent_id ?_ ?_ ?_ rfl rfl <;> dsimp only [legL, gateL, wellL, w32L, U32, id, go_sem, Nat.reduceAdd, Nat.reduceMul, Nat.reduceSub] <;> simp [legL, gateL, wellL, w32L, U32, KFR_iff, KFR_app, KFR, KFL, KF, mtL_same, mtO, Nat.beq_refl])
      · refine br_f (decide_eq_false hab) ?_
        dsimp only [go_sem, Nat.reduceAdd, Nat.reduceMul, Nat.reduceSub]
        rw [wk]
        rw [if_neg hab] at hG
        refine ⟨(k + 1, ver, G), ⟨hkl, by simp only; omega, hG⟩, by simp only; omega, ?_⟩
        (refine ent_id ?_ ?_ ?_ rfl rfl <;> dsimp only [legL, gateL, wellL, w32L, U32, id, go_sem, Nat.reduceAdd, Nat.reduceMul, Nat.reduceSub] <;> simp [legL, gateL, wellL, w32L, U32, KFR_iff, KFR_app, KFR, KFL, KF, mtL_same, mtO, Nat.beq_refl])
    refine br_f (by simp; omega) ?_
    dsimp only [go_sem, Nat.reduceAdd, Nat.reduceMul, Nat.reduceSub]
    rw [List.drop_of_length_le (by omega)] at hG
    simp only [gatedF, List.append_nil] at hG
    subst hG
    refine gh (ent_frz 7 4 ver rfl rfl rfl rfl) ?_
    dsimp only [go_sem, Nat.reduceAdd, Nat.reduceMul, Nat.reduceSub]
    refine ixrm j rfl (by simpa using hjL) ?_
    dsimp only [go_sem, Nat.reduceAdd, Nat.reduceMul, Nat.reduceSub]
    have hst := hh.step hlt
    refine strm (gatedAt by' j l.legs[j]) hjL (by simp [legL]) (by rw [eL]; simp [legL, gatedAt, splice]) ?_
    generalize L.set j (gatedAt by' j l.legs[j]) = L' at hst ⊢
    dsimp only [go_sem, Nat.reduceAdd, Nat.reduceMul, Nat.reduceSub]
    refine gh ent_refl ?_
    dsimp only [go_sem, Nat.reduceAdd, Nat.reduceMul, Nat.reduceSub]
    rw [w64_in (n := (j : Int) + 1) (by omega) (by omega)]
    refine ⟨(j + 1, L'), ⟨hlt, hst⟩, by simp only; omega, ?_⟩
    (refine ent_id ?_ ?_ ?_ rfl rfl <;> dsimp only [legL, gateL, wellL, w32L, U32, id, go_sem, Nat.reduceAdd, Nat.reduceMul, Nat.reduceSub] <;> simp [legL, gateL, wellL, w32L, U32, KFR_iff, KFR_app, KFR, KFL, KF, mtL_same, mtO, Nat.beq_refl])
  refine br_f (by simp; omega) ?_
  dsimp only [go_sem, Nat.reduceAdd, Nat.reduceMul, Nat.reduceSub]
  refine gh ent_refl ?_
  dsimp only [go_sem, Nat.reduceAdd, Nat.reduceMul, Nat.reduceSub]
  rw [hh.done (by omega)]
  rfl
end Go.Proofs.Ytkjldleglbbkeaa
set_option maxRecDepth 100000
set_option maxHeartbeats 8000000
namespace Go.Azalai
theorem goS_cases {l : Land} {p : Span} : ∀ {legs : List Int} {v a b : Int} {k : Nat} {acc ss : List Stop} {at' e : Int}, goS l p v a b legs k acc = (ss, at', e) → e = 0 ∨ e = 34 ∧ ss = []
  | [], v, a, b, k, acc, ss, at', e, h => by simp only [goS, Prod.mk.injEq] at h; exact .inl h.2.2.symm
  | i :: r, v, a, b, k, acc, ss, at', e, h => by
    simp only [goS] at h
    split at h
    · simp only [Prod.mk.injEq] at h; exact .inl h.2.2.symm
    · split at h
      · simp only [Prod.mk.injEq] at h; exact .inr ⟨h.2.2.symm, h.1.symm⟩
      · exact goS_cases h
theorem walk_cases {l : Land} {p : Span} {s day : Int} {legs : List Int} {so : List Stop} {ao ec : Int} (hok : OkLP l p) (hd : 0 ≤ day) (hd' : day ≤ 100000) (h0 : 0 ≤ s) (h1 : s < l.wells.length) (hl : legs.length ≤ 24)
    (h : walkF l p s day legs = (so, ao, ec)) : (∀ k, badAt l s legs 0 = some k → ec = 8) ∧ (badAt l s legs 0 = none → ec = 0 ∨ ec = 34) := by
  unfold walkF at h
  rw [if_neg (by simp [askF, hok.land, hok.pace]), if_neg (by simp [inR]; omega), if_neg (by omega)] at h
  split at h
  · rename_i k hk
    simp only [Prod.mk.injEq] at h
    exact ⟨fun _ _ => h.2.2.symm, fun q => by rw [hk] at q; cases q⟩
  · rename_i hk
    refine ⟨fun k q => (by rw [hk] at q; cases q), fun _ => ?_⟩
    rcases goS_cases h with q | q
    · exact .inl q
    · exact .inr q.1
end Go.Azalai
namespace Go.Proofs.Ytkjldleglbbkeaa
open Go Go.Sx Go.Azalai
theorem wayTrue_ok (l : Land) (s day : Int) (p : Span) (legs : List Int) (hlen : legs.length ≤ 9223372036854775807) (by' : List W32) (hby : by'.length ≤ 9223372036854775807) :
    Ct Try.prog 7 [.agg (landL l), I s, I day, .agg (spanL p), .sl false 1 (legs.map intL), .sl false 1 (by'.map w32L)] (B true) := by
  refine t7 (by simp [landL, wellL, legL, gateL, spanL, KFR_iff, intL, w32L, U32, KFL, KF]) (by simp [KFL, KF]) ?_
  dsimp only [c7, r7, landL, spanL, go_sem, Nat.reduceAdd, Nat.reduceMul, Nat.reduceSub]
  refine call alive_ok ?_
  dsimp only [go_sem, Nat.reduceAdd, Nat.reduceMul, Nat.reduceSub]
  refine br_f (by simp) ?_
  dsimp only [go_sem, Nat.reduceAdd, Nat.reduceMul, Nat.reduceSub]
  refine call (ready_ok l p) ?_
  dsimp only [go_sem, Nat.reduceAdd, Nat.reduceMul, Nat.reduceSub]
  repeat (refine gb ?_; dsimp only [go_sem, Nat.reduceAdd, Nat.reduceMul, Nat.reduceSub])
  simp only [List.length_map]
  by_cases hr : readyF l p = true
  rotate_left
  · refine br_t (by simp [hr]) ?_
    dsimp only [go_sem, Nat.reduceAdd, Nat.reduceMul, Nat.reduceSub]
  by_cases h : (0 ≤ s ∧ s < l.wells.length ∧ 0 ≤ day ∧ day ≤ 100000 ∧ legs.length ≤ 24)
  rotate_left
  · refine br_t (by simp [hr]; omega) ?_
    dsimp only [go_sem, Nat.reduceAdd, Nat.reduceMul, Nat.reduceSub]
  obtain ⟨s0, s1, h3, h4, h5⟩ := h
  refine br_f (by simp [hr]; omega) ?_
  dsimp only [go_sem, Nat.reduceAdd, Nat.reduceMul, Nat.reduceSub]
  obtain ⟨hs, hok⟩ := readyF_iff hr
  have hp := hok.pace
  have hgood : ∀ x ∈ l.legs, GoodLeg x := fun x hx => okLand_leg hok.land x hx
  have hl24 : l.legs.length ≤ 24 := (okLand_len hok.land).2.2
  obtain ⟨so, ao, ec, hso⟩ : ∃ x y z, walkF l p s day legs = (x, y, z) := ⟨_, _, _, rfl⟩
  have k4 := wwalk_ok l hs s day p legs (by omega) false
  rw [hso] at k4
  simp only [walkR] at k4
  obtain ⟨hbad, hgo⟩ := walk_cases hok h3 h4 s0 s1 h5 hso
  obtain ⟨st, k5, hst0, hst1⟩ : ∃ st : List Stop, Ct Try.prog 34 [.agg (landL l), I s, I day, .agg (spanL p), .sl false 1 (legs.map intL)] (.tup [.sl false 6 (st.map stopL), I ao, I ec]) ∧ (ec = 0 → Trk l p s day day legs st) ∧ (ec ≠ 0 → st = []) := by
    by_cases he : ec = 0
    · subst he
      exact ⟨so, by simpa [rowsZ] using k4, fun _ => (walk_trk hso).2, fun h => absurd rfl h⟩
    · refine ⟨[], k4.res (by simp [KFR_iff, KFR, KFL, KF]) ?_, fun h => absurd h he, fun _ => rfl⟩
      simp only [rowsZ, if_neg he]
      exact weak_tup (weak_cons weak_nil rl_rfl)
  clear k4 hso hr
  have hsl : ec = 0 → st.length = legs.length := fun h => (hst0 h).len
  refine call k5 ?_
  dsimp only [go_sem, Nat.reduceAdd, Nat.reduceMul, Nat.reduceSub]
  refine call (gated_ok l hs hgood by' hby) ?_
  dsimp only [landL, go_sem, Nat.reduceAdd, Nat.reduceMul, Nat.reduceSub]
  simp only [List.length_map]
  refine loopK [4, 5, 6, 9, 12, 13, 14, 16, 17, 18, 19, 72, 73, 74] rfl (fun q : Nat × Int × Int => [(74, I q.1), (18, I q.2.1), (19, I q.2.2)]) (fun _ => [])
    (fun q => q.1 ≤ legs.length ∧ badAt l s legs 0 = badAt l q.2.2 (legs.drop q.1) q.1 ∧ (0 ≤ q.2.2 ∧ q.2.2 < l.wells.length) ∧ (0 ≤ q.2.1 ∧ q.2.1 ≤ 100000) ∧
      (ec = 0 → ∃ a b, Trk l p q.2.2 a b (legs.drop q.1) (st.drop q.1) ∧ a ≤ q.2.1 ∧ q.2.1 ≤ b ∧ b ≤ 100000)) (fun q => legs.length - q.1) (0, day, s)
    ⟨Nat.zero_le _, rfl, ⟨s0, s1⟩, ⟨h3, h4⟩, fun h => ⟨day, day, hst0 h, Int.le_refl _, Int.le_refl _, h4⟩⟩ ?_ ?_
  · (refine ent_id ?_ ?_ ?_ rfl rfl <;> dsimp only [landL, wellL, legL, gateL, spanL, intL, stopL, w32L, U32, id, go_sem, Nat.reduceAdd, Nat.reduceMul, Nat.reduceSub] <;> simp [landL, wellL, legL, gateL, spanL, intL, stopL, w32L, U32, KFR_iff, KFR_app, KFR, KFL, KF, mtL_same, mtO, Nat.beq_refl])
  rintro ⟨j, now, well⟩ ⟨hj, hbj, hwell, hnow, htr⟩
  simp only at hj hbj hwell hnow htr
  dsimp only [go_sem, Nat.reduceAdd, Nat.reduceMul, Nat.reduceSub]
  try simp only [List.length_map]
  by_cases hlt : j < legs.length
  · refine br_t (by simpa using hlt) ?_
    dsimp only [go_sem, Nat.reduceAdd, Nat.reduceMul, Nat.reduceSub]
    refine ixs_map j hlt rfl ?_
    dsimp only [intL, go_sem, Nat.reduceAdd, Nat.reduceMul, Nat.reduceSub]
    rw [List.drop_eq_getElem_cons hlt] at hbj htr
    simp only [badAt] at hbj
    have hec : endF l legs[j] well < 0 → ec = 8 := fun h => hbad j (by rw [hbj, if_pos h])
    by_cases n0 : legs[j] < 0
    · have := hec (by rw [endF_le (.inl n0)]; omega)
      subst this
      simp only [decide_eq_true n0]
      repeat (refine gb_skip (by decide) ?_; dsimp only [go_sem, Nat.reduceAdd, Nat.reduceMul, Nat.reduceSub])
      refine br_t rfl ?_
      dsimp only [go_sem, Nat.reduceAdd, Nat.reduceMul, Nat.reduceSub]
      repeat (refine gb_run rfl ?_; dsimp only [go_sem, Nat.reduceAdd, Nat.reduceMul, Nat.reduceSub])
      rfl
    simp only [decide_eq_false n0]
    iterate 5 (refine gb_run rfl ?_; dsimp only [go_sem, Nat.reduceAdd, Nat.reduceMul, Nat.reduceSub])
    simp only [List.length_map]
    by_cases n1 : legs[j] ≥ (l.legs.length : Int)
    · have := hec (by rw [endF_le (.inr n1)]; omega)
      subst this
      simp only [decide_eq_true n1]
      repeat (refine gb_skip (by decide) ?_; dsimp only [go_sem, Nat.reduceAdd, Nat.reduceMul, Nat.reduceSub])
      refine br_t rfl ?_
      dsimp only [go_sem, Nat.reduceAdd, Nat.reduceMul, Nat.reduceSub]
      repeat (refine gb_run rfl ?_; dsimp only [go_sem, Nat.reduceAdd, Nat.reduceMul, Nat.reduceSub])
      rfl
    simp only [decide_eq_false n1]
    obtain ⟨kn, hkn⟩ : ∃ k : Nat, legs[j] = k := ⟨legs[j].toNat, by omega⟩
    have hkl : kn < l.legs.length := by omega
    have hend : endF l legs[j] well = otherF l.legs[kn] well := by rw [hkn]; exact endF_at hkl
    rw [hend] at hbj hec
    have hgl := hgood _ (List.getElem_mem hkl)
    iterate 4 (refine gb_run rfl ?_; dsimp only [go_sem, Nat.reduceAdd, Nat.reduceMul, Nat.reduceSub])
    refine ixs_map kn hkl hkn ?_
    dsimp only [legL, go_sem, Nat.reduceAdd, Nat.reduceMul, Nat.reduceSub]
    iterate 3 (refine gb_run rfl ?_; dsimp only [go_sem, Nat.reduceAdd, Nat.reduceMul, Nat.reduceSub])
    refine call (other_ok l.legs[kn] well) ?_
    dsimp only [go_sem, Nat.reduceAdd, Nat.reduceMul, Nat.reduceSub]
    refine gb_run rfl ?_
    dsimp only [go_sem, Nat.reduceAdd, Nat.reduceMul, Nat.reduceSub]
    by_cases no : otherF l.legs[kn] well < 0
    · have := hec no
      subst this
      simp only [decide_eq_true no]
      refine br_t rfl ?_
      dsimp only [go_sem, Nat.reduceAdd, Nat.reduceMul, Nat.reduceSub]
      repeat (refine gb_run rfl ?_; dsimp only [go_sem, Nat.reduceAdd, Nat.reduceMul, Nat.reduceSub])
      rfl
    simp only [decide_eq_false no]
    refine br_f rfl ?_
    dsimp only [go_sem, Nat.reduceAdd, Nat.reduceMul, Nat.reduceSub]
    rw [if_neg no] at hbj
    refine ixs_map kn hkl hkn ?_
    dsimp only [legL, go_sem, Nat.reduceAdd, Nat.reduceMul, Nat.reduceSub]
    refine call (other_ok l.legs[kn] well) ?_
    dsimp only [go_sem, Nat.reduceAdd, Nat.reduceMul, Nat.reduceSub]
    have hin := (otherF_in hok (List.getElem?_eq_getElem hkl) no).1
    have w1 := w64_in (n := (j : Int) + 1) (by omega) (by omega)
    by_cases he : ec ≠ 0
    · refine br_t (bne_iff_ne.2 he) ?_
      dsimp only [go_sem, Nat.reduceAdd, Nat.reduceMul, Nat.reduceSub]
      rw [w1]
      refine ⟨(j + 1, now, otherF l.legs[kn] well), ⟨hlt, hbj, hin, hnow, fun h => absurd h he⟩, by simp only; omega, ?_⟩
      (refine ent_id ?_ ?_ ?_ rfl rfl <;> dsimp only [landL, wellL, legL, gateL, spanL, intL, stopL, w32L, U32, id, go_sem, Nat.reduceAdd, Nat.reduceMul, Nat.reduceSub] <;> simp [landL, wellL, legL, gateL, spanL, intL, stopL, w32L, U32, KFR_iff, KFR_app, KFR, KFL, KF, mtL_same, mtO, Nat.beq_refl])
    have he' : ec = 0 := Decidable.not_not.1 he
    subst he'
    refine br_f rfl ?_
    dsimp only [go_sem, Nat.reduceAdd, Nat.reduceMul, Nat.reduceSub]
    obtain ⟨a, b, htr, ha, hb, hb'⟩ := htr rfl
    have hjs : j < st.length := by rw [hsl rfl]; exact hlt
    rw [List.drop_eq_getElem_cons hjs] at htr
    obtain ⟨kk, x, hkk, hx, ho, harr, hstj, htr⟩ := htr
    have hkk' : kk = kn := by omega
    subst hkk'
    rw [List.getElem?_eq_getElem hkl] at hx
    simp only [Option.some.injEq] at hx
    subst hx
    have hp' := hp
    simp only [okPace, okSp, decide_eq_true_eq] at hp'
    have l1 := hgl.l1
    have l2 := hgl.l2
    have l3 := hgl.l3
    have b0 := atF_bd by' (5 * j)
    have b1 := atF_bd by' (5 * j + 1)
    have p0 := pick_bd (s := p) (n := atF by' (5 * j)) (by omega) b0.1
    have p1 := pick_bd (s := l.legs[kk].long) (n := atF by' (5 * j + 1)) (by omega) b1.1
    rw [w64_in (n := 5 * (j : Int)) (by omega) (by omega), show 5 * (j : Int) = ((5 * j : Nat) : Int) from by omega]
    refine call (at_ok by' (5 * j) hby (by omega) false) ?_
    dsimp only [U32, go_sem, Nat.reduceAdd, Nat.reduceMul, Nat.reduceSub]
    refine call (pick_ok p (atF by' (5 * j)) (by omega) (by omega) (by omega) b0) ?_
    dsimp only [go_sem, Nat.reduceAdd, Nat.reduceMul, Nat.reduceSub]
    simp only [show p.lo + (atF by' (5 * j)).tmod (p.hi - p.lo + 1) = pickF p (atF by' (5 * j)) from rfl]
    generalize pickF p (atF by' (5 * j)) = q at p0 ⊢
    refine ixs_map kk hkl hkn ?_
    dsimp only [legL, spanL, go_sem, Nat.reduceAdd, Nat.reduceMul, Nat.reduceSub]
    rw [w64_in (n := 5 * (j : Int)) (by omega) (by omega), w64_in (n := 5 * (j : Int) + 1) (by omega) (by omega), show 5 * (j : Int) + 1 = ((5 * j + 1 : Nat) : Int) from by omega]
    refine call (at_ok by' (5 * j + 1) hby (by omega) false) ?_
    dsimp only [U32, go_sem, Nat.reduceAdd, Nat.reduceMul, Nat.reduceSub]
    refine call (pick_ok l.legs[kk].long (atF by' (5 * j + 1)) (by omega) (by omega) (by omega) b1) ?_
    dsimp only [go_sem, Nat.reduceAdd, Nat.reduceMul, Nat.reduceSub]
    simp only [show l.legs[kk].long.lo + (atF by' (5 * j + 1)).tmod (l.legs[kk].long.hi - l.legs[kk].long.lo + 1) = pickF l.legs[kk].long (atF by' (5 * j + 1)) from rfl]
    generalize pickF l.legs[kk].long (atF by' (5 * j + 1)) = g at p1 ⊢
    rw [w64_in (n := g + q) (by omega) (by omega), w64_in (n := g + q - 1) (by omega) (by omega)]
    refine div0 (by omega) ?_
    dsimp only [go_sem, Nat.reduceAdd, Nat.reduceMul, Nat.reduceSub]
    try simp only [divr]
    have hnn := nK_in (a := g) (q := q) hgl hp p1.1 p1.2 p0.1 p0.2
    have hn1 := nK_bd (k := true) hgl hp
    have hn0 := nK_bd (k := false) hgl hp
    rw [w64_in (n := (g + q - 1).tdiv q) (by omega) (by omega)]
    generalize (g + q - 1).tdiv q = n at hnn ⊢
    have hkt : kk < (gatedL by' l).legs.length := by simp [gatedL]; exact hkl
    have eg : (gatedL by' l).legs[kk] = gatedAt by' kk l.legs[kk] := by
      have := gatedL_at (by' := by') hkl
      rwa [List.getElem?_eq_getElem hkt, Option.some.injEq] at this
    refine ixs_map kk hkt hkn ?_
    rw [eg]
    dsimp only [legL, go_sem, Nat.reduceAdd, Nat.reduceMul, Nat.reduceSub]
    have hgm := okGates_mem hgl.g2 (Int.le_refl _)
    have hg6 := hgl.g1
    have hgt : ∀ g ∈ (gatedAt by' kk l.legs[kk]).gates, (0 ≤ g.opens.lo ∧ g.opens.lo ≤ 100000) ∧ 0 ≤ g.shuts.lo ∧ g.shuts.lo ≤ 100000 := fun g hg => by
      obtain ⟨g0, hm0, u, v, rfl, q1, q2, q3, q4⟩ := gatedF_mem (fun g hm => by have := hgm g hm; omega) hg
      have := hgm g0 hm0
      simp only; omega
    have hglen : (gatedAt by' kk l.legs[kk]).gates.length ≤ 1000000 := by
      have := gatedF_len (by' := by') (i := kk) (l := l.legs[kk].gates) (k := 0)
      show (gatedF by' kk 0 l.legs[kk].gates).length ≤ 1000000
      omega
    refine call (gone_ok (gatedAt by' kk l.legs[kk]) now n hglen hgt ⟨hnow.1, by omega⟩ ⟨by omega, by omega⟩) ?_
    dsimp only [go_sem, Nat.reduceAdd, Nat.reduceMul, Nat.reduceSub]
    obtain ⟨f0, f1, f2, f3, f4, f5, f6⟩ := gone_in (by' := by') (i := kk) hgl hp ha hb hnn.1 hnn.2 harr
    simp only [show (gatedAt by' kk l.legs[kk]).gates = gatedF by' kk 0 l.legs[kk].gates from rfl, f3]
    have hf0 : 0 ≤ firstG now n (gatedF by' kk 0 l.legs[kk].gates) := (firstG_bd hnow.1 (fun g hg => (hgt g hg).1.1)).1
    generalize firstG now n (gatedF by' kk 0 l.legs[kk].gates) = f at f0 f1 f2 f4 f5 hf0 ⊢
    have hfn : 0 ≤ f + n := by omega
    have wq : IntKind.i64.wrap (f + n - n) = f := by rw [w64_in (n := f + n - n) (by omega) (by omega)]; omega
    have c1 : decide (f + n ≥ 100001) = false := decide_eq_false (by omega)
    have c2 : decide ((st.length : Int) ≤ (j : Int)) = false := decide_eq_false (by omega)
    have c3 : ((kk : Int) != legs[j]) = false := by rw [hkn]; simp
    have c4 : (otherF l.legs[kk] well != otherF l.legs[kk] well) = false := by simp
    have c5 : decide (f + n < arrK false l.legs[kk] p a) = false := decide_eq_false (by omega)
    have c6 : decide (f + n > arrK true l.legs[kk] p b) = false := decide_eq_false (by omega)
    have c7 : decide (f < leK false l.legs[kk] p a) = false := decide_eq_false (by omega)
    have c8 : decide (f > leK true l.legs[kk] p b) = false := decide_eq_false (by omega)
    simp only [c1]
    iterate 4 (refine gb_run rfl ?_; dsimp only [go_sem, Nat.reduceAdd, Nat.reduceMul, Nat.reduceSub])
    simp only [List.length_map, c2]
    iterate 3 (refine gb_run rfl ?_; dsimp only [go_sem, Nat.reduceAdd, Nat.reduceMul, Nat.reduceSub])
    refine ixs_map j hjs rfl ?_
    dsimp only [stopL, go_sem, Nat.reduceAdd, Nat.reduceMul, Nat.reduceSub]
    simp only [hstj]
    iterate 4 (refine gb_run rfl ?_; dsimp only [go_sem, Nat.reduceAdd, Nat.reduceMul, Nat.reduceSub])
    simp only [c3]
    iterate 3 (refine gb_run rfl ?_; dsimp only [go_sem, Nat.reduceAdd, Nat.reduceMul, Nat.reduceSub])
    refine ixs_map j hjs rfl ?_
    dsimp only [stopL, go_sem, Nat.reduceAdd, Nat.reduceMul, Nat.reduceSub]
    simp only [hstj]
    iterate 4 (refine gb_run rfl ?_; dsimp only [go_sem, Nat.reduceAdd, Nat.reduceMul, Nat.reduceSub])
    simp only [c4]
    iterate 4 (refine gb_run rfl ?_; dsimp only [go_sem, Nat.reduceAdd, Nat.reduceMul, Nat.reduceSub])
    refine ixs_map j hjs rfl ?_
    dsimp only [stopL, go_sem, Nat.reduceAdd, Nat.reduceMul, Nat.reduceSub]
    simp only [hstj]
    iterate 4 (refine gb_run rfl ?_; dsimp only [go_sem, Nat.reduceAdd, Nat.reduceMul, Nat.reduceSub])
    simp only [c5]
    iterate 4 (refine gb_run rfl ?_; dsimp only [go_sem, Nat.reduceAdd, Nat.reduceMul, Nat.reduceSub])
    refine ixs_map j hjs rfl ?_
    dsimp only [stopL, go_sem, Nat.reduceAdd, Nat.reduceMul, Nat.reduceSub]
    simp only [hstj]
    iterate 4 (refine gb_run rfl ?_; dsimp only [go_sem, Nat.reduceAdd, Nat.reduceMul, Nat.reduceSub])
    simp only [c6]
    iterate 6 (refine gb_run rfl ?_; dsimp only [go_sem, Nat.reduceAdd, Nat.reduceMul, Nat.reduceSub])
    refine ixs_map j hjs rfl ?_
    dsimp only [stopL, go_sem, Nat.reduceAdd, Nat.reduceMul, Nat.reduceSub]
    simp only [hstj, wq]
    iterate 4 (refine gb_run rfl ?_; dsimp only [go_sem, Nat.reduceAdd, Nat.reduceMul, Nat.reduceSub])
    simp only [c7]
    iterate 6 (refine gb_run rfl ?_; dsimp only [go_sem, Nat.reduceAdd, Nat.reduceMul, Nat.reduceSub])
    refine ixs_map j hjs rfl ?_
    dsimp only [stopL, go_sem, Nat.reduceAdd, Nat.reduceMul, Nat.reduceSub]
    simp only [hstj, wq]
    iterate 4 (refine gb_run rfl ?_; dsimp only [go_sem, Nat.reduceAdd, Nat.reduceMul, Nat.reduceSub])
    simp only [c8]
    refine br_f rfl ?_
    dsimp only [go_sem, Nat.reduceAdd, Nat.reduceMul, Nat.reduceSub]
    rw [w1]
    refine ⟨(j + 1, f + n, otherF l.legs[kk] well), ⟨hlt, hbj, hin, ⟨hfn, by simp only; omega⟩, fun _ => ⟨_, _, htr, f4, f5, harr⟩⟩, by simp only; omega, ?_⟩
    (refine ent_id ?_ ?_ ?_ rfl rfl <;> dsimp only [landL, wellL, legL, gateL, spanL, intL, stopL, w32L, U32, id, go_sem, Nat.reduceAdd, Nat.reduceMul, Nat.reduceSub] <;> simp [landL, wellL, legL, gateL, spanL, intL, stopL, w32L, U32, KFR_iff, KFR_app, KFR, KFL, KF, mtL_same, mtO, Nat.beq_refl])
  refine br_f (by simp; omega) ?_
  dsimp only [go_sem, Nat.reduceAdd, Nat.reduceMul, Nat.reduceSub]
  rw [List.drop_of_length_le (by omega)] at hbj
  have hnone := hgo (by rw [hbj]; rfl)
  by_cases he : ec ≠ 0
  · refine br_t (bne_iff_ne.2 he) ?_
    dsimp only [go_sem, Nat.reduceAdd, Nat.reduceMul, Nat.reduceSub]
    have e34 : ec = 34 := by omega
    have es := hst1 he
    subst es
    subst e34
    repeat (refine gb_run rfl ?_; dsimp only [go_sem, Nat.reduceAdd, Nat.reduceMul, Nat.reduceSub])
    rfl
  have he' : ec = 0 := Decidable.not_not.1 he
  subst he'
  refine br_f rfl ?_
  dsimp only [go_sem, Nat.reduceAdd, Nat.reduceMul, Nat.reduceSub]
  repeat (refine gb_run rfl ?_; dsimp only [go_sem, Nat.reduceAdd, Nat.reduceMul, Nat.reduceSub])
  simp [hsl rfl]
end Go.Proofs.Ytkjldleglbbkeaa
