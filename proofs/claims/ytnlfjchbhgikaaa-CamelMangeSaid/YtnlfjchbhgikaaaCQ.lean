import Derived.Test.YtnlfjchbhgikaaaCP
set_option maxRecDepth 100000
set_option maxHeartbeats 4000000
namespace Go.Sx
open Go
end Go.Sx
namespace Go.Proofs.Ytnlfjchbhgikaaa
open Go Go.Sx Go.Azalai
def U64 (n : Int) : SV := .v (.int .u64 n)
theorem uw {n : Int} (h0 : 0 ≤ n) (h1 : n < 18446744073709551616) : IntKind.u64.wrap n = n := by
  have e : n % 2 ^ IntKind.u64.bits = n := Int.emod_eq_of_lt h0 (by show n < 2 ^ 64; omega)
  simp only [IntKind.wrap, e, show IntKind.u64.signed = false from rfl, Bool.false_and]
  rfl
theorem mul64_ok (n : Int) (h0 : 0 ≤ n) (h1 : n ≤ 1000000) : Ct Try.prog 104 [U64 1, U64 n] (.tup [U64 0, U64 n]) := by
  refine t104 (by simp [U64, KFL, KF]) (by simp [U64, KFL, KF]) ?_
  dsimp only [c104, r104, U64, go_sem, Nat.reduceAdd, Nat.reduceMul, Nat.reduceSub]
  have sh : ∀ (m : Int), 0 ≤ m → m < 4294967296 → ∀ w : World, (binOp .shr 164 (.int .u64 m) (.int .u64 32)).run Try.prog w = .ok (.int .u64 0) w := fun m q0 q1 w => by
    simp only [binOp, Op.shift]
    rw [if_neg (by decide)]
    have : m.fdiv (2 ^ 32) = 0 := by rw [Int.fdiv_eq_ediv_of_nonneg _ (by decide)]; omega
    show Result.ok (Value.int .u64 (m.fdiv (2 ^ (min (32 : Int).toNat IntKind.u64.bits)))) w = _
    rw [show min (32 : Int).toNat IntKind.u64.bits = 32 from by decide, this]
  have an : ∀ (m : Int), 0 ≤ m → m < 4294967296 → ∀ w : World, (binOp .and 164 (.int .u64 m) (.int .u64 4294967295)).run Try.prog w = .ok (.int .u64 m) w := fun m q0 q1 w => by
    obtain ⟨k, rfl⟩ := Int.eq_ofNat_of_zero_le q0
    have hk : k < 4294967296 := by omega
    have e : (BitVec.ofInt 64 (k : Int) &&& BitVec.ofInt 64 4294967295).toNat = k := by
      rw [BitVec.toNat_and, show (BitVec.ofInt 64 4294967295).toNat = 2 ^ 32 - 1 from by decide, Nat.and_two_pow_sub_one_eq_mod, BitVec.ofInt_natCast, BitVec.toNat_ofNat]
      omega
    show Result.ok (Value.int .u64 (IntKind.u64.wrap (((BitVec.ofInt 64 (k : Int) &&& BitVec.ofInt 64 4294967295).toNat : Nat) : Int))) w = _
    rw [e, uw (by omega) (by omega)]
  refine raw_bin rfl (.inl rfl) (an 1 (by omega) (by omega)) rfl ?_
  dsimp only [go_sem, Nat.reduceAdd, Nat.reduceMul, Nat.reduceSub]
  refine raw_bin rfl (.inr rfl) (sh 1 (by omega) (by omega)) rfl ?_
  dsimp only [go_sem, Nat.reduceAdd, Nat.reduceMul, Nat.reduceSub]
  refine raw_bin rfl (.inl rfl) (an n (by omega) (by omega)) rfl ?_
  dsimp only [go_sem, Nat.reduceAdd, Nat.reduceMul, Nat.reduceSub]
  refine raw_bin rfl (.inr rfl) (sh n (by omega) (by omega)) rfl ?_
  dsimp only [go_sem, Nat.reduceAdd, Nat.reduceMul, Nat.reduceSub]
  simp (disch := omega) only [uw, Int.one_mul, Int.zero_mul, Int.mul_zero, Int.add_zero, Int.zero_add]
  refine raw_bin rfl (.inr rfl) (sh n (by omega) (by omega)) rfl ?_
  dsimp only [go_sem, Nat.reduceAdd, Nat.reduceMul, Nat.reduceSub]
  simp (disch := omega) only [uw, Int.one_mul, Int.zero_mul, Int.mul_zero, Int.add_zero, Int.zero_add]
  refine raw_bin rfl (.inl rfl) (an 0 (by omega) (by omega)) rfl ?_
  dsimp only [go_sem, Nat.reduceAdd, Nat.reduceMul, Nat.reduceSub]
  refine raw_bin rfl (.inr rfl) (sh 0 (by omega) (by omega)) rfl ?_
  dsimp only [go_sem, Nat.reduceAdd, Nat.reduceMul, Nat.reduceSub]
  simp (disch := omega) only [uw, Int.one_mul, Int.zero_mul, Int.mul_zero, Int.add_zero, Int.zero_add]
  refine raw_bin rfl (.inr rfl) (sh 0 (by omega) (by omega)) rfl ?_
  dsimp only [go_sem, Nat.reduceAdd, Nat.reduceMul, Nat.reduceSub]
  simp (disch := omega) only [uw, Int.one_mul, Int.zero_mul, Int.mul_zero, Int.add_zero, Int.zero_add]
theorem mul_ok (n : Int) (h0 : 0 ≤ n) (h1 : n ≤ 1000000) : Ct Try.prog 96 [U64 1, U64 n] (.tup [U64 0, U64 n]) := by
  refine t96 (by simp [U64, KFL, KF]) (by simp [U64, KFL, KF]) ?_
  dsimp only [c96, r96, U64, go_sem, Nat.reduceAdd, Nat.reduceMul, Nat.reduceSub]
  refine br_f (by decide) ?_
  dsimp only [go_sem, Nat.reduceAdd, Nat.reduceMul, Nat.reduceSub]
  refine call (mul64_ok n h0 h1) ?_
  dsimp only [U64, go_sem, Nat.reduceAdd, Nat.reduceMul, Nat.reduceSub]
theorem kfr_rep {r : List SV} (h : KFL r) : ∀ n, KFR (List.replicate n r)
  | 0 => trivial
  | n + 1 => ⟨h, kfr_rep h n⟩
theorem rep_ok (m : March) (n : Nat) (h0 : 1 ≤ n) (h1 : n ≤ 1000) (k : Bool) : Ct Try.prog 76 [.sl k 8 [marchL m], I n] (.sl false 8 (List.replicate n (marchL m))) := by
  have hm : KFL (marchL m) := by simp [marchL, KFL, KF]
  have hone : allOne (marchL m) = true := rfl
  refine t76 (by simp [marchL, KFR, KFL, KF]) (by simp only [KF]; exact kfr_rep hm n) ?_
  generalize marchL m = row at hm hone
  dsimp only [c76, r76, go_sem, Nat.reduceAdd, Nat.reduceMul, Nat.reduceSub]
  refine br_f (by simp) ?_
  dsimp only [go_sem, Nat.reduceAdd, Nat.reduceMul, Nat.reduceSub]
  rw [show ((1 : Nat) : Int) = 1 from rfl]
  simp (disch := omega) only [uw]
  refine call (mul_ok n (by omega) (by omega)) ?_
  dsimp only [U64, go_sem, Nat.reduceAdd, Nat.reduceMul, Nat.reduceSub]
  refine gb ?_
  dsimp only [go_sem, Nat.reduceAdd, Nat.reduceMul, Nat.reduceSub]
  refine gb ?_
  dsimp only [go_sem, Nat.reduceAdd, Nat.reduceMul, Nat.reduceSub]
  refine br_f (by simp; omega) ?_
  dsimp only [go_sem, Nat.reduceAdd, Nat.reduceMul, Nat.reduceSub]
  refine ⟨n, w64_in (by omega) (by omega), by omega, ?_⟩
  have hz : KFL [SV.v (Value.int IntKind.i64 0), SV.v (Value.int IntKind.i64 0), SV.v (Value.int IntKind.i64 0), SV.v (Value.int IntKind.i64 0), SV.v (Value.int IntKind.i64 0), SV.v (Value.int IntKind.i64 0), SV.v (Value.int IntKind.i64 0), SV.v (Value.int IntKind.i64 0)] := by simp [KFL, KF]
  generalize [SV.v (Value.int IntKind.i64 0), SV.v (Value.int IntKind.i64 0), SV.v (Value.int IntKind.i64 0), SV.v (Value.int IntKind.i64 0), SV.v (Value.int IntKind.i64 0), SV.v (Value.int IntKind.i64 0), SV.v (Value.int IntKind.i64 0), SV.v (Value.int IntKind.i64 0)] = z at hz
  dsimp only [go_sem, Nat.reduceAdd, Nat.reduceMul, Nat.reduceSub]
  refine ⟨(by intro c hc; simp only [List.mem_singleton] at hc; subst hc; exact hone), by simp, ?_⟩
  have hmin : min n 1 = 1 := by omega
  simp only [List.length_replicate, List.length_singleton, hmin, List.drop_replicate]
  dsimp only [go_sem, Nat.reduceAdd, Nat.reduceMul, Nat.reduceSub]
  refine loopO (fun j : Nat => [(8, I j)]) (fun j => [(0, .row 0 8 (List.replicate j row ++ List.replicate (n - j) z) 29)]) (fun j => 1 ≤ j ∧ j ≤ n) (fun j => n - j) 1 ⟨Nat.le_refl _, h0⟩ ?_ ?_
  · refine ent_id ?_ ?_ ?_ rfl rfl <;> dsimp only [id, go_sem, Nat.reduceAdd, Nat.reduceMul, Nat.reduceSub] <;> simp [KFR_app, kfr_rep, hz, hm, mtL_same, mtO, Nat.beq_refl, KFR, KFL, KF]
  rintro j ⟨hj0, hj⟩
  dsimp only [go_sem, Nat.reduceAdd, Nat.reduceMul, Nat.reduceSub]
  simp only [List.length_append, List.length_replicate, show j + (n - j) = n from by omega]
  by_cases hlt : j < n
  · refine br_t (by simpa using hlt) ?_
    dsimp only [go_sem, Nat.reduceAdd, Nat.reduceMul, Nat.reduceSub]
    refine ⟨j, n, ⟨rfl, by simp; omega, by omega, by simp; omega⟩, ?_⟩
    dsimp only [go_sem, Nat.reduceAdd, Nat.reduceMul, Nat.reduceSub]
    refine ⟨0, j, ⟨rfl, rfl, by omega, by simp⟩, ?_⟩
    dsimp only [go_sem, Nat.reduceAdd, Nat.reduceMul, Nat.reduceSub]
    have hx : List.take (j - 0) (List.replicate j row ++ List.replicate (n - j) z) = List.replicate j row := by rw [Nat.sub_zero]; exact List.take_left' (by simp)
    have hx' : List.take j (List.replicate j row ++ List.replicate (n - j) z) = List.replicate j row := List.take_left' (by simp)
    rw [hx]
    refine ⟨by simp, (by intro c hc; rw [List.eq_of_mem_replicate hc]; exact hone), by simp, ?_⟩
    simp only [List.length_replicate]
    generalize hN : min (n - j) j = N
    have e : List.take j (List.replicate j row ++ List.replicate (n - j) z) ++ (List.take N (List.replicate j row) ++ List.drop (j + N) (List.replicate j row ++ List.replicate (n - j) z)) = List.replicate (j + N) row ++ List.replicate (n - (j + N)) z := by
      rw [hx', List.take_replicate, List.drop_append, List.drop_of_length_le (l := List.replicate j row) (by simp), List.length_replicate, List.nil_append, List.drop_replicate, ← List.append_assoc, List.replicate_append_replicate, show min N j = N from by omega]
      congr 2; omega
    rw [e]
    dsimp only [go_sem, Nat.reduceAdd, Nat.reduceMul, Nat.reduceSub]
    rw [show (j : Int) + (N : Int) = ((j + N : Nat) : Int) from by omega, w64_in (n := ((j + N : Nat) : Int)) (by omega) (by omega)]
    refine ⟨j + N, ⟨by omega, by omega⟩, by omega, ?_⟩
    refine ent_id ?_ ?_ ?_ rfl rfl <;> dsimp only [id, go_sem, Nat.reduceAdd, Nat.reduceMul, Nat.reduceSub] <;> simp [KFR_app, kfr_rep, hz, hm, mtL_same, mtO, Nat.beq_refl, KFR, KFL, KF]
  refine br_f (by simp; omega) ?_
  dsimp only [go_sem, Nat.reduceAdd, Nat.reduceMul, Nat.reduceSub]
  have hje : j = n := by omega
  subst hje
  simp
end Go.Proofs.Ytnlfjchbhgikaaa
