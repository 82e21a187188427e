import Derived.Test.YtnlfjchbhgikaaaFIr
import Derived.Test.YtnlfjchbhgikaaaSpec
set_option maxRecDepth 100000
set_option maxHeartbeats 4000000
namespace Go.Proofs.Ytnlfjchbhgikaaa
open Go Go.Sx Go.Azalai
def intL (n : Int) : List SV := [I n]
def spanL (s : Span) : List SV := [I s.lo, I s.hi]
def breedL (b : Breed) : List SV := [I b.full, I b.fed, I b.rest.lo, I b.rest.hi, I b.heat.lo, I b.heat.hi, I b.toil.lo, I b.toil.hi, I b.burn.lo, I b.burn.hi, I b.rub.lo, I b.rub.hi, I b.milk.lo, I b.milk.hi, I b.heal, I b.strong.lo, I b.strong.hi]
def camelL (c : Camel) : List SV := [I c.water.lo, I c.water.hi, I c.fat.lo, I c.fat.hi, I c.sore.lo, I c.sore.hi, B c.milks]
def beastL (b : Breed) (c : Camel) : List SV := [I b.full, I b.fed, I b.rest.lo, I b.rest.hi, I b.heat.lo, I b.heat.hi, I b.toil.lo, I b.toil.hi, I b.burn.lo, I b.burn.hi, I b.rub.lo, I b.rub.hi, I b.milk.lo, I b.milk.hi, I b.heal, I b.strong.lo, I b.strong.hi, I c.water.lo, I c.water.hi, I c.fat.lo, I c.fat.hi, I c.sore.lo, I c.sore.hi, B c.milks]
def marchL (m : March) : List SV := [I m.hours, I m.load, I m.heat.lo, I m.heat.hi, I m.grass.lo, I m.grass.hi, I m.drinks.lo, I m.drinks.hi]
theorem idxF_any {α : Type} (g : α → Bool) (l : List α) : decide (idxF g l 0 ≥ 0) = l.any g := idxF_ge g l 0

theorem idx101 (h : Nat) (caps : List SV) (hk : KFL caps) (g : Int → Bool) (l : List Int) (hg : ∀ x ∈ l, Ct Try.prog h (I x :: caps) (B (g x))) (hl : l.length < 4611686018427387904) {c : Bool} :
    Ct Try.prog 101 [.sl c 1 (l.map intL), .cl h caps] (I (idxF g l 0)) := by
  refine t101 ⟨by simp [KF, KFR_iff, KFL, intL], hk, trivial⟩ (by simp [KF]) ?_
  dsimp only [c101, r101, go_sem, Nat.reduceAdd, Nat.reduceMul, Nat.reduceSub]
  refine loopO (fun k : Nat => [(8, I k)]) (fun _ => []) (fun k => k ≤ l.length ∧ idxF g (l.drop k) k = idxF g l 0) (fun k => l.length - k) 0 ⟨Nat.zero_le _, rfl⟩ ?_ ?_
  · (refine ent_id ?_ ?_ ?_ rfl rfl <;> dsimp only [intL, hk, id, go_sem, Nat.reduceAdd, Nat.reduceMul, Nat.reduceSub] <;> simp [intL, hk, KFR_iff, KFR_app, KFR, KFL, KF, mtL_same, mtO, Nat.beq_refl])
  · intro k ⟨hk', hi⟩
    dsimp only [go_sem, Nat.reduceAdd, Nat.reduceMul, Nat.reduceSub]
    refine br ?_ ?_
    · intro hlt
      have hlt : k < l.length := by simpa using hlt
      dsimp only [go_sem, Nat.reduceAdd, Nat.reduceMul, Nat.reduceSub]
      refine ixs_map k hlt rfl ?_
      dsimp only [intL, go_sem, Nat.reduceAdd, Nat.reduceMul, Nat.reduceSub]
      refine call (hg l[k] (List.getElem_mem _)) ?_
      dsimp only [go_sem, Nat.reduceAdd, Nat.reduceMul, Nat.reduceSub]
      refine br ?_ ?_
      · intro hgx
        dsimp only [go_sem, Nat.reduceAdd, Nat.reduceMul, Nat.reduceSub]
        rw [← hi, List.drop_eq_getElem_cons hlt]
        simp [idxF, hgx]
      · intro hgx
        dsimp only [go_sem, Nat.reduceAdd, Nat.reduceMul, Nat.reduceSub]
        refine ⟨k + 1, ⟨by omega, ?_⟩, by omega, ?_⟩
        · rw [← hi, List.drop_eq_getElem_cons hlt]; simp [idxF, hgx]
        · rw [w64_in (by omega) (by omega)]
          (refine ent_id ?_ ?_ ?_ rfl rfl <;> dsimp only [intL, hk, id, go_sem, Nat.reduceAdd, Nat.reduceMul, Nat.reduceSub] <;> simp [intL, hk, KFR_iff, KFR_app, KFR, KFL, KF, mtL_same, mtO, Nat.beq_refl])
    · intro hlt
      have hlt : k = l.length := by simp at hlt; omega
      dsimp only [go_sem, Nat.reduceAdd, Nat.reduceMul, Nat.reduceSub]
      rw [← hi, hlt]; simp [idxF]

theorem con91 (h : Nat) (caps : List SV) (hk : KFL caps) (g : Int → Bool) (l : List Int) (hg : ∀ x ∈ l, Ct Try.prog h (I x :: caps) (B (g x))) (hl : l.length < 4611686018427387904) {c : Bool} :
    Ct Try.prog 91 [.sl c 1 (l.map intL), .cl h caps] (B (l.any g)) := by
  refine t91 ⟨by simp [KF, KFR_iff, KFL, intL], hk, trivial⟩ (by simp [KF]) ?_
  dsimp only [c91, r91, go_sem, Nat.reduceAdd, Nat.reduceMul, Nat.reduceSub]
  refine call (idx101 h caps hk g l hg hl) ?_
  dsimp only [go_sem, Nat.reduceAdd, Nat.reduceMul, Nat.reduceSub]
  rw [idxF_any]

theorem idx102 (h : Nat) (caps : List SV) (hk : KFL caps) (g : Span → Bool) (l : List Span) (hg : ∀ x ∈ l, Ct Try.prog h (.agg (spanL x) :: caps) (B (g x))) (hl : l.length < 4611686018427387904) {c : Bool} :
    Ct Try.prog 102 [.sl c 2 (l.map spanL), .cl h caps] (I (idxF g l 0)) := by
  refine t102 ⟨by simp [KF, KFR_iff, KFL, spanL], hk, trivial⟩ (by simp [KF]) ?_
  dsimp only [c102, r102, go_sem, Nat.reduceAdd, Nat.reduceMul, Nat.reduceSub]
  refine loopO (fun k : Nat => [(8, I k)]) (fun _ => []) (fun k => k ≤ l.length ∧ idxF g (l.drop k) k = idxF g l 0) (fun k => l.length - k) 0 ⟨Nat.zero_le _, rfl⟩ ?_ ?_
  · (refine ent_id ?_ ?_ ?_ rfl rfl <;> dsimp only [spanL, hk, id, go_sem, Nat.reduceAdd, Nat.reduceMul, Nat.reduceSub] <;> simp [spanL, hk, KFR_iff, KFR_app, KFR, KFL, KF, mtL_same, mtO, Nat.beq_refl])
  · intro k ⟨hk', hi⟩
    dsimp only [go_sem, Nat.reduceAdd, Nat.reduceMul, Nat.reduceSub]
    refine br ?_ ?_
    · intro hlt
      have hlt : k < l.length := by simpa using hlt
      dsimp only [go_sem, Nat.reduceAdd, Nat.reduceMul, Nat.reduceSub]
      refine ixs_map k hlt rfl ?_
      dsimp only [spanL, go_sem, Nat.reduceAdd, Nat.reduceMul, Nat.reduceSub]
      refine call (hg l[k] (List.getElem_mem _)) ?_
      dsimp only [go_sem, Nat.reduceAdd, Nat.reduceMul, Nat.reduceSub]
      refine br ?_ ?_
      · intro hgx
        dsimp only [go_sem, Nat.reduceAdd, Nat.reduceMul, Nat.reduceSub]
        rw [← hi, List.drop_eq_getElem_cons hlt]
        simp [idxF, hgx]
      · intro hgx
        dsimp only [go_sem, Nat.reduceAdd, Nat.reduceMul, Nat.reduceSub]
        refine ⟨k + 1, ⟨by omega, ?_⟩, by omega, ?_⟩
        · rw [← hi, List.drop_eq_getElem_cons hlt]; simp [idxF, hgx]
        · rw [w64_in (by omega) (by omega)]
          (refine ent_id ?_ ?_ ?_ rfl rfl <;> dsimp only [spanL, hk, id, go_sem, Nat.reduceAdd, Nat.reduceMul, Nat.reduceSub] <;> simp [spanL, hk, KFR_iff, KFR_app, KFR, KFL, KF, mtL_same, mtO, Nat.beq_refl])
    · intro hlt
      have hlt : k = l.length := by simp at hlt; omega
      dsimp only [go_sem, Nat.reduceAdd, Nat.reduceMul, Nat.reduceSub]
      rw [← hi, hlt]; simp [idxF]

theorem con93 (h : Nat) (caps : List SV) (hk : KFL caps) (g : Span → Bool) (l : List Span) (hg : ∀ x ∈ l, Ct Try.prog h (.agg (spanL x) :: caps) (B (g x))) (hl : l.length < 4611686018427387904) {c : Bool} :
    Ct Try.prog 93 [.sl c 2 (l.map spanL), .cl h caps] (B (l.any g)) := by
  refine t93 ⟨by simp [KF, KFR_iff, KFL, spanL], hk, trivial⟩ (by simp [KF]) ?_
  dsimp only [c93, r93, go_sem, Nat.reduceAdd, Nat.reduceMul, Nat.reduceSub]
  refine call (idx102 h caps hk g l hg hl) ?_
  dsimp only [go_sem, Nat.reduceAdd, Nat.reduceMul, Nat.reduceSub]
  rw [idxF_any]

theorem within_ok (n lo hi : Int) : Ct Try.prog 88 [I n, I lo, I hi] (B (inR lo hi n)) := by
  refine t88 (by simp [KFL, KF]) (by simp [KFL, KF]) ?_
  dsimp only [c88, r88, go_sem, Nat.reduceAdd, Nat.reduceMul, Nat.reduceSub]
  refine gb ?_; dsimp only [go_sem, Nat.reduceAdd, Nat.reduceMul, Nat.reduceSub]
  refine gb ?_; dsimp only [go_sem, Nat.reduceAdd, Nat.reduceMul, Nat.reduceSub]
  refine gb ?_; dsimp only [go_sem, Nat.reduceAdd, Nat.reduceMul, Nat.reduceSub]
  simp [inR]
theorem spanned_ok (s : Span) (lo hi : Int) : Ct Try.prog 87 [.agg (spanL s), I lo, I hi] (B (okSp lo hi s)) := by
  refine t87 (by simp [spanL, KFL, KF]) (by simp [KFL, KF]) ?_
  dsimp only [c87, r87, spanL, go_sem, Nat.reduceAdd, Nat.reduceMul, Nat.reduceSub]
  refine call (within_ok _ _ _) ?_
  dsimp only [go_sem, Nat.reduceAdd, Nat.reduceMul, Nat.reduceSub]
  repeat (refine gb ?_; dsimp only [go_sem, Nat.reduceAdd, Nat.reduceMul, Nat.reduceSub])
  (simp only [okSp, inR, Option.some.injEq, SV.v.injEq, Value.bool.injEq] <;> grind)
theorem from1_ok (lo hi x : Int) : Ct Try.prog 92 [I x, .ps [I lo] 0, .ps [I hi] 0] (B (!inR lo hi x)) := by
  refine t92 (by simp [KFL, KF]) (by simp [KFL, KF]) ?_
  dsimp only [c92, r92, go_sem, Nat.reduceAdd, Nat.reduceMul, Nat.reduceSub]
  repeat (refine gb ?_; dsimp only [go_sem, Nat.reduceAdd, Nat.reduceMul, Nat.reduceSub])
  (simp only [inR, Option.some.injEq, SV.v.injEq, Value.bool.injEq] <;> grind)
theorem from_any (lo hi : Int) (l : List Int) (hl : l.length < 4611686018427387904) (c : Bool) : Ct Try.prog 64 [I lo, I hi, .sl c 1 (l.map intL)] (B (l.all (inR lo hi))) := by
  refine t64 (by simp [KFR_iff, intL, KFL, KF]) (by simp [KFL, KF]) ?_
  dsimp only [c64, r64, go_sem, Nat.reduceAdd, Nat.reduceMul, Nat.reduceSub]
  refine callv (by simp [FLT]) (res := B (l.any fun x => !inR lo hi x)) ?_ ?_
  · dsimp only [go_sem, Nat.reduceAdd, Nat.reduceMul, Nat.reduceSub]
    exact con91 92 [.ps [I lo] 0, .ps [I hi] 0] (by simp [KFL, KF]) (fun x => !inR lo hi x) l (fun x _ => from1_ok lo hi x) hl
  · dsimp only [go_sem, Nat.reduceAdd, Nat.reduceMul, Nat.reduceSub]
    simp [List.all_eq_not_any_not]
theorem from1 (lo hi a : Int) (c : Bool) : Ct Try.prog 64 [I lo, I hi, .sl c 1 [[I a]]] (B (inR lo hi a)) := by
  have := from_any lo hi [a] (by simp) c
  simpa [intL] using this
theorem from2 (lo hi a b : Int) (c : Bool) : Ct Try.prog 64 [I lo, I hi, .sl c 1 [[I a], [I b]]] (B (inR lo hi a && inR lo hi b)) := by
  have := from_any lo hi [a, b] (by simp) c
  simpa [intL] using this
theorem ordered1_ok (lo hi : Int) (s : Span) : Ct Try.prog 94 [.agg (spanL s), .ps [I lo] 0, .ps [I hi] 0] (B (!okSp lo hi s)) := by
  refine t94 (by simp [spanL, KFL, KF]) (by simp [KFL, KF]) ?_
  dsimp only [c94, r94, spanL, go_sem, Nat.reduceAdd, Nat.reduceMul, Nat.reduceSub]
  repeat (first | (refine gb ?_; dsimp only [go_sem, Nat.reduceAdd, Nat.reduceMul, Nat.reduceSub]) | (refine call (from2 _ _ _ _ _) ?_; dsimp only [go_sem, Nat.reduceAdd, Nat.reduceMul, Nat.reduceSub]))
  (simp only [okSp, inR, Option.some.injEq, SV.v.injEq, Value.bool.injEq] <;> grind)
theorem ordered_any (lo hi : Int) (l : List Span) (hl : l.length < 4611686018427387904) (c : Bool) : Ct Try.prog 65 [I lo, I hi, .sl c 2 (l.map spanL)] (B (l.all (okSp lo hi))) := by
  refine t65 (by simp [KFR_iff, spanL, KFL, KF]) (by simp [KFL, KF]) ?_
  dsimp only [c65, r65, go_sem, Nat.reduceAdd, Nat.reduceMul, Nat.reduceSub]
  refine callv (by simp [FLT]) (res := B (l.any fun x => !okSp lo hi x)) ?_ ?_
  · dsimp only [go_sem, Nat.reduceAdd, Nat.reduceMul, Nat.reduceSub]
    exact con93 94 [.ps [I lo] 0, .ps [I hi] 0] (by simp [KFL, KF]) (fun x => !okSp lo hi x) l (fun x _ => ordered1_ok lo hi x) hl
  · dsimp only [go_sem, Nat.reduceAdd, Nat.reduceMul, Nat.reduceSub]
    simp [List.all_eq_not_any_not]
theorem ordered1 (lo hi : Int) (s : Span) (c : Bool) : Ct Try.prog 65 [I lo, I hi, .sl c 2 [[I s.lo, I s.hi]]] (B (okSp lo hi s)) := by
  have := ordered_any lo hi [s] (by simp) c
  simpa [spanL] using this
theorem ordered2 (lo hi : Int) (s t : Span) (c : Bool) : Ct Try.prog 65 [I lo, I hi, .sl c 2 [[I s.lo, I s.hi], [I t.lo, I t.hi]]] (B (okSp lo hi s && okSp lo hi t)) := by
  have := ordered_any lo hi [s, t] (by simp) c
  simpa [spanL] using this
theorem ordered6 (lo hi : Int) (a b c d e f : Span) (k : Bool) : Ct Try.prog 65 [I lo, I hi, .sl k 2 [[I a.lo, I a.hi], [I b.lo, I b.hi], [I c.lo, I c.hi], [I d.lo, I d.hi], [I e.lo, I e.hi], [I f.lo, I f.hi]]]
    (B (okSp lo hi a && (okSp lo hi b && (okSp lo hi c && (okSp lo hi d && (okSp lo hi e && okSp lo hi f)))))) := by
  have := ordered_any lo hi [a, b, c, d, e, f] (by simp) k
  simpa [spanL] using this
theorem ordered3 (lo hi : Int) (a b c : Span) (k : Bool) : Ct Try.prog 65 [I lo, I hi, .sl k 2 [[I a.lo, I a.hi], [I b.lo, I b.hi], [I c.lo, I c.hi]]] (B (okSp lo hi a && (okSp lo hi b && okSp lo hi c))) := by
  have := ordered_any lo hi [a, b, c] (by simp) k
  simpa [spanL] using this
theorem checkBreed_ok (b : Breed) : Ct Try.prog 20 [.agg (breedL b)] (I (errB b)) := by
  refine t20 (by simp [breedL, KFL, KF]) (by simp [KFL, KF]) ?_
  dsimp only [c20, r20, breedL, go_sem, Nat.reduceAdd, Nat.reduceMul, Nat.reduceSub]
  repeat (first | (refine gb ?_; dsimp only [go_sem, Nat.reduceAdd, Nat.reduceMul, Nat.reduceSub]) | (refine call (from1 _ _ _ _) ?_; dsimp only [go_sem, Nat.reduceAdd, Nat.reduceMul, Nat.reduceSub]) | (refine call (from2 _ _ _ _ _) ?_; dsimp only [go_sem, Nat.reduceAdd, Nat.reduceMul, Nat.reduceSub]) | (refine call (ordered6 _ _ b.rest b.heat b.toil b.burn b.rub b.milk _) ?_; dsimp only [go_sem, Nat.reduceAdd, Nat.reduceMul, Nat.reduceSub]) | (refine call (ordered1 _ _ b.strong _) ?_; dsimp only [go_sem, Nat.reduceAdd, Nat.reduceMul, Nat.reduceSub]))
  refine br ?_ ?_
  · intro h
    dsimp only [go_sem, Nat.reduceAdd, Nat.reduceMul, Nat.reduceSub]
    have : okBreed b = false := by simp only [okBreed]; grind
    simp [errB, this]
  · intro h
    dsimp only [go_sem, Nat.reduceAdd, Nat.reduceMul, Nat.reduceSub]
    have : okBreed b = true := by simp only [okBreed]; grind
    simp [errB, this]
theorem breedR_ok (b : Breed) : Ct Try.prog 61 [.agg (breedL b)] (B (okBreed b)) := by
  refine t61 (by simp [breedL, KFL, KF]) (by simp [KFL, KF]) ?_
  dsimp only [c61, r61, breedL, go_sem, Nat.reduceAdd, Nat.reduceMul, Nat.reduceSub]
  repeat (first | (refine gb ?_; dsimp only [go_sem, Nat.reduceAdd, Nat.reduceMul, Nat.reduceSub]) | (refine call (within_ok _ _ _) ?_; dsimp only [go_sem, Nat.reduceAdd, Nat.reduceMul, Nat.reduceSub]) | (refine call (spanned_ok b.strong _ _) ?_; dsimp only [go_sem, Nat.reduceAdd, Nat.reduceMul, Nat.reduceSub]))
  refine br ?_ ?_
  · intro h
    dsimp only [go_sem, Nat.reduceAdd, Nat.reduceMul, Nat.reduceSub]
    have : okBreed b = false := by simp only [okBreed]; grind
    simp [this]
  · intro h
    dsimp only [go_sem, Nat.reduceAdd, Nat.reduceMul, Nat.reduceSub]
    repeat (first | (refine gb ?_; dsimp only [go_sem, Nat.reduceAdd, Nat.reduceMul, Nat.reduceSub]) | (refine call (spanned_ok b.rest _ _) ?_; dsimp only [go_sem, Nat.reduceAdd, Nat.reduceMul, Nat.reduceSub]) | (refine call (spanned_ok b.heat _ _) ?_; dsimp only [go_sem, Nat.reduceAdd, Nat.reduceMul, Nat.reduceSub]) | (refine call (spanned_ok b.toil _ _) ?_; dsimp only [go_sem, Nat.reduceAdd, Nat.reduceMul, Nat.reduceSub]) | (refine call (spanned_ok b.burn _ _) ?_; dsimp only [go_sem, Nat.reduceAdd, Nat.reduceMul, Nat.reduceSub]) | (refine call (spanned_ok b.rub _ _) ?_; dsimp only [go_sem, Nat.reduceAdd, Nat.reduceMul, Nat.reduceSub]) | (refine call (spanned_ok b.milk _ _) ?_; dsimp only [go_sem, Nat.reduceAdd, Nat.reduceMul, Nat.reduceSub]))
    (simp only [okBreed, Option.some.injEq, SV.v.injEq, Value.bool.injEq] <;> grind)
theorem checkBreedR_ok (b : Breed) : Ct Try.prog 21 [.agg (breedL b)] (I (errB b)) := by
  refine t21 (by simp [breedL, KFL, KF]) (by simp [KFL, KF]) ?_
  dsimp only [c21, r21, breedL, go_sem, Nat.reduceAdd, Nat.reduceMul, Nat.reduceSub]
  refine call (breedR_ok b) ?_
  dsimp only [go_sem, Nat.reduceAdd, Nat.reduceMul, Nat.reduceSub]
  refine br ?_ ?_
  · intro h
    dsimp only [go_sem, Nat.reduceAdd, Nat.reduceMul, Nat.reduceSub]
    have : okBreed b = false := by simpa using h
    simp [errB, this]
  · intro h
    dsimp only [go_sem, Nat.reduceAdd, Nat.reduceMul, Nat.reduceSub]
    have : okBreed b = true := by simpa using h
    simp [errB, this]
theorem checkCamel_ok (b : Breed) (c : Camel) : Ct Try.prog 22 [.agg (breedL b), .agg (camelL c)] (I (errC b c)) := by
  refine t22 (by simp [breedL, camelL, KFL, KF]) (by simp [KFL, KF]) ?_
  dsimp only [c22, r22, breedL, camelL, go_sem, Nat.reduceAdd, Nat.reduceMul, Nat.reduceSub]
  refine call (checkBreed_ok b) ?_
  dsimp only [go_sem, Nat.reduceAdd, Nat.reduceMul, Nat.reduceSub]
  by_cases hb : okBreed b = true
  case neg =>
    refine br_t (by simp [errB, hb]) ?_
    dsimp only [go_sem, Nat.reduceAdd, Nat.reduceMul, Nat.reduceSub]
    simp [errB, errC, hb]
  refine br_f (by simp [errB, hb]) ?_
  dsimp only [go_sem, Nat.reduceAdd, Nat.reduceMul, Nat.reduceSub]
  repeat (first | (refine gb ?_; dsimp only [go_sem, Nat.reduceAdd, Nat.reduceMul, Nat.reduceSub]) | (refine call (ordered1 _ _ c.water _) ?_; dsimp only [go_sem, Nat.reduceAdd, Nat.reduceMul, Nat.reduceSub]) | (refine call (ordered1 _ _ c.fat _) ?_; dsimp only [go_sem, Nat.reduceAdd, Nat.reduceMul, Nat.reduceSub]) | (refine call (ordered1 _ _ c.sore _) ?_; dsimp only [go_sem, Nat.reduceAdd, Nat.reduceMul, Nat.reduceSub]))
  refine br ?_ ?_
  · intro h
    dsimp only [go_sem, Nat.reduceAdd, Nat.reduceMul, Nat.reduceSub]
    have : okCamel b c = false := by simp only [okCamel]; grind
    simp [errC, this, hb]
  · intro h
    dsimp only [go_sem, Nat.reduceAdd, Nat.reduceMul, Nat.reduceSub]
    have : okCamel b c = true := by simp only [okCamel]; grind
    simp [errC, this, hb]
theorem camelR_ok (b : Breed) (c : Camel) : Ct Try.prog 42 [.agg (breedL b), .agg (camelL c)] (B (okCamel b c)) := by
  refine t42 (by simp [breedL, camelL, KFL, KF]) (by simp [KFL, KF]) ?_
  dsimp only [c42, r42, breedL, camelL, go_sem, Nat.reduceAdd, Nat.reduceMul, Nat.reduceSub]
  repeat (first | (refine gb ?_; dsimp only [go_sem, Nat.reduceAdd, Nat.reduceMul, Nat.reduceSub]) | (refine call (spanned_ok c.water _ _) ?_; dsimp only [go_sem, Nat.reduceAdd, Nat.reduceMul, Nat.reduceSub]) | (refine call (spanned_ok c.fat _ _) ?_; dsimp only [go_sem, Nat.reduceAdd, Nat.reduceMul, Nat.reduceSub]) | (refine call (spanned_ok c.sore _ _) ?_; dsimp only [go_sem, Nat.reduceAdd, Nat.reduceMul, Nat.reduceSub]))
  (simp only [okCamel, Option.some.injEq, SV.v.injEq, Value.bool.injEq] <;> grind)
theorem checkCamelR_ok (b : Breed) (c : Camel) : Ct Try.prog 23 [.agg (breedL b), .agg (camelL c)] (I (errC b c)) := by
  refine t23 (by simp [breedL, camelL, KFL, KF]) (by simp [KFL, KF]) ?_
  dsimp only [c23, r23, breedL, camelL, go_sem, Nat.reduceAdd, Nat.reduceMul, Nat.reduceSub]
  refine call (breedR_ok b) ?_
  dsimp only [go_sem, Nat.reduceAdd, Nat.reduceMul, Nat.reduceSub]
  by_cases hb : okBreed b = true
  case neg =>
    refine br_t (by simp [hb]) ?_
    dsimp only [go_sem, Nat.reduceAdd, Nat.reduceMul, Nat.reduceSub]
    simp [errC, hb]
  refine br_f (by simp [hb]) ?_
  dsimp only [go_sem, Nat.reduceAdd, Nat.reduceMul, Nat.reduceSub]
  refine call (camelR_ok b c) ?_
  dsimp only [go_sem, Nat.reduceAdd, Nat.reduceMul, Nat.reduceSub]
  refine br ?_ ?_
  · intro h
    dsimp only [go_sem, Nat.reduceAdd, Nat.reduceMul, Nat.reduceSub]
    have : okCamel b c = false := by simpa using h
    simp [errC, this, hb]
  · intro h
    dsimp only [go_sem, Nat.reduceAdd, Nat.reduceMul, Nat.reduceSub]
    have : okCamel b c = true := by simpa using h
    simp [errC, this, hb]
theorem marchR_ok (m : March) : Ct Try.prog 62 [.agg (marchL m)] (B (okMarch m)) := by
  refine t62 (by simp [marchL, KFL, KF]) (by simp [KFL, KF]) ?_
  dsimp only [c62, r62, marchL, go_sem, Nat.reduceAdd, Nat.reduceMul, Nat.reduceSub]
  repeat (first | (refine gb ?_; dsimp only [go_sem, Nat.reduceAdd, Nat.reduceMul, Nat.reduceSub]) | (refine call (within_ok _ _ _) ?_; dsimp only [go_sem, Nat.reduceAdd, Nat.reduceMul, Nat.reduceSub]) | (refine call (spanned_ok m.heat _ _) ?_; dsimp only [go_sem, Nat.reduceAdd, Nat.reduceMul, Nat.reduceSub]) | (refine call (spanned_ok m.grass _ _) ?_; dsimp only [go_sem, Nat.reduceAdd, Nat.reduceMul, Nat.reduceSub]) | (refine call (spanned_ok m.drinks _ _) ?_; dsimp only [go_sem, Nat.reduceAdd, Nat.reduceMul, Nat.reduceSub]))
  (simp only [okMarch, Option.some.injEq, SV.v.injEq, Value.bool.injEq] <;> grind)
theorem checkDays_ok (l : List March) (hl : l.length < 4611686018427387904) (c : Bool) : Ct Try.prog 59 [.sl c 8 (l.map marchL)] (I (if l.all okMarch = true then 0 else 12)) := by
  refine t59 (by simp [marchL, KFR_iff, KFL, KF]) (by simp [KFL, KF]) ?_
  dsimp only [c59, r59, go_sem, Nat.reduceAdd, Nat.reduceMul, Nat.reduceSub]
  refine loopO (fun k : Nat => [(7, I k)]) (fun _ => []) (fun k => k ≤ l.length ∧ (l.drop k).all okMarch = l.all okMarch) (fun k => l.length - k) 0 ⟨Nat.zero_le _, rfl⟩ ?_ ?_
  · (refine ent_id ?_ ?_ ?_ rfl rfl <;> dsimp only [marchL, id, go_sem, Nat.reduceAdd, Nat.reduceMul, Nat.reduceSub] <;> simp [marchL, KFR_iff, KFR_app, KFR, KFL, KF, mtL_same, mtO, Nat.beq_refl])
  intro k ⟨hk, hi⟩
  dsimp only [go_sem, Nat.reduceAdd, Nat.reduceMul, Nat.reduceSub]
  by_cases hlt : k < l.length
  · refine br_t (by simpa using hlt) ?_
    dsimp only [go_sem, Nat.reduceAdd, Nat.reduceMul, Nat.reduceSub]
    refine ixs_map k hlt rfl ?_
    dsimp only [marchL, go_sem, Nat.reduceAdd, Nat.reduceMul, Nat.reduceSub]
    repeat (first | (refine gb ?_; dsimp only [go_sem, Nat.reduceAdd, Nat.reduceMul, Nat.reduceSub]) | (refine call (from1 _ _ _ _) ?_; dsimp only [go_sem, Nat.reduceAdd, Nat.reduceMul, Nat.reduceSub]) | (refine call (ordered1 _ _ l[k].heat _) ?_; dsimp only [go_sem, Nat.reduceAdd, Nat.reduceMul, Nat.reduceSub]) | (refine call (ordered2 _ _ l[k].grass l[k].drinks _) ?_; dsimp only [go_sem, Nat.reduceAdd, Nat.reduceMul, Nat.reduceSub]))
    rw [List.drop_eq_getElem_cons hlt, List.all_cons] at hi
    refine br ?_ ?_
    · intro h
      dsimp only [go_sem, Nat.reduceAdd, Nat.reduceMul, Nat.reduceSub]
      have : okMarch l[k] = false := by simp only [okMarch]; grind
      rw [← hi, this]; rfl
    · intro h
      dsimp only [go_sem, Nat.reduceAdd, Nat.reduceMul, Nat.reduceSub]
      have : okMarch l[k] = true := by simp only [okMarch]; grind
      rw [this, Bool.true_and] at hi
      rw [w64_in (n := (k : Int) + 1) (by omega) (by omega)]
      refine ⟨k + 1, ⟨hlt, hi⟩, by omega, ?_⟩
      (refine ent_id ?_ ?_ ?_ rfl rfl <;> dsimp only [marchL, id, go_sem, Nat.reduceAdd, Nat.reduceMul, Nat.reduceSub] <;> simp [marchL, KFR_iff, KFR_app, KFR, KFL, KF, mtL_same, mtO, Nat.beq_refl])
  · refine br_f (by simp; omega) ?_
    dsimp only [go_sem, Nat.reduceAdd, Nat.reduceMul, Nat.reduceSub]
    have hke : k = l.length := by omega
    subst hke
    rw [List.drop_length] at hi
    rw [← hi]; rfl
theorem checkDay1 (m : March) (c : Bool) : Ct Try.prog 59 [.sl c 8 [marchL m]] (I (if okMarch m = true then 0 else 12)) := by
  have := checkDays_ok [m] (by simp) c
  simpa using this
end Go.Proofs.Ytnlfjchbhgikaaa
