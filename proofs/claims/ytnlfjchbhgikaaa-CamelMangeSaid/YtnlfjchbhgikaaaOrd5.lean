import Derived.Test.YtnlfjchbhgikaaaOrd4
namespace Go.Azalai
/-! sorted blocks of one length -/
section
variable {α : Type} (key : α → Int)
/-- among the places from a to b, those of one block are sorted -/
def Blk (s a b : Nat) (l : List α) : Prop := ∀ p q, a ≤ p → p < q → q < b → p / s = q / s → ky key l p ≤ ky key l q
theorem blk_none {s : Nat} {l : List α} : Blk key s 0 0 l := fun p q h1 h2 h3 => by omega
/-- a place not before a block's begin lies in this block or behind -/
theorem in_blk {s c p q : Nat} (h : p / s = q / s) (h1 : s * c ≤ q) (hs : 0 < s) : s * c ≤ p := by
  have e1 : c ≤ q / s := (Nat.le_div_iff_mul_le hs).2 (by rw [Nat.mul_comm]; exact h1)
  rw [← h] at e1
  have := (Nat.le_div_iff_mul_le hs).1 e1
  rwa [Nat.mul_comm] at this
theorem blk_step {s c b : Nat} {l l' : List α} (hs : 0 < s) (h : Blk key s 0 (s * c) l) (hp : PIn (s * c) b l l') (h' : Srt key (s * c) b l') : Blk key s 0 b l' := fun p q g1 g2 g3 e => by
  by_cases hq : q < s * c
  · rw [hp.ky key (.inl (by omega)), hp.ky key (.inl hq)]; exact h p q g1 g2 hq e
  · exact h' p q (in_blk e (by omega) hs) g2 g3
theorem blk_rest {s a b n : Nat} {l l' : List α} (h : Blk key s a n l) (hp : PIn a b l l') (hab : a ≤ b) : Blk key s b n l' := fun p q g1 g2 g3 e => by
  rw [hp.ky key (.inr g1), hp.ky key (.inr (by omega))]; exact h p q (by omega) g2 g3 e
theorem same_blk {s c p : Nat} (h1 : s * c ≤ p) (h2 : p < s * c + s) : p / s = c := by
  have hs : 0 < s := by omega
  apply Nat.le_antisymm
  · have : p / s < c + 1 := (Nat.div_lt_iff_lt_mul hs).2 (by rw [Nat.add_mul, Nat.one_mul, Nat.mul_comm]; exact h2)
    omega
  · exact (Nat.le_div_iff_mul_le hs).2 (by rw [Nat.mul_comm]; exact h1)
/-- one whole block, or what is left of it -/
theorem blk_srt {s c a b n : Nat} {l : List α} (h : Blk key s a n l) (ha : a ≤ s * c) (hb : b ≤ s * c + s) (hn : b ≤ n) : Srt key (s * c) b l := fun p q g1 g2 g3 => by
  refine h p q (by omega) g2 (by omega) ?_
  rw [same_blk g1 (by omega), same_blk (c := c) (p := q) (by omega) (by omega)]
theorem blk_mono {s a a' n n' : Nat} {l : List α} (h : Blk key s a n l) (ha : a ≤ a') (hn : n' ≤ n) : Blk key s a' n' l := fun p q g1 g2 g3 => h p q (by omega) g2 (by omega)
end
end Go.Azalai
