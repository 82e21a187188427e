/- plain words for the chapter on camels: no program in sight -/
namespace Go.Azalai
structure Span where
  lo : Int
  hi : Int
deriving DecidableEq
structure Breed where
  full : Int
  fed : Int
  rest : Span
  heat : Span
  toil : Span
  burn : Span
  rub : Span
  milk : Span
  heal : Int
  strong : Span
deriving DecidableEq
structure Camel where
  water : Span
  fat : Span
  sore : Span
  milks : Bool
deriving DecidableEq
structure March where
  hours : Int
  load : Int
  heat : Span
  grass : Span
  drinks : Span
deriving DecidableEq
def inR (lo hi n : Int) : Bool := decide (lo ≤ n ∧ n ≤ hi)
def okSp (lo hi : Int) (s : Span) : Bool := decide (lo ≤ s.lo ∧ s.lo ≤ s.hi ∧ s.hi ≤ hi)
def okBreed (b : Breed) : Bool :=
  inR 1 1000000 b.full && inR 1 1000000 b.fed && inR 0 1000 b.heal && okSp 0 1000000 b.strong && okSp 0 100000 b.rest && okSp 0 100000 b.heat && okSp 0 100000 b.toil && okSp 0 100000 b.burn && okSp 0 100000 b.rub && okSp 0 100000 b.milk
def okCamel (b : Breed) (c : Camel) : Bool := okSp 0 b.full c.water && okSp 0 b.fed c.fat && okSp 0 1000 c.sore
def okMarch (m : March) : Bool := inR 0 24 m.hours && inR 0 1000000 m.load && okSp 0 60 m.heat && okSp 0 1000000 m.grass && okSp 0 1000000 m.drinks
def errB (b : Breed) : Int := if okBreed b = true then 0 else 10
def errC (b : Breed) (c : Camel) : Int := if okBreed b = false then 10 else if okCamel b c = false then 11 else 0
def upF (a b : Int) : Int := (a + b - 1).tdiv b
def zeroS : Span := ⟨0, 0⟩
def fitF (b : Breed) (c : Camel) : Span :=
  ⟨min 1000 (min ((2000 * c.water.lo).tdiv b.full) (min ((2000 * c.fat.lo).tdiv b.fed) (1000 - c.sore.hi))), min 1000 (min (upF (2000 * c.water.hi) b.full) (min (upF (2000 * c.fat.hi) b.fed) (1000 - c.sore.lo)))⟩
def carF (b : Breed) (c : Camel) : Span := ⟨(b.strong.lo * (fitF b c).lo).tdiv 1000, upF (b.strong.hi * (fitF b c).hi) 1000⟩
def workF (m : March) : Int := m.hours * (100000 + m.load)
def costW (b : Breed) (milks : Bool) (m : March) : Span :=
  ⟨b.rest.lo + b.heat.lo * max 0 (m.heat.lo - 20) + (b.toil.lo * workF m).tdiv 100000 + (if milks then b.milk.lo else 0), b.rest.hi + b.heat.hi * max 0 (m.heat.hi - 20) + upF (b.toil.hi * workF m) 100000 + (if milks then b.milk.hi else 0)⟩
def costF (b : Breed) (m : March) : Span := ⟨(b.burn.lo * workF m).tdiv 100000, upF (b.burn.hi * workF m) 100000⟩
theorem tdiv_bd {a A d : Int} (h0 : 0 ≤ a) (h1 : a ≤ A) (hd : 1 ≤ d) : 0 ≤ a.tdiv d ∧ a.tdiv d ≤ A :=
  ⟨Int.tdiv_nonneg h0 (by omega), Int.le_trans (Int.tdiv_le_self d h0) h1⟩
theorem up_bd {a A d : Int} (h0 : 0 ≤ a) (h1 : a ≤ A) (hd : 1 ≤ d) : 0 ≤ upF a d ∧ upF a d ≤ A + d := by
  have := tdiv_bd (a := a + d - 1) (A := A + d) (d := d) (by omega) (by omega) hd
  exact this

def idxF {α : Type} (g : α → Bool) : List α → Nat → Int
  | [], _ => -1
  | x :: l, k => if g x then k else idxF g l (k + 1)
theorem idxF_ge {α : Type} (g : α → Bool) : ∀ (l : List α) (k : Nat), decide (idxF g l k ≥ 0) = l.any g
  | [], k => by simp [idxF]
  | x :: l, k => by
    simp only [idxF, List.any_cons]
    by_cases hg : g x = true
    · simp [hg]
    · simpa [hg] using idxF_ge g l (k + 1)
end Go.Azalai
