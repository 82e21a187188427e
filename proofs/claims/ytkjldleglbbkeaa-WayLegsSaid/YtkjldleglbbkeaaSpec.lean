/- plain words for the chapter on ways: no program in sight -/
namespace Go.Azalai
structure Span where
  lo : Int
  hi : Int
deriving DecidableEq
structure Well where
  x : Int
  y : Int
  depth : Int
  yld : Span
  room : Int
  has : Span
  owner : Int
deriving DecidableEq
structure Gate where
  opens : Span
  shuts : Span
deriving DecidableEq
structure Leg where
  a : Int
  b : Int
  long : Span
  gates : List Gate
deriving DecidableEq
structure Land where
  wells : List Well
  legs : List Leg
deriving DecidableEq
structure Draw where
  well : Int
  day : Int
  water : Int
deriving DecidableEq
def inR (lo hi n : Int) : Bool := decide (lo ≤ n ∧ n ≤ hi)
def okSp (lo hi : Int) (s : Span) : Bool := decide (lo ≤ s.lo ∧ s.lo ≤ s.hi ∧ s.hi ≤ hi)
def okWell (w : Well) : Bool :=
  inR (-10000000) 10000000 w.x && inR (-10000000) 10000000 w.y && inR 0 200 w.depth && okSp 0 10000000 w.yld && inR 0 1000000000 w.room && okSp 0 w.room w.has && inR 0 9999 w.owner
def okGates (next : Int) : List Gate → Bool
  | [] => true
  | g :: r => okSp 0 100000 g.opens && okSp 0 100000 g.shuts && inR next g.shuts.hi g.opens.lo && okGates (g.shuts.hi + 1) r
def okLeg (n : Int) (x : Leg) : Bool :=
  inR 0 (n - 1) x.a && inR 0 (n - 1) x.b && x.a != x.b && okSp 1 1000000 x.long && decide (x.gates.length ≤ 6) && okGates 0 x.gates
def okLand (l : Land) : Bool :=
  inR 1 12 l.wells.length && decide (l.legs.length ≤ 24) && l.wells.all okWell && l.legs.all (okLeg l.wells.length)
def idxF {α : Type} (g : α → Bool) : List α → Nat → Int
  | [], _ => -1
  | x :: l, k => if g x then k else idxF g l (k + 1)
theorem idxF_ge {α : Type} (g : α → Bool) : ∀ (l : List α) (k : Nat), decide (idxF g l k ≥ 0) = l.any g
  | [], k => by simp [idxF]
  | x :: l, k => by
    simp only [idxF, List.any_cons]
    by_cases hg : g x = true
    · simp [hg]
    · simpa [hg] using idxF_ge g l (k + 1)
def filled (w : Well) (has : Span) (days : Int) : Span := ⟨min w.room (has.lo + days * w.yld.lo), min w.room (has.hi + days * w.yld.hi)⟩
def okDraws (n last : Int) : List Draw → Bool
  | [] => true
  | x :: r => inR 0 (n - 1) x.well && inR last 100000 x.day && inR 0 1000000000 x.water && okDraws n x.day r
def waterL (w : Well) (well day : Int) (now : Span) (evening : Int) (i : Nat) : List Draw → Span × Int × Int
  | [] => (filled w now (day - 1 - evening), 0, 0)
  | x :: r =>
    if (x.well != well || decide (x.day ≥ day)) = true then waterL w well day now evening (i + 1) r
    else
      let f := filled w now (x.day - evening)
      if f.hi < x.water then (⟨0, 0⟩, i, 33) else waterL w well day ⟨max 0 (f.lo - x.water), f.hi - x.water⟩ x.day (i + 1) r
def waterF (l : Land) (well : Int) (draws : List Draw) (day : Int) : Span × Int × Int :=
  if okLand l = false then (⟨0, 0⟩, 0, 30)
  else if (inR 0 (l.wells.length - 1) well && inR 0 100000 day) = false then (⟨0, 0⟩, 0, 2)
  else if draws.length > 200 then (⟨0, 0⟩, 0, 4)
  else if okDraws l.wells.length 0 draws = false then (⟨0, 0⟩, 0, 32)
  else match l.wells[well.toNat]? with
    | some w => waterL w well day w.has (-1) 0 draws
    | none => (⟨0, 0⟩, 0, 0)
def workF (l : Land) (well water teams : Int) : Int × Int :=
  if okLand l = false then (0, 30)
  else if (inR 0 (l.wells.length - 1) well && inR 0 1000000000 water && inR 1 100 teams) = false then (0, 2)
  else match l.wells[well.toNat]? with
    | some w => ((water * w.depth + 1000000 * teams - 1).tdiv (1000000 * teams), 0)
    | none => (0, 0)
/-- a land with few parts -/
def Small (l : Land) : Prop := l.wells.length ≤ 1000 ∧ l.legs.length ≤ 1000 ∧ ∀ x ∈ l.legs, x.gates.length ≤ 1000
def greatF (l : Land) : Bool := decide (l.wells.length > 20) || decide (l.legs.length > 40) || l.legs.any fun x => decide (x.gates.length > 20)
theorem okLand_well {l : Land} (h : okLand l = true) : ∀ w ∈ l.wells, okWell w = true := by
  simp only [okLand, Bool.and_eq_true, List.all_eq_true] at h; exact h.1.2
theorem okLand_len {l : Land} (h : okLand l = true) : 1 ≤ l.wells.length ∧ l.wells.length ≤ 12 ∧ l.legs.length ≤ 24 := by
  simp only [okLand, Bool.and_eq_true, inR, decide_eq_true_eq] at h; omega
theorem okDraws_mem {n : Int} : ∀ {l : List Draw} {last : Int}, okDraws n last l = true → 0 ≤ last → ∀ x ∈ l, 0 ≤ x.day ∧ x.day ≤ 100000 ∧ 0 ≤ x.water ∧ x.water ≤ 1000000000
  | [], _, _, _, x, h => by simp at h
  | y :: l, last, h, h0, x, hx => by
    simp only [okDraws, Bool.and_eq_true, inR, decide_eq_true_eq] at h
    rcases List.mem_cons.1 hx with rfl | hx
    · omega
    · exact okDraws_mem h.2 (by omega) x hx
end Go.Azalai
