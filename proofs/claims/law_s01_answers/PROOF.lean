import PyProof.Rows.All
import PyUw07
import PyFlatLaws
import Wide.All
import OpenK.AllK
import Wide.FinOn
import Open.SpecLaws
import KE.OsGo
import HandS.ForSpec
import HandS.Comp
import HandS.Iter
import HandS.Walk
import HandS.Evl
import HandS.Deep
import HandS.Conv
import HandS.NoneIn
import HandS.Codes
import PySem.Challenge.RW_rolecasting_s01_answers
set_option Elab.async false
/-! # The mirror: what each def of the program computes, as plain functions over one record for the play -/
namespace Rc

structure Pl where
  wage : Nat
  rate : Nat
  since : Nat
  till : Nat
  fees : List Nat
structure Pm where
  dress : List Nat
  scenes : List (Nat × List Nat)
  players : List Pl
  pieces : List (Nat × List Nat)
  pairs : List (Nat × Nat)
def Pm.init : Pm := ⟨[], [], [], [], []⟩

/-! ### clashes -/
def Pm.has (m : Pm) (i r : Nat) : Bool := ((m.scenes[i]?).map fun s => s.2.contains r).getD false
def Pm.btw (m : Pm) (i j : Nat) : Nat := (((m.scenes.take j).drop (i + 1)).map fun s => s.1).sum
def Pm.soon2 (m : Pm) (one other i j : Nat) : Bool := (m.has i one && m.has j other) && decide (m.btw i j < m.dress.getD other 0)
def Pm.soon1 (m : Pm) (one other i : Nat) : Bool := (List.range (m.scenes.length - (i + 1))).any fun d => m.soon2 one other i (i + 1 + d)
def Pm.soon (m : Pm) (one other : Nat) : Bool := (List.range m.scenes.length).any (m.soon1 one other)
def Pm.meet (m : Pm) (one other : Nat) : Bool := m.scenes.any fun s => s.2.contains one && s.2.contains other
def Pm.clash (m : Pm) (one other : Nat) : Bool := m.meet one other || (m.soon one other || m.soon other one)
def Pm.clRow (m : Pm) (a k : Nat) : List (Nat × Nat) := ((List.range k).map fun d => (a, a + 1 + d)).filter fun x => m.clash x.1 x.2
def Pm.clashes (m : Pm) : List (Nat × Nat) := (List.range m.dress.length).flatMap fun a => m.clRow a (m.dress.length - (a + 1))

/-! ### castings -/
def Pm.feeAt (m : Pm) (a r : Nat) : Nat := ((m.players[a]?).map fun p => p.fees.getD r 0).getD 0
def Pm.wageAt (m : Pm) (a : Nat) : Nat := ((m.players[a]?).map fun p => p.wage).getD 0
def Pm.wrongC (m : Pm) (cl : List (Nat × Nat)) (c : List Nat) : Option (Nat × Nat × Nat) := match (List.range c.length).find? fun r => decide (m.feeAt (c.getD r 0) r = 0) with
  | some r => some (1, r, c.getD r 0)
  | none => (cl.find? fun x => c.getD x.1 0 == c.getD x.2 0).map fun x => (2, x.1, x.2)
def list3 : Option (Nat × Nat × Nat) → List Nat
  | none => []
  | some x => [x.1, x.2.1, x.2.2]
def list2 : Option (Nat × Nat) → List Nat
  | none => []
  | some x => [x.1, x.2]
def Pm.castCost (m : Pm) (c : List Nat) : Nat := (((List.range m.players.length).filter fun a => c.contains a).map m.wageAt).sum + ((List.range c.length).map fun r => m.feeAt (c.getD r 0) r - 1).sum
def castS (n : Nat) : Nat → List (List Nat)
  | 0 => [[]]
  | k + 1 => (castS n k).flatMap fun b => (List.range n).map fun a => b ++ [a]
def Pm.rightC (m : Pm) (cl : List (Nat × Nat)) : List (List Nat) := (castS m.players.length m.dress.length).filter fun c => (m.wrongC cl c).isNone

/-! ### a day -/
def Pm.lng (m : Pm) (k : Nat) : Nat := ((m.pieces[k]?).map fun p => p.1).getD 0
def Pm.inP (m : Pm) (c : List Nat) (a k : Nat) : Bool := ((m.pieces[k]?).map fun p => p.2.any fun r => c.getD r 0 == a).getD false
def stp (L : Nat → Nat) (b : Nat → Bool) (s : Nat × Nat × Option (Nat × Nat)) (k : Nat) : Nat × Nat × Option (Nat × Nat) :=
  if b k = true then (s.1 + L k, s.2.1 + L k, some ((s.2.2.map fun x => x.1).getD s.1, s.1 + L k)) else (s.1 + L k, s.2.1, s.2.2)
def stF (L : Nat → Nat) (b : Nat → Bool) (o : List Nat) : Nat × Nat × Option (Nat × Nat) := o.foldl (stp L b) (0, 0, none)
def stL (s : Nat × Nat × Option (Nat × Nat)) : List Nat := match s.2.2 with
  | none => []
  | some x => [x.1, x.2, x.2 - x.1 - s.2.1]
def Pm.stay (m : Pm) (c o : List Nat) (a : Nat) : List Nat := stL (stF m.lng (m.inP c a) o)
def Pm.stays (m : Pm) (c o : List Nat) : List (List Nat) := (List.range m.players.length).map (m.stay c o)
def Pm.bad (m : Pm) (there : List (List Nat)) (n : Nat) : Option (Nat × Nat) := match m.players[n]?, there.getD n [] with
  | some p, x :: y :: _ => if x < p.since then some (2, n) else if p.till < y then some (3, n) else none
  | _, _ => none
def behind (o : List Nat) (x : Nat × Nat) : Bool := decide (o.idxOf x.2 < o.idxOf x.1)
def Pm.wrongO (m : Pm) (o : List Nat) (there : List (List Nat)) : Option (Nat × Nat) := match m.pairs.findIdx? (behind o) with
  | some i => some (1, i)
  | none => (List.range there.length).findSome? (m.bad there)
def Pm.rateAt (m : Pm) (a : Nat) : Nat := ((m.players[a]?).map fun p => p.rate).getD 0
def Pm.oc1 (m : Pm) (there : List (List Nat)) (n : Nat) : Nat := match there.getD n [] with
  | x :: y :: _ => m.rateAt n * (y - x)
  | _ => 0
def Pm.oCost (m : Pm) (there : List (List Nat)) : Nat := ((List.range there.length).map (m.oc1 there)).sum
def ordS (n : Nat) : Nat → List (List Nat)
  | 0 => [[]]
  | k + 1 => (ordS n k).flatMap fun b => ((List.range n).filter fun x => !b.contains x).map fun x => b ++ [x]
def Pm.orders (m : Pm) : List (List Nat) := ordS m.pieces.length m.pieces.length

/-! ### the best -/
abbrev B (α : Type) := Option (Nat × Nat × α)
def put {α : Type} (b : B α) (cost many : Nat) (x : α) : B α := match b with
  | none => some (cost, many, x)
  | some y => if cost < y.1 then some (cost, many, x) else if cost = y.1 then some (y.1, y.2.1 + many, y.2.2) else some y
def Pm.bo1 (m : Pm) (c : List Nat) (b : B (List Nat)) (o : List Nat) : B (List Nat) := if (m.wrongO o (m.stays c o)).isNone = true then put b (m.oCost (m.stays c o)) 1 o else b
def Pm.bestO (m : Pm) (c : List Nat) (os : List (List Nat)) : B (List Nat) := os.foldl (m.bo1 c) none
def Pm.bp1 (m : Pm) (b : B (List Nat × List Nat)) (c : List Nat) : B (List Nat × List Nat) := match m.bestO c m.orders with
  | none => b
  | some y => put b (m.castCost c + y.1) y.2.1 (c, y.2.2)
def Pm.bestP (m : Pm) (cl : List (Nat × Nat)) : B (List Nat × List Nat) := (m.rightC cl).foldl m.bp1 none
def Pm.bc1 (m : Pm) (b : B (List Nat)) (c : List Nat) : B (List Nat) := put b (m.castCost c) 1 c
def Pm.bestC (m : Pm) (cl : List (Nat × Nat)) : B (List Nat) := (m.rightC cl).foldl m.bc1 none

/-! ### the calls -/
def ns (l : List Nat) : List Int := l.map fun (x : Nat) => (x : Int)
def lst (l : List Nat) : List Int := ((l.length : Nat) : Int) :: ns l
def risingAt (l : List Nat) : Bool := (List.range (l.length - 1)).all fun d => decide (l.getD d 0 < l.getD (d + 1) 0)
def Pm.rise (m : Pm) (l : List Nat) : Bool := l.all (fun x => decide (x < m.dress.length)) && risingAt l
def Pm.castOk (m : Pm) (c : List Nat) : Bool := decide (c.length = m.dress.length) && c.all fun a => decide (a < m.players.length)
def isPerm (n : Nat) (o : List Nat) : Bool := decide (o.length = n) && (List.range n).all fun i => o.contains i
def aBest (m : Pm) : List Int := match m.bestP m.clashes with
  | none => [-6]
  | some y => (y.1 : Int) :: (lst [y.2.1, m.castCost y.2.2.1] ++ lst y.2.2.1 ++ lst y.2.2.2)
def aApart (m : Pm) : List Int := match m.bestC m.clashes with
  | none => [-6]
  | some y => match m.bestO y.2.2 m.orders with
    | none => [-3]
    | some z => ((y.1 + z.1 : Nat) : Int) :: (lst y.2.2 ++ lst z.2.2)
def aCheck (m : Pm) (c o : List Nat) : List Int := if (!m.castOk c || !isPerm m.pieces.length o) = true then [-1] else match m.wrongC m.clashes c with
  | some x => 0 :: lst (1 :: list3 (some x))
  | none => match m.wrongO o (m.stays c o) with
    | some x => 0 :: lst (2 :: list2 (some x))
    | none => 1 :: (lst [m.castCost c, m.oCost (m.stays c o)] ++ (m.stays c o).flatMap lst)
def aOrder (m : Pm) (c : List Nat) : List Int := if (!m.castOk c) = true then [-1] else match m.bestO c m.orders with
  | none => [-6]
  | some y => (y.1 : Int) :: (lst [y.2.1] ++ lst y.2.2)
def dBegins (m : Pm) (d : List Nat) : Pm × List Int := if d.length < 1 ∨ 5 < d.length ∨ ¬ (d.all fun x => decide (x ≤ 1000)) = true then (m, [-1]) else (⟨d, [], [], [], []⟩, [(d.length : Int)])
def dScene (m : Pm) (n : Nat) (r : List Nat) : Pm × List Int := if 1000 < n ∨ m.rise r = false then (m, [-1]) else if m.scenes.length = 10 then (m, [-5]) else ({ m with scenes := m.scenes ++ [(n, r)] }, [(m.scenes.length : Int)])
def dPlayer (m : Pm) (w r a b : Nat) (f : List Nat) : Pm × List Int := if 1000 < r ∨ b < a ∨ 3600 < b then (m, [-1]) else if m.players.length = 4 then (m, [-5]) else
  if 100000 < w ∨ f.length ≠ m.dress.length ∨ ¬ (f.all fun x => decide (x ≤ 100001)) = true then (m, [-1]) else ({ m with players := m.players ++ [⟨w, r, a, b, f⟩] }, [(m.players.length : Int)])
def dPiece (m : Pm) (n : Nat) (r : List Nat) : Pm × List Int := if n < 1 ∨ 600 < n ∨ m.rise r = false then (m, [-1]) else if m.pieces.length = 4 then (m, [-5]) else ({ m with pieces := m.pieces ++ [(n, r)] }, [(m.pieces.length : Int)])
def dAhead (m : Pm) (i j : Nat) : Pm × List Int := if m.pieces.length ≤ i ∨ m.pieces.length ≤ j then (m, [-2]) else if i = j ∨ (i, j) ∈ m.pairs then (m, [-3]) else ({ m with pairs := m.pairs ++ [(i, j)] }, [((m.pairs.length + 1 : Nat) : Int)])
def stepM (m : Pm) : Uw07.Call → Pm × List Int
  | .begins d => dBegins m d
  | .scene n r => dScene m n r
  | .player w r a b f => dPlayer m w r a b f
  | .piece n r => dPiece m n r
  | .ahead i j => dAhead m i j
  | .best => (m, aBest m)
  | .apart => (m, aApart m)
  | .check c o => (m, aCheck m c o)
  | .order c => (m, aOrder m c)

/-! ### what holds of a play; n calls were made -/
structure Pm.Ok (n : Nat) (m : Pm) : Prop where
  roles : m.dress.length ≤ 5
  nsc : m.scenes.length ≤ 10
  npl : m.players.length ≤ 4
  npc : m.pieces.length ≤ 4
  npr : m.pairs.length ≤ n
  fees : ∀ p ∈ m.players, p.fees.length = m.dress.length
  rate : ∀ p ∈ m.players, p.rate ≤ 1000
  scr : ∀ p ∈ m.scenes, p.2.length ≤ 20
  pcr : ∀ p ∈ m.pieces, p.2.length ≤ 20 ∧ ∀ r ∈ p.2, r < m.dress.length
  prs : ∀ p ∈ m.pairs, p.1 < m.pieces.length ∧ p.2 < m.pieces.length
end Rc
set_option Elab.async false
set_option linter.all false
/-! # The plain law: the mirror answers as the specification says -/
namespace Rc
/-! ### the play as the specification's house -/
def two1 (x : Nat) : Option Nat := if x = 0 then none else some (x - 1)
def Pl.two (p : Pl) : Uw02.Player := ⟨p.wage, p.fees.map two1⟩
def scTwo (s : Nat × List Nat) : Uw02.Scene := ⟨s.1, s.2⟩
def Pm.two (m : Pm) : Uw02.Play := ⟨m.dress, m.scenes.map scTwo, m.players.map Pl.two⟩
def hrs (p : Pl) : Nat × Nat × Nat := (p.rate, p.since, p.till)
def Pm.house (m : Pm) : Uw07.House := ⟨m.two, m.players.map hrs, m.pieces, m.pairs⟩

/-! ### sums -/
theorem fold_add : ∀ (l : List Nat) (a : Nat), l.foldl (fun a b => a + b) a = a + l.sum
  | [], a => rfl
  | x :: r, a => by
    rw [List.foldl_cons, fold_add r, List.sum_cons]
    omega
theorem total2 (l : List Nat) : Uw02.total l = l.sum := by
  unfold Uw02.total
  rw [fold_add]; omega
theorem total3 (l : List Nat) : Uw03.total l = l.sum := by
  unfold Uw03.total
  rw [fold_add]; omega
theorem zipIdx_map {α β : Type} (f : α → Nat → β) (d : α) : ∀ (l : List α), (l.zipIdx.map fun x => f x.1 x.2) = (List.range l.length).map fun i => f (l.getD i d) i := by
  intro l
  apply List.ext_getElem?
  intro i
  rw [List.getElem?_map, List.getElem?_map, List.getElem?_zipIdx]
  by_cases h : i < l.length
  · simp [h]
  · simp [h]

/-! ### clashes -/
theorem has_eq (m : Pm) (i r : Nat) : m.two.has i r = m.has i r := by
  unfold Uw02.Play.has Pm.has Pm.two
  simp only [List.getElem?_map]
  cases m.scenes[i]? <;> rfl
theorem btw_eq (m : Pm) (i j : Nat) : m.two.between i j = m.btw i j := by
  unfold Uw02.Play.between Pm.btw Pm.two
  rw [total2]
  simp only [← List.map_take, ← List.map_drop, List.map_map]
  rfl
theorem has_lt {m : Pm} {i r : Nat} (h : m.has i r = true) : i < m.scenes.length := by
  unfold Pm.has at h
  by_cases c : i < m.scenes.length
  · exact c
  · rw [List.getElem?_eq_none (by omega)] at h
    simp at h
theorem mem_where {m : Pm} {i r : Nat} : i ∈ m.two.where_ r ↔ m.has i r = true := by
  unfold Uw02.Play.where_
  rw [List.mem_filter, List.mem_range, has_eq]
  constructor
  · exact fun h => h.2
  · exact fun h => ⟨by have := has_lt h; simpa [Pm.two] using this, h⟩
theorem soon_iff {m : Pm} {a b : Nat} : m.soon a b = true ↔ ∃ i j, i < j ∧ m.has i a = true ∧ m.has j b = true ∧ m.btw i j < m.dress.getD b 0 := by
  unfold Pm.soon
  rw [List.any_eq_true]
  constructor
  · rintro ⟨i, hi, h⟩
    unfold Pm.soon1 at h
    rw [List.any_eq_true] at h
    obtain ⟨d, hd, h⟩ := h
    unfold Pm.soon2 at h
    simp only [Bool.and_eq_true, decide_eq_true_eq] at h
    exact ⟨i, i + 1 + d, by omega, h.1.1, h.1.2, h.2⟩
  · rintro ⟨i, j, hij, h1, h2, h3⟩
    have l1 := has_lt h1
    have l2 := has_lt h2
    refine ⟨i, List.mem_range.mpr l1, ?_⟩
    unfold Pm.soon1
    rw [List.any_eq_true]
    refine ⟨j - (i + 1), List.mem_range.mpr (by omega), ?_⟩
    have e : i + 1 + (j - (i + 1)) = j := by omega
    rw [e]
    unfold Pm.soon2
    simp only [Bool.and_eq_true, decide_eq_true_eq]
    exact ⟨⟨h1, h2⟩, h3⟩
theorem meet_iff {m : Pm} {a b : Nat} : m.meet a b = true ↔ ∃ i, m.has i a = true ∧ m.has i b = true := by
  unfold Pm.meet
  rw [List.any_eq_true]
  constructor
  · rintro ⟨s, hs, h⟩
    obtain ⟨i, hi⟩ := List.mem_iff_getElem?.mp hs
    rw [Bool.and_eq_true] at h
    refine ⟨i, ?_, ?_⟩
    · unfold Pm.has; rw [hi]; exact h.1
    · unfold Pm.has; rw [hi]; exact h.2
  · rintro ⟨i, h1, h2⟩
    have l := has_lt h1
    refine ⟨m.scenes[i], List.getElem_mem l, ?_⟩
    unfold Pm.has at h1 h2
    rw [List.getElem?_eq_getElem l] at h1 h2
    rw [Bool.and_eq_true]
    exact ⟨h1, h2⟩
theorem clash_eq (m : Pm) (r s : Nat) : (m.two.clash r s).isSome = m.clash r s := by
  rw [Bool.eq_iff_iff]
  unfold Uw02.Play.clash Pm.clash
  rw [List.find?_isSome, Bool.or_eq_true, Bool.or_eq_true, meet_iff, soon_iff, soon_iff]
  have key : ∀ x : Nat × Nat, (x ∈ (m.two.where_ r).flatMap fun i => (m.two.where_ s).map fun j => (i, j)) ↔ m.has x.1 r = true ∧ m.has x.2 s = true := by
    intro x
    rw [List.mem_flatMap]
    constructor
    · rintro ⟨i, hi, h⟩
      obtain ⟨j, hj, e⟩ := List.mem_map.mp h
      subst e
      exact ⟨mem_where.mp hi, mem_where.mp hj⟩
    · rintro ⟨h1, h2⟩
      exact ⟨x.1, mem_where.mpr h1, List.mem_map.mpr ⟨x.2, mem_where.mpr h2, rfl⟩⟩
  constructor
  · rintro ⟨x, hx, hp⟩
    obtain ⟨h1, h2⟩ := (key x).mp hx
    rw [Bool.or_eq_true] at hp
    rcases hp with e | hp
    · have e : x.1 = x.2 := by simpa using e
      exact .inl ⟨x.1, h1, by rw [e]; exact h2⟩
    · by_cases c : x.1 < x.2
      · rw [if_pos c, btw_eq] at hp
        exact .inr (.inl ⟨x.1, x.2, c, h1, h2, of_decide_eq_true hp⟩)
      · rw [if_neg c, btw_eq] at hp
        by_cases e : x.1 = x.2
        · exact .inl ⟨x.1, h1, by rw [e]; exact h2⟩
        · exact .inr (.inr ⟨x.2, x.1, by omega, h2, h1, of_decide_eq_true hp⟩)
  · rintro (⟨i, h1, h2⟩ | ⟨i, j, hij, h1, h2, h3⟩ | ⟨i, j, hij, h1, h2, h3⟩)
    · exact ⟨(i, i), (key _).mpr ⟨h1, h2⟩, by simp⟩
    · refine ⟨(i, j), (key _).mpr ⟨h1, h2⟩, ?_⟩
      rw [Bool.or_eq_true]
      refine .inr ?_
      rw [if_pos hij, btw_eq]
      exact decide_eq_true h3
    · refine ⟨(j, i), (key _).mpr ⟨h2, h1⟩, ?_⟩
      rw [Bool.or_eq_true]
      refine .inr ?_
      rw [if_neg (by show ¬ j < i; omega), btw_eq]
      exact decide_eq_true h3
theorem pairs_small : ∀ n, n ≤ 5 → Uw02.pairs n = (List.range n).flatMap fun a => (List.range (n - (a + 1))).map fun d => (a, a + 1 + d) := by
  intro n h
  have : n = 0 ∨ n = 1 ∨ n = 2 ∨ n = 3 ∨ n = 4 ∨ n = 5 := by omega
  rcases this with rfl | rfl | rfl | rfl | rfl | rfl <;> decide
theorem clashes_eq {m : Pm} (h : m.dress.length ≤ 5) : m.clashes = (Uw02.pairs m.dress.length).filter fun x => m.clash x.1 x.2 := by
  rw [pairs_small _ h, List.filter_flatMap]
  rfl

/-! ### castings -/
theorem fee_eq (m : Pm) (r a : Nat) : m.two.fee r a = two1 (m.feeAt a r) := by
  unfold Uw02.Play.fee Pm.feeAt Pm.two
  simp only [List.getElem?_map]
  cases m.players[a]? with
  | none => rfl
  | some p =>
    show (p.fees.map two1).getD r none = two1 (p.fees.getD r 0)
    rw [List.getD_eq_getElem?_getD, List.getD_eq_getElem?_getD, List.getElem?_map]
    cases p.fees[r]? <;> rfl
theorem two1_none (x : Nat) : (two1 x).isNone = decide (x = 0) := by
  unfold two1
  by_cases h : x = 0
  · rw [if_pos h, decide_eq_true h] <;> rfl
  · rw [if_neg h, decide_eq_false h] <;> rfl
theorem two1_get (x : Nat) : (two1 x).getD 0 = x - 1 := by
  unfold two1
  by_cases h : x = 0
  · rw [if_pos h, h] <;> rfl
  · rw [if_neg h] <;> rfl
theorem wrong_eq {m : Pm} {c : List Nat} (h : m.dress.length ≤ 5) (hc : c.length = m.dress.length) : m.two.wrong c = m.wrongC m.clashes c := by
  unfold Uw02.Play.wrong Pm.wrongC
  have e1 : (fun r => (m.two.fee r (c.getD r 0)).isNone) = fun r => decide (m.feeAt (c.getD r 0) r = 0) := by
    funext r
    rw [fee_eq, two1_none]
  rw [e1, clashes_eq h, List.find?_filter, hc]
  have e2 : (fun x : Nat × Nat => c.getD x.1 0 == c.getD x.2 0 && (m.two.clash x.1 x.2).isSome) = fun a => decide ((m.clash a.1 a.2 = true) ∧ (c.getD a.1 0 == c.getD a.2 0) = true) := by
    funext x
    rw [clash_eq]
    cases m.clash x.1 x.2 <;> cases (c.getD x.1 0 == c.getD x.2 0) <;> rfl
  rw [e2]
  cases (List.range m.dress.length).find? fun r => decide (m.feeAt (c.getD r 0) r = 0) <;> rfl
theorem rows_snoc (n : Nat) : ∀ k, Uw02.rows n (k + 1) = (Uw02.rows n k).flatMap fun b => (List.range n).map fun a => b ++ [a]
  | 0 => by
    show ((List.range n).flatMap fun a => ([[]] : List (List Nat)).map fun r => a :: r) = ([[]] : List (List Nat)).flatMap fun b => (List.range n).map fun a => b ++ [a]
    simp [List.flatMap_singleton']
    induction List.range n with
    | nil => rfl
    | cons x r ih => simp [ih]
  | k + 1 => by
    show ((List.range n).flatMap fun a => (Uw02.rows n (k + 1)).map fun r => a :: r) = ((List.range n).flatMap fun a => (Uw02.rows n k).map fun r => a :: r).flatMap fun b => (List.range n).map fun a => b ++ [a]
    rw [rows_snoc n k, List.flatMap_assoc]
    congr 1
    funext a
    rw [List.map_flatMap, List.flatMap_map]
    congr 1
    funext b
    rw [List.map_map]
    rfl
theorem castS_eq (n : Nat) : ∀ k, castS n k = Uw02.rows n k
  | 0 => rfl
  | k + 1 => by
    rw [rows_snoc, ← castS_eq n k]
    rfl
theorem mem_rows {n : Nat} : ∀ {k : Nat} {c : List Nat}, c ∈ Uw02.rows n k → c.length = k ∧ ∀ a ∈ c, a < n
  | 0, c, h => by
    have e : c = [] := by simpa [Uw02.rows] using h
    subst e
    exact ⟨rfl, fun a h => by simp at h⟩
  | k + 1, c, h => by
    obtain ⟨a, ha, h⟩ := List.mem_flatMap.mp (show c ∈ (List.range n).flatMap fun a => (Uw02.rows n k).map fun r => a :: r from h)
    obtain ⟨r, hr, e⟩ := List.mem_map.mp h
    subst e
    obtain ⟨h1, h2⟩ := mem_rows hr
    refine ⟨by rw [List.length_cons, h1], fun x hx => ?_⟩
    rcases List.mem_cons.mp hx with e | hx
    · rw [e]; exact List.mem_range.mp ha
    · exact h2 x hx
theorem mem_castS {n k : Nat} {c : List Nat} (h : c ∈ castS n k) : c.length = k ∧ ∀ a ∈ c, a < n := mem_rows (by rw [← castS_eq]; exact h)
theorem casts_eq {m : Pm} (h : m.dress.length ≤ 5) : m.two.casts = m.rightC m.clashes := by
  unfold Uw02.Play.casts Pm.rightC
  rw [castS_eq]
  have e : m.two.players.length = m.players.length := by simp [Pm.two]
  have e2 : m.two.dress.length = m.dress.length := rfl
  rw [e, e2]
  refine List.filter_congr fun c hc => ?_
  obtain ⟨h1, h2⟩ := mem_rows hc
  unfold Uw02.Play.right
  rw [wrong_eq h h1, e, e2]
  have a1 : (c.length == m.dress.length) = true := by simpa using h1
  have a2 : (c.all fun a => decide (a < m.players.length)) = true := by
    rw [List.all_eq_true]
    exact fun a ha => decide_eq_true (h2 a ha)
  rw [a1, a2, Bool.true_and, Bool.true_and]
theorem castCost_eq (m : Pm) (c : List Nat) : m.two.cost c = m.castCost c := by
  unfold Uw02.Play.cost Pm.castCost Uw02.Play.engaged
  rw [total2, total2]
  have e : m.two.players.length = m.players.length := by simp [Pm.two]
  rw [e, zipIdx_map (fun a r => (m.two.fee r a).getD 0) 0]
  congr 2
  · refine List.map_congr_left fun a _ => ?_
    unfold Pm.wageAt Pm.two
    simp only [List.getElem?_map]
    cases m.players[a]? <;> rfl
  · refine List.map_congr_left fun r _ => ?_
    rw [fee_eq, two1_get]
end Rc
set_option Elab.async false
set_option linter.all false
/-! # The plain law, second part: days, the best, the calls -/
namespace Rc
/-! ### a day: any pieces' lengths, any «is in it» -/
def plc (b : Nat → Bool) (o : List Nat) : List Nat := (List.range o.length).filter fun k => b (o.getD k 0)
def bg (L : Nat → Nat) (o : List Nat) (k : Nat) : Nat := ((o.take k).map L).sum
def sty (L : Nat → Nat) (b : Nat → Bool) (o : List Nat) : Option (Nat × Nat) := match (plc b o).head?, (plc b o).getLast? with
  | some k, some l => some (bg L o k, bg L o (l + 1))
  | _, _ => none
theorem getD_app {o : List Nat} {x k : Nat} (h : k < o.length) : (o ++ [x]).getD k 0 = o.getD k 0 := by
  rw [List.getD_eq_getElem?_getD, List.getD_eq_getElem?_getD, List.getElem?_append_left h]
theorem getD_end {o : List Nat} {x : Nat} : (o ++ [x]).getD o.length 0 = x := by
  rw [List.getD_eq_getElem?_getD, List.getElem?_append_right (Nat.le_refl _)]
  simp
theorem plc_snoc (b : Nat → Bool) (o : List Nat) (x : Nat) : plc b (o ++ [x]) = plc b o ++ (if b x = true then [o.length] else []) := by
  unfold plc
  rw [List.length_append, List.length_singleton, List.range_succ, List.filter_append]
  congr 1
  · refine List.filter_congr fun k hk => ?_
    rw [getD_app (List.mem_range.mp hk)]
  · rw [List.filter_cons, getD_end]
    rfl
theorem plc_lt {b : Nat → Bool} {o : List Nat} {k : Nat} (h : k ∈ plc b o) : k < o.length := List.mem_range.mp (List.mem_filter.mp h).1
theorem bg_snoc {L : Nat → Nat} {o : List Nat} {x k : Nat} (h : k ≤ o.length) : bg L (o ++ [x]) k = bg L o k := by
  unfold bg
  rw [List.take_append_of_le_length h]
theorem bg_all {L : Nat → Nat} {o : List Nat} {x : Nat} : bg L (o ++ [x]) (o.length + 1) = (o.map L).sum + L x := by
  unfold bg
  rw [List.take_of_length_le (by simp), List.map_append, List.sum_append]
  simp
theorem bg_len {L : Nat → Nat} {o : List Nat} : bg L o o.length = (o.map L).sum := by
  unfold bg
  rw [List.take_of_length_le (Nat.le_refl _)]
def wk (L : Nat → Nat) (b : Nat → Bool) (o : List Nat) : Nat := ((plc b o).map fun k => L (o.getD k 0)).sum
theorem wk_snoc (L : Nat → Nat) (b : Nat → Bool) (o : List Nat) (x : Nat) : wk L b (o ++ [x]) = wk L b o + if b x = true then L x else 0 := by
  unfold wk
  rw [plc_snoc, List.map_append, List.sum_append]
  congr 1
  · congr 1
    refine List.map_congr_left fun k hk => ?_
    rw [getD_app (plc_lt hk)]
  · by_cases c : b x = true
    · rw [if_pos c, if_pos c]
      simp
    · rw [if_neg c, if_neg c]
      rfl
theorem sty_no {L : Nat → Nat} {b : Nat → Bool} {o : List Nat} {x : Nat} (c : ¬ b x = true) : sty L b (o ++ [x]) = sty L b o := by
  unfold sty
  have e : plc b (o ++ [x]) = plc b o := by rw [plc_snoc, if_neg c, List.append_nil]
  rw [e]
  cases h1 : (plc b o).head? with
  | none => rfl
  | some k =>
    cases h2 : (plc b o).getLast? with
    | none => rfl
    | some l =>
      have k1 := plc_lt (List.mem_of_head? h1)
      have k2 := plc_lt (List.mem_of_getLast? h2)
      show some _ = some _
      rw [bg_snoc (by omega), bg_snoc (by omega)]
theorem sty_yes {L : Nat → Nat} {b : Nat → Bool} {o : List Nat} {x : Nat} (c : b x = true) : sty L b (o ++ [x]) = some (((sty L b o).map fun y => y.1).getD (o.map L).sum, (o.map L).sum + L x) := by
  unfold sty
  have e : plc b (o ++ [x]) = plc b o ++ [o.length] := by rw [plc_snoc, if_pos c]
  rw [e, List.getLast?_append, List.head?_append]
  cases h1 : (plc b o).head? with
  | none =>
    have h3 : plc b o = [] := List.head?_eq_none_iff.mp h1
    rw [h3]
    show some (bg L (o ++ [x]) o.length, bg L (o ++ [x]) (o.length + 1)) = _
    rw [bg_all, bg_snoc (Nat.le_refl _), bg_len]
    rfl
  | some k =>
    have k1 := plc_lt (List.mem_of_head? h1)
    cases h2 : (plc b o).getLast? with
    | none =>
      have h3 : plc b o = [] := List.getLast?_eq_none_iff.mp h2
      rw [h3] at h1
      cases h1
    | some l =>
      show some (bg L (o ++ [x]) k, bg L (o ++ [x]) (o.length + 1)) = _
      rw [bg_all, bg_snoc (by omega)]
      rfl
theorem stF_snoc (L : Nat → Nat) (b : Nat → Bool) (o : List Nat) (x : Nat) : stF L b (o ++ [x]) = stp L b (stF L b o) x := by
  unfold stF
  rw [List.foldl_append]
  rfl
theorem stF_eq (L : Nat → Nat) (b : Nat → Bool) : ∀ (n : Nat) (o : List Nat), o.length = n → stF L b o = ((o.map L).sum, wk L b o, sty L b o) ∧ (∀ y, sty L b o = some y → y.1 ≤ y.2 ∧ wk L b o ≤ y.2 - y.1 ∧ y.2 ≤ (o.map L).sum) ∧ (sty L b o = none → wk L b o = 0)
  | 0, o, h => by
    have e : o = [] := List.length_eq_zero_iff.mp h
    subst e
    exact ⟨rfl, fun y e => (nomatch e), fun _ => rfl⟩
  | n + 1, o, h => by
    rcases List.eq_nil_or_concat o with e | ⟨p, x, e⟩
    · rw [e] at h
      cases h
    · rw [List.concat_eq_append] at e
      subst e
      have hp : p.length = n := by simpa using h
      obtain ⟨h1, h2, h3⟩ := stF_eq L b n p hp
      rw [stF_snoc, h1]
      have em : ((p ++ [x]).map L).sum = (p.map L).sum + L x := by
        rw [List.map_append, List.sum_append]
        simp
      by_cases c : b x = true
      · have es := sty_yes (L := L) (o := p) c
        refine ⟨?_, fun y e => ?_, fun e => ?_⟩
        · show (if b x = true then _ else _) = _
          rw [if_pos c, em, wk_snoc, if_pos c, es]
        · rw [es] at e
          have e := (Option.some.inj e).symm
          subst e
          rw [wk_snoc, if_pos c, em]
          cases q : sty L b p with
          | none =>
            have w0 := h3 q
            show (p.map L).sum ≤ (p.map L).sum + L x ∧ wk L b p + L x ≤ (p.map L).sum + L x - (p.map L).sum ∧ (p.map L).sum + L x ≤ (p.map L).sum + L x
            omega
          | some z =>
            have w1 := h2 z q
            show z.1 ≤ (p.map L).sum + L x ∧ wk L b p + L x ≤ (p.map L).sum + L x - z.1 ∧ (p.map L).sum + L x ≤ (p.map L).sum + L x
            omega
        · rw [es] at e
          cases e
      · have es := sty_no (L := L) (o := p) c
        refine ⟨?_, fun y e => ?_, fun e => ?_⟩
        · show (if b x = true then _ else _) = _
          rw [if_neg c, em, wk_snoc, if_neg c, es]
          rfl
        · rw [es] at e
          have w1 := h2 y e
          rw [wk_snoc, if_neg c, em]
          omega
        · rw [es] at e
          rw [wk_snoc, if_neg c]
          exact h3 e
theorem stL_eq (L : Nat → Nat) (b : Nat → Bool) (o : List Nat) : stL (stF L b o) = match sty L b o with
    | none => []
    | some x => [x.1, x.2, x.2 - x.1 - wk L b o] := by
  rw [(stF_eq L b _ o rfl).1]
  unfold stL
  cases sty L b o <;> rfl

/-! ### the house's day -/
theorem inP_eq {m : Pm} {c : List Nat} {a k : Nat} (hl : c.length = m.dress.length) (hr : ∀ p ∈ m.pieces, ∀ r ∈ p.2, r < m.dress.length) (ha : a < m.players.length) : (m.house.day c).has k a = m.inP c a k := by
  unfold Uw03.Day.has Pm.inP Uw07.House.day
  show ((((m.pieces.map fun p => (⟨p.1, m.house.players c p.2⟩ : Uw03.Piece)))[k]?).map fun p => p.players.contains a).getD false = _
  rw [List.getElem?_map]
  cases e : m.pieces[k]? with
  | none => rfl
  | some p =>
    show (m.house.players c p.2).contains a = p.2.any fun r => c.getD r 0 == a
    have hp : p ∈ m.pieces := List.mem_of_getElem? e
    rw [Bool.eq_iff_iff, List.contains_iff_mem]
    unfold Uw07.House.players
    rw [List.mem_filter, List.mem_range]
    have el : m.house.hours.length = m.players.length := by simp [Pm.house]
    rw [el]
    have es : (p.2.any fun r => c[r]? == some a) = p.2.any fun r => c.getD r 0 == a := by
      rw [Bool.eq_iff_iff, List.any_eq_true, List.any_eq_true]
      constructor
      · rintro ⟨r, h1, h2⟩
        refine ⟨r, h1, ?_⟩
        have h3 : c[r]? = some a := by simpa using h2
        rw [List.getD_eq_getElem?_getD, h3]
        simp
      · rintro ⟨r, h1, h2⟩
        refine ⟨r, h1, ?_⟩
        have lt : r < c.length := by rw [hl]; exact hr p hp r h1
        rw [List.getD_eq_getElem?_getD, List.getElem?_eq_getElem lt] at h2
        rw [List.getElem?_eq_getElem lt]
        simpa using h2
    rw [es]
    exact ⟨fun h => h.2, fun h => ⟨ha, h⟩⟩
theorem lng_eq (m : Pm) (c : List Nat) (k : Nat) : (m.house.day c).long k = m.lng k := by
  unfold Uw03.Day.long Pm.lng Uw07.House.day
  show ((((m.pieces.map fun p => (⟨p.1, m.house.players c p.2⟩ : Uw03.Piece)))[k]?).map fun p => p.long).getD 0 = _
  rw [List.getElem?_map]
  cases m.pieces[k]? <;> rfl
section
variable {m : Pm} {c : List Nat} (hl : c.length = m.dress.length) (hr : ∀ p ∈ m.pieces, ∀ r ∈ p.2, r < m.dress.length)
include hl hr
theorem places_eq {o : List Nat} {a : Nat} (ha : a < m.players.length) : (m.house.day c).places o a = plc (m.inP c a) o := by
  unfold Uw03.Day.places plc
  refine List.filter_congr fun k _ => ?_
  exact inP_eq hl hr ha
theorem stays_eq {o : List Nat} {a : Nat} (ha : a < m.players.length) : (m.house.day c).stays o a = sty m.lng (m.inP c a) o := by
  have eb : ∀ k, (m.house.day c).begin_ o k = bg m.lng o k := by
    intro k
    unfold Uw03.Day.begin_ bg
    rw [total3]
    congr 1
    refine List.map_congr_left fun x _ => lng_eq m c x
  unfold Uw03.Day.stays sty
  rw [places_eq hl hr ha]
  cases (plc (m.inP c a) o).head? with
  | none => rfl
  | some k =>
    cases (plc (m.inP c a) o).getLast? with
    | none => rfl
    | some l => simp only [eb]
theorem waits_eq {o : List Nat} {a : Nat} (ha : a < m.players.length) : (m.house.day c).waits o a = match sty m.lng (m.inP c a) o with
    | some x => x.2 - x.1 - wk m.lng (m.inP c a) o
    | none => 0 := by
  unfold Uw03.Day.waits
  rw [stays_eq hl hr ha, places_eq hl hr ha]
  cases sty m.lng (m.inP c a) o with
  | none => rfl
  | some x =>
    show x.2 - x.1 - Uw03.total _ = x.2 - x.1 - wk m.lng (m.inP c a) o
    rw [total3]
    unfold wk
    congr 2
    refine List.map_congr_left fun k _ => lng_eq m c _
theorem stay_eq {o : List Nat} {a : Nat} (ha : a < m.players.length) : m.stay c o a = match (m.house.day c).stays o a with
    | some x => [x.1, x.2, (m.house.day c).waits o a]
    | none => [] := by
  unfold Pm.stay
  rw [stL_eq, waits_eq hl hr ha, stays_eq hl hr ha]
  cases sty m.lng (m.inP c a) o <;> rfl
theorem tell_eq (o : List Nat) : (m.house.day c).tell o = m.stays c o := by
  unfold Uw03.Day.tell Pm.stays
  have e : (m.house.day c).players.length = m.players.length := by simp [Uw07.House.day, Pm.house]
  rw [e]
  refine List.map_congr_left fun a ha => ?_
  rw [stay_eq hl hr (List.mem_range.mp ha)]
  cases (m.house.day c).stays o a <;> rfl
end
theorem findSome_zip {α β : Type} (f : α → Nat → Option β) : ∀ (l : List α) (g : Nat → Option β) (k : Nat), (∀ i x, l[i]? = some x → g (i + k) = f x (i + k)) → (l.zipIdx k).findSome? (fun x => f x.1 x.2) = (List.range' k l.length).findSome? g
  | [], _, _, _ => rfl
  | a :: r, g, k, h => by
    rw [List.zipIdx_cons, List.findSome?_cons, List.length_cons, List.range'_succ, List.findSome?_cons]
    have e0 : g k = f a k := by simpa using h 0 a rfl
    rw [e0, findSome_zip f r g (k + 1) fun i x hi => by
      have := h (i + 1) x hi
      rw [Nat.add_right_comm, Nat.add_assoc] at this
      exact this]
theorem findSome_zip0 {α β : Type} (f : α → Nat → Option β) (l : List α) (g : Nat → Option β) (h : ∀ i x, l[i]? = some x → g i = f x i) : l.zipIdx.findSome? (fun x => f x.1 x.2) = (List.range l.length).findSome? g := by
  rw [List.range_eq_range']
  exact findSome_zip f l g 0 fun i x hi => h i x hi
theorem map_zip0 {α β : Type} (f : α → Nat → β) (l : List α) (g : Nat → β) (h : ∀ i x, l[i]? = some x → g i = f x i) : (l.zipIdx.map fun x => f x.1 x.2) = (List.range l.length).map g := by
  apply List.ext_getElem?
  intro i
  rw [List.getElem?_map, List.getElem?_map, List.getElem?_zipIdx]
  cases e : l[i]? with
  | none =>
    have := List.getElem?_eq_none_iff.mp e
    simp [this]
  | some x =>
    have := (List.getElem?_eq_some_iff.mp e).1
    simp [this, h i x e]
theorem stays_at {m : Pm} {c o : List Nat} {i : Nat} (h : i < m.players.length) : (m.stays c o).getD i [] = m.stay c o i := by
  unfold Pm.stays
  rw [List.getD_eq_getElem?_getD, List.getElem?_map, List.getElem?_range h]
  rfl
theorem stays_len (m : Pm) (c o : List Nat) : (m.stays c o).length = m.players.length := by simp [Pm.stays]
def plTwo (p : Pl) : Uw03.Player := ⟨p.rate, p.since, p.till⟩
theorem day_players (m : Pm) (c : List Nat) : (m.house.day c).players = m.players.map plTwo := by
  show (m.players.map hrs).map _ = _
  rw [List.map_map]
  rfl
section
variable {m : Pm} {c : List Nat} (hl : c.length = m.dress.length) (hr : ∀ p ∈ m.pieces, ∀ r ∈ p.2, r < m.dress.length)
include hl hr
theorem wrongO_eq (o : List Nat) : (m.house.day c).wrong o = m.wrongO o (m.stays c o) := by
  unfold Uw03.Day.wrong Pm.wrongO
  have e1 : (m.house.day c).ahead = m.pairs := rfl
  rw [e1]
  have e2 : (fun x : Nat × Nat => decide (o.idxOf x.2 < o.idxOf x.1)) = behind o := rfl
  rw [e2]
  cases m.pairs.findIdx? (behind o) with
  | some i => rfl
  | none =>
    refine (findSome_zip0 (fun (x : Uw03.Player) (i : Nat) => match (m.house.day c).stays o i with
      | some y => if y.1 < x.from_ then some (2, i) else if x.till < y.2 then some (3, i) else none
      | none => none) (m.house.day c).players (m.bad (m.stays c o)) ?_).trans ?_
    rotate_left
    · show _ = (List.range (m.stays c o).length).findSome? (m.bad (m.stays c o))
      rw [stays_len, day_players, List.length_map]
    · intro i x hi
      rw [day_players, List.getElem?_map] at hi
      cases e : m.players[i]? with
      | none => rw [e] at hi; cases hi
      | some p =>
        rw [e] at hi
        have hi := (Option.some.inj hi).symm
        subst hi
        have lt := (List.getElem?_eq_some_iff.mp e).1
        unfold Pm.bad
        rw [e, stays_at lt, stay_eq hl hr lt]
        cases (m.house.day c).stays o i <;> rfl
theorem oCost_eq (o : List Nat) : (m.house.day c).cost o = m.oCost (m.stays c o) := by
  unfold Uw03.Day.cost Pm.oCost
  rw [total3]
  congr 1
  refine (map_zip0 (fun (x : Uw03.Player) (i : Nat) => match (m.house.day c).stays o i with
      | some y => x.rate * (y.2 - y.1)
      | none => 0) (m.house.day c).players (m.oc1 (m.stays c o)) ?_).trans ?_
  rotate_left
  · rw [stays_len, day_players, List.length_map]
  · intro i x hi
    rw [day_players, List.getElem?_map] at hi
    cases e : m.players[i]? with
    | none => rw [e] at hi; cases hi
    | some p =>
      rw [e] at hi
      have hi := (Option.some.inj hi).symm
      subst hi
      have lt := (List.getElem?_eq_some_iff.mp e).1
      unfold Pm.oc1 Pm.rateAt
      rw [e, stays_at lt, stay_eq hl hr lt]
      cases (m.house.day c).stays o i <;> rfl
end
theorem orders_eq : ∀ n, n ≤ 4 → ordS n n = Uw03.orders n (List.range n) := by
  intro n h
  have : n = 0 ∨ n = 1 ∨ n = 2 ∨ n = 3 ∨ n = 4 := by omega
  rcases this with rfl | rfl | rfl | rfl | rfl <;> decide +kernel

/-! ### the best of a list -/
def b3 : B (List Nat) → Option Uw03.Best := fun b => b.map fun y => ⟨y.1, y.2.1, y.2.2⟩
def b2 : B (List Nat) → Option Uw02.Best := fun b => b.map fun y => ⟨y.1, y.2.1, y.2.2⟩
def b7 : B (List Nat × List Nat) → Option Uw07.Best := fun b => b.map fun y => ⟨y.1, y.2.1, y.2.2.1, y.2.2.2⟩
theorem put3 (b : B (List Nat)) (v k : Nat) (x : List Nat) : b3 (put b v k x) = Uw03.better (b3 b) (some ⟨v, k, x⟩) := by
  cases b with
  | none => rfl
  | some y =>
    show b3 (if v < y.1 then some (v, k, x) else if v = y.1 then some (y.1, y.2.1 + k, y.2.2) else some y) = if v < y.1 then some ⟨v, k, x⟩ else if y.1 < v then some ⟨y.1, y.2.1, y.2.2⟩ else some ⟨y.1, y.2.1 + k, y.2.2⟩
    by_cases c : v < y.1
    · rw [if_pos c, if_pos c] <;> rfl
    · rw [if_neg c, if_neg c]
      by_cases d : v = y.1
      · rw [if_pos d, if_neg (by omega)] <;> rfl
      · rw [if_neg d, if_pos (by omega)] <;> rfl
theorem put2 (b : B (List Nat)) (v k : Nat) (x : List Nat) : b2 (put b v k x) = Uw02.better (b2 b) (some ⟨v, k, x⟩) := by
  cases b with
  | none => rfl
  | some y =>
    show b2 (if v < y.1 then some (v, k, x) else if v = y.1 then some (y.1, y.2.1 + k, y.2.2) else some y) = if v < y.1 then some ⟨v, k, x⟩ else if y.1 < v then some ⟨y.1, y.2.1, y.2.2⟩ else some ⟨y.1, y.2.1 + k, y.2.2⟩
    by_cases c : v < y.1
    · rw [if_pos c, if_pos c] <;> rfl
    · rw [if_neg c, if_neg c]
      by_cases d : v = y.1
      · rw [if_pos d, if_neg (by omega)] <;> rfl
      · rw [if_neg d, if_pos (by omega)] <;> rfl
theorem put7 (b : B (List Nat × List Nat)) (v k : Nat) (x : List Nat × List Nat) : b7 (put b v k x) = Uw07.better (b7 b) (some ⟨v, k, x.1, x.2⟩) := by
  cases b with
  | none => rfl
  | some y =>
    show b7 (if v < y.1 then some (v, k, x) else if v = y.1 then some (y.1, y.2.1 + k, y.2.2) else some y) = if v < y.1 then some ⟨v, k, x.1, x.2⟩ else if y.1 < v then some ⟨y.1, y.2.1, y.2.2.1, y.2.2.2⟩ else some ⟨y.1, y.2.1 + k, y.2.2.1, y.2.2.2⟩
    by_cases c : v < y.1
    · rw [if_pos c, if_pos c] <;> rfl
    · rw [if_neg c, if_neg c]
      by_cases d : v = y.1
      · rw [if_pos d, if_neg (by omega)] <;> rfl
      · rw [if_neg d, if_pos (by omega)] <;> rfl
section
variable {m : Pm} {c : List Nat} (hl : c.length = m.dress.length) (hr : ∀ p ∈ m.pieces, ∀ r ∈ p.2, r < m.dress.length)
include hl hr
theorem bo_fold : ∀ (os : List (List Nat)) (b : B (List Nat)), b3 (os.foldl (m.bo1 c) b) = (((os.filter (m.house.day c).right).map fun o => some (⟨(m.house.day c).cost o, 1, o⟩ : Uw03.Best))).foldl Uw03.better (b3 b)
  | [], b => rfl
  | o :: r, b => by
    rw [List.foldl_cons, bo_fold r, List.filter_cons]
    have e : (m.house.day c).right o = (m.wrongO o (m.stays c o)).isNone := by
      unfold Uw03.Day.right
      rw [wrongO_eq hl hr]
    rw [e]
    unfold Pm.bo1
    by_cases q : (m.wrongO o (m.stays c o)).isNone = true
    · rw [if_pos q, if_pos q, List.map_cons, List.foldl_cons, put3, oCost_eq hl hr]
    · rw [if_neg q, if_neg q]
theorem bestO_eq (hp : m.pieces.length ≤ 4) : (m.house.day c).best = b3 (m.bestO c m.orders) := by
  unfold Uw03.Day.best Uw03.Day.all Pm.bestO Pm.orders
  have e : (m.house.day c).pieces.length = m.pieces.length := by simp [Uw07.House.day, Pm.house]
  rw [e, bo_fold hl hr, orders_eq _ hp]
  rfl
end
section
variable {m : Pm} (h : m.dress.length ≤ 5) (hr : ∀ p ∈ m.pieces, ∀ r ∈ p.2, r < m.dress.length) (hp : m.pieces.length ≤ 4)
theorem bp_fold (hr : ∀ p ∈ m.pieces, ∀ r ∈ p.2, r < m.dress.length) (hp : m.pieces.length ≤ 4) : ∀ (cs : List (List Nat)) (b : B (List Nat × List Nat)), (∀ c ∈ cs, c.length = m.dress.length) →
    b7 (cs.foldl m.bp1 b) = (cs.map fun c => (m.house.day c).best.map fun b => (⟨m.house.play.cost c + b.cost, b.many, c, b.order⟩ : Uw07.Best)).foldl Uw07.better (b7 b)
  | [], b, _ => rfl
  | c :: r, b, hc => by
    rw [List.foldl_cons, bp_fold hr hp r _ fun x hx => hc x (List.mem_cons_of_mem _ hx), List.map_cons, List.foldl_cons, bestO_eq (hc c (List.mem_cons_self ..)) hr hp]
    congr 1
    unfold Pm.bp1
    cases m.bestO c m.orders with
    | none =>
      show b7 b = Uw07.better (b7 b) none
      cases b <;> rfl
    | some y =>
      show b7 (put b (m.castCost c + y.1) y.2.1 (c, y.2.2)) = Uw07.better (b7 b) (some ⟨m.two.cost c + y.1, y.2.1, c, y.2.2⟩)
      rw [put7, castCost_eq]
theorem rightC_len {cl : List (Nat × Nat)} : ∀ c ∈ m.rightC cl, c.length = m.dress.length ∧ ∀ a ∈ c, a < m.players.length := fun c hc => mem_castS (List.mem_filter.mp hc).1
include h hr hp
theorem bestP_eq : m.house.best = b7 (m.bestP m.clashes) := by
  unfold Uw07.House.best Pm.bestP
  rw [bp_fold hr hp _ _ fun c hc => (rightC_len c hc).1]
  have e : m.house.play.casts = m.rightC m.clashes := casts_eq h
  rw [e]
  rfl
omit hr hp in
theorem bc_fold : ∀ (cs : List (List Nat)) (b : B (List Nat)), b2 (cs.foldl m.bc1 b) = (cs.map fun c => some (⟨m.two.cost c, 1, c⟩ : Uw02.Best)).foldl Uw02.better (b2 b)
  | [], b => rfl
  | c :: r, b => by
    rw [List.foldl_cons, bc_fold r, List.map_cons, List.foldl_cons]
    congr 1
    unfold Pm.bc1
    rw [put2, castCost_eq]
omit hr hp in
theorem bestC_eq : m.two.cheapest = b2 (m.bestC m.clashes) := by
  unfold Uw02.Play.cheapest Uw02.Play.least Pm.bestC
  rw [bc_fold h, casts_eq h]
  rfl
end
end Rc
set_option Elab.async false
set_option linter.all false
set_option maxRecDepth 100000
/-! # The plain law, third part: one call, a line of calls, the flat list -/
namespace Rc
theorem out_eq (a : Uw07.Ans) : Uw07Neutral.out a = a.v :: a.l.flatMap lst := rfl
/-! ### rising -/
theorem risingAt_cons (a b : Nat) (l : List Nat) : risingAt (a :: b :: l) = (decide (a < b) && risingAt (b :: l)) := by
  unfold risingAt
  show ((List.range (l.length + 1)).all fun d => decide ((a :: b :: l).getD d 0 < (a :: b :: l).getD (d + 1) 0)) = _
  rw [List.range_succ_eq_map, List.all_cons, List.all_map]
  rfl
theorem rising2 : ∀ l : List Nat, Uw02.rising l = risingAt l
  | [] => rfl
  | [a] => rfl
  | a :: b :: l => by
    rw [risingAt_cons, ← rising2 (b :: l)]
    rfl
theorem rising3 : ∀ l : List Nat, Uw03.rising l = risingAt l
  | [] => rfl
  | [a] => rfl
  | a :: b :: l => by
    rw [risingAt_cons, ← rising3 (b :: l)]
    rfl
theorem rise_iff (m : Pm) (r : List Nat) : (risingAt r = false ∨ (r.all fun x => decide (x < m.dress.length)) = false) ↔ m.rise r = false := by
  unfold Pm.rise
  cases risingAt r <;> cases (r.all fun x => decide (x < m.dress.length)) <;> simp
theorem rise_lt {m : Pm} {r : List Nat} (h : ¬ m.rise r = false) : ∀ x ∈ r, x < m.dress.length := by
  have h1 : m.rise r = true := by simpa using h
  unfold Pm.rise at h1
  rw [Bool.and_eq_true, List.all_eq_true] at h1
  exact fun x hx => of_decide_eq_true (h1.1 x hx)

/-! ### what is told with a call: at most twenty numbers a list -/
def Small : Uw07.Call → Prop
  | .begins d => d.length ≤ 20
  | .scene _ r => r.length ≤ 20
  | .player _ _ _ _ f => f.length ≤ 20
  | .piece _ r => r.length ≤ 20
  | .ahead _ _ => True
  | .best => True
  | .apart => True
  | .check c o => c.length ≤ 20 ∧ o.length ≤ 20
  | .order c => c.length ≤ 20
theorem Pm.Ok.up {n : Nat} {m : Pm} (h : m.Ok n) : m.Ok (n + 1) := ⟨h.roles, h.nsc, h.npl, h.npc, Nat.le_succ_of_le h.npr, h.fees, h.rate, h.scr, h.pcr, h.prs⟩
theorem Pm.Ok.start : Pm.init.Ok 0 := ⟨by decide, by decide, by decide, by decide, by decide, fun p h => by simp [Pm.init] at h, fun p h => by simp [Pm.init] at h, fun p h => by simp [Pm.init] at h, fun p h => by simp [Pm.init] at h, fun p h => by simp [Pm.init] at h⟩

/-- one call: the specification's house is the mirror's, the answer is the mirror's, and the play stays good -/
def Same1 (n : Nat) (m : Pm) (c : Uw07.Call) : Prop := (Uw07.step m.house c).1 = (stepM m c).1.house ∧ Uw07Neutral.out (Uw07.step m.house c).2 = (stepM m c).2 ∧ (stepM m c).1.Ok (n + 1)
theorem stay1 {n : Nat} {m : Pm} (h : m.Ok n) {c : Uw07.Call} {v : Int} (e1 : Uw07.step m.house c = (m.house, Uw07.ok v)) (e2 : stepM m c = (m, [v])) : Same1 n m c := by
  unfold Same1
  rw [e1, e2]
  exact ⟨rfl, rfl, h.up⟩
theorem go1 {n : Nat} {m m' : Pm} (h : m'.Ok (n + 1)) {c : Uw07.Call} {v : Int} (e1 : Uw07.step m.house c = (m'.house, Uw07.ok v)) (e2 : stepM m c = (m', [v])) : Same1 n m c := by
  unfold Same1
  rw [e1, e2]
  exact ⟨rfl, rfl, h⟩
theorem answer1 {n : Nat} {m : Pm} (h : m.Ok n) {c : Uw07.Call} {a : Uw07.Ans} {l : List Int} (e1 : Uw07.step m.house c = (m.house, a)) (e2 : stepM m c = (m, l)) (e3 : Uw07Neutral.out a = l) : Same1 n m c := by
  unfold Same1
  rw [e1, e2]
  exact ⟨rfl, e3, h.up⟩

section
variable {n : Nat} {m : Pm} (h : m.Ok n)
include h
theorem same_begins (d : List Nat) : Same1 n m (.begins d) := by
  by_cases c1 : 5 < d.length
  · exact stay1 h (if_pos c1) (if_pos (.inr (.inl c1)))
  · by_cases c2 : d.length < 1 ∨ ¬ (d.all fun x => decide (x ≤ 1000)) = true
    · refine stay1 (v := -1) h ((if_neg c1).trans ?_) (if_pos (by rcases c2 with c | c; exact .inl c; exact .inr (.inr c)))
      have e : Uw02.step m.house.play (.begins d) = (m.house.play, Uw02.ok (-1)) := by
        refine if_pos ?_
        rcases c2 with c | c
        · exact .inl (List.length_eq_zero_iff.mp (by omega))
        · exact .inr (.inr ((Bool.not_eq_true _).mp c))
      rw [e]
      rfl
    · have c3 : ¬ (d.length < 1 ∨ 5 < d.length ∨ ¬ (d.all fun x => decide (x ≤ 1000)) = true) := fun q => by
        rcases q with q | q | q
        · exact c2 (.inl q)
        · exact c1 q
        · exact c2 (.inr q)
      refine go1 (m' := ⟨d, [], [], [], []⟩) (v := (d.length : Nat)) ?_ ((if_neg c1).trans ?_) (if_neg c3)
      · exact ⟨by show d.length ≤ 5; omega, by simp, by simp, by simp, by simp, fun p h => by simp at h, fun p h => by simp at h, fun p h => by simp at h, fun p h => by simp at h, fun p h => by simp at h⟩
      · have e : Uw02.step m.house.play (.begins d) = (⟨d, [], []⟩, Uw02.ok (d.length : Nat)) := by
          refine if_neg ?_
          intro q
          rcases q with q | q | q
          · exact c2 (.inl (by rw [q]; decide))
          · have q : 6 < d.length := q
            omega
          · exact c2 (.inr (by
              have q : (d.all fun x => decide (x ≤ 1000)) = false := q
              rw [q]; decide))
        rw [e]
        show (if ((d.length : Nat) : Int) < 0 then _ else _) = _
        rw [if_neg (by omega)]
        rfl
theorem same_scene (k : Nat) (r : List Nat) (hr : r.length ≤ 20) : Same1 n m (.scene k r) := by
  have nsc := h.nsc
  have el : m.house.play.scenes.length = m.scenes.length := by simp [Pm.house, Pm.two]
  by_cases c1 : 1000 < k ∨ m.rise r = false
  · refine stay1 (v := -1) h ?_ (if_pos c1)
    have e : Uw02.step m.house.play (.scene k r) = (m.house.play, Uw02.ok (-1)) := by
      refine if_pos ?_
      rcases c1 with c | c
      · exact .inl c
      · refine .inr ?_
        rw [rising2]
        exact (rise_iff m r).mpr c
    show (if (Uw02.step m.house.play (.scene k r)).2.v < 0 then _ else _) = _
    rw [e]
    rfl
  · have c1' : ¬ (1000 < k ∨ Uw02.rising r = false ∨ (r.all fun x => decide (x < m.dress.length)) = false) := fun q => by
      rw [rising2] at q
      rcases q with q | q
      · exact c1 (.inl q)
      · exact c1 (.inr ((rise_iff m r).mp q))
    by_cases c2 : m.scenes.length = 10
    · refine stay1 (v := -5) h ?_ ((if_neg c1).trans (if_pos c2))
      have e : Uw02.step m.house.play (.scene k r) = (m.house.play, Uw02.ok (-5)) := (if_neg c1').trans (if_pos (by rw [el, c2]; decide))
      show (if (Uw02.step m.house.play (.scene k r)).2.v < 0 then _ else _) = _
      rw [e]
      rfl
    · refine go1 (m' := { m with scenes := m.scenes ++ [(k, r)] }) (v := (m.scenes.length : Nat)) ?_ ?_ ((if_neg c1).trans (if_neg c2))
      · refine ⟨h.roles, by show (m.scenes ++ [(k, r)]).length ≤ 10; rw [List.length_append, List.length_singleton]; omega, h.npl, h.npc, Nat.le_succ_of_le h.npr, h.fees, h.rate, fun p hp => ?_, h.pcr, h.prs⟩
        rcases List.mem_append.mp hp with hp | hp
        · exact h.scr p hp
        · rw [List.mem_singleton.mp hp]; exact hr
      · have e : Uw02.step m.house.play (.scene k r) = ({ m.house.play with scenes := m.house.play.scenes ++ [⟨k, r⟩] }, Uw02.ok (m.scenes.length : Nat)) := by
          refine (if_neg c1').trans ((if_neg (by rw [el]; show ¬ 10 ≤ m.scenes.length; omega)).trans ?_)
          rw [el]
        show (if (Uw02.step m.house.play (.scene k r)).2.v < 0 then _ else _) = _
        rw [e]
        show (if ((m.scenes.length : Nat) : Int) < 0 then _ else _) = _
        rw [if_neg (by omega)]
        simp [Pm.house, Pm.two, scTwo, Uw07.ok, Uw02.ok]
theorem same_player (w r a b : Nat) (f : List Nat) : Same1 n m (.player w r a b f) := by
  have npl := h.npl
  have el : m.house.hours.length = m.players.length := by simp [Pm.house]
  have el2 : m.house.play.players.length = m.players.length := by simp [Pm.house, Pm.two]
  by_cases c1 : 1000 < r ∨ b < a ∨ 3600 < b
  · exact stay1 (v := -1) h (if_pos c1) (if_pos c1)
  · by_cases c2 : m.players.length = 4
    · exact stay1 (v := -5) h ((if_neg c1).trans (if_pos (by rw [el, c2]; decide))) ((if_neg c1).trans (if_pos c2))
    · have g2 : ¬ Uw07.PLAYERS ≤ m.house.hours.length := by rw [el]; show ¬ 4 ≤ m.players.length; omega
      by_cases c3 : 100000 < w ∨ f.length ≠ m.dress.length ∨ ¬ (f.all fun x => decide (x ≤ 100001)) = true
      · refine stay1 (v := -1) h ((if_neg c1).trans ((if_neg g2).trans ?_)) ((if_neg c1).trans ((if_neg c2).trans (if_pos c3)))
        have e : Uw02.step m.house.play (.player w f) = (m.house.play, Uw02.ok (-1)) := by
          refine if_pos ?_
          rcases c3 with c | c | c
          · exact .inl c
          · exact .inr (.inl c)
          · exact .inr (.inr ((Bool.not_eq_true _).mp c))
        rw [e]
        rfl
      · have hd : f.length = m.dress.length := Classical.byContradiction fun q => c3 (.inr (.inl q))
        refine go1 (m' := { m with players := m.players ++ [⟨w, r, a, b, f⟩] }) (v := (m.players.length : Nat)) ?_ ((if_neg c1).trans ((if_neg g2).trans ?_)) ((if_neg c1).trans ((if_neg c2).trans (if_neg c3)))
        · refine ⟨h.roles, h.nsc, by show (m.players ++ [_]).length ≤ 4; rw [List.length_append, List.length_singleton]; omega, h.npc, Nat.le_succ_of_le h.npr, fun p hp => ?_, fun p hp => ?_, h.scr, h.pcr, h.prs⟩
          · rcases List.mem_append.mp hp with hp | hp
            · exact h.fees p hp
            · rw [List.mem_singleton.mp hp]; exact hd
          · rcases List.mem_append.mp hp with hp | hp
            · exact h.rate p hp
            · rw [List.mem_singleton.mp hp]; show r ≤ 1000; omega
        · have e : Uw02.step m.house.play (.player w f) = ({ m.house.play with players := m.house.play.players ++ [⟨w, f.map two1⟩] }, Uw02.ok (m.players.length : Nat)) := by
            refine (if_neg ?_).trans ((if_neg (by rw [el2]; show ¬ 5 ≤ m.players.length; omega)).trans ?_)
            · intro q
              rcases q with q | q | q
              · exact c3 (.inl q)
              · exact c3 (.inr (.inl q))
              · exact c3 (.inr (.inr (by
                  have q : (f.all fun x => decide (x ≤ 100001)) = false := q
                  rw [q]; decide)))
            · rw [el2]
              rfl
          rw [e]
          show (if ((m.players.length : Nat) : Int) < 0 then _ else _) = _
          rw [if_neg (by omega), el]
          simp [Pm.house, Pm.two, Pl.two, hrs]
theorem same_piece (k : Nat) (r : List Nat) (hr : r.length ≤ 20) : Same1 n m (.piece k r) := by
  have npc := h.npc
  have el : m.house.pieces.length = m.pieces.length := rfl
  by_cases c1 : k < 1 ∨ 600 < k ∨ m.rise r = false
  · refine stay1 (v := -1) h (if_pos ?_) (if_pos c1)
    rcases c1 with c | c | c
    · exact .inl c
    · exact .inr (.inl c)
    · refine .inr (.inr ?_)
      rw [rising3]
      exact (rise_iff m r).mpr c
  · have c1' : ¬ (k < 1 ∨ Uw03.LONG < k ∨ Uw03.rising r = false ∨ (r.all fun x => decide (x < m.house.play.dress.length)) = false) := fun q => by
      rw [rising3] at q
      rcases q with q | q | q
      · exact c1 (.inl q)
      · exact c1 (.inr (.inl q))
      · exact c1 (.inr (.inr ((rise_iff m r).mp q)))
    by_cases c2 : m.pieces.length = 4
    · exact stay1 (v := -5) h ((if_neg c1').trans (if_pos (by rw [el, c2]; decide))) ((if_neg c1).trans (if_pos c2))
    · refine go1 (m' := { m with pieces := m.pieces ++ [(k, r)] }) (v := (m.pieces.length : Nat)) ?_ ((if_neg c1').trans ((if_neg (by rw [el]; show ¬ 4 ≤ m.pieces.length; omega)).trans rfl)) ((if_neg c1).trans (if_neg c2))
      have hp : (m.pieces ++ [(k, r)]).length = m.pieces.length + 1 := by rw [List.length_append, List.length_singleton]
      refine ⟨h.roles, h.nsc, h.npl, by show (m.pieces ++ [(k, r)]).length ≤ 4; omega, Nat.le_succ_of_le h.npr, h.fees, h.rate, h.scr, fun p q => ?_, fun p q => ?_⟩
      · rcases List.mem_append.mp q with q | q
        · exact h.pcr p q
        · rw [List.mem_singleton.mp q]
          exact ⟨hr, rise_lt fun z => c1 (.inr (.inr z))⟩
      · have z := h.prs p q
        show p.1 < (m.pieces ++ [(k, r)]).length ∧ p.2 < (m.pieces ++ [(k, r)]).length
        omega
theorem same_ahead (i j : Nat) : Same1 n m (.ahead i j) := by
  by_cases c1 : m.pieces.length ≤ i ∨ m.pieces.length ≤ j
  · exact stay1 (v := -2) h (if_pos c1) (if_pos c1)
  · by_cases c2 : i = j ∨ (i, j) ∈ m.pairs
    · refine stay1 (v := -3) h ((if_neg c1).trans (if_pos ?_)) ((if_neg c1).trans (if_pos c2))
      rcases c2 with c | c
      · exact .inl c
      · exact .inr (List.contains_iff_mem.mpr c)
    · refine go1 (m' := { m with pairs := m.pairs ++ [(i, j)] }) (v := ((m.pairs.length + 1 : Nat) : Int)) ?_ ((if_neg c1).trans ((if_neg ?_).trans rfl)) ((if_neg c1).trans (if_neg c2))
      · have npr := h.npr
        refine ⟨h.roles, h.nsc, h.npl, h.npc, by show (m.pairs ++ [(i, j)]).length ≤ n + 1; rw [List.length_append, List.length_singleton]; omega, h.fees, h.rate, h.scr, h.pcr, fun p q => ?_⟩
        rcases List.mem_append.mp q with q | q
        · exact h.prs p q
        · rw [List.mem_singleton.mp q]
          show i < m.pieces.length ∧ j < m.pieces.length
          omega
      · intro q
        rcases q with q | q
        · exact c2 (.inl q)
        · exact c2 (.inr (List.contains_iff_mem.mp q))
theorem hpc : ∀ p ∈ m.pieces, ∀ r ∈ p.2, r < m.dress.length := fun p hp => (h.pcr p hp).2
theorem same_best : Same1 n m .best := by
  refine answer1 h rfl rfl ?_
  rw [bestP_eq h.roles (hpc h) h.npc]
  unfold aBest
  cases m.bestP m.clashes with
  | none => rfl
  | some y =>
    rw [out_eq]
    show (y.1 : Int) :: ([[y.2.1, m.two.cost y.2.2.1], y.2.2.1, y.2.2.2] : List (List Nat)).flatMap lst = _
    rw [castCost_eq]
    simp [List.flatMap_cons]
theorem same_apart : Same1 n m .apart := by
  refine answer1 h rfl rfl ?_
  show Uw07Neutral.out (match m.two.cheapest with
    | none => _
    | some b => match m.house.plan b.cast with
      | none => _
      | some p => _) = _
  rw [bestC_eq h.roles]
  unfold aApart
  cases e : m.bestC m.clashes with
  | none => rfl
  | some y =>
    have hc : y.2.2.length = m.dress.length := by
      have q : ∀ (cs : List (List Nat)) (b : B (List Nat)), (∀ c ∈ cs, c.length = m.dress.length) → (∀ z, b = some z → z.2.2.length = m.dress.length) → ∀ z, cs.foldl m.bc1 b = some z → z.2.2.length = m.dress.length := by
        intro cs
        induction cs with
        | nil => exact fun b _ hb z e => hb z e
        | cons c r ih =>
          intro b hc hb z e
          refine ih (m.bc1 b c) (fun x hx => hc x (List.mem_cons_of_mem _ hx)) (fun z e => ?_) z e
          have hcc := hc c (List.mem_cons_self ..)
          unfold Pm.bc1 put at e
          cases b with
          | none =>
            have e := (Option.some.inj e).symm
            subst e
            exact hcc
          | some y =>
            have hy := hb y rfl
            by_cases c1 : m.castCost c < y.1
            · have e : some (m.castCost c, 1, c) = some z := (if_pos c1).symm.trans e
              have e := (Option.some.inj e).symm
              subst e
              exact hcc
            · by_cases c2 : m.castCost c = y.1
              · have e : some (y.1, y.2.1 + 1, y.2.2) = some z := ((if_neg c1).trans (if_pos c2)).symm.trans e
                have e := (Option.some.inj e).symm
                subst e
                exact hy
              · have e : some y = some z := ((if_neg c1).trans (if_neg c2)).symm.trans e
                have e := (Option.some.inj e).symm
                subst e
                exact hy
      exact q (m.rightC m.clashes) none (fun c hc => (rightC_len c hc).1) (fun z e => nomatch e) y e
    show Uw07Neutral.out (match m.house.plan y.2.2 with
      | none => Uw07.ok (-3)
      | some p => ⟨(p.cost : Nat), [p.cast, p.order]⟩) = _
    unfold Uw07.House.plan
    rw [bestO_eq hc (hpc h) h.npc]
    show _ = match m.bestO y.2.2 m.orders with
      | none => [-3]
      | some z => ((y.1 + z.1 : Nat) : Int) :: (lst y.2.2 ++ lst z.2.2)
    have hcost : m.castCost y.2.2 = y.1 := by
      have q : ∀ (cs : List (List Nat)) (b : B (List Nat)), (∀ z, b = some z → m.castCost z.2.2 = z.1) → ∀ z, cs.foldl m.bc1 b = some z → m.castCost z.2.2 = z.1 := by
        intro cs
        induction cs with
        | nil => exact fun b hb z e => hb z e
        | cons c r ih =>
          intro b hb z e
          refine ih (m.bc1 b c) (fun z e => ?_) z e
          unfold Pm.bc1 put at e
          cases b with
          | none =>
            have e := (Option.some.inj e).symm
            subst e
            rfl
          | some y =>
            have hy := hb y rfl
            by_cases c1 : m.castCost c < y.1
            · have e : some (m.castCost c, 1, c) = some z := (if_pos c1).symm.trans e
              have e := (Option.some.inj e).symm
              subst e
              rfl
            · by_cases c2 : m.castCost c = y.1
              · have e : some (y.1, y.2.1 + 1, y.2.2) = some z := ((if_neg c1).trans (if_pos c2)).symm.trans e
                have e := (Option.some.inj e).symm
                subst e
                exact hy
              · have e : some y = some z := ((if_neg c1).trans (if_neg c2)).symm.trans e
                have e := (Option.some.inj e).symm
                subst e
                exact hy
      exact q (m.rightC m.clashes) none (fun z e => nomatch e) y e
    cases m.bestO y.2.2 m.orders with
    | none => rfl
    | some z =>
      rw [out_eq]
      show ((m.two.cost y.2.2 + z.1 : Nat) : Int) :: ([y.2.2, z.2.2] : List (List Nat)).flatMap lst = _
      rw [castCost_eq, hcost]
      simp [List.flatMap_cons]
theorem castOk_eq (c : List Nat) : Uw07.castOk m.house c = m.castOk c := by
  unfold Uw07.castOk Pm.castOk
  have el : m.house.hours.length = m.players.length := by simp [Pm.house]
  rw [el]
  congr 1
theorem castOk_len {c : List Nat} (q : m.castOk c = true) : c.length = m.dress.length ∧ ∀ a ∈ c, a < m.players.length := by
  unfold Pm.castOk at q
  rw [Bool.and_eq_true, decide_eq_true_eq, List.all_eq_true] at q
  exact ⟨q.1, fun a ha => of_decide_eq_true (q.2 a ha)⟩
theorem orderOk_eq (o : List Nat) : Uw07.orderOk m.house o = isPerm m.pieces.length o := rfl
theorem same_check (c o : List Nat) : Same1 n m (.check c o) := by
  by_cases c1 : (!m.castOk c || !isPerm m.pieces.length o) = true
  · refine stay1 (v := -1) h (if_pos ?_) ?_
    · rw [castOk_eq h, orderOk_eq h]
      revert c1
      cases m.castOk c <;> cases isPerm m.pieces.length o <;> simp
    · show (m, aCheck m c o) = _
      unfold aCheck
      rw [if_pos c1]
  · have q : m.castOk c = true ∧ isPerm m.pieces.length o = true := by
      revert c1
      cases m.castOk c <;> cases isPerm m.pieces.length o <;> simp
    have hl := (castOk_len h q.1).1
    refine answer1 h ((if_neg ?_).trans rfl) (show (m, aCheck m c o) = _ from rfl) ?_
    · rw [castOk_eq h, orderOk_eq h, q.1, q.2]
      simp
    · show Uw07Neutral.out (match m.two.wrong c with
        | some x => _
        | none => match (m.house.day c).wrong o with
          | some x => _
          | none => _) = _
      unfold aCheck
      rw [if_neg c1, wrong_eq h.roles hl, wrongO_eq hl (hpc h)]
      cases m.wrongC m.clashes c with
      | some x =>
        rw [out_eq]
        simp [list3]
      | none =>
        cases m.wrongO o (m.stays c o) with
        | some x =>
          rw [out_eq]
          simp [list2]
        | none =>
          rw [out_eq]
          show (1 : Int) :: ([m.two.cost c, (m.house.day c).cost o] :: (m.house.day c).tell o).flatMap lst = _
          rw [castCost_eq, oCost_eq hl (hpc h), tell_eq hl (hpc h), List.flatMap_cons]
theorem same_order (c : List Nat) : Same1 n m (.order c) := by
  by_cases c1 : (!m.castOk c) = true
  · refine stay1 (v := -1) h (if_pos ?_) ?_
    · rw [castOk_eq h]
      revert c1
      cases m.castOk c <;> simp
    · show (m, aOrder m c) = _
      unfold aOrder
      rw [if_pos c1]
  · have q : m.castOk c = true := by
      revert c1
      cases m.castOk c <;> simp
    have hl := (castOk_len h q).1
    refine answer1 h ((if_neg ?_).trans rfl) (show (m, aOrder m c) = _ from rfl) ?_
    · rw [castOk_eq h, q]
      simp
    · unfold aOrder
      rw [if_neg c1, bestO_eq hl (hpc h) h.npc]
      cases m.bestO c m.orders with
      | none => rfl
      | some y =>
        rw [out_eq]
        show (y.1 : Int) :: ([[y.2.1], y.2.2] : List (List Nat)).flatMap lst = _
        simp [List.flatMap_cons]
theorem same1 {c : Uw07.Call} (hs : Small c) : Same1 n m c := by
  cases c with
  | begins d => exact same_begins h d
  | scene k r => exact same_scene h k r hs
  | player w r a b f => exact same_player h w r a b f
  | piece k r => exact same_piece h k r hs
  | ahead i j => exact same_ahead h i j
  | best => exact same_best h
  | apart => exact same_apart h
  | check c o => exact same_check h c o
  | order c => exact same_order h c
end

/-! ### a line of calls -/
def playM : Pm → List Uw07.Call → List (List Int)
  | _, [] => []
  | m, x :: r => (stepM m x).2 :: playM (stepM m x).1 r
def rawOf : Uw07.Call → List (List Int)
  | .begins d => [[0], ns d]
  | .scene n r => [[1, (n : Int)], ns r]
  | .player w r a b f => [[2, (w : Int), (r : Int), (a : Int), (b : Int)], ns f]
  | .piece n r => [[3, (n : Int)], ns r]
  | .ahead i j => [[4, (i : Int), (j : Int)]]
  | .best => [[5]]
  | .apart => [[6]]
  | .check c o => [[7], ns c, ns o]
  | .order c => [[8], ns c]
theorem ns_of : ∀ {l : List Int}, l.all Uw07Neutral.nat = true → ns (l.map Int.toNat) = l
  | [], _ => rfl
  | z :: r, h => by
    rw [List.all_cons, Bool.and_eq_true] at h
    have h1 := h.1
    unfold Uw07Neutral.nat at h1
    rw [Bool.and_eq_true, decide_eq_true_eq] at h1
    show ((z.toNat : Nat) : Int) :: ns (r.map Int.toNat) = _
    rw [ns_of h.2, Int.toNat_of_nonneg h1.1]
theorem nat_of {z : Int} (h : Uw07Neutral.nat z = true) : ((z.toNat : Nat) : Int) = z := by
  unfold Uw07Neutral.nat at h
  rw [Bool.and_eq_true, decide_eq_true_eq] at h
  exact Int.toNat_of_nonneg h.1
theorem listAt_one {r : List Nat} {n : Nat} {s : List Nat} {x : List Nat × List Nat} (hn : n = r.length) (h : Uw07Neutral.listAt (n :: (r ++ s)) = some x) : n ≤ 20 ∧ x = (r, s) := by
  have h : (if n ≤ 20 ∧ n ≤ (r ++ s).length then some ((r ++ s).take n, (r ++ s).drop n) else none) = some x := h
  subst hn
  by_cases c : r.length ≤ 20 ∧ r.length ≤ (r ++ s).length
  · rw [if_pos c] at h
    have h := (Option.some.inj h).symm
    rw [List.take_left, List.drop_left] at h
    exact ⟨c.1, h⟩
  · rw [if_neg c] at h
    cases h
theorem listIn_one {r : List Nat} {n : Nat} {x : List Nat} (hn : n = r.length) (h : Uw07Neutral.listIn (n :: r) = some x) : n ≤ 20 ∧ x = r := by
  unfold Uw07Neutral.listIn at h
  cases e : Uw07Neutral.listAt (n :: r) with
  | none => rw [e] at h; cases h
  | some y =>
    rw [e] at h
    obtain ⟨h1, h2⟩ := listAt_one (s := []) hn (by rw [List.append_nil]; exact e)
    subst h2
    have h : (if ([] : List Nat) = [] then some r else none) = some x := h
    rw [if_pos rfl] at h
    exact ⟨h1, (Option.some.inj h).symm⟩
theorem len_toNat (r : List Int) : (r.length : Int).toNat = (r.map Int.toNat).length := by simp
theorem map_some {α β : Type} {o : Option α} {f : α → β} {y : β} (h : o.map f = some y) : ∃ x, o = some x ∧ y = f x := by
  cases o with
  | none => cases h
  | some x => exact ⟨x, rfl, (Option.some.inj h).symm⟩
/-- a call of the shape that the specification can read -/
theorem len1 {α : Type} : ∀ {l : List α}, 1 = l.length → ∃ r, l = [r]
  | [], h => by simp at h
  | [r], _ => ⟨r, rfl⟩
  | _ :: _ :: _, h => by simp at h
theorem len2 {α : Type} : ∀ {l : List α}, 2 = l.length → ∃ r q, l = [r, q]
  | [], h => by simp at h
  | [r], h => by simp at h
  | [r, q], _ => ⟨r, q, rfl⟩
  | _ :: _ :: _ :: _, h => by simp at h
theorem raw_one {c : List (List Int)} {x : Uw07.Call} (hs : PyFlat.okCall PyUw07.shape c) (hx : Uw07Neutral.callOf ((PyUw07.whole c).headD []) = some x) : c = rawOf x ∧ Small x := by
  obtain ⟨p, a, xs, rfl, hs⟩ := hs
  have hcall : ∀ {l : List Int}, Uw07Neutral.callOf l = some x → l.all Uw07Neutral.nat = true ∧ Uw07Neutral.callIn (l.map Int.toNat) = some x := by
    intro l h
    unfold Uw07Neutral.callOf at h
    cases q : l.all Uw07Neutral.nat with
    | false => rw [q, if_pos rfl] at h; cases h
    | true => rw [q, if_neg (by decide)] at h; exact ⟨rfl, h⟩
  unfold PyUw07.shape at hs
  by_cases p0 : p = 0
  · subst p0
    rw [if_pos rfl] at hs
    obtain ⟨e1, e2⟩ := Prod.mk.inj (Option.some.inj hs)
    obtain rfl := List.length_eq_zero_iff.mp e1.symm
    obtain ⟨r, rfl⟩ := len1 e2
    · skip
      obtain ⟨h1, h2⟩ := hcall (l := 0 :: (r.length : Int) :: r) hx
      have h2 : (Uw07Neutral.listIn ((r.length : Int).toNat :: r.map Int.toNat)).map Uw07.Call.begins = some x := h2
      obtain ⟨y, e, rfl⟩ := map_some h2
      obtain ⟨e3, rfl⟩ := listIn_one (len_toNat r) e
      simp only [List.all_cons, Bool.and_eq_true] at h1
      have e4 := ns_of h1.2.2
      refine ⟨by show [[0], r] = [[0], ns _]; rw [e4], ?_⟩
      show (r.map Int.toNat).length ≤ 20
      rw [← len_toNat]; exact e3
  rw [if_neg p0] at hs
  by_cases p1 : p = 1
  · subst p1
    rw [if_pos rfl] at hs
    obtain ⟨e1, e2⟩ := Prod.mk.inj (Option.some.inj hs)
    match a, xs, e1, e2 with
    | [u], [r], _, _ =>
      obtain ⟨h1, h2⟩ := hcall (l := 1 :: u :: (r.length : Int) :: r) hx
      have h2 : (Uw07Neutral.listIn ((r.length : Int).toNat :: r.map Int.toNat)).map (fun y => Uw07.Call.scene u.toNat y) = some x := h2
      obtain ⟨y, e, rfl⟩ := map_some h2
      obtain ⟨e3, rfl⟩ := listIn_one (len_toNat r) e
      simp only [List.all_cons, Bool.and_eq_true] at h1
      have e4 := ns_of h1.2.2.2
      refine ⟨by show [[1, u], r] = [[1, _], ns _]; rw [e4, nat_of h1.2.1], ?_⟩
      show (r.map Int.toNat).length ≤ 20
      rw [← len_toNat]; exact e3
  rw [if_neg p1] at hs
  by_cases p2 : p = 2
  · subst p2
    rw [if_pos rfl] at hs
    obtain ⟨e1, e2⟩ := Prod.mk.inj (Option.some.inj hs)
    match a, xs, e1, e2 with
    | [u1, u2, u3, u4], [r], _, _ =>
      obtain ⟨h1, h2⟩ := hcall (l := 2 :: u1 :: u2 :: u3 :: u4 :: (r.length : Int) :: r) hx
      have h2 : (Uw07Neutral.listIn ((r.length : Int).toNat :: r.map Int.toNat)).map (fun y => Uw07.Call.player u1.toNat u2.toNat u3.toNat u4.toNat y) = some x := h2
      obtain ⟨y, e, rfl⟩ := map_some h2
      obtain ⟨e3, rfl⟩ := listIn_one (len_toNat r) e
      simp only [List.all_cons, Bool.and_eq_true] at h1
      obtain ⟨_, a1, a2, a3, a4, _, a5⟩ := h1
      have e4 := ns_of a5
      refine ⟨by show [[2, u1, u2, u3, u4], r] = [[2, _, _, _, _], ns _]; rw [e4, nat_of a1, nat_of a2, nat_of a3, nat_of a4], ?_⟩
      show (r.map Int.toNat).length ≤ 20
      rw [← len_toNat]; exact e3
  rw [if_neg p2] at hs
  by_cases p3 : p = 3
  · subst p3
    rw [if_pos rfl] at hs
    obtain ⟨e1, e2⟩ := Prod.mk.inj (Option.some.inj hs)
    match a, xs, e1, e2 with
    | [u], [r], _, _ =>
      obtain ⟨h1, h2⟩ := hcall (l := 3 :: u :: (r.length : Int) :: r) hx
      have h2 : (Uw07Neutral.listIn ((r.length : Int).toNat :: r.map Int.toNat)).map (fun y => Uw07.Call.piece u.toNat y) = some x := h2
      obtain ⟨y, e, rfl⟩ := map_some h2
      obtain ⟨e3, rfl⟩ := listIn_one (len_toNat r) e
      simp only [List.all_cons, Bool.and_eq_true] at h1
      have e4 := ns_of h1.2.2.2
      refine ⟨by show [[3, u], r] = [[3, _], ns _]; rw [e4, nat_of h1.2.1], ?_⟩
      show (r.map Int.toNat).length ≤ 20
      rw [← len_toNat]; exact e3
  rw [if_neg p3] at hs
  by_cases p4 : p = 4
  · subst p4
    rw [if_pos rfl] at hs
    obtain ⟨e1, e2⟩ := Prod.mk.inj (Option.some.inj hs)
    match a, xs, e1, e2 with
    | [u, v], [], _, _ =>
      obtain ⟨h1, h2⟩ := hcall (l := [4, u, v]) hx
      have h2 : some (Uw07.Call.ahead u.toNat v.toNat) = some x := h2
      have h2 := (Option.some.inj h2).symm
      subst h2
      simp only [List.all_cons, Bool.and_eq_true] at h1
      exact ⟨by show [[4, u, v]] = [[4, _, _]]; rw [nat_of h1.2.1, nat_of h1.2.2.1], trivial⟩
  rw [if_neg p4] at hs
  by_cases p5 : p = 5
  · subst p5
    rw [if_pos rfl] at hs
    obtain ⟨e1, e2⟩ := Prod.mk.inj (Option.some.inj hs)
    match a, xs, e1, e2 with
    | [], [], _, _ =>
      obtain ⟨h1, h2⟩ := hcall (l := [5]) hx
      have h2 : some Uw07.Call.best = some x := h2
      have h2 := (Option.some.inj h2).symm
      subst h2
      exact ⟨rfl, trivial⟩
  rw [if_neg p5] at hs
  by_cases p6 : p = 6
  · subst p6
    rw [if_pos rfl] at hs
    obtain ⟨e1, e2⟩ := Prod.mk.inj (Option.some.inj hs)
    match a, xs, e1, e2 with
    | [], [], _, _ =>
      obtain ⟨h1, h2⟩ := hcall (l := [6]) hx
      have h2 : some Uw07.Call.apart = some x := h2
      have h2 := (Option.some.inj h2).symm
      subst h2
      exact ⟨rfl, trivial⟩
  rw [if_neg p6] at hs
  by_cases p7 : p = 7
  · subst p7
    rw [if_pos rfl] at hs
    obtain ⟨e1, e2⟩ := Prod.mk.inj (Option.some.inj hs)
    obtain rfl := List.length_eq_zero_iff.mp e1.symm
    obtain ⟨r, q, rfl⟩ := len2 e2
    · skip
      have hx : Uw07Neutral.callOf ([7] ++ [(r.length : Int)] ++ r ++ [(q.length : Int)] ++ q) = some x := hx
      obtain ⟨h1, h2⟩ := hcall hx
      have el : ([7] ++ [(r.length : Int)] ++ r ++ [(q.length : Int)] ++ q : List Int).map Int.toNat = 7 :: (r.length : Int).toNat :: (r.map Int.toNat ++ ((q.length : Int).toNat :: q.map Int.toNat)) := by simp
      rw [el] at h2
      have h2 : ((Uw07Neutral.listAt ((r.length : Int).toNat :: (r.map Int.toNat ++ ((q.length : Int).toNat :: q.map Int.toNat)))).bind fun x => (Uw07Neutral.listIn x.2).map fun o => Uw07.Call.check x.1 o) = some x := h2
      cases e : Uw07Neutral.listAt ((r.length : Int).toNat :: (r.map Int.toNat ++ ((q.length : Int).toNat :: q.map Int.toNat))) with
      | none => rw [e] at h2; cases h2
      | some z =>
        rw [e] at h2
        obtain ⟨e5, rfl⟩ := listAt_one (len_toNat r) e
        have h2 : (Uw07Neutral.listIn ((q.length : Int).toNat :: q.map Int.toNat)).map (fun o => Uw07.Call.check (r.map Int.toNat) o) = some x := h2
        obtain ⟨y, e6, rfl⟩ := map_some h2
        obtain ⟨e3, rfl⟩ := listIn_one (len_toNat q) e6
        simp only [List.all_append, List.all_cons, Bool.and_eq_true] at h1
        obtain ⟨⟨⟨_, a1⟩, _⟩, a2⟩ := h1
        refine ⟨by show [[7], r, q] = [[7], ns _, ns _]; rw [ns_of a1, ns_of a2], ?_, ?_⟩
        · rw [← len_toNat]; exact e5
        · rw [← len_toNat]; exact e3
  rw [if_neg p7] at hs
  by_cases p8 : p = 8
  · subst p8
    rw [if_pos rfl] at hs
    obtain ⟨e1, e2⟩ := Prod.mk.inj (Option.some.inj hs)
    obtain rfl := List.length_eq_zero_iff.mp e1.symm
    obtain ⟨r, rfl⟩ := len1 e2
    · skip
      obtain ⟨h1, h2⟩ := hcall (l := 8 :: (r.length : Int) :: r) hx
      have h2 : (Uw07Neutral.listIn ((r.length : Int).toNat :: r.map Int.toNat)).map Uw07.Call.order = some x := h2
      obtain ⟨y, e, rfl⟩ := map_some h2
      obtain ⟨e3, rfl⟩ := listIn_one (len_toNat r) e
      simp only [List.all_cons, Bool.and_eq_true] at h1
      have e4 := ns_of h1.2.2
      refine ⟨by show [[8], r] = [[8], ns _]; rw [e4], ?_⟩
      show (r.map Int.toNat).length ≤ 20
      rw [← len_toNat]; exact e3
  rw [if_neg p8] at hs
  cases hs
theorem raw_all : ∀ (raw : List (List (List Int))), (∀ c ∈ raw, PyFlat.okCall PyUw07.shape c) → ((raw.map PyUw07.whole).map fun c => c.headD []).all Uw07Neutral.asked1 = true →
    ∃ xs : List Uw07.Call, raw = xs.map rawOf ∧ (∀ x ∈ xs, Small x ∧ Uw07Neutral.callOf ((PyUw07.whole (rawOf x)).headD []) = some x)
  | [], _, _ => ⟨[], rfl, fun x h => (nomatch h)⟩
  | c :: r, h, q => by
    rw [List.map_cons, List.map_cons, List.all_cons, Bool.and_eq_true] at q
    obtain ⟨xs, e, hs⟩ := raw_all r (fun d hd => h d (List.mem_cons_of_mem _ hd)) q.2
    have q1 : (Uw07Neutral.callOf ((PyUw07.whole c).headD [])).isSome = true := q.1
    obtain ⟨x, hx⟩ := Option.isSome_iff_exists.mp q1
    obtain ⟨e1, e2⟩ := raw_one (h c (List.mem_cons_self ..)) hx
    refine ⟨x :: xs, by rw [e1, e]; rfl, fun y hy => ?_⟩
    rcases List.mem_cons.mp hy with e | hy
    · rw [e]; exact ⟨e2, e1 ▸ hx⟩
    · exact hs y hy
theorem played_eq : ∀ (xs : List Uw07.Call) (n : Nat) (m : Pm), m.Ok n → (∀ x ∈ xs, Small x ∧ Uw07Neutral.callOf ((PyUw07.whole (rawOf x)).headD []) = some x) →
    PyFlat.played (fun s c => Uw07Neutral.step s (c.headD [])) m.house ((xs.map rawOf).map PyUw07.whole) = playM m xs
  | [], _, _, _, _ => rfl
  | x :: r, n, m, h, hs => by
    have e := (hs x (List.mem_cons_self ..)).2
    obtain ⟨s1, s2, s3⟩ := same1 h (hs x (List.mem_cons_self ..)).1
    have e1 : Uw07Neutral.step m.house ((PyUw07.whole (rawOf x)).headD []) = ((stepM m x).1.house, (stepM m x).2) := by
      unfold Uw07Neutral.step
      rw [e]
      show ((Uw07.step m.house x).1, Uw07Neutral.out (Uw07.step m.house x).2) = _
      rw [s1, s2]
    show (Uw07Neutral.step m.house ((PyUw07.whole (rawOf x)).headD [])).2 :: PyFlat.played _ (Uw07Neutral.step m.house ((PyUw07.whole (rawOf x)).headD [])).1 _ = _
    rw [e1, played_eq r (n + 1) _ s3 (fun y hy => hs y (List.mem_cons_of_mem _ hy))]
    rfl
/-- THE PLAIN LAW: what is asked is a line of calls put flat, and what is due is what the mirror plays -/
theorem due {l : List Int} (h : PyUw07.answers_asked l = true) : ∃ xs : List Uw07.Call, l = PyFlat.put (xs.map rawOf) ∧ xs.length ≤ 40 ∧ (∀ x ∈ xs, Small x) ∧ PyUw07.answers l = PyFlat.told (playM Pm.init xs) ∧ (PyFlat.told (playM Pm.init xs)).length ≤ 10000000 := by
  unfold PyUw07.answers_asked at h
  cases e : PyFlat.calls PyUw07.shape l.length l with
  | none => rw [e] at h; cases h
  | some raw =>
    rw [e] at h
    simp only [Bool.and_eq_true] at h
    obtain ⟨⟨⟨⟨_, h1⟩, _⟩, h2⟩, h3⟩ := h
    obtain ⟨e1, e2⟩ := PyFlat.put_calls _ _ _ e
    unfold Uw07Neutral.asked at h2
    rw [Bool.and_eq_true] at h2
    obtain ⟨xs, e3, hs⟩ := raw_all raw e2 h2.1
    subst e3
    have ea : PyUw07.answers l = PyFlat.told (playM Pm.init xs) := by
      unfold PyUw07.answers PyUw07.calls
      rw [e]
      show PyFlat.told (PyFlat.played _ Pm.init.house _) = _
      rw [played_eq xs 0 Pm.init Pm.Ok.start hs]
    refine ⟨xs, e1, ?_, fun x hx => (hs x hx).1, ea, ?_⟩
    · have z := of_decide_eq_true h1
      rw [List.length_map] at z
      exact z
    · have z := of_decide_eq_true h3
      rw [ea] at z
      exact z
end Rc
#print axioms Rc.due
set_option Elab.async false
set_option linter.all false
set_option maxRecDepth 100000
set_option maxHeartbeats 4000000
/-! # The walk's tools: places of the text, values, heaps, what evaluates to what -/
namespace L2
open PySem PySem.Spec PyProof.Rows
theorem Room.u65 {k : Nat} {A : Around} (r : Room k A) : A.units + 65 < cLine := by have := r.un; omega
end L2
namespace Rc
open PySem PySem.Spec PyProof.Rows L2 Evl
open C8 (Cal Met Mak)

/-! ### the text -/
def topS (i : Nat) : Stmt := PySem.Challenge.pw_rolecasting_s01_answers.main.body.getD i (.Pass ⟨0, 0, 0, 0⟩)
/-- a def of the module under its name; a method of a class; a class that is made -/
structure HasDef (K : PySem.W.Frag) (mg : Str → Option Value) (x : Str) (st : Stmt) (ps : List Str) : Prop where
  ex : ∃ f fd, C8.Def K mg x st f fd ∧ Binds K fd ps []
structure HasMeth (K : PySem.W.Frag) (C : Addr) (m qual : Str) (st : Stmt) (ps : List Str) : Prop where
  ex : ∃ f fd, Meth K C m f ∧ C8.Fun K m qual st f fd ∧ Binds K fd ps []
structure HasMak (K : PySem.W.Frag) (mg : Str → Option Value) (x : Str) (C : Addr) (qual : Str) (st : Stmt) (ps : List Str) : Prop where
  ex : ∃ f fd, Mk K C f ∧ mg x = some (.ref C) ∧ C8.Fun K "__init__" qual st f fd ∧ Binds K fd ps []
section
variable {P : Program} {w : World} {K : PySem.W.Frag} {mg : Str → Option Value} {base : Heap}
theorem def_ok {x : Str} {st : Stmt} {N ps : List Str} {k : Nat} {sp : Sp} (F : HasDef K mg x st ps) (S : FnScope N ps (C8.fnScope st)) (len : ∀ vs H Q E, sp vs H Q E → vs.length = ps.length)
    (hbody : ∀ (f : Addr) (cdv : Value) (A : Around) (outer : List Env) (s : Shared) (H : Hp) (vs : List V) (Q : VK) (E : XK), Room k (A.deeper (envOfC x (C8.fnScope st) s.heap.objs.size f cdv)) → sp vs H Q E →
      ∃ t, PSs (cxOf C8.CX0 P w K mg base N x (C8.fnScope st) f cdv A outer s H E).nox (C8.fnBody st) t ∧ t { nx := fun _ H' => Q .non H', rt := Q } (start N vs) H) : Cal P w K mg base (k + 1) x sp [] := by
  obtain ⟨f, fd, F, b⟩ := F.ex
  exact C8.cal0 F b .nil S len (hbody f)
theorem meth_ok {C : Addr} {m qual : Str} {st : Stmt} {N ps : List Str} {k : Nat} {sp : Sp} (c : Cls K C) (F : HasMeth K C m qual st ps) (S : FnScope N ps (C8.fnScope st)) (len : ∀ vs H Q E, sp vs H Q E → vs.length = ps.length)
    (hbody : ∀ (f : Addr) (cdv : Value) (A : Around) (outer : List Env) (s : Shared) (H : Hp) (vs : List V) (Q : VK) (E : XK), Room k (A.deeper (envOfC qual (C8.fnScope st) s.heap.objs.size f cdv)) → sp vs H Q E →
      ∃ t, PSs (cxOf C8.CX0 P w K mg base N qual (C8.fnScope st) f cdv A outer s H E).nox (C8.fnBody st) t ∧ t { nx := fun _ H' => Q .non H', rt := Q } (start N vs) H) : Met P w K mg base (k + 1) C m sp [] := by
  obtain ⟨f, fd, me, F, b⟩ := F.ex
  exact C8.met0 c me F b S len (hbody f)
theorem mak_ok {x qual : Str} {C : Addr} {st : Stmt} {N ps : List Str} {k : Nat} {sp : Sp} (F : HasMak K mg x C qual st ps) (S : FnScope N ps (C8.fnScope st)) (len : ∀ vs H Q E, sp vs H Q E → vs.length = ps.length)
    (hbody : ∀ (f : Addr) (cdv : Value) (A : Around) (outer : List Env) (s : Shared) (H : Hp) (vs : List V) (Q : VK) (E : XK), Room k (A.deeper (envOfC qual (C8.fnScope st) s.heap.objs.size f cdv)) → sp vs H Q E →
      ∃ t, PSs (cxOf C8.CX0 P w K mg base N qual (C8.fnScope st) f cdv A outer s H E).nox (C8.fnBody st) t ∧ t { nx := fun _ H' => Q .non H', rt := Q } (start N vs) H) : Mak P w K mg base (k + 1) x C sp [] := by
  obtain ⟨f, fd, M, hm, F, b⟩ := F.ex
  exact C8.mak0 M hm F b .nil S len (hbody f)
end
section
variable {X : Cx} {k j : Nat} {C : Addr} {x : Str} {sp : Sp} {dvs : List V} {p pos : Pos}
theorem pe_k {v : V} (hg : Gl X x) (h : ∃ u, X.mg x = some u ∧ RelV v u) (hd : (x == ("__debug__" : Str)) = false := by decide) : PE X (.Name x pos) (tC v) := C8.pe_gc hg h hd
theorem pe_mk0 (c : Mak X.prog X.w X.K X.mg X.base k x C sp dvs) (hr : Room j X.A) (hk : k + 1 ≤ j) (hg : Gl X x) (hdb : (x == ("__debug__" : Str)) = false := by decide) : PE X (.Call (.Name x p) [] [] pos) (tMake C sp dvs C8.E0 tNil) := by
  obtain ⟨f, fd, ps, ds, M, F, hm, b, d⟩ := c.ex
  exact pe_make0 M F (hr.mono hk) hg hm b d C8.pass0 hdb
end
/-- the addresses of the classes and of the two tables -/
structure Ad where
  (cY cP cB cH aN aR : Addr)
/-- what the top has written, of what the defs read -/
structure Txt (K : PySem.W.Frag) (mg : Str → Option Value) (A : Ad) : Prop where
  len : mg "len" = none
  max : mg "max" = none
  sum : mg "sum" = none
  sorted : mg "sorted" = none
  list : mg "list" = none
  range : mg "range" = none
  enumerate : mg "enumerate" = none
  kMOST_ROLES : ∃ u, mg "MOST_ROLES" = some u ∧ RelV (.int 5) u
  kMOST_SCENES : ∃ u, mg "MOST_SCENES" = some u ∧ RelV (.int 10) u
  kMOST_PLAYERS : ∃ u, mg "MOST_PLAYERS" = some u ∧ RelV (.int 4) u
  kMOST_PIECES : ∃ u, mg "MOST_PIECES" = some u ∧ RelV (.int 4) u
  kMOST_MINUTES : ∃ u, mg "MOST_MINUTES" = some u ∧ RelV (.int 1000) u
  kMOST_PIECE : ∃ u, mg "MOST_PIECE" = some u ∧ RelV (.int 600) u
  kMOST_DAY : ∃ u, mg "MOST_DAY" = some u ∧ RelV (.int 3600) u
  kMOST_MONEY : ∃ u, mg "MOST_MONEY" = some u ∧ RelV (.int 100000) u
  tNUMBERS : ∃ u, mg "NUMBERS" = some u ∧ RelV (.ref A.aN) u
  tROWS : ∃ u, mg "ROWS" = some u ∧ RelV (.ref A.aR) u
  qN : ∀ H : Hp, SqT K H A.aN [.int 0, .int 1, .int 4, .int 1, .int 2, .int 0, .int 0, .int 0, .int 0]
  qR : ∀ H : Hp, SqT K H A.aR [.int 1, .int 1, .int 1, .int 1, .int 0, .int 0, .int 0, .int 2, .int 1]
  clY : Cls K A.cY
  clP : Cls K A.cP
  clB : Cls K A.cB
  clH : Cls K A.cH
  yw : NoAttr K A.cY "wage"
  yr : NoAttr K A.cY "rate"
  ys : NoAttr K A.cY "since"
  yt : NoAttr K A.cY "till"
  yf : NoAttr K A.cY "fees"
  pd : NoAttr K A.cP "dressing"
  ps : NoAttr K A.cP "scenes"
  pl : NoAttr K A.cP "players"
  pp : NoAttr K A.cP "pieces"
  pr : NoAttr K A.cP "pairs"
  bc : NoAttr K A.cB "cost"
  bm : NoAttr K A.cB "many"
  bt : NoAttr K A.cB "thing"
  hp : NoAttr K A.cH "play"
abbrev pe_kt := @pe_k

/-! ### fields by name -/
theorem lk_here {k : Str} {v : V} {r : List (Str × V)} : List.lookup k ((k, v) :: r) = some v := by
  have e : (k == k) = true := beq_self_eq_true k
  simp only [List.lookup, e]
theorem lk_past {k g : Str} {v : V} {r : List (Str × V)} (h : (k == g) = false) : List.lookup k ((g, v) :: r) = List.lookup k r := by
  simp only [List.lookup, h]
theorem put_here {f : Str} {v x : V} {r : List (Str × V)} : putF f v ((f, x) :: r) = (f, v) :: r := if_pos rfl
theorem put_past {f g : Str} {v x : V} {r : List (Str × V)} (h : ¬ g = f) : putF f v ((g, x) :: r) = (g, x) :: putF f v r := if_neg h
abbrev nV (n : Nat) : V := .int (n : Int)
abbrev iv (l : List Nat) : List V := l.map nV
def yF (p : Pl) (r : Addr) : List (Str × V) := [("wage", nV p.wage), ("rate", nV p.rate), ("since", nV p.since), ("till", nV p.till), ("fees", .ref r)]
theorem yF_w (p : Pl) (r : Addr) : (yF p r).lookup ("wage" : Str) = some (nV p.wage) := lk_here
theorem yF_r (p : Pl) (r : Addr) : (yF p r).lookup ("rate" : Str) = some (nV p.rate) := (lk_past (by decide +kernel)).trans lk_here
theorem yF_s (p : Pl) (r : Addr) : (yF p r).lookup ("since" : Str) = some (nV p.since) := (lk_past (by decide +kernel)).trans ((lk_past (by decide +kernel)).trans lk_here)
theorem yF_t (p : Pl) (r : Addr) : (yF p r).lookup ("till" : Str) = some (nV p.till) := (lk_past (by decide +kernel)).trans ((lk_past (by decide +kernel)).trans ((lk_past (by decide +kernel)).trans lk_here))
theorem yF_f (p : Pl) (r : Addr) : (yF p r).lookup ("fees" : Str) = some (.ref r) := (lk_past (by decide +kernel)).trans ((lk_past (by decide +kernel)).trans ((lk_past (by decide +kernel)).trans ((lk_past (by decide +kernel)).trans lk_here)))
theorem yF_can (p : Pl) (r : Addr) : (yF p r).lookup ("can_play" : Str) = none := (lk_past (by decide +kernel)).trans ((lk_past (by decide +kernel)).trans ((lk_past (by decide +kernel)).trans ((lk_past (by decide +kernel)).trans ((lk_past (by decide +kernel)).trans rfl))))
theorem yF_fee (p : Pl) (r : Addr) : (yF p r).lookup ("fee" : Str) = none := (lk_past (by decide +kernel)).trans ((lk_past (by decide +kernel)).trans ((lk_past (by decide +kernel)).trans ((lk_past (by decide +kernel)).trans ((lk_past (by decide +kernel)).trans rfl))))
/-- where a play's parts lie -/
structure Pa where
  (ad as al ai ar : Addr)
def pF (A : Pa) : List (Str × V) := [("dressing", .ref A.ad), ("scenes", .ref A.as), ("players", .ref A.al), ("pieces", .ref A.ai), ("pairs", .ref A.ar)]
theorem pF_d (A : Pa) : (pF A).lookup ("dressing" : Str) = some (.ref A.ad) := lk_here
theorem pF_s (A : Pa) : (pF A).lookup ("scenes" : Str) = some (.ref A.as) := (lk_past (by decide +kernel)).trans lk_here
theorem pF_l (A : Pa) : (pF A).lookup ("players" : Str) = some (.ref A.al) := (lk_past (by decide +kernel)).trans ((lk_past (by decide +kernel)).trans lk_here)
theorem pF_p (A : Pa) : (pF A).lookup ("pieces" : Str) = some (.ref A.ai) := (lk_past (by decide +kernel)).trans ((lk_past (by decide +kernel)).trans ((lk_past (by decide +kernel)).trans lk_here))
theorem pF_r (A : Pa) : (pF A).lookup ("pairs" : Str) = some (.ref A.ar) := (lk_past (by decide +kernel)).trans ((lk_past (by decide +kernel)).trans ((lk_past (by decide +kernel)).trans ((lk_past (by decide +kernel)).trans lk_here)))
theorem pF_none (A : Pa) {f : Str} (h : f = "between" ∨ f = "put_scene" ∨ f = "put_player" ∨ f = "put_piece" ∨ f = "put_pair") : (pF A).lookup f = none := by
  rcases h with rfl | rfl | rfl | rfl | rfl <;> exact (lk_past (by decide +kernel)).trans ((lk_past (by decide +kernel)).trans ((lk_past (by decide +kernel)).trans ((lk_past (by decide +kernel)).trans ((lk_past (by decide +kernel)).trans rfl))))
def bF (c k t : V) : List (Str × V) := [("cost", c), ("many", k), ("thing", t)]
theorem bF_c (c k t : V) : (bF c k t).lookup ("cost" : Str) = some c := lk_here
theorem bF_k (c k t : V) : (bF c k t).lookup ("many" : Str) = some k := (lk_past (by decide +kernel)).trans lk_here
theorem bF_t (c k t : V) : (bF c k t).lookup ("thing" : Str) = some t := (lk_past (by decide +kernel)).trans ((lk_past (by decide +kernel)).trans lk_here)
theorem bF_put (c k t : V) : (bF c k t).lookup ("put" : Str) = none := (lk_past (by decide +kernel)).trans ((lk_past (by decide +kernel)).trans ((lk_past (by decide +kernel)).trans rfl))
def hF (a : Addr) : List (Str × V) := [("play", .ref a)]
theorem hF_p (a : Addr) : (hF a).lookup ("play" : Str) = some (.ref a) := lk_here
theorem hF_hold (a : Addr) : (hF a).lookup ("hold" : Str) = none := (lk_past (by decide +kernel)).trans rfl

/-! ### lists that stand for lists -/
/-- xs stands for ys, place by place -/
def Ats {α : Type} (R : V → α → Prop) (xs : List V) (ys : List α) : Prop := xs.length = ys.length ∧ ∀ (i : Nat) (y : α), ys[i]? = some y → ∃ x, xs[i]? = some x ∧ R x y
section
variable {α : Type} {R S : V → α → Prop} {xs xs' : List V} {ys ys' : List α}
theorem Ats.nil : Ats R [] [] := ⟨rfl, fun i y h => by simp at h⟩
theorem Ats.mono (h : Ats R xs ys) (k : ∀ x y, R x y → S x y) : Ats S xs ys := ⟨h.1, fun i y e => let ⟨x, a, b⟩ := h.2 i y e; ⟨x, a, k x y b⟩⟩
theorem Ats.append (h : Ats R xs ys) (h' : Ats R xs' ys') : Ats R (xs ++ xs') (ys ++ ys') := by
  refine ⟨by rw [List.length_append, List.length_append, h.1, h'.1], fun i y e => ?_⟩
  by_cases c : i < ys.length
  · rw [List.getElem?_append_left c] at e
    obtain ⟨x, a, b⟩ := h.2 i y e
    exact ⟨x, by rw [List.getElem?_append_left (by rw [h.1]; exact c)]; exact a, b⟩
  · rw [List.getElem?_append_right (by omega)] at e
    obtain ⟨x, a, b⟩ := h'.2 _ y e
    exact ⟨x, by rw [List.getElem?_append_right (by rw [h.1]; omega), h.1]; exact a, b⟩
theorem Ats.one {x : V} {y : α} (r : R x y) : Ats R [x] [y] := ⟨rfl, fun i z e => by
  cases i with
  | zero => exact ⟨x, rfl, by have e := Option.some.inj e; subst e; exact r⟩
  | succ i => simp at e⟩
theorem Ats.snoc {x : V} {y : α} (h : Ats R xs ys) (r : R x y) : Ats R (xs ++ [x]) (ys ++ [y]) := h.append (.one r)
theorem Ats.get {i : Nat} {x : V} (h : Ats R xs ys) (e : xs[i]? = some x) : ∃ y, ys[i]? = some y ∧ R x y := by
  have l : i < xs.length := (List.getElem?_eq_some_iff.mp e).1
  have l2 : i < ys.length := by rw [← h.1]; exact l
  obtain ⟨z, a, b⟩ := h.2 i ys[i] (List.getElem?_eq_getElem l2)
  rw [e] at a
  have a := (Option.some.inj a).symm
  subst a
  exact ⟨_, List.getElem?_eq_getElem l2, b⟩
end
section
variable {H H' : Hp}
/-- a list of numbers; a pair of a number and a list of numbers; a pair of numbers; a player -/
def isL (H : Hp) (v : V) (l : List Nat) : Prop := ∃ p, v = .ref p ∧ H p = some (.lst (iv l))
def isSc (H : Hp) (v : V) (s : Nat × List Nat) : Prop := ∃ t r, v = .ref t ∧ H t = some (.tup [nV s.1, .ref r]) ∧ H r = some (.lst (iv s.2))
def isPr (H : Hp) (v : V) (x : Nat × Nat) : Prop := ∃ t, v = .ref t ∧ H t = some (.tup [nV x.1, nV x.2])
def isY (C : Addr) (H : Hp) (v : V) (p : Pl) : Prop := ∃ a dx r, v = .ref a ∧ H a = some (.ins C dx (yF p r)) ∧ H r = some (.lst (iv p.fees))
theorem isL.mono (e : Ex H H') {v : V} {l : List Nat} (h : isL H v l) : isL H' v l := let ⟨p, a, b⟩ := h; ⟨p, a, e _ _ b⟩
theorem isSc.mono (e : Ex H H') {v : V} {l : Nat × List Nat} (h : isSc H v l) : isSc H' v l := let ⟨t, r, a, b, c⟩ := h; ⟨t, r, a, e _ _ b, e _ _ c⟩
theorem isPr.mono (e : Ex H H') {v : V} {l : Nat × Nat} (h : isPr H v l) : isPr H' v l := let ⟨t, a, b⟩ := h; ⟨t, a, e _ _ b⟩
theorem isY.mono {C : Addr} (e : Ex H H') {v : V} {p : Pl} (h : isY C H v p) : isY C H' v p := let ⟨t, d, r, a, b, c⟩ := h; ⟨t, d, r, a, e _ _ b, e _ _ c⟩
/-- a play as it is read -/
structure Play (A : Ad) (H : Hp) (a : Addr) (m : Pm) (p : Pa) (dx : Addr) (s1 s2 s3 s4 : List V) : Prop where
  ob : H a = some (.ins A.cP dx (pF p))
  dr : H p.ad = some (.lst (iv m.dress))
  sc : H p.as = some (.lst s1)
  pl : H p.al = some (.lst s2)
  pc : H p.ai = some (.lst s3)
  pr : H p.ar = some (.lst s4)
  scs : Ats (isSc H) s1 m.scenes
  pls : Ats (isY A.cY H) s2 m.players
  pcs : Ats (isSc H) s3 m.pieces
  prs : Ats (isPr H) s4 m.pairs
theorem Play.mono {A : Ad} {a dx : Addr} {m : Pm} {p : Pa} {s1 s2 s3 s4 : List V} (h : Play A H a m p dx s1 s2 s3 s4) (e : Ex H H') : Play A H' a m p dx s1 s2 s3 s4 :=
  ⟨e _ _ h.ob, e _ _ h.dr, e _ _ h.sc, e _ _ h.pl, e _ _ h.pc, e _ _ h.pr, h.scs.mono fun _ _ => isSc.mono e, h.pls.mono fun _ _ => isY.mono e, h.pcs.mono fun _ _ => isSc.mono e, h.prs.mono fun _ _ => isPr.mono e⟩
def PlayR (A : Ad) (H : Hp) (a : Addr) (m : Pm) : Prop := ∃ p dx s1 s2 s3 s4, Play A H a m p dx s1 s2 s3 s4
theorem PlayR.mono {A : Ad} {a : Addr} {m : Pm} (h : PlayR A H a m) (e : Ex H H') : PlayR A H' a m := let ⟨p, dx, s1, s2, s3, s4, q⟩ := h; ⟨p, dx, s1, s2, s3, s4, q.mono e⟩
end
end Rc
set_option Elab.async false
set_option linter.all false
set_option maxRecDepth 100000
set_option maxHeartbeats 4000000
/-! # The defs: places, names, scopes (printed by gen.py) -/
namespace Rc
open PySem PySem.Spec PyProof.Rows L2 Evl
abbrev s_wrong_casting : Stmt := topS 1
abbrev N_wrong_casting : List Str := ["play", "clashes", "casting", "role", "player", "one", "other"]
theorem sc_wrong_casting : FnScope N_wrong_casting ["play", "clashes", "casting"] (C8.fnScope s_wrong_casting) := C8.fnScope_by (by decide +kernel)
abbrev s_casting_cost : Stmt := topS 2
abbrev N_casting_cost : List Str := ["play", "casting", "wages", "number", "player", "role"]
theorem sc_casting_cost : FnScope N_casting_cost ["play", "casting"] (C8.fnScope s_casting_cost) := C8.fnScope_by (by decide +kernel)
abbrev s_in_piece : Stmt := topS 3
abbrev N_in_piece : List Str := ["play", "casting", "piece", "player", "role"]
theorem sc_in_piece : FnScope N_in_piece ["play", "casting", "piece", "player"] (C8.fnScope s_in_piece) := C8.fnScope_by (by decide +kernel)
abbrev s_stay : Stmt := topS 4
abbrev N_stay : List Str := ["play", "casting", "order", "player", "now", "worked", "found", "piece", "begin"]
theorem sc_stay : FnScope N_stay ["play", "casting", "order", "player"] (C8.fnScope s_stay) := C8.fnScope_by (by decide +kernel)
abbrev s_stays : Stmt := topS 5
abbrev N_stays : List Str := ["play", "casting", "order", "player"]
theorem sc_stays : FnScope N_stays ["play", "casting", "order"] (C8.fnScope s_stays) := C8.fnScope_by (by decide +kernel)
abbrev s_wrong_order : Stmt := topS 6
abbrev N_wrong_order : List Str := ["play", "order", "there", "at", "pair", "number", "own"]
theorem sc_wrong_order : FnScope N_wrong_order ["play", "order", "there"] (C8.fnScope s_wrong_order) := C8.fnScope_by (by decide +kernel)
abbrev s_order_cost : Stmt := topS 7
abbrev N_order_cost : List Str := ["play", "there", "found", "number", "own"]
theorem sc_order_cost : FnScope N_order_cost ["play", "there"] (C8.fnScope s_order_cost) := C8.fnScope_by (by decide +kernel)
abbrev s_castings : Stmt := topS 8
abbrev N_castings : List Str := ["play", "found", "role", "longer", "before", "player"]
theorem sc_castings : FnScope N_castings ["play"] (C8.fnScope s_castings) := C8.fnScope_by (by decide +kernel)
abbrev s_orders : Stmt := topS 9
abbrev N_orders : List Str := ["play", "found", "turn", "longer", "before", "piece"]
theorem sc_orders : FnScope N_orders ["play"] (C8.fnScope s_orders) := C8.fnScope_by (by decide +kernel)
abbrev s_Best_init : Stmt := inClass (topS 10) 0
abbrev N_Best_init : List Str := ["self"]
theorem sc_Best_init : FnScope N_Best_init ["self"] (C8.fnScope s_Best_init) := C8.fnScope_by (by decide +kernel)
abbrev s_Best_put : Stmt := inClass (topS 10) 1
abbrev N_Best_put : List Str := ["self", "cost", "many", "thing"]
theorem sc_Best_put : FnScope N_Best_put ["self", "cost", "many", "thing"] (C8.fnScope s_Best_put) := C8.fnScope_by (by decide +kernel)
abbrev s_best_order : Stmt := topS 11
abbrev N_best_order : List Str := ["play", "casting", "all_orders", "found", "order", "there"]
theorem sc_best_order : FnScope N_best_order ["play", "casting", "all_orders"] (C8.fnScope s_best_order) := C8.fnScope_by (by decide +kernel)
abbrev s_right_castings : Stmt := topS 12
abbrev N_right_castings : List Str := ["play", "clashes", "casting"]
theorem sc_right_castings : FnScope N_right_castings ["play", "clashes"] (C8.fnScope s_right_castings) := C8.fnScope_by (by decide +kernel)
abbrev s_best_plan : Stmt := topS 13
abbrev N_best_plan : List Str := ["play", "clashes", "found", "all_orders", "casting", "own"]
theorem sc_best_plan : FnScope N_best_plan ["play", "clashes"] (C8.fnScope s_best_plan) := C8.fnScope_by (by decide +kernel)
abbrev s_best_casting : Stmt := topS 14
abbrev N_best_casting : List Str := ["play", "clashes", "found", "casting"]
theorem sc_best_casting : FnScope N_best_casting ["play", "clashes"] (C8.fnScope s_best_casting) := C8.fnScope_by (by decide +kernel)
abbrev s_Player_init : Stmt := inClass (topS 24) 0
abbrev N_Player_init : List Str := ["self", "wage", "rate", "since", "till", "fees"]
theorem sc_Player_init : FnScope N_Player_init ["self", "wage", "rate", "since", "till", "fees"] (C8.fnScope s_Player_init) := C8.fnScope_by (by decide +kernel)
abbrev s_Player_can_play : Stmt := inClass (topS 24) 1
abbrev N_Player_can_play : List Str := ["self", "role"]
theorem sc_Player_can_play : FnScope N_Player_can_play ["self", "role"] (C8.fnScope s_Player_can_play) := C8.fnScope_by (by decide +kernel)
abbrev s_Player_fee : Stmt := inClass (topS 24) 2
abbrev N_Player_fee : List Str := ["self", "role"]
theorem sc_Player_fee : FnScope N_Player_fee ["self", "role"] (C8.fnScope s_Player_fee) := C8.fnScope_by (by decide +kernel)
abbrev s_Play_init : Stmt := inClass (topS 25) 0
abbrev N_Play_init : List Str := ["self", "dressing"]
theorem sc_Play_init : FnScope N_Play_init ["self", "dressing"] (C8.fnScope s_Play_init) := C8.fnScope_by (by decide +kernel)
abbrev s_Play_put_scene : Stmt := inClass (topS 25) 1
abbrev N_Play_put_scene : List Str := ["self", "minutes", "roles"]
theorem sc_Play_put_scene : FnScope N_Play_put_scene ["self", "minutes", "roles"] (C8.fnScope s_Play_put_scene) := C8.fnScope_by (by decide +kernel)
abbrev s_Play_put_player : Stmt := inClass (topS 25) 2
abbrev N_Play_put_player : List Str := ["self", "player"]
theorem sc_Play_put_player : FnScope N_Play_put_player ["self", "player"] (C8.fnScope s_Play_put_player) := C8.fnScope_by (by decide +kernel)
abbrev s_Play_put_piece : Stmt := inClass (topS 25) 3
abbrev N_Play_put_piece : List Str := ["self", "minutes", "roles"]
theorem sc_Play_put_piece : FnScope N_Play_put_piece ["self", "minutes", "roles"] (C8.fnScope s_Play_put_piece) := C8.fnScope_by (by decide +kernel)
abbrev s_Play_put_pair : Stmt := inClass (topS 25) 4
abbrev N_Play_put_pair : List Str := ["self", "i", "j"]
theorem sc_Play_put_pair : FnScope N_Play_put_pair ["self", "i", "j"] (C8.fnScope s_Play_put_pair) := C8.fnScope_by (by decide +kernel)
abbrev s_Play_between : Stmt := inClass (topS 25) 5
abbrev N_Play_between : List Str := ["self", "first", "last", "minutes", "roles"]
theorem sc_Play_between : FnScope N_Play_between ["self", "first", "last"] (C8.fnScope s_Play_between) := C8.fnScope_by (by decide +kernel)
abbrev s_is_too_soon : Stmt := topS 26
abbrev N_is_too_soon : List Str := ["play", "one", "other", "first", "scene", "last"]
theorem sc_is_too_soon : FnScope N_is_too_soon ["play", "one", "other"] (C8.fnScope s_is_too_soon) := C8.fnScope_by (by decide +kernel)
abbrev s_clash : Stmt := topS 27
abbrev N_clash : List Str := ["play", "one", "other", "minutes", "roles"]
theorem sc_clash : FnScope N_clash ["play", "one", "other"] (C8.fnScope s_clash) := C8.fnScope_by (by decide +kernel)
abbrev s_clashing : Stmt := topS 28
abbrev N_clashing : List Str := ["play", "found", "one", "other"]
theorem sc_clashing : FnScope N_clashing ["play"] (C8.fnScope s_clashing) := C8.fnScope_by (by decide +kernel)
abbrev s_Holder_init : Stmt := inClass (topS 32) 0
abbrev N_Holder_init : List Str := ["self"]
theorem sc_Holder_init : FnScope N_Holder_init ["self"] (C8.fnScope s_Holder_init) := C8.fnScope_by (by decide +kernel)
abbrev s_Holder_hold : Stmt := inClass (topS 32) 1
abbrev N_Holder_hold : List Str := ["self", "play"]
theorem sc_Holder_hold : FnScope N_Holder_hold ["self", "play"] (C8.fnScope s_Holder_hold) := C8.fnScope_by (by decide +kernel)
abbrev s_listed : Stmt := topS 33
abbrev N_listed : List Str := ["row"]
theorem sc_listed : FnScope N_listed ["row"] (C8.fnScope s_listed) := C8.fnScope_by (by decide +kernel)
abbrev s_are_rising : Stmt := topS 34
abbrev N_are_rising : List Str := ["play", "roles", "role", "at"]
theorem sc_are_rising : FnScope N_are_rising ["play", "roles"] (C8.fnScope s_are_rising) := C8.fnScope_by (by decide +kernel)
abbrev s_begins : Stmt := topS 35
abbrev N_begins : List Str := ["holder", "dressing"]
theorem sc_begins : FnScope N_begins ["holder", "dressing"] (C8.fnScope s_begins) := C8.fnScope_by (by decide +kernel)
abbrev s_scene : Stmt := topS 36
abbrev N_scene : List Str := ["play", "minutes", "roles"]
theorem sc_scene : FnScope N_scene ["play", "minutes", "roles"] (C8.fnScope s_scene) := C8.fnScope_by (by decide +kernel)
abbrev s_player : Stmt := topS 37
abbrev N_player : List Str := ["play", "told", "fees", "wage", "rate", "since", "till", "fee"]
theorem sc_player : FnScope N_player ["play", "told", "fees"] (C8.fnScope s_player) := C8.fnScope_by (by decide +kernel)
abbrev s_piece : Stmt := topS 38
abbrev N_piece : List Str := ["play", "minutes", "roles"]
theorem sc_piece : FnScope N_piece ["play", "minutes", "roles"] (C8.fnScope s_piece) := C8.fnScope_by (by decide +kernel)
abbrev s_ahead : Stmt := topS 39
abbrev N_ahead : List Str := ["play", "i", "j"]
theorem sc_ahead : FnScope N_ahead ["play", "i", "j"] (C8.fnScope s_ahead) := C8.fnScope_by (by decide +kernel)
abbrev s_best : Stmt := topS 40
abbrev N_best : List Str := ["play", "found", "casting", "own"]
theorem sc_best : FnScope N_best ["play"] (C8.fnScope s_best) := C8.fnScope_by (by decide +kernel)
abbrev s_apart : Stmt := topS 41
abbrev N_apart : List Str := ["play", "found", "own"]
theorem sc_apart : FnScope N_apart ["play"] (C8.fnScope s_apart) := C8.fnScope_by (by decide +kernel)
abbrev s_is_casting : Stmt := topS 42
abbrev N_is_casting : List Str := ["play", "casting", "own"]
theorem sc_is_casting : FnScope N_is_casting ["play", "casting"] (C8.fnScope s_is_casting) := C8.fnScope_by (by decide +kernel)
abbrev s_check : Stmt := topS 43
abbrev N_check : List Str := ["play", "casting", "order_told", "wrong", "there", "found", "own"]
theorem sc_check : FnScope N_check ["play", "casting", "order_told"] (C8.fnScope s_check) := C8.fnScope_by (by decide +kernel)
abbrev s_order : Stmt := topS 44
abbrev N_order : List Str := ["play", "casting", "found"]
theorem sc_order : FnScope N_order ["play", "casting"] (C8.fnScope s_order) := C8.fnScope_by (by decide +kernel)
abbrev s_asked : Stmt := topS 45
abbrev N_asked : List Str := ["play", "call", "rows"]
theorem sc_asked : FnScope N_asked ["play", "call", "rows"] (C8.fnScope s_asked) := C8.fnScope_by (by decide +kernel)
abbrev s_answer : Stmt := topS 46
abbrev N_answer : List Str := ["holder", "call", "told", "rows", "play"]
theorem sc_answer : FnScope N_answer ["holder", "call", "told", "rows"] (C8.fnScope s_answer) := C8.fnScope_by (by decide +kernel)
abbrev s_answers : Stmt := topS 47
abbrev N_answers : List Str := ["calls", "holder", "found", "at", "call", "told", "rows", "turn", "own"]
theorem sc_answers : FnScope N_answers ["calls"] (C8.fnScope s_answers) := C8.fnScope_by (by decide +kernel)
end Rc
set_option Elab.async false
set_option linter.all false
set_option maxRecDepth 100000
set_option maxHeartbeats 4000000
/-! # The walk's tools, second part: what evaluates to what, comprehensions, loops -/
namespace Rc
open PySem PySem.Spec PyProof.Rows L2 Evl
section
variable {K : PySem.W.Frag} {mg : Str → Option Value} {A : Ad} {σ : L2.St} {H H' : Hp} {ta tb te tl : TE} {tt : TT} {x y v : V} {D : Ends} {tu tz : TS}

/-! ### values -/
theorem ev_fld {a C dx : Addr} {fs : List (Str × V)} {f : Str} (hc : Cls K C) (hn : NoAttr K C f) (h : Ev ta σ H (.ref a)) (ho : H a = some (.ins C dx fs)) (hl : fs.lookup f = some v) : Ev (tFld K ta f) σ H v := fun H1 e Q q =>
  h H1 e _ fun H2 e2 => ⟨a, C, dx, fs, v, rfl, e2 _ _ (e _ _ ho), hc, hn, hl, q H2 e2⟩
theorem ev_ixL {p : Addr} {xs : List V} {j : Nat} (ha : Ev ta σ H (.ref p)) (hb : Ev tb σ H (nV j)) (h : H p = some (.lst xs)) (hx : xs[j]? = some v) : Ev (tOp (rIxL K) ta tb) σ H v := ev_op ha hb (rv_ixL (sq_of h) (atI_nat hx))
theorem ev_ixT {p : Addr} {xs : List V} {j : Nat} (ha : Ev ta σ H (.ref p)) (hb : Ev tb σ H (nV j)) (h : H p = some (.tup xs)) (hx : xs[j]? = some v) : Ev (tOp (rIxT K) ta tb) σ H v := ev_op ha hb (rv_ixT (st_of h) (atI_nat hx))
theorem ev_ixTw {p : Addr} {xs : List V} {j : Nat} (ha : Ev ta σ H (.ref p)) (hb : Ev tb σ H (nV j)) (h : ∀ H, SqT K H p xs) (hx : xs[j]? = some v) : Ev (tOp (rIxT K) ta tb) σ H v := ev_op ha hb (rv_ixT (h H) (atI_nat hx))
theorem iv_at {l : List Nat} {i : Nat} (h : i < l.length) : (iv l)[i]? = some (nV (l.getD i 0)) := by
  rw [List.getElem?_map, List.getElem?_eq_getElem h, List.getD_eq_getElem?_getD, List.getElem?_eq_getElem h]
  rfl
theorem ev_at {p : Addr} {l : List Nat} {j : Nat} (ha : Ev ta σ H (.ref p)) (hb : Ev tb σ H (nV j)) (h : H p = some (.lst (iv l))) (hx : j < l.length) : Ev (tOp (rIxL K) ta tb) σ H (nV (l.getD j 0)) := ev_ixL ha hb h (iv_at hx)
theorem ev_lenL {p : Addr} {xs : List V} {n : Nat} (ha : Ev ta σ H (.ref p)) (h : H p = some (.lst xs)) (hn : xs.length = n) : Ev (tCB (rLenS K) (tCons ta tNil)) σ H (nV n) := by
  subst hn
  exact ev_len ha (sq_of h)
theorem ev_add {i j : Nat} (ha : Ev ta σ H (nV i)) (hb : Ev tb σ H (nV j)) : Ev (tOp (rI0 fun i j => .int (i + j)) ta tb) σ H (nV (i + j)) := ev_is (ev_op ha hb rv_I0) (by show V.int _ = V.int _; congr 1)
theorem ev_sub {i j : Nat} (ha : Ev ta σ H (nV i)) (hb : Ev tb σ H (nV j)) (h : j ≤ i) : Ev (tOp (rI0 fun i j => .int (i - j)) ta tb) σ H (nV (i - j)) := ev_is (ev_op ha hb rv_I0) (by show V.int _ = V.int _; congr 1; omega)
theorem ev_lt {i j : Nat} (ha : Ev ta σ H (nV i)) (hb : Ev tb σ H (nV j)) : Ev (tOp (rI0 fun i j => .bl (decide (i < j))) ta tb) σ H (.bl (decide (i < j))) := ev_is (ev_op ha hb rv_I0) (congrArg V.bl (decide_eq_decide.mpr (by omega)))
theorem ev_gt {i j : Nat} (ha : Ev ta σ H (nV i)) (hb : Ev tb σ H (nV j)) : Ev (tOp (rI0 fun i j => .bl (decide (j < i))) ta tb) σ H (.bl (decide (j < i))) := ev_is (ev_op ha hb rv_I0) (congrArg V.bl (decide_eq_decide.mpr (by omega)))
theorem ev_le {i j : Nat} (ha : Ev ta σ H (nV i)) (hb : Ev tb σ H (nV j)) : Ev (tOp (rI0 fun i j => .bl (decide (i ≤ j))) ta tb) σ H (.bl (decide (i ≤ j))) := ev_is (ev_op ha hb rv_I0) (congrArg V.bl (decide_eq_decide.mpr (by omega)))
theorem ev_ge {i j : Nat} (ha : Ev ta σ H (nV i)) (hb : Ev tb σ H (nV j)) : Ev (tOp (rI0 fun i j => .bl (decide (j ≤ i))) ta tb) σ H (.bl (decide (j ≤ i))) := ev_is (ev_op ha hb rv_I0) (congrArg V.bl (decide_eq_decide.mpr (by omega)))
theorem dec_nV {i j : Nat} : decide (nV i = nV j) = decide (i = j) := decide_eq_decide.mpr ⟨fun h => by have := V.int.inj h; omega, fun h => by rw [h]⟩
theorem ev_eqI {i j : Nat} (ha : Ev ta σ H (nV i)) (hb : Ev tb σ H (nV j)) : Ev (tOp rEq ta tb) σ H (.bl (decide (i = j))) := ev_is (ev_op ha hb (rv_eq rfl)) (congrArg V.bl dec_nV)
theorem ev_neI {i j : Nat} (ha : Ev ta σ H (nV i)) (hb : Ev tb σ H (nV j)) : Ev (tOp rNe ta tb) σ H (.bl (!decide (i = j))) := ev_is (ev_op ha hb (rv_ne rfl)) (congrArg (fun b => V.bl (!b)) dec_nV)
theorem ev_c0 (n : Nat) {v : V} (h : v = nV n := by rfl) : Ev (tC v) σ H (nV n) := by
  subst h
  exact ev_c
theorem inV_iv {i : Nat} : ∀ {l : List Nat}, inV (nV i) (iv l) = l.contains i
  | [] => rfl
  | a :: l => by
    show (eqV (nV a) (nV i) || inV (nV i) (iv l)) = _
    rw [inV_iv, List.contains_cons]
    congr 1
    show ((a : Int) == (i : Int)) = (i == a)
    rw [Bool.eq_iff_iff, beq_iff_eq, beq_iff_eq]
    omega
theorem flat_iv : ∀ l : List Nat, (iv l).all flatV = true
  | [] => rfl
  | a :: l => by
    show (flatV (nV a) && (iv l).all flatV) = true
    rw [flat_iv l]
    rfl
theorem ev_in {p : Addr} {l : List Nat} {j : Nat} (ha : Ev ta σ H (nV j)) (hb : Ev tb σ H (.ref p)) (h : H p = some (.lst (iv l))) : Ev (tOp (rIn K false) ta tb) σ H (.bl (l.contains j)) :=
  ev_is (ev_op ha hb (rv_isL (sq_of h) rfl (flat_iv l))) (congrArg V.bl inV_iv)
theorem ev_notIn {p : Addr} {l : List Nat} {j : Nat} (ha : Ev ta σ H (nV j)) (hb : Ev tb σ H (.ref p)) (h : H p = some (.lst (iv l))) : Ev (tOp (rIn K true) ta tb) σ H (.bl (!l.contains j)) :=
  ev_is (ev_op ha hb (rv_niL (sq_of h) rfl (flat_iv l))) (congrArg (fun b => V.bl (!b)) inV_iv)
/-- [a, b, ..] -/
theorem ea_1 (h : Ev ta σ H x) : EvA (tCons ta tNil) σ H [x] := ea_cons h ea_nil
theorem ea_2 (h : Ev ta σ H x) (h2 : Ev tb σ H y) : EvA (tCons ta (tCons tb tNil)) σ H [x, y] := ea_cons h (ea_1 h2)
theorem el_nil : EvL (tLst tNil) σ H [] := el_lst ea_nil (by show 0 ≤ 100000; decide)
/-- sum(xs) of a new list -/
theorem ev_sumN {is : List Int} (h : EvL ta σ H (is.map V.int)) : Ev (tCB (rSum K) (tCons ta tNil)) σ H (.int is.sum) := fun H1 e Q q =>
  h H1 e _ fun p H2 _ e2 h2 => ⟨p, is, rfl, sq_of h2, q H2 e2⟩
theorem ev_sumL {p : Addr} {is : List Int} (h : Ev ta σ H (.ref p)) (hp : H p = some (.lst (is.map V.int))) : Ev (tCB (rSum K) (tCons ta tNil)) σ H (.int is.sum) := fun H1 e Q q =>
  h H1 e _ fun H2 e2 => ⟨p, is, rfl, sq_of (e2 _ _ (e _ _ hp)), q H2 e2⟩
theorem sum_ns : ∀ l : List Nat, (l.map fun (n : Nat) => (n : Int)).sum = ((l.sum : Nat) : Int)
  | [] => rfl
  | a :: l => by
    rw [List.map_cons, List.sum_cons, List.sum_cons, sum_ns l]
    omega
theorem iv_int (l : List Nat) : iv l = (l.map fun (n : Nat) => (n : Int)).map V.int := by
  rw [List.map_map]
  rfl
theorem ev_sumIN {l : List Nat} (h : EvL ta σ H (iv l)) : Ev (tCB (rSum K) (tCons ta tNil)) σ H (nV l.sum) := ev_is (ev_sumN (by rw [← iv_int]; exact h)) (by rw [sum_ns])
theorem ev_sumIL {p : Addr} {l : List Nat} (h : Ev ta σ H (.ref p)) (hp : H p = some (.lst (iv l))) : Ev (tCB (rSum K) (tCons ta tNil)) σ H (nV l.sum) := ev_is (ev_sumL h (by rw [← iv_int]; exact hp)) (by rw [sum_ns])

/-! ### lists compared with lists -/
theorem lay_ints : ∀ is : List Int, PyData.canLayAll0 (is.map PyData.int) = true
  | [] => by simp [PyData.canLayAll0]
  | i :: r => by simp [PyData.canLayAll0, PyData.canLay0, lay_ints r]
theorem dep_ints : ∀ is : List Int, PyData.depthAll (is.map PyData.int) = 0
  | [] => by simp [PyData.depthAll]
  | i :: r => by simp [PyData.depthAll, PyData.depth, dep_ints r]
theorem shaped_list {ds : List PyData} (h1 : PyData.canLayAll0 ds = true) (h2 : PyData.depthAll ds ≤ 62) : SeqAt.shaped (.list ds) = true := by
  show (PyData.canLay0 (.list ds) && decide (PyData.depth (.list ds) ≤ 64)) = true
  rw [Bool.and_eq_true]
  refine ⟨by simp only [PyData.canLay0]; exact h1, decide_eq_true ?_⟩
  simp only [PyData.depth]
  omega
theorem dpAll_ints : ∀ is : List Int, DpAll K H (is.map V.int) (is.map PyData.int)
  | [] => .nil
  | i :: r => .cons (.int i) (dpAll_ints r)
theorem dpAll_len : ∀ {xs : List V} {ds : List PyData}, DpAll K H xs ds → xs.isEmpty = ds.isEmpty
  | _, _, .nil => rfl
  | _, _, .cons _ _ => rfl
/-- data of no great depth -/
def Flat (K : PySem.W.Frag) (H : Hp) (xs : List V) : Prop := ∀ H1, Ex H H1 → ∃ ds, DpAll K H1 xs ds ∧ PyData.canLayAll0 ds = true ∧ PyData.depthAll ds ≤ 62
theorem flat_ints (is : List Int) : Flat K H (is.map V.int) := fun H1 _ => ⟨_, dpAll_ints is, lay_ints is, by rw [dep_ints]; decide⟩
theorem flat_ivs (l : List Nat) : Flat K H (iv l) := by
  rw [iv_int]
  exact flat_ints _
theorem Flat.mono {xs : List V} (h : Flat K H xs) (e : Ex H H') : Flat K H' xs := fun H1 e1 => h H1 (e.trans e1)
/-- a list of lists of numbers -/
theorem flat_lists : ∀ {xs : List V}, (∀ x ∈ xs, ∃ l, isL H x l) → Flat K H xs
  | [], _ => fun H1 _ => ⟨[], .nil, by simp [PyData.canLayAll0], by simp [PyData.depthAll]⟩
  | x :: r, h => fun H1 e => by
    obtain ⟨ds, h1, h2, h3⟩ := flat_lists (fun y hy => h y (List.mem_cons_of_mem _ hy)) H1 e
    obtain ⟨l, p, rfl, hp⟩ := h x (List.mem_cons_self ..)
    have hp1 := e _ _ hp
    rw [iv_int] at hp1
    refine ⟨.list ((l.map fun (n : Nat) => (n : Int)).map PyData.int) :: ds, .cons (.lst (sq_of hp1) (dpAll_ints _)) h1, ?_, ?_⟩
    · simp only [PyData.canLayAll0, PyData.canLay0, lay_ints, h2, Bool.and_self]
    · simp only [PyData.depthAll, PyData.depth, dep_ints]
      omega
theorem eqv_nil : ∀ ds : List PyData, PyData.eqv (.list ds) (.list []) = ds.isEmpty
  | [] => by simp [PyData.eqv, PyData.eqvAll]
  | d :: r => by simp [PyData.eqv, PyData.eqvAll]
theorem nil_turn {neg : Bool} {Q : VK} {p : Addr} {xs : List V} {H2 : Hp} (hf : Flat K H xs) (e : Ex H H2) (hp : H2 p = some (.lst xs)) (q : ∀ H3, Ex H2 H3 → Q (.bl (if neg = true then !xs.isEmpty else xs.isEmpty)) H3) :
    tLst tNil σ H2 fun y H3 => ∃ d e, Dp K H3 (.ref p) d ∧ Dp K H3 y e ∧ SeqAt.shaped d = true ∧ SeqAt.shaped e = true ∧ Q (.bl (if neg = true then !PyData.eqv d e else PyData.eqv d e)) H3 := by
  refine ⟨by show 0 ≤ sizeLine; decide, fun p' hp' => ?_⟩
  have e3 : Ex H2 (upd H2 p' (.lst [])) := Ex.new hp'
  obtain ⟨ds, h1, h2, h3⟩ := hf _ (e.trans e3)
  refine ⟨.list ds, .list [], .lst (sq_of (e3 _ _ hp)) h1, .lst (sq_of upd_same) .nil, shaped_list h2 h3, shaped_list (by simp [PyData.canLayAll0]) (by simp [PyData.depthAll]), ?_⟩
  rw [eqv_nil, ← dpAll_len h1]
  exact q _ e3
/-- a new list != [], == [] -/
theorem ev_neNil {xs : List V} (h : EvL ta σ H xs) (hf : Flat K H xs) : Ev (tOp (rNeD K) ta (tLst tNil)) σ H (.bl (!xs.isEmpty)) := fun H1 e Q q =>
  h H1 e _ fun p H2 _ e2 h2 => nil_turn (neg := true) (Q := Q) (hf.mono e) e2 h2 fun H3 e3 => q H3 (e2.trans e3)
theorem ev_eqNil {xs : List V} (h : EvL ta σ H xs) (hf : Flat K H xs) : Ev (tOp (rEqD K) ta (tLst tNil)) σ H (.bl xs.isEmpty) := fun H1 e Q q =>
  h H1 e _ fun p H2 _ e2 h2 => nil_turn (neg := false) (Q := Q) (hf.mono e) e2 h2 fun H3 e3 => q H3 (e2.trans e3)
theorem ev_neNilL {p : Addr} {xs : List V} (h : Ev ta σ H (.ref p)) (hp : H p = some (.lst xs)) (hf : Flat K H xs) : Ev (tOp (rNeD K) ta (tLst tNil)) σ H (.bl (!xs.isEmpty)) := fun H1 e Q q =>
  h H1 e _ fun H2 e2 => nil_turn (neg := true) (Q := Q) (hf.mono e) e2 (e2 _ _ (e _ _ hp)) fun H3 e3 => q H3 (e2.trans e3)
theorem ev_eqNilL {p : Addr} {xs : List V} (h : Ev ta σ H (.ref p)) (hp : H p = some (.lst xs)) (hf : Flat K H xs) : Ev (tOp (rEqD K) ta (tLst tNil)) σ H (.bl xs.isEmpty) := fun H1 e Q q =>
  h H1 e _ fun H2 e2 => nil_turn (neg := false) (Q := Q) (hf.mono e) e2 (e2 _ _ (e _ _ hp)) fun H3 e3 => q H3 (e2.trans e3)

/-! ### comprehensions -/
theorem given_nil (n : Nat) (f : Nat → Bool) (v : Nat → V) : (given n f v).isEmpty = !(List.range n).any f := by
  unfold given
  rw [List.isEmpty_map]
  induction List.range n with
  | nil => rfl
  | cons a r ih =>
    rw [List.filter_cons, List.any_cons]
    cases f a <;> simp [ih]
theorem given_all {α : Type} (l : List α) (d : α) (g : α → V) : given l.length (fun _ => true) (fun i => g (l.getD i d)) = l.map g := by
  unfold given
  rw [List.filter_eq_self.mpr (fun _ _ => rfl)]
  apply List.ext_getElem?
  intro i
  rw [List.getElem?_map, List.getElem?_map]
  by_cases h : i < l.length
  · simp [h]
  · simp [h]
theorem given_iv (n : Nat) (f : Nat → Bool) (v : Nat → Nat) : given n f (fun i => nV (v i)) = iv (((List.range n).filter f).map v) := by
  unfold given iv
  rw [List.map_map]
  rfl
theorem gTup2 {i j : Nat} {T : Addr} {x y : V} {Q : L2.St → Hp → Prop} {σ : L2.St} (h : H T = some (.tup [x, y])) (q : Q ((σ.set i (some x)).set j (some y)) H) : gTup K 2 (gCons (gName i) (gCons (gName j) gNil)) (.ref T) σ H Q :=
  ⟨T, [x, y], rfl, st_of h, rfl, x, [y], rfl, y, [], rfl, rfl, q⟩
/-- over enumerate(list) -/
theorem el_lcE {te : TE} {t : TT} {ta : TA} {a : Addr} {xs : List V} {i j : Nat} {vs : List Nat} (f : Nat → Bool) (v : Nat → V) (h : EvA ta σ H [.ref a]) (hx : H a = some (.lst xs)) (hz : xs.length ≤ 40000)
    (hw : ∀ x y, wipe (((wipe σ vs).set i (some x)).set j (some y)) vs = wipe σ vs) (ht : ∀ (k : Nat) (x : V) H1, Ex H H1 → xs[k]? = some x → EvT t (((wipe σ vs).set i (some (nV k))).set j (some x)) H1 (f k))
    (he : ∀ (k : Nat) (x : V) H1, Ex H H1 → xs[k]? = some x → f k = true → Ev te (((wipe σ vs).set i (some (nV k))).set j (some x)) H1 (v k)) :
    EvL (tLc (iEnum K ta) (gTup K 2 (gCons (gName i) (gCons (gName j) gNil))) t te vs) σ H (given xs.length f v) := fun H0 e Q q => h H0 e _ fun H1 e1 => ⟨a, xs, rfl, sq_of (e1 _ _ (e _ _ hx)), fun Dl hD =>
  lc_it walk_enum (Cw H1 f v Dl) ⟨hD, Ex.new hD, upd_same⟩ (fun _ H' _ p => sq_of (p.2.1 _ _ (e1 _ _ (e _ _ hx)))) (fun k z H' H'' hi p y => by
    obtain ⟨T, x1, y1, rfl, hT, rfl, ex, ey⟩ := y
    have ex := (Option.some.inj ex).symm
    subst ex
    have p2 : Cw H1 f v Dl k (upd H' T (.tup [.int (k : Int), y1])) := ⟨p.1, p.2.1.trans (Ex.new hT), (Ex.new hT) _ _ p.2.2⟩
    exact gTup2 upd_same ⟨hw _ _, cw_turn p2 (by omega) (ht k y1 H1 (e.trans e1) ey) (fun hf => he k y1 H1 (e.trans e1) ey hf)⟩)
    (fun H' p => q Dl H' (fresh_back e1 p.1) (e1.trans p.2.1) p.2.2)⟩
/-- over a new list of pairs -/
theorem el_lcNT {te : TE} {t : TT} {tl : TE} {xs : List V} {i j : Nat} {vs : List Nat} (f : Nat → Bool) (v : Nat → V) (h : EvL tl σ H xs) (hz : xs.length ≤ 40000) (hxs : ∀ (k : Nat) (z : V), xs[k]? = some z → ∃ (T : Addr) (x y : V), z = V.ref T ∧ H T = some (.tup [x, y]))
    (hw : ∀ x y, wipe (((wipe σ vs).set i (some x)).set j (some y)) vs = wipe σ vs) (ht : ∀ (k : Nat) (T : Addr) (x y : V) H1, Ex H H1 → xs[k]? = some (.ref T) → H T = some (.tup [x, y]) → EvT t (((wipe σ vs).set i (some x)).set j (some y)) H1 (f k))
    (he : ∀ (k : Nat) (T : Addr) (x y : V) H1, Ex H H1 → xs[k]? = some (.ref T) → H T = some (.tup [x, y]) → f k = true → Ev te (((wipe σ vs).set i (some x)).set j (some y)) H1 (v k)) :
    EvL (tLc (iList K tl) (gTup K 2 (gCons (gName i) (gCons (gName j) gNil))) t te vs) σ H (given xs.length f v) := fun H0 e Q q => h H0 e _ fun a H1 ha e1 hx => ⟨a, rfl, ⟨xs, sq_of hx⟩, fun Dl hD =>
  lc_list (xs := xs) (Cw H1 f v Dl) ⟨hD, Ex.new hD, upd_same⟩ (fun _ H' _ p => sq_of (p.2.1 _ _ hx)) (fun k z H' hi p => by
    obtain ⟨T, x, y, rfl, hT⟩ := hxs k z hi
    have l := (List.getElem?_eq_some_iff.mp hi).1
    exact gTup2 (p.2.1 _ _ (e1 _ _ (e _ _ hT))) ⟨hw _ _, cw_turn p (by omega) (ht k T x y H1 (e.trans e1) hi hT) (fun hf => he k T x y H1 (e.trans e1) hi hT hf)⟩)
    (fun H' p => q Dl H' (fresh_back e1 p.1) (e1.trans p.2.1) p.2.2)⟩
/-- over a list of pairs that stands -/
theorem el_lcT {te : TE} {t : TT} {tl : TE} {a : Addr} {xs : List V} {i j : Nat} {vs : List Nat} (f : Nat → Bool) (v : Nat → V) (h : Ev tl σ H (.ref a)) (hx : H a = some (.lst xs)) (hz : xs.length ≤ 40000) (hxs : ∀ (k : Nat) (z : V), xs[k]? = some z → ∃ (T : Addr) (x y : V), z = V.ref T ∧ H T = some (.tup [x, y]))
    (hw : ∀ x y, wipe (((wipe σ vs).set i (some x)).set j (some y)) vs = wipe σ vs) (ht : ∀ (k : Nat) (T : Addr) (x y : V) H1, Ex H H1 → xs[k]? = some (.ref T) → H T = some (.tup [x, y]) → EvT t (((wipe σ vs).set i (some x)).set j (some y)) H1 (f k))
    (he : ∀ (k : Nat) (T : Addr) (x y : V) H1, Ex H H1 → xs[k]? = some (.ref T) → H T = some (.tup [x, y]) → f k = true → Ev te (((wipe σ vs).set i (some x)).set j (some y)) H1 (v k)) :
    EvL (tLc (iList K tl) (gTup K 2 (gCons (gName i) (gCons (gName j) gNil))) t te vs) σ H (given xs.length f v) := fun H0 e Q q => h H0 e _ fun H1 e1 => ⟨a, rfl, ⟨xs, sq_of (e1 _ _ (e _ _ hx))⟩, fun Dl hD =>
  lc_list (xs := xs) (Cw H1 f v Dl) ⟨hD, Ex.new hD, upd_same⟩ (fun _ H' _ p => sq_of (p.2.1 _ _ (e1 _ _ (e _ _ hx)))) (fun k z H' hi p => by
    obtain ⟨T, x, y, rfl, hT⟩ := hxs k z hi
    have l := (List.getElem?_eq_some_iff.mp hi).1
    exact gTup2 (p.2.1 _ _ (e1 _ _ (e _ _ hT))) ⟨hw _ _, cw_turn p (by omega) (ht k T x y H1 (e.trans e1) hi hT) (fun hf => he k T x y H1 (e.trans e1) hi hT hf)⟩)
    (fun H' p => q Dl H' (fresh_back e1 p.1) (e1.trans p.2.1) p.2.2)⟩
theorem et_yes : EvT tYes σ H true := fun H1 _ Q q => q H1 (Ex.refl H1)

/-! ### loops over enumerate -/
theorem s_forE {ta : TA} {a : Addr} {xs : List V} {i j : Nat} (h : EvA ta σ H [.ref a]) (hx : H a = some (.lst xs)) (Pv : Nat → L2.St → Hp → Prop) (h0 : ∀ H1, Ex H H1 → Pv 0 σ H1) (hl : ∀ k σ' H', k ≤ xs.length → Pv k σ' H' → H' a = some (.lst xs))
    (hs : ∀ (k : Nat) (x : V) σ' H' H2, xs[k]? = some x → Pv k σ' H' → Ex H' H2 → tu { D with nx := Pv (k + 1), ct := Pv (k + 1), bk := D.nx } ((σ'.set i (some (nV k))).set j (some x)) H2) (hd : ∀ σ' H', Pv xs.length σ' H' → D.nx σ' H') :
    tFor (iEnum K ta) (gTup K 2 (gCons (gName i) (gCons (gName j) gNil))) tu D σ H := h H (Ex.refl H) _ fun H1 e => ⟨a, xs, rfl, sq_of (e _ _ hx), for_it walk_enum Pv (h0 H1 e) (fun k σ' H' hk p => sq_of (hl k σ' H' hk p)) (fun k z σ' H' H'' hi p y => by
    obtain ⟨T, x1, y1, rfl, hT, rfl, ex, ey⟩ := y
    have ex := (Option.some.inj ex).symm
    subst ex
    exact gTup2 upd_same (hs k y1 σ' H' _ ey p (Ex.new hT))) hd⟩
theorem q_forE {ta : TA} {a : Addr} {xs : List V} {i j : Nat} (h : EvA ta σ H [.ref a]) (hx : H a = some (.lst xs)) (Pv : Nat → L2.St → Hp → Prop) (h0 : ∀ H1, Ex H H1 → Pv 0 σ H1) (hl : ∀ k σ' H', k ≤ xs.length → Pv k σ' H' → H' a = some (.lst xs))
    (hs : ∀ (k : Nat) (x : V) σ' H' H2, xs[k]? = some x → Pv k σ' H' → Ex H' H2 → tu { D with nx := Pv (k + 1), ct := Pv (k + 1), bk := tz D } ((σ'.set i (some (nV k))).set j (some x)) H2) (hd : ∀ σ' H', Pv xs.length σ' H' → tz D σ' H') :
    tSeq (tFor (iEnum K ta) (gTup K 2 (gCons (gName i) (gCons (gName j) gNil))) tu) tz D σ H := s_forE (D := { D with nx := tz D }) h hx Pv h0 hl hs hd
/-- over a list of pairs -/
theorem q_forP {tl : TE} {a : Addr} {xs : List V} {i j : Nat} (h : Ev tl σ H (.ref a)) (hx : H a = some (.lst xs)) (hxs : ∀ (k : Nat) (z : V), xs[k]? = some z → ∃ (T : Addr) (x y : V), z = V.ref T ∧ H T = some (.tup [x, y])) (Pv : Nat → L2.St → Hp → Prop) (h0 : ∀ H1, Ex H H1 → Pv 0 σ H1)
    (hl : ∀ k σ' H', k ≤ xs.length → Pv k σ' H' → Ex H H')
    (hs : ∀ (k : Nat) (T : Addr) (x y : V) σ' H', xs[k]? = some (.ref T) → H T = some (.tup [x, y]) → Pv k σ' H' → tu { D with nx := Pv (k + 1), ct := Pv (k + 1), bk := tz D } ((σ'.set i (some x)).set j (some y)) H') (hd : ∀ σ' H', Pv xs.length σ' H' → tz D σ' H') :
    tSeq (tFor (iList K tl) (gTup K 2 (gCons (gName i) (gCons (gName j) gNil))) tu) tz D σ H := q_forL h (sq_of hx) Pv h0 (fun k σ' H' hk p => sq_of (hl k σ' H' hk p _ _ hx)) (fun k z σ' H' hi p => by
    obtain ⟨T, x, y, rfl, hT⟩ := hxs k z hi
    have l := (List.getElem?_eq_some_iff.mp hi).1
    exact gTup2 (hl k σ' H' (by omega) p _ _ hT) (hs k T x y σ' H' hi hT p)) hd

/-! ### promises in short -/
def valSp (pre : List V → Hp → V → Prop) : Sp := fun vs H Q _ => ∃ z, pre vs H z ∧ RetV z H Q
def lstSp (pre : List V → Hp → List V → Prop) : Sp := fun vs H Q _ => ∃ xs, pre vs H xs ∧ RetL xs H Q
/-- a new list, each of its places R of the new heap -/
def RetR {α : Type} (R : Hp → V → α → Prop) (ls : List α) (H : Hp) (Q : VK) : Prop := ∀ p H2 xs, H p = none → Ex H H2 → H2 p = some (.lst xs) → Ats (R H2) xs ls → Q (.ref p) H2
def relSp {α : Type} (R : Hp → V → α → Prop) (pre : List V → Hp → List α → Prop) : Sp := fun vs H Q _ => ∃ ls, pre vs H ls ∧ RetR R ls H Q
theorem spV_of {pre : List V → Hp → V → Prop} {vs : List V} {z : V} (h : ∀ H1, Ex H H1 → pre vs H1 z) : SpV (valSp pre) vs H z := fun H1 e Q q E => ⟨z, h H1 e, fun H2 e2 => q H2 e2⟩
theorem spL_of {pre : List V → Hp → List V → Prop} {vs xs : List V} (h : ∀ H1, Ex H H1 → pre vs H1 xs) : SpL (lstSp pre) vs H xs := fun H1 e Q q E => ⟨xs, h H1 e, q⟩
theorem ev_meth {C a dx : Addr} {m : Str} {sp : Sp} {fs : List (Str × V)} {E : XK} {t : TA} {vs : List V} (ha : Ev ta σ H (.ref a)) (ho : H a = some (.ins C dx fs)) (hl : fs.lookup m = none) (ht : EvA t σ H vs) (hs : SpV sp (.ref a :: vs) H v) :
    Ev (tMeth C m sp [] E ta t) σ H v := fun H1 e Q q => ha H1 e _ fun H2 e2 => ⟨a, dx, fs, rfl, e2 _ _ (e _ _ ho), hl, ht H2 (e.trans e2) _ fun H3 e3 => by
    rw [List.append_nil]
    exact hs H3 ((e.trans e2).trans e3) Q (fun H4 e4 => q H4 ((e2.trans e3).trans e4)) E⟩
theorem ev_c1 {sp : Sp} {vs : List V} {E : XK} {t : TA} (h : EvA t σ H vs) (hs : SpV sp vs H v) : Ev (tCall sp [] E t) σ H v := ev_call h (by rw [List.append_nil]; exact hs)
theorem el_c1 {sp : Sp} {vs xs : List V} {E : XK} {t : TA} (h : EvA t σ H vs) (hs : SpL sp vs H xs) : EvL (tCall sp [] E t) σ H xs := el_call h (by rw [List.append_nil]; exact hs)
/-- a call that hands back a new list of things -/
def EvR {α : Type} (R : Hp → V → α → Prop) (te : TE) (σ : L2.St) (H : Hp) (ls : List α) : Prop := ∀ H1, Ex H H1 → ∀ Q : VK, (∀ p H2 xs, H1 p = none → Ex H1 H2 → H2 p = some (.lst xs) → Ats (R H2) xs ls → Q (.ref p) H2) → te σ H1 Q
theorem er_c1 {α : Type} {R : Hp → V → α → Prop} {pre : List V → Hp → List α → Prop} {ls : List α} {vs : List V} {E : XK} {t : TA} (h : EvA t σ H vs) (hs : ∀ H1, Ex H H1 → pre vs H1 ls) : EvR R (tCall (relSp R pre) [] E t) σ H ls := fun H1 e Q q =>
  h H1 e _ fun H2 e2 => by
    rw [List.append_nil]
    exact ⟨ls, hs H2 (e.trans e2), fun p H3 xs hp e3 h3 ha => q p H3 xs (fresh_back e2 hp) (e2.trans e3) h3 ha⟩
theorem q_asgR {α : Type} {R : Hp → V → α → Prop} {ls : List α} {te : TE} {i : Nat} (h : EvR R te σ H ls) (k : ∀ p H1 xs, H p = none → Ex H H1 → H1 p = some (.lst xs) → Ats (R H1) xs ls → tz D (σ.set i (some (.ref p))) H1) : tSeq (tAsg te (gName i)) tz D σ H := h H (Ex.refl H) _ k
theorem nat_get {α : Type} {l : List α} {i : Nat} {x : α} (h : l[i]? = some x) : i < l.length := (List.getElem?_eq_some_iff.mp h).1
end
end Rc
set_option Elab.async false
set_option linter.all false
set_option maxRecDepth 100000
set_option maxHeartbeats 4000000
/-! # The defs: players, scenes, clashes -/
namespace Rc
open PySem PySem.Spec PyProof.Rows L2 Evl
open C8 (Cal Met Mak)
section
variable {H H' : Hp}
theorem Ats.take {α : Type} {R : V → α → Prop} {xs : List V} {ys : List α} (h : Ats R xs ys) (n : Nat) : Ats R (xs.take n) (ys.take n) := by
  refine ⟨by rw [List.length_take, List.length_take, h.1], fun i y e => ?_⟩
  rw [List.getElem?_take] at e
  by_cases c : i < n
  · rw [if_pos c] at e
    obtain ⟨x, a, b⟩ := h.2 i y e
    exact ⟨x, by rw [List.getElem?_take, if_pos c]; exact a, b⟩
  · rw [if_neg c] at e
    cases e
theorem Ats.drop {α : Type} {R : V → α → Prop} {xs : List V} {ys : List α} (h : Ats R xs ys) (n : Nat) : Ats R (xs.drop n) (ys.drop n) := by
  refine ⟨by rw [List.length_drop, List.length_drop, h.1], fun i y e => ?_⟩
  rw [List.getElem?_drop] at e
  obtain ⟨x, a, b⟩ := h.2 _ y e
  exact ⟨x, by rw [List.getElem?_drop]; exact a, b⟩
theorem cutV_nat (xs : List V) (i j : Nat) : cutV xs (some (i : Int)) (some (j : Int)) = (xs.take j).drop i := by
  unfold cutV
  rw [HT.sIx_nat, HT.sIx_nat, List.drop_take]
  by_cases c : i ≤ xs.length
  · rw [Nat.min_eq_left c]
    by_cases d : j ≤ xs.length
    · rw [Nat.min_eq_left d]
    · rw [Nat.min_eq_right (by omega), List.take_of_length_le (by rw [List.length_drop]; omega), List.take_of_length_le (by rw [List.length_drop]; omega)]
  · rw [Nat.min_eq_right (show xs.length ≤ i by omega), List.drop_of_length_le (Nat.le_refl _), List.drop_of_length_le (show xs.length ≤ i by omega), List.take_nil, List.take_nil]
theorem isSc_at {T : Addr} {x y : V} {s : Nat × List Nat} (h : isSc H (.ref T) s) (hT : H T = some (.tup [x, y])) : x = nV s.1 ∧ ∃ r, y = .ref r ∧ H r = some (.lst (iv s.2)) := by
  obtain ⟨t, r, e, h1, h2⟩ := h
  cases e
  rw [hT] at h1
  cases h1
  exact ⟨rfl, r, rfl, h2⟩
theorem sc_pairs {xs : List V} {ys : List (Nat × List Nat)} (h : Ats (isSc H) xs ys) : ∀ (k : Nat) (z : V), xs[k]? = some z → ∃ (T : Addr) (x y : V), z = V.ref T ∧ H T = some (.tup [x, y]) := fun k z e => by
  obtain ⟨s, _, t, r, e1, h1, _⟩ := h.get e
  exact ⟨t, _, _, e1, h1⟩
end
section
variable {K : PySem.W.Frag} {σ : L2.St} {H : Hp} {ta tb : TE} {D : Ends} {tu tz : TS} {te : TE}
theorem ea_3 {tc : TE} {x y z : V} (h : Ev ta σ H x) (h2 : Ev tb σ H y) (h3 : Ev tc σ H z) : EvA (tCons ta (tCons tb (tCons tc tNil))) σ H [x, y, z] := ea_cons h (ea_2 h2 h3)
theorem ea_4 {tc td : TE} {x y z u : V} (h : Ev ta σ H x) (h2 : Ev tb σ H y) (h3 : Ev tc σ H z) (h4 : Ev td σ H u) : EvA (tCons ta (tCons tb (tCons tc (tCons td tNil)))) σ H [x, y, z, u] := ea_cons h (ea_3 h2 h3 h4)
theorem el_is {xs ys : List V} (h : EvL te σ H xs) (e : xs = ys) : EvL te σ H ys := by
  subst e
  exact h
/-- for j in range(lo, n) -/
theorem s_forN {ta : TA} {j lo n : Nat} (h : EvA ta σ H [nV lo, nV n]) (h1 : lo ≤ 100000) (h2 : n ≤ 100000) (Pv : Nat → L2.St → Hp → Prop) (h0 : ∀ H1, Ex H H1 → Pv 0 σ H1)
    (hs : ∀ (i : Nat) σ' H', lo + i < n → Pv i σ' H' → tu { D with nx := Pv (i + 1), ct := Pv (i + 1), bk := D.nx } (σ'.set j (some (nV (lo + i)))) H') (hd : ∀ σ' H', Pv (n - lo) σ' H' → D.nx σ' H') : tFor (iRng2 ta) (gName j) tu D σ H :=
  s_forR2 (lo := (lo : Int)) (n := (n : Int)) h (by omega) Pv h0 (fun i σ' H' hi p => hs i σ' H' (by omega) p) (fun σ' H' p => hd σ' H' (by
    have e : ((n : Int) - (lo : Int)).toNat = n - lo := by omega
    rw [e] at p
    exact p))
theorem q_forN {ta : TA} {j lo n : Nat} (h : EvA ta σ H [nV lo, nV n]) (h1 : lo ≤ 100000) (h2 : n ≤ 100000) (Pv : Nat → L2.St → Hp → Prop) (h0 : ∀ H1, Ex H H1 → Pv 0 σ H1)
    (hs : ∀ (i : Nat) σ' H', lo + i < n → Pv i σ' H' → tu { D with nx := Pv (i + 1), ct := Pv (i + 1), bk := tz D } (σ'.set j (some (nV (lo + i)))) H') (hd : ∀ σ' H', Pv (n - lo) σ' H' → tz D σ' H') : tSeq (tFor (iRng2 ta) (gName j) tu) tz D σ H :=
  s_forN (D := { D with nx := tz D }) h h1 h2 Pv h0 hs hd
theorem q_forM {ta : TA} {j n : Nat} (h : EvA ta σ H [nV n]) (h2 : n ≤ 100000) (Pv : Nat → L2.St → Hp → Prop) (h0 : ∀ H1, Ex H H1 → Pv 0 σ H1)
    (hs : ∀ (i : Nat) σ' H', i < n → Pv i σ' H' → tu { D with nx := Pv (i + 1), ct := Pv (i + 1), bk := tz D } (σ'.set j (some (nV i))) H') (hd : ∀ σ' H', Pv n σ' H' → tz D σ' H') : tSeq (tFor (iRng1 ta) (gName j) tu) tz D σ H :=
  q_forR1 (n := (n : Int)) h (by omega) Pv h0 (fun i σ' H' hi p => hs i σ' H' (by omega) p) (fun σ' H' p => hd σ' H' (by
    have e : (n : Int).toNat = n := by omega
    rw [e] at p
    exact p))
end
variable {P : Program} {w : World} {K : PySem.W.Frag} {mg : Str → Option Value} {base : Heap} {A : Ad}
/-! ### Player.can_play, Player.fee -/
def sp_can_play (A : Ad) : Sp := valSp fun vs H z => ∃ a dx r p k, vs = [.ref a, nV k] ∧ H a = some (.ins A.cY dx (yF p r)) ∧ H r = some (.lst (iv p.fees)) ∧ k < p.fees.length ∧ z = .bl (decide (0 < p.fees.getD k 0))
theorem met_can_play (T : Txt K mg A) (F : HasMeth K A.cY "can_play" "Player.can_play" s_Player_can_play ["self", "role"]) : Met P w K mg base 1 A.cY "can_play" (sp_can_play A) [] := by
  have nd := sc_Player_can_play.nd
  refine meth_ok T.clY F sc_Player_can_play (fun vs H Q E h => ?_) (fun f cdv Ar outer s H vs Q E hr h => ⟨_, (pss_one (ps_ret (pe_cmpR op_gt (pe_ix ix_list (pe_fld (pv 0) rfl) (pv 1) (fun _ _ => rfl)) pe_int (nomark _)))), ?_⟩)
  · obtain ⟨z, ⟨a, dx, r, p, k, rfl, _⟩, _⟩ := h
    rfl
  · obtain ⟨z, ⟨a, dx, r, p, k, rfl, ho, hf, hk, rfl⟩, q⟩ := h
    exact s_ret (ev_gt (ev_at (ev_fld T.clY T.yf (ev_var rfl) ho (yF_f p r)) (ev_var rfl) hf hk) (ev_c0 0)) q
def sp_fee (A : Ad) : Sp := valSp fun vs H z => ∃ a dx r p k, vs = [.ref a, nV k] ∧ H a = some (.ins A.cY dx (yF p r)) ∧ H r = some (.lst (iv p.fees)) ∧ k < p.fees.length ∧ z = nV (p.fees.getD k 0 - 1)
theorem met_fee (T : Txt K mg A) (F : HasMeth K A.cY "fee" "Player.fee" s_Player_fee ["self", "role"]) : Met P w K mg base 1 A.cY "fee" (sp_fee A) [] := by
  have nd := sc_Player_fee.nd
  refine meth_ok T.clY F sc_Player_fee (fun vs H Q E h => ?_) (fun f cdv Ar outer s H vs Q E hr h => ⟨_, (pss_one (ps_ret (pe_callB (call_max2 rfl) (by rfl) T.max (by decide +kernel) (pa_cons pe_int (pa_cons (pe_op op_sub (pe_ix ix_list (pe_fld (pv 0) rfl) (pv 1) (fun _ _ => rfl)) pe_int) pa_nil))))), ?_⟩)
  · obtain ⟨z, ⟨a, dx, r, p, k, rfl, _⟩, _⟩ := h
    rfl
  · obtain ⟨z, ⟨a, dx, r, p, k, rfl, ho, hf, hk, rfl⟩, q⟩ := h
    refine s_ret (ev_is (ev_max2 ev_c (ev_op (ev_at (ev_fld T.clY T.yf (ev_var rfl) ho (yF_f p r)) (ev_var rfl) hf hk) ev_c rv_I0)) ?_) q
    show V.int (if ((p.fees.getD k 0 : Nat) : Int) - 1 > 0 then ((p.fees.getD k 0 : Nat) : Int) - 1 else 0) = V.int ((p.fees.getD k 0 - 1 : Nat) : Int)
    congr 1
    split <;> omega
/-! ### Play.between -/
def sp_between (A : Ad) : Sp := valSp fun vs H z => ∃ a m i j, vs = [.ref a, nV i, nV j] ∧ PlayR A H a m ∧ m.scenes.length ≤ 10 ∧ z = nV (m.btw i j)
theorem met_between (T : Txt K mg A) (F : HasMeth K A.cP "between" "Play.between" s_Play_between ["self", "first", "last"]) : Met P w K mg base 1 A.cP "between" (sp_between A) [] := by
  have nd := sc_Play_between.nd
  refine meth_ok T.clP F sc_Play_between (fun vs H Q E h => ?_) (fun f cdv Ar outer s H vs Q E hr h => ⟨_, (pss_one (ps_ret (pe_callB (cr_sum rfl) (by rfl) T.sum (by decide +kernel) (pa_cons (pe_lc (own := [("minutes", 3), ("roles", 4)]) (g := (gTup K 2 (gCons (gName 3) (gCons (gName 4) gNil)))) (tt := tYes) (te := (tVar 3)) rfl nd (pi_list (pe_slice sl_list (pe_fld (pv 0) rfl) (po_some (pe_op op_add (pv 1) pe_int)) (po_some (pv 2)))) (blkOk_by (own := [("minutes", 3), ("roles", 4)]) (N := N_Play_between) (sc := C8.fnScope s_Play_between) (by decide +kernel)) (fun _ _ _ _ _ => (pg_tup rfl (pgs_cons (pg_name (i := 3) nd rfl (Or.inl rfl)) (pgs_cons (pg_name (i := 4) nd rfl (Or.inl rfl)) pgs_nil)))) (fun _ _ _ _ _ => pts_nil) (fun _ _ _ _ _ => (pv 3))) pa_nil)))), ?_⟩)
  · obtain ⟨z, ⟨a, m, i, j, rfl, _⟩, _⟩ := h
    rfl
  · obtain ⟨z, ⟨a, m, i, j, rfl, ⟨p, dx, s1, s2, s3, s4, pl⟩, hn, rfl⟩, q⟩ := h
    have hc : Ats (isSc H) ((s1.take j).drop (i + 1)) ((m.scenes.take j).drop (i + 1)) := (pl.scs.take j).drop (i + 1)
    have hl : ((s1.take j).drop (i + 1)).length ≤ 40000 := by
      have := pl.scs.1
      rw [List.length_drop, List.length_take]
      omega
    have sl : EvL (tSl (rSlL K) (tFld K (tVar 0) "scenes") (tPart (tOp (rI0 fun i j => .int (i + j)) (tVar 1) (tC (.int 1)))) (tPart (tVar 2))) (start N_Play_between [.ref a, nV i, nV j]) H ((s1.take j).drop (i + 1)) :=
      el_is (el_sl (ev_fld T.clP T.ps (ev_var rfl) pl.ob (pF_s p)) (eo_some (ev_add (ev_var rfl) (ev_c0 1))) (eo_some (ev_var rfl)) (sq_of pl.sc)) (cutV_nat s1 (i + 1) j)
    refine s_ret (ev_sumIN (l := ((m.scenes.take j).drop (i + 1)).map fun s => s.1) (el_is (el_lcNT (fun _ => true) (fun k => nV (((m.scenes.take j).drop (i + 1)).getD k (0, [])).1) sl hl (sc_pairs hc) (fun _ _ => rfl) (fun _ _ _ _ _ _ _ _ => et_yes) (fun k t x y H1 e hk hT _ => ?_)) ?_)) q
    · obtain ⟨sc, h1, h2⟩ := hc.get hk
      refine ev_is (ev_var rfl) ?_
      rw [List.getD_eq_getElem?_getD, h1]
      exact (isSc_at h2 hT).1
    · rw [hc.1, given_all ((m.scenes.take j).drop (i + 1)) (0, []) (fun s => nV s.1)]
      unfold iv
      rw [List.map_map]
      rfl
end Rc
set_option Elab.async false
set_option linter.all false
set_option maxRecDepth 100000
set_option maxHeartbeats 4000000
/-! # The defs: clashes -/
namespace Rc
open PySem PySem.Spec PyProof.Rows L2 Evl
open C8 (Cal Met Mak)
variable {P : Program} {w : World} {K : PySem.W.Frag} {mg : Str → Option Value} {base : Heap} {A : Ad}
theorem any_false {n : Nat} {f : Nat → Bool} (h : ∀ i, i < n → f i = false) : (List.range n).any f = false := by
  rw [List.any_eq_false]
  exact fun i hi => by rw [h i (List.mem_range.mp hi)]; decide
theorem any_true {n i : Nat} {f : Nat → Bool} (h : i < n) (hf : f i = true) : (List.range n).any f = true := List.any_eq_true.mpr ⟨i, List.mem_range.mpr h, hf⟩
theorem lt_snoc {i : Nat} {p : Nat → Prop} (h : ∀ k, k < i → p k) (h' : p i) : ∀ k, k < i + 1 → p k := fun k hk => by
  by_cases c : k = i
  · rw [c]; exact h'
  · exact h k (by omega)
theorem has_at {m : Pm} {i r : Nat} {s : Nat × List Nat} (h : m.scenes[i]? = some s) : m.has i r = s.2.contains r := by
  unfold Pm.has
  rw [h]
  rfl
/-! ### is_too_soon -/
def sp_is_too_soon (A : Ad) : Sp := valSp fun vs H z => ∃ a m i j, vs = [.ref a, nV i, nV j] ∧ PlayR A H a m ∧ m.scenes.length ≤ 10 ∧ j < m.dress.length ∧ z = .bl (m.soon i j)
theorem cal_is_too_soon (T : Txt K mg A) (F : HasDef K mg "is_too_soon" s_is_too_soon ["play", "one", "other"]) (c_between : Met P w K mg base 1 A.cP "between" (sp_between A) []) : Cal P w K mg base 2 "is_too_soon" (sp_is_too_soon A) [] := by
  have nd := sc_is_too_soon.nd
  refine def_ok F sc_is_too_soon (fun vs H Q E h => ?_) (fun f cdv Ar outer s H vs Q E hr h => ⟨_, (pss_cons (ps_for PassesOwn.never rfl (pi_enum (by rfl) T.enumerate (pa_cons (pe_fld (pv 0) rfl) pa_nil)) (pg_tup rfl (pgs_cons (pg_name (i := 3) nd rfl (Or.inl rfl)) (pgs_cons (pg_name (i := 4) nd rfl (Or.inl rfl)) pgs_nil))) (pss_one (ps_for PassesOwn.never rfl (pi_range2 (by rfl) T.range (pa_cons (pe_op op_add (pv 3) pe_int) (pa_cons (pe_callB call_len_seq (by rfl) T.len PySem.boot_len (pa_cons (pe_fld (pv 0) rfl) pa_nil)) pa_nil))) (pg_name (i := 5) nd rfl (Or.inl rfl)) (pss_one (ps_if (PW.pt (pw_and (pt_cmpR op_in_seq (pv 1) (pe_ix ix_tup (pv 4) pe_int (fun _ _ => rfl)) rfl) (pw_and1 (pt_cmpR op_in_seq (pv 2) (pe_ix ix_tup (pe_ix ix_list (pe_fld (pv 0) rfl) (pv 5) (fun _ _ => rfl)) pe_int (fun _ _ => rfl)) rfl)))) (pss_one (ps_if (pt_cmpR op_lt (C8.pe_mt c_between hr (by decide) (pv 0) (pa_cons (pv 3) (pa_cons (pv 5) pa_nil))) (pe_ix ix_list (pe_fld (pv 0) rfl) (pv 2) (fun _ _ => rfl)) (nomark _)) (pss_one (ps_ret pe_bl)) pss_nil)) pss_nil)))))
      (pss_one (ps_ret pe_bl))), ?_⟩)
  · obtain ⟨z, ⟨a, m, i, j, rfl, _⟩, _⟩ := h
    rfl
  · obtain ⟨z, ⟨a, m, i, j, rfl, hp, hn, hj, rfl⟩, q⟩ := h
    obtain ⟨p, dx, s1, s2, s3, s4, pl⟩ := hp
    have l1 := pl.scs.1
    refine q_forE (ea_1 (ev_fld T.clP T.ps (ev_var rfl) pl.ob (pF_s p))) pl.sc (fun k σ' H' => ∃ x y z, σ' = [some (.ref a), some (nV i), some (nV j), x, y, z] ∧ Ex H H' ∧ ∀ k', k' < k → m.soon1 i j k' = false) (fun H1 e => ⟨_, _, _, rfl, e, fun k' hk => absurd hk (Nat.not_lt_zero _)⟩) (fun k σ' H' _ ⟨_, _, _, _, e, _⟩ => e _ _ pl.sc) ?_ ?_
    · rintro k x σ' H' H2 hk ⟨x0, y0, z0, rfl, e, hno⟩ e2
      obtain ⟨sc, hsc, t, r, rfl, ht, hr⟩ := pl.scs.get hk
      have kl := nat_get hk
      have e3 := e.trans e2
      have pl2 := pl.mono e3
      refine s_forN (lo := k + 1) (n := m.scenes.length) (ea_2 (ev_add (ev_var rfl) (ev_c0 1)) (ev_lenL (ev_fld T.clP T.ps (ev_var rfl) pl2.ob (pF_s p)) pl2.sc l1)) (by omega) (by omega)
        (fun d σ' H' => ∃ z, σ' = [some (.ref a), some (nV i), some (nV j), some (nV k), some (.ref t), z] ∧ Ex H H' ∧ ∀ d', d' < d → m.soon2 i j k (k + 1 + d') = false) (fun H1 e4 => ⟨_, rfl, e3.trans e4, fun d' hd => absurd hd (Nat.not_lt_zero _)⟩) ?_ ?_
      · rintro d σ' H3 hd ⟨z1, rfl, e4, hno2⟩
        have pl4 := pl.mono e4
        obtain ⟨sd, hsd⟩ : ∃ sd, m.scenes[k + 1 + d]? = some sd := ⟨_, List.getElem?_eq_getElem (by omega)⟩
        obtain ⟨xd, hxd, td, rd, rfl, htd, hrd⟩ := pl4.scs.2 _ _ hsd
        refine s_when (b := m.has k i && m.has (k + 1 + d) j) (et_and (et_test ?_) fun _ => et_test ?_) ?_ ?_
        · rw [has_at hsc]
          exact ev_in (ev_var rfl) (ev_ixT (ev_var rfl) (ev_c0 1) (e4 _ _ ht) rfl) (e4 _ _ hr)
        · rw [has_at hsd]
          exact ev_in (ev_var rfl) (ev_ixT (ev_ixL (ev_fld T.clP T.ps (ev_var rfl) pl4.ob (pF_s p)) (ev_var rfl) pl4.sc hxd) (ev_c0 1) htd rfl) hrd
        · intro hb H4 e5
          have pl5 := pl4.mono e5
          refine s_when (b := decide (m.btw k (k + 1 + d) < m.dress.getD j 0)) (et_test (ev_lt (ev_meth (ev_var rfl) pl5.ob (pF_none p (.inl rfl)) (ea_2 (ev_var rfl) (ev_var rfl)) (spV_of fun H1 e => ⟨a, m, k, k + 1 + d, rfl, ⟨p, dx, s1, s2, s3, s4, pl5.mono e⟩, hn, rfl⟩)) (ev_at (ev_fld T.clP T.pd (ev_var rfl) pl5.ob (pF_d p)) (ev_var rfl) pl5.dr hj))) ?_ ?_
          · intro hb2 H5 e6
            refine s_ret ev_c fun H6 e7 => ?_
            have : m.soon i j = true := any_true (i := k) (by omega) (any_true (i := d) (by omega) (by
              show ((m.has k i && m.has (k + 1 + d) j) && decide (m.btw k (k + 1 + d) < m.dress.getD j 0)) = true
              rw [hb, hb2]; rfl))
            rw [this] at q
            exact q H6 (((e4.trans e5).trans e6).trans e7)
          · intro hb2 H5 e6
            exact ⟨_, rfl, (e4.trans e5).trans e6, lt_snoc hno2 (by
              show ((m.has k i && m.has (k + 1 + d) j) && decide (m.btw k (k + 1 + d) < m.dress.getD j 0)) = false
              rw [hb, hb2]; rfl)⟩
        · intro hb H4 e5
          exact ⟨_, rfl, e4.trans e5, lt_snoc hno2 (by
            show ((m.has k i && m.has (k + 1 + d) j) && decide (m.btw k (k + 1 + d) < m.dress.getD j 0)) = false
            rw [hb]; rfl)⟩
      · rintro σ' H3 ⟨z1, rfl, e4, hno2⟩
        exact ⟨_, _, _, rfl, e4, lt_snoc hno (any_false hno2)⟩
    · rintro σ' H' ⟨x0, y0, z0, rfl, e, hno⟩
      refine s_ret ev_c fun H6 e7 => ?_
      have : m.soon i j = false := any_false (by rw [← l1]; exact hno)
      rw [this] at q
      exact q H6 (e.trans e7)
/-- the second of the k-th pair -/
def yOf (H : Hp) (s : List V) (k : Nat) : V := match s[k]? with
  | some (.ref t) => (match H t with
    | some (.tup [_, y]) => y
    | _ => .non)
  | _ => .non
theorem yOf_at {H : Hp} {s : List V} {k : Nat} {T : Addr} {x y : V} (h : s[k]? = some (.ref T)) (hT : H T = some (.tup [x, y])) : yOf H s k = y := by
  unfold yOf
  rw [h]
  simp only [hT]
/-! ### clash -/
def sp_clash (A : Ad) : Sp := valSp fun vs H z => ∃ a m i j, vs = [.ref a, nV i, nV j] ∧ PlayR A H a m ∧ m.scenes.length ≤ 10 ∧ i < m.dress.length ∧ j < m.dress.length ∧ z = .bl (m.clash i j)
theorem cal_clash (T : Txt K mg A) (F : HasDef K mg "clash" s_clash ["play", "one", "other"]) (c_is_too_soon : Cal P w K mg base 2 "is_too_soon" (sp_is_too_soon A) []) : Cal P w K mg base 3 "clash" (sp_clash A) [] := by
  have nd := sc_clash.nd
  refine def_ok F sc_clash (fun vs H Q E h => ?_) (fun f cdv Ar outer s H vs Q E hr h => ⟨_, (pss_cons (ps_if (pt_cmpR (op_neD hr.units) (pe_lc (own := [("minutes", 3), ("roles", 4)]) (g := (gTup K 2 (gCons (gName 3) (gCons (gName 4) gNil)))) (tt := (tAnd (tTest (tOp (rIn K false) (tVar 1) (tVar 4))) (tTest (tOp (rIn K false) (tVar 2) (tVar 4))))) (te := (tVar 4)) rfl nd (pi_list (pe_fld (pv 0) rfl)) (blkOk_by (own := [("minutes", 3), ("roles", 4)]) (N := N_clash) (sc := C8.fnScope s_clash) (by decide +kernel)) (fun _ _ _ _ _ => (pg_tup rfl (pgs_cons (pg_name (i := 3) nd rfl (Or.inl rfl)) (pgs_cons (pg_name (i := 4) nd rfl (Or.inl rfl)) pgs_nil)))) (fun _ _ _ _ _ => (pts_one (PW.pt (pw_and (pt_cmpR op_in_seq (pv 1) (pv 4) rfl) (pw_and1 (pt_cmpR op_in_seq (pv 2) (pv 4) rfl)))))) (fun _ _ _ _ _ => (pv 4))) (pe_lst pa_nil) (nomark _)) (pss_one (ps_ret pe_bl)) pss_nil)
      (pss_one (ps_ret (pe_or (C8.pe_c c_is_too_soon hr (by decide) (by rfl) (pa_cons (pv 0) (pa_cons (pv 1) (pa_cons (pv 2) pa_nil)))) (pe_one (C8.pe_c c_is_too_soon hr (by decide) (by rfl) (pa_cons (pv 0) (pa_cons (pv 2) (pa_cons (pv 1) pa_nil))))))))), ?_⟩)
  · obtain ⟨z, ⟨a, m, i, j, rfl, _⟩, _⟩ := h
    rfl
  · obtain ⟨z, ⟨a, m, i, j, rfl, hp, hn, hi, hj, rfl⟩, q⟩ := h
    obtain ⟨p, dx, s1, s2, s3, s4, pl⟩ := hp
    have l1 := pl.scs.1
    have soonV : ∀ {H1 : Hp}, Ex H H1 → ∀ i j, j < m.dress.length → ∀ H2, Ex H1 H2 → SpV (sp_is_too_soon A) [.ref a, nV i, nV j] H2 (.bl (m.soon i j)) := fun e i j hj H2 e2 => spV_of fun H3 e3 => ⟨a, m, i, j, rfl, ⟨p, dx, s1, s2, s3, s4, pl.mono ((e.trans e2).trans e3)⟩, hn, hj, rfl⟩
    have hm : (given s1.length (fun k => m.has k i && m.has k j) (fun k => s1.getD k .non)).isEmpty = !m.meet i j := by
      rw [given_nil]
      congr 1
      unfold Pm.meet
      rw [Bool.eq_iff_iff, List.any_eq_true, List.any_eq_true]
      constructor
      · rintro ⟨k, hk, h⟩
        rw [l1] at hk
        have hk := List.mem_range.mp hk
        have e := List.getElem?_eq_getElem hk
        rw [has_at e, has_at e] at h
        exact ⟨_, List.getElem_mem hk, h⟩
      · rintro ⟨s, hs, h⟩
        obtain ⟨k, hk⟩ := List.mem_iff_getElem?.mp hs
        refine ⟨k, List.mem_range.mpr (by rw [l1]; exact nat_get hk), ?_⟩
        rw [has_at hk, has_at hk]
        exact h
    have hv : ∀ (k : Nat) (T : Addr) (x y : V), s1[k]? = some (.ref T) → H T = some (.tup [x, y]) → ∃ sc r, m.scenes[k]? = some sc ∧ y = .ref r ∧ H r = some (.lst (iv sc.2)) := fun k T x y hk hT => by
      obtain ⟨sc, h1, h2⟩ := pl.scs.get hk
      obtain ⟨_, r, e, h3⟩ := isSc_at h2 hT
      exact ⟨sc, r, h1, e, h3⟩
    have hfl : Flat K H (given s1.length (fun k => m.has k i && m.has k j) (yOf H s1)) := flat_lists fun x hx => by
      obtain ⟨k, hk, rfl⟩ := List.mem_map.mp hx
      have hk := List.mem_range.mp (List.mem_filter.mp hk).1
      obtain ⟨T, x, y, e, hT⟩ := sc_pairs pl.scs k _ (List.getElem?_eq_getElem hk)
      have hk2 : s1[k]? = some (.ref T) := by rw [List.getElem?_eq_getElem hk, e]
      obtain ⟨sc, r, h1, rfl, h3⟩ := hv k T x y hk2 hT
      rw [yOf_at hk2 hT]
      exact ⟨_, r, rfl, h3⟩
    refine q_when (b := m.meet i j) (et_is (et_test (ev_neNil (el_lcT (fun k => m.has k i && m.has k j) (yOf H s1) (ev_fld T.clP T.ps (ev_var rfl) pl.ob (pF_s p)) pl.sc (by omega) (sc_pairs pl.scs) (fun _ _ => rfl) ?_ ?_) hfl)) ?_) ?_ ?_
    · intro k t x y H1 e hk hT
      obtain ⟨sc, r, h1, rfl, h3⟩ := hv k t x y hk hT
      rw [has_at h1, has_at h1]
      exact et_and (et_test (ev_in (ev_var rfl) (ev_var rfl) (e _ _ h3))) fun _ => et_test (ev_in (ev_var rfl) (ev_var rfl) (e _ _ h3))
    · intro k t x y H1 e hk hT _
      rw [yOf_at hk hT]
      exact ev_var rfl
    · rw [given_nil] at hm ⊢
      rw [hm, Bool.not_not]
    · intro hb H1 e
      refine s_ret ev_c fun H2 e2 => ?_
      have : m.clash i j = true := by unfold Pm.clash; rw [hb]; rfl
      rw [this] at q
      exact q H2 (e.trans e2)
    · intro hb H1 e
      have : m.clash i j = (m.soon i j || m.soon j i) := by unfold Pm.clash; rw [hb]; rfl
      rw [this] at q
      exact s_ret (ev_orV (ev_c1 (ea_3 (ev_var rfl) (ev_var rfl) (ev_var rfl)) (soonV (Ex.refl _) i j hj H1 e)) fun _ => ev_c1 (ea_3 (ev_var rfl) (ev_var rfl) (ev_var rfl)) (soonV (Ex.refl _) j i hi H1 e)) fun H2 e2 => q H2 (e.trans e2)
/-! ### clashing -/
def sp_clashing (A : Ad) : Sp := relSp isPr fun vs H ls => ∃ a m, vs = [.ref a] ∧ PlayR A H a m ∧ m.scenes.length ≤ 10 ∧ m.dress.length ≤ 5 ∧ ls = m.clashes
theorem isPr_upd {H : Hp} {l : Addr} {xs ys : List V} {v : V} {x : Nat × Nat} (hl : H l = some (.lst xs)) (h : isPr H v x) : isPr (upd H l (.lst ys)) v x := by
  obtain ⟨t, rfl, ht⟩ := h
  exact ⟨t, rfl, by rw [upd_ne (ne_of ht hl (by intro z; cases z))]; exact ht⟩
theorem clRow_succ (m : Pm) (a k : Nat) : m.clRow a (k + 1) = m.clRow a k ++ if m.clash a (a + 1 + k) = true then [(a, a + 1 + k)] else [] := by
  unfold Pm.clRow
  rw [List.range_succ, List.map_append, List.filter_append]
  congr 1
  show List.filter _ [(a, a + 1 + k)] = _
  rw [List.filter_cons]
  rfl
theorem cal_clashing (T : Txt K mg A) (F : HasDef K mg "clashing" s_clashing ["play"]) (c_clash : Cal P w K mg base 3 "clash" (sp_clash A) []) : Cal P w K mg base 4 "clashing" (sp_clashing A) [] := by
  have nd := sc_clashing.nd
  refine def_ok F sc_clashing (fun vs H Q E h => ?_) (fun f cdv Ar outer s H vs Q E hr h => ⟨_, (pss_cons (ps_set (i := 1) nd rfl (Or.inl rfl) (pe_lst pa_nil))
      (pss_cons (ps_for PassesOwn.never rfl (pi_range1 (by rfl) T.range (pa_cons (pe_callB call_len_seq (by rfl) T.len PySem.boot_len (pa_cons (pe_fld (pv 0) rfl) pa_nil)) pa_nil)) (pg_name (i := 2) nd rfl (Or.inl rfl)) (pss_one (ps_for PassesOwn.never rfl (pi_range2 (by rfl) T.range (pa_cons (pe_op op_add (pv 2) pe_int) (pa_cons (pe_callB call_len_seq (by rfl) T.len PySem.boot_len (pa_cons (pe_fld (pv 0) rfl) pa_nil)) pa_nil))) (pg_name (i := 3) nd rfl (Or.inl rfl)) (pss_one (ps_if (pt_val (C8.pe_c c_clash hr (by decide) (by rfl) (pa_cons (pv 0) (pa_cons (pv 2) (pa_cons (pv 3) pa_nil))))) (pss_one (ps_expr (pe_bm PySem.F.plainAttrs_list PySem.F.slot_list_append PySem.F.type_list_append mt_append (pv 1) (pa_cons (pe_tup (pa_cons (pv 2) (pa_cons (pv 3) pa_nil))) pa_nil)))) pss_nil)))))
      (pss_one (ps_ret (pv 1))))), ?_⟩)
  · obtain ⟨z, ⟨a, m, rfl, _⟩, _⟩ := h
    rfl
  · obtain ⟨ls, ⟨a, m, rfl, hp, hn, hd, rfl⟩, q⟩ := h
    obtain ⟨p, dx, s1, s2, s3, s4, pl⟩ := hp
    have ld : (iv m.dress).length = m.dress.length := List.length_map ..
    refine q_asgL el_nil fun fp H1 hfp e1 h1 => ?_
    have pl1 := pl.mono e1
    refine q_forM (n := m.dress.length) (ea_1 (ev_lenL (ev_fld T.clP T.pd (ev_var rfl) pl1.ob (pF_d p)) pl1.dr ld)) (by omega) (fun k σ' H' => ∃ x y xs, σ' = [some (.ref a), some (.ref fp), x, y] ∧ Ex H H' ∧ H' fp = some (.lst xs) ∧ xs.length ≤ 5 * k ∧ Ats (isPr H') xs ((List.range k).flatMap fun a => m.clRow a (m.dress.length - (a + 1))))
      (fun H2 e2 => ⟨_, _, _, rfl, e1.trans e2, e2 _ _ h1, Nat.le_refl _, Ats.nil⟩) ?_ ?_
    · rintro k σ' H2 hk ⟨x0, y0, xs, rfl, e2, h2, hx, ha⟩
      have pl2 := pl.mono e2
      refine s_forN (lo := k + 1) (n := m.dress.length) (ea_2 (ev_add (ev_var rfl) (ev_c0 1)) (ev_lenL (ev_fld T.clP T.pd (ev_var rfl) pl2.ob (pF_d p)) pl2.dr ld)) (by omega) (by omega)
        (fun d σ' H' => ∃ y xs, σ' = [some (.ref a), some (.ref fp), some (nV k), y] ∧ Ex H H' ∧ H' fp = some (.lst xs) ∧ xs.length ≤ 5 * k + d ∧ Ats (isPr H') xs (((List.range k).flatMap fun a => m.clRow a (m.dress.length - (a + 1))) ++ m.clRow k d))
        (fun H3 e3 => ⟨_, _, rfl, e2.trans e3, e3 _ _ h2, hx, by rw [show m.clRow k 0 = [] from rfl, List.append_nil]; exact ha.mono fun _ _ => isPr.mono e3⟩) ?_ ?_
      · rintro d σ' H3 hd2 ⟨y1, ys, rfl, e3, h3, hy, hb⟩
        have cv : SpV (sp_clash A) [.ref a, nV k, nV (k + 1 + d)] H3 (.bl (m.clash k (k + 1 + d))) := spV_of fun H4 e4 => ⟨a, m, k, k + 1 + d, rfl, ⟨p, dx, s1, s2, s3, s4, pl.mono (e3.trans e4)⟩, hn, by omega, by omega, rfl⟩
        refine s_when (et_B (ev_c1 (ea_3 (ev_var rfl) (ev_var rfl) (ev_var rfl)) cv)) ?_ ?_
        · intro hc H4 e4
          refine s_appU (e4 _ _ h3) (ev_var rfl) (eu_tup (ea_2 (ev_var rfl) (ev_var rfl)) (by show 2 ≤ 100000; decide)) (by omega) fun t H5 ht e5 h5 => ?_
          have hf5 := e5 _ _ (e4 _ _ h3)
          refine ⟨_, _, rfl, ((e3.trans e4).trans e5).mut hfp, upd_same, by rw [List.length_append, List.length_singleton]; omega, ?_⟩
          rw [clRow_succ, if_pos hc, ← List.append_assoc]
          exact ((hb.mono fun _ _ z => isPr_upd hf5 (z.mono (e4.trans e5))).snoc (isPr_upd hf5 ⟨t, rfl, h5⟩))
        · intro hc H4 e4
          refine ⟨_, _, rfl, e3.trans e4, e4 _ _ h3, by omega, ?_⟩
          rw [clRow_succ, if_neg (by rw [hc]; decide), List.append_nil]
          exact hb.mono fun _ _ z => z.mono e4
      · rintro σ' H3 ⟨y1, ys, rfl, e3, h3, hy, hb⟩
        refine ⟨_, _, _, rfl, e3, h3, by omega, ?_⟩
        rw [List.range_succ, List.flatMap_append, List.flatMap_singleton]
        exact hb
    · rintro σ' H2 ⟨x0, y0, xs, rfl, e2, h2, hx, ha⟩
      exact s_ret (ev_var rfl) fun H3 e3 => q fp H3 xs hfp (e2.trans e3) (e3 _ _ h2) (ha.mono fun _ _ z => z.mono e3)
end Rc
set_option Elab.async false
set_option linter.all false
set_option maxRecDepth 100000
set_option maxHeartbeats 4000000
/-! # The defs: castings, what's wrong with them, what they cost; in_piece -/
namespace Rc
open PySem PySem.Spec PyProof.Rows L2 Evl
open C8 (Cal Met Mak)
variable {P : Program} {w : World} {K : PySem.W.Frag} {mg : Str → Option Value} {base : Heap} {A : Ad}
theorem find_range {n k : Nat} {p : Nat → Bool} (h : ∀ j, j < k → p j = false) (hp : p k = true) (hk : k < n) : (List.range n).find? p = some k := by
  rw [List.find?_range_eq_some]
  exact ⟨hp, List.mem_range.mpr hk, fun j hj => by rw [h j hj]; rfl⟩
theorem find_range0 {n : Nat} {p : Nat → Bool} (h : ∀ j, j < n → p j = false) : (List.range n).find? p = none := by
  rw [List.find?_eq_none]
  exact fun x hx => by rw [h x (List.mem_range.mp hx)]; decide
theorem find_list {α : Type} {l : List α} {k : Nat} {x : α} {p : α → Bool} (h : ∀ j, j < k → ∀ y, l[j]? = some y → p y = false) (hx : l[k]? = some x) (hp : p x = true) : l.find? p = some x := by
  rw [List.find?_eq_some_iff_getElem]
  obtain ⟨hk, e⟩ := List.getElem?_eq_some_iff.mp hx
  exact ⟨hp, k, hk, e, fun j hj => by rw [h j hj _ (List.getElem?_eq_getElem (by omega))]; rfl⟩
theorem find_list0 {α : Type} {l : List α} {p : α → Bool} (h : ∀ j, j < l.length → ∀ y, l[j]? = some y → p y = false) : l.find? p = none := by
  rw [List.find?_eq_none]
  intro x hx
  obtain ⟨j, hj⟩ := List.mem_iff_getElem?.mp hx
  rw [h j (nat_get hj) x hj]
  decide
theorem feeAt_at {m : Pm} {a r : Nat} {p : Pl} (h : m.players[a]? = some p) : m.feeAt a r = p.fees.getD r 0 := by
  unfold Pm.feeAt
  rw [h]
  rfl
theorem getD_mem {c : List Nat} {k : Nat} (h : k < c.length) : c.getD k 0 ∈ c := by
  rw [List.getD_eq_getElem?_getD, List.getElem?_eq_getElem h]
  exact List.getElem_mem h
theorem iv_get {c : List Nat} {k : Nat} {x : V} (h : (iv c)[k]? = some x) : k < c.length ∧ x = nV (c.getD k 0) := by
  have l : k < c.length := by
    have := nat_get h
    rw [List.length_map] at this
    exact this
  refine ⟨l, ?_⟩
  rw [iv_at l] at h
  exact (Option.some.inj h).symm
theorem pr_pairs {H : Hp} {xs : List V} {ys : List (Nat × Nat)} (h : Ats (isPr H) xs ys) : ∀ (k : Nat) (z : V), xs[k]? = some z → ∃ (T : Addr) (x y : V), z = V.ref T ∧ H T = some (.tup [x, y]) := fun k z e => by
  obtain ⟨s, _, t, e1, h1⟩ := h.get e
  exact ⟨t, _, _, e1, h1⟩
theorem isPr_at {H : Hp} {T : Addr} {x y : V} {s : Nat × Nat} (h : isPr H (.ref T) s) (hT : H T = some (.tup [x, y])) : x = nV s.1 ∧ y = nV s.2 := by
  obtain ⟨t, e, h1⟩ := h
  cases e
  rw [hT] at h1
  cases h1
  exact ⟨rfl, rfl⟩
/-! ### wrong_casting -/
def sp_wrong_casting (A : Ad) : Sp := lstSp fun vs H xs => ∃ a m cl c clp cp cs, vs = [.ref a, .ref clp, .ref cp] ∧ PlayR A H a m ∧ H cp = some (.lst (iv c)) ∧ H clp = some (.lst cs) ∧ Ats (isPr H) cs cl ∧ (∀ x ∈ c, x < m.players.length) ∧ (∀ p ∈ m.players, c.length ≤ p.fees.length) ∧
  (∀ x ∈ cl, x.1 < c.length ∧ x.2 < c.length) ∧ xs = iv (list3 (m.wrongC cl c))
theorem cal_wrong_casting (T : Txt K mg A) (F : HasDef K mg "wrong_casting" s_wrong_casting ["play", "clashes", "casting"]) (c_can_play : Met P w K mg base 1 A.cY "can_play" (sp_can_play A) []) : Cal P w K mg base 2 "wrong_casting" (sp_wrong_casting A) [] := by
  have nd := sc_wrong_casting.nd
  refine def_ok F sc_wrong_casting (fun vs H Q E h => ?_) (fun f cdv Ar outer s H vs Q E hr h => ⟨_, (pss_cons (ps_for PassesOwn.never rfl (pi_enum (by rfl) T.enumerate (pa_cons (pv 2) pa_nil)) (pg_tup rfl (pgs_cons (pg_name (i := 3) nd rfl (Or.inl rfl)) (pgs_cons (pg_name (i := 4) nd rfl (Or.inl rfl)) pgs_nil))) (pss_one (ps_if (pt_not (pt_val (C8.pe_mt c_can_play hr (by decide) (pe_ix ix_list (pe_fld (pv 0) rfl) (pv 4) (fun _ _ => rfl)) (pa_cons (pv 3) pa_nil)))) (pss_one (ps_ret (pe_lst (pa_cons pe_int (pa_cons (pv 3) (pa_cons (pv 4) pa_nil)))))) pss_nil)))
      (pss_cons (ps_for PassesOwn.never rfl (pi_list (pv 1)) (pg_tup rfl (pgs_cons (pg_name (i := 5) nd rfl (Or.inl rfl)) (pgs_cons (pg_name (i := 6) nd rfl (Or.inl rfl)) pgs_nil))) (pss_one (ps_if (pt_cmpR op_eq (pe_ix ix_list (pv 2) (pv 5) (fun _ _ => rfl)) (pe_ix ix_list (pv 2) (pv 6) (fun _ _ => rfl)) (nomark _)) (pss_one (ps_ret (pe_lst (pa_cons pe_int (pa_cons (pv 5) (pa_cons (pv 6) pa_nil)))))) pss_nil)))
      (pss_one (ps_ret (pe_lst pa_nil))))), ?_⟩)
  · obtain ⟨z, ⟨a, m, cl, c, clp, cp, cs, rfl, _⟩, _⟩ := h
    rfl
  · obtain ⟨xs, ⟨a, m, cl, c, clp, cp, cs, rfl, hp, hc, hcl, hat, hlt, hfe, hcc, rfl⟩, q⟩ := h
    obtain ⟨p, dx, s1, s2, s3, s4, pl⟩ := hp
    refine q_forE (ea_1 (ev_var rfl)) hc (fun k σ' H' => ∃ x y o1 o2, σ' = [some (.ref a), some (.ref clp), some (.ref cp), x, y, o1, o2] ∧ Ex H H' ∧ ∀ k', k' < k → decide (m.feeAt (c.getD k' 0) k' = 0) = false) (fun H1 e => ⟨_, _, _, _, rfl, e, fun k' hk => absurd hk (Nat.not_lt_zero _)⟩) (fun k σ' H' _ ⟨_, _, _, _, _, e, _⟩ => e _ _ hc) ?_ ?_
    · rintro k x σ' H' H2 hk ⟨x0, y0, o1, o2, rfl, e, hno⟩ e2
      obtain ⟨kl, rfl⟩ := iv_get hk
      have e3 := e.trans e2
      have pl2 := pl.mono e3
      have hpl := hlt _ (getD_mem kl)
      have hpe := List.getElem?_eq_getElem hpl
      obtain ⟨v, hv, ya, yd, yr, rfl, hy, hf⟩ := pl2.pls.2 _ _ hpe
      have hfl := hfe _ (List.getElem_mem hpl)
      refine s_when (et_not (et_B (ev_meth (ev_ixL (ev_fld T.clP T.pl (ev_var rfl) pl2.ob (pF_l p)) (ev_var rfl) pl2.pl hv) hy (yF_can _ _) (ea_1 (ev_var rfl)) (spV_of fun H3 e4 => ⟨ya, yd, yr, _, k, rfl, e4 _ _ hy, e4 _ _ hf, by omega, rfl⟩)))) ?_ ?_
      · intro hb H3 e4
        refine s_retL (el_lst (ea_3 (ev_c0 1) (ev_var rfl) (ev_var rfl)) (by show 3 ≤ 100000; decide)) fun r H4 hr4 e5 h4 => ?_
        have fz : decide (m.feeAt (c.getD k 0) k = 0) = true := by
          rw [feeAt_at hpe]
          have : ¬ 0 < (m.players[c.getD k 0]'hpl).fees.getD k 0 := by
            intro z
            rw [decide_eq_true z] at hb
            cases hb
          exact decide_eq_true (by omega)
        have ee : m.wrongC cl c = some (1, k, c.getD k 0) := by
          unfold Pm.wrongC
          rw [find_range hno fz kl]
        refine q r H4 (fresh_back (e3.trans e4) hr4) ((e3.trans e4).trans e5) ?_
        rw [ee]
        exact h4
      · intro hb H3 e4
        refine ⟨_, _, _, _, rfl, e3.trans e4, lt_snoc hno ?_⟩
        rw [feeAt_at hpe]
        have : 0 < (m.players[c.getD k 0]'hpl).fees.getD k 0 := by
          by_cases z : 0 < (m.players[c.getD k 0]'hpl).fees.getD k 0
          · exact z
          · rw [decide_eq_false z] at hb
            cases hb
        exact decide_eq_false (by omega)
    · rintro σ' H1 ⟨x0, y0, o1, o2, rfl, e, hno⟩
      rw [List.length_map] at hno
      have ef : (List.range c.length).find? (fun r => decide (m.feeAt (c.getD r 0) r = 0)) = none := find_range0 hno
      have hat1 := hat.mono fun _ _ => isPr.mono e
      refine q_forP (ev_var rfl) (e _ _ hcl) (pr_pairs hat1) (fun k σ' H' => ∃ x y o1 o2, σ' = [some (.ref a), some (.ref clp), some (.ref cp), x, y, o1, o2] ∧ Ex H1 H' ∧ ∀ j, j < k → ∀ z, cl[j]? = some z → (c.getD z.1 0 == c.getD z.2 0) = false) (fun H2 e2 => ⟨_, _, _, _, rfl, e2, fun k' hk => absurd hk (Nat.not_lt_zero _)⟩) (fun k σ' H' _ ⟨_, _, _, _, _, e, _⟩ => e) ?_ ?_
      · rintro k t x y σ' H2 hk ht ⟨x1, y1, o3, o4, rfl, e2, hno2⟩
        obtain ⟨z, hz, hpr⟩ := hat1.get hk
        obtain ⟨rfl, rfl⟩ := isPr_at hpr ht
        obtain ⟨z1, z2⟩ := hcc z (List.mem_of_getElem? hz)
        have hc2 := e2 _ _ (e _ _ hc)
        refine s_when (et_test (ev_eqI (ev_at (ev_var rfl) (ev_var rfl) hc2 z1) (ev_at (ev_var rfl) (ev_var rfl) hc2 z2))) ?_ ?_
        · intro hb H3 e4
          refine s_retL (el_lst (ea_3 (ev_c0 2) (ev_var rfl) (ev_var rfl)) (by show 3 ≤ 100000; decide)) fun r H4 hr4 e5 h4 => ?_
          have ee : m.wrongC cl c = some (2, z.1, z.2) := by
            unfold Pm.wrongC
            rw [ef]
            show (cl.find? _).map _ = _
            rw [find_list (k := k) hno2 hz (by rw [beq_iff_eq]; exact of_decide_eq_true hb)]
            rfl
          refine q r H4 (fresh_back ((e.trans e2).trans e4) hr4) (((e.trans e2).trans e4).trans e5) ?_
          rw [ee]
          exact h4
        · intro hb H3 e4
          refine ⟨_, _, _, _, rfl, e2.trans e4, lt_snoc hno2 fun y hy => ?_⟩
          rw [hz] at hy
          have hy := (Option.some.inj hy).symm
          subst hy
          exact beq_eq_false_iff_ne.mpr (of_decide_eq_false hb)
      · rintro σ' H2 ⟨x1, y1, o3, o4, rfl, e2, hno2⟩
        refine s_retL el_nil fun r H3 hr3 e3 h3 => ?_
        have ee : m.wrongC cl c = none := by
          unfold Pm.wrongC
          rw [ef]
          show (cl.find? _).map _ = _
          rw [find_list0 (by rw [← hat.1]; exact hno2)]
          rfl
        refine q r H3 (fresh_back (e.trans e2) hr3) ((e.trans e2).trans e3) ?_
        rw [ee]
        exact h3
/-! ### casting_cost -/
def sp_casting_cost (A : Ad) : Sp := valSp fun vs H z => ∃ a m c cp, vs = [.ref a, .ref cp] ∧ PlayR A H a m ∧ H cp = some (.lst (iv c)) ∧ (∀ x ∈ c, x < m.players.length) ∧ (∀ p ∈ m.players, c.length ≤ p.fees.length) ∧ m.players.length ≤ 4 ∧ c.length ≤ 5 ∧ z = nV (m.castCost c)
theorem cal_casting_cost (T : Txt K mg A) (F : HasDef K mg "casting_cost" s_casting_cost ["play", "casting"]) (c_fee : Met P w K mg base 1 A.cY "fee" (sp_fee A) []) : Cal P w K mg base 2 "casting_cost" (sp_casting_cost A) [] := by
  have nd := sc_casting_cost.nd
  refine def_ok F sc_casting_cost (fun vs H Q E h => ?_) (fun f cdv Ar outer s H vs Q E hr h => ⟨_, (pss_cons (ps_setLc (i := 2) (own := [("number", 3), ("player", 4)]) (g := (gTup K 2 (gCons (gName 3) (gCons (gName 4) gNil)))) (tt := (tTest (tOp (rIn K false) (tVar 3) (tVar 1)))) (te := (tFld K (tVar 4) "wage")) rfl nd rfl rfl (sw_true rfl rfl rfl (by decide +kernel)) (pi_enum (by rfl) T.enumerate (pa_cons (pe_fld (pv 0) rfl) pa_nil)) (blkOk_by (own := [("number", 3), ("player", 4)]) (N := N_casting_cost) (sc := C8.fnScope s_casting_cost) (by decide +kernel)) (fun _ _ _ _ _ => (pg_tup rfl (pgs_cons (pg_name (i := 3) nd rfl (Or.inl rfl)) (pgs_cons (pg_name (i := 4) nd rfl (Or.inl rfl)) pgs_nil)))) (fun _ _ _ _ _ => (pts_one (pt_cmpR op_in_seq (pv 3) (pv 1) rfl))) (fun _ _ _ _ _ => (pe_fld (pv 4) rfl)))
      (pss_one (ps_ret (pe_op op_add (pe_callB (cr_sum rfl) (by rfl) T.sum (by decide +kernel) (pa_cons (pv 2) pa_nil)) (pe_callB (cr_sum rfl) (by rfl) T.sum (by decide +kernel) (pa_cons (pe_lc (own := [("role", 5), ("player", 4)]) (g := (gTup K 2 (gCons (gName 5) (gCons (gName 4) gNil)))) (tt := tYes) (te := (tMeth A.cY "fee" (sp_fee A) [] C8.E0 (tOp (rIxL K) (tFld K (tVar 0) "players") (tVar 4)) (tCons (tVar 5) tNil))) rfl nd (pi_enum (by rfl) T.enumerate (pa_cons (pv 1) pa_nil)) (blkOk_by (own := [("role", 5), ("player", 4)]) (N := N_casting_cost) (sc := C8.fnScope s_casting_cost) (by decide +kernel)) (fun _ _ _ _ _ => (pg_tup rfl (pgs_cons (pg_name (i := 5) nd rfl (Or.inl rfl)) (pgs_cons (pg_name (i := 4) nd rfl (Or.inl rfl)) pgs_nil)))) (fun _ _ _ _ _ => pts_nil) (fun _ _ _ _ _ => (C8.pe_mt c_fee hr (by decide) (pe_ix ix_list (pe_fld (pv 0) rfl) (pv 4) (fun _ _ => rfl)) (pa_cons (pv 5) pa_nil)))) pa_nil)))))), ?_⟩)
  · obtain ⟨z, ⟨a, m, c, cp, rfl, _⟩, _⟩ := h
    rfl
  · obtain ⟨z, ⟨a, m, c, cp, rfl, hp, hc, hlt, hfe, h4, h5, rfl⟩, q⟩ := h
    obtain ⟨p, dx, s1, s2, s3, s4, pl⟩ := hp
    have ls := pl.pls.1
    refine q_asgL (xs := iv (((List.range m.players.length).filter fun a => c.contains a).map m.wageAt)) (el_is (el_lcE (fun k => c.contains k) (fun k => nV (m.wageAt k)) (ea_1 (ev_fld T.clP T.pl (ev_var rfl) pl.ob (pF_l p))) pl.pl (by omega) (fun _ _ => rfl) ?_ ?_) (by rw [given_iv, ls])) ?_
    · intro k x H1 e hk
      exact et_test (ev_in (ev_var rfl) (ev_var rfl) (e _ _ hc))
    · intro k x H1 e hk _
      obtain ⟨y, hy, ya, yd, yr, rfl, h1, h2⟩ := pl.pls.get hk
      refine ev_is (ev_fld T.clY T.yw (ev_var rfl) (e _ _ h1) (yF_w y yr)) ?_
      unfold Pm.wageAt
      rw [hy]
      rfl
    · intro wp H1 hw e1 h1
      have pl1 := pl.mono e1
      refine s_ret (ev_add (ev_sumIL (ev_var rfl) h1) (ev_sumIN (l := (List.range c.length).map fun r => m.feeAt (c.getD r 0) r - 1) (el_is (el_lcE (fun _ => true) (fun k => nV (m.feeAt (c.getD k 0) k - 1)) (ea_1 (ev_var rfl)) (e1 _ _ hc) (by rw [List.length_map]; omega) (fun _ _ => rfl) (fun _ _ _ _ _ => et_yes) ?_) ?_))) fun H2 e2 => q H2 (e1.trans e2)
      · intro k x H2 e2 hk _
        obtain ⟨kl, rfl⟩ := iv_get hk
        have pl2 := pl1.mono e2
        have hpl := hlt _ (getD_mem kl)
        have hpe := List.getElem?_eq_getElem hpl
        obtain ⟨v, hv, ya, yd, yr, rfl, hy, hf⟩ := pl2.pls.2 _ _ hpe
        have hfl := hfe _ (List.getElem_mem hpl)
        rw [feeAt_at hpe]
        exact ev_meth (ev_ixL (ev_fld T.clP T.pl (ev_var rfl) pl2.ob (pF_l p)) (ev_var rfl) pl2.pl hv) hy (yF_fee _ _) (ea_1 (ev_var rfl)) (spV_of fun H3 e4 => ⟨ya, yd, yr, _, k, rfl, e4 _ _ hy, e4 _ _ hf, by omega, rfl⟩)
      · rw [given_iv, List.length_map, List.filter_eq_self.mpr (fun _ _ => rfl)]
/-! ### in_piece -/
def sp_in_piece (A : Ad) : Sp := valSp fun vs H z => ∃ a m c cp k y, vs = [.ref a, .ref cp, nV k, nV y] ∧ PlayR A H a m ∧ H cp = some (.lst (iv c)) ∧ k < m.pieces.length ∧ (∀ x ∈ m.pieces, x.2.length ≤ 20 ∧ ∀ r ∈ x.2, r < c.length) ∧ z = .bl (m.inP c y k)
theorem cal_in_piece (T : Txt K mg A) (F : HasDef K mg "in_piece" s_in_piece ["play", "casting", "piece", "player"]) : Cal P w K mg base 1 "in_piece" (sp_in_piece A) [] := by
  have nd := sc_in_piece.nd
  refine def_ok F sc_in_piece (fun vs H Q E h => ?_) (fun f cdv Ar outer s H vs Q E hr h => ⟨_, (pss_one (ps_ret (pe_cmpR (op_neD hr.units) (pe_lc (own := [("role", 4)]) (g := (gName 4)) (tt := (tTest (tOp rEq (tOp (rIxL K) (tVar 1) (tVar 4)) (tVar 3)))) (te := (tVar 4)) rfl nd (pi_list (pe_ix ix_tup (pe_ix ix_list (pe_fld (pv 0) rfl) (pv 2) (fun _ _ => rfl)) pe_int (fun _ _ => rfl))) (blkOk_by (own := [("role", 4)]) (N := N_in_piece) (sc := C8.fnScope s_in_piece) (by decide +kernel)) (fun _ _ _ _ _ => (pg_name (i := 4) nd rfl (Or.inl rfl))) (fun _ _ _ _ _ => (pts_one (pt_cmpR op_eq (pe_ix ix_list (pv 1) (pv 4) (fun _ _ => rfl)) (pv 3) (nomark _)))) (fun _ _ _ _ _ => (pv 4))) (pe_lst pa_nil) (nomark _)))), ?_⟩)
  · obtain ⟨z, ⟨a, m, c, cp, k, y, rfl, _⟩, _⟩ := h
    rfl
  · obtain ⟨z, ⟨a, m, c, cp, k, y, rfl, hp, hc, hk, hr, rfl⟩, q⟩ := h
    obtain ⟨p, dx, s1, s2, s3, s4, pl⟩ := hp
    have hke := List.getElem?_eq_getElem hk
    obtain ⟨v, hv, t, r, rfl, ht, hrr⟩ := pl.pcs.2 _ _ hke
    obtain ⟨hr1, hr2⟩ := hr _ (List.getElem_mem hk)
    generalize hR : (m.pieces[k]'hk) = pc at *
    refine s_ret (ev_is (ev_neNil (xs := given (iv pc.2).length (fun i => c.getD (pc.2.getD i 0) 0 == y) (fun i => nV (pc.2.getD i 0))) (el_lcL (fun i => c.getD (pc.2.getD i 0) 0 == y) (fun i => nV (pc.2.getD i 0)) (ev_ixT (ev_ixL (ev_fld T.clP T.pp (ev_var rfl) pl.ob (pF_p p)) (ev_var rfl) pl.pc hv) (ev_c0 1) ht rfl) (sq_of hrr) (by rw [List.length_map]; omega) (fun _ => rfl) ?_ ?_) ?_) ?_) q
    · intro i x H1 e hi
      obtain ⟨il, rfl⟩ := iv_get hi
      refine et_is (et_test (ev_eqI (ev_at (ev_var rfl) (ev_var rfl) (e _ _ hc) (hr2 _ (getD_mem il))) (ev_var rfl))) ?_
      rw [Bool.eq_iff_iff, decide_eq_true_eq, beq_iff_eq]
    · intro i x H1 e hi _
      obtain ⟨il, rfl⟩ := iv_get hi
      exact ev_var rfl
    · rw [given_iv]
      exact flat_ivs _
    · rw [given_nil, Bool.not_not]
      congr 1
      unfold Pm.inP
      rw [hke]
      show _ = pc.2.any fun r => c.getD r 0 == y
      rw [Bool.eq_iff_iff, List.any_eq_true, List.any_eq_true, List.length_map]
      constructor
      · rintro ⟨i, hi, h⟩
        exact ⟨_, getD_mem (List.mem_range.mp hi), h⟩
      · rintro ⟨r, hr, h⟩
        obtain ⟨i, hi⟩ := List.mem_iff_getElem?.mp hr
        refine ⟨i, List.mem_range.mpr (nat_get hi), ?_⟩
        rw [List.getD_eq_getElem?_getD (l := pc.2), hi]
        exact h
end Rc
set_option Elab.async false
set_option linter.all false
set_option maxRecDepth 100000
set_option maxHeartbeats 4000000
/-! # The defs: a player's stay, what's wrong with an order, what it costs -/
namespace Rc
open PySem PySem.Spec PyProof.Rows L2 Evl
open C8 (Cal Met Mak)
section
variable {K : PySem.W.Frag} {σ : L2.St} {H H' : Hp} {ta tb te : TE}
/-- a heap without one object -/
def cut (D : Addr) (H : Hp) : Hp := fun b => if b = D then none else H b
theorem cut_ex {D : Addr} {H : Hp} : Ex (cut D H) H := fun b o h => by
  unfold cut at h
  by_cases c : b = D
  · rw [if_pos c] at h
    cases h
  · rw [if_neg c] at h
    exact h
theorem cut_mono {D : Addr} {H H' : Hp} (e : Ex H H') : Ex (cut D H) (cut D H') := fun b o h => by
  unfold cut at h ⊢
  by_cases c : b = D
  · rw [if_pos c] at h
    cases h
  · rw [if_neg c] at h ⊢
    exact e _ _ h
theorem cut_upd {D : Addr} {H : Hp} {o : HO} : cut D (upd H D o) = cut D H := by
  funext b
  unfold cut
  by_cases c : b = D
  · rw [if_pos c, if_pos c]
  · rw [if_neg c, if_neg c, upd_ne c]
theorem cut_at {D p : Addr} {H : Hp} {o : HO} (h : H p = some o) (n : p ≠ D) : cut D H p = some o := by
  unfold cut
  rw [if_neg n]
  exact h
/-- a comprehension over range(n), each item a new list of numbers -/
theorem er_lcR {ta : TA} {t : TT} {j n : Nat} {vs : List Nat} (f : Nat → Bool) (g : Nat → List Nat) (h : EvA ta σ H [nV n]) (hn : n ≤ 40000) (hw : ∀ x, wipe ((wipe σ vs).set j (some x)) vs = wipe σ vs)
    (ht : ∀ (i : Nat) H1, Ex H H1 → i < n → EvT t ((wipe σ vs).set j (some (nV i))) H1 (f i)) (he : ∀ (i : Nat) H1, Ex H H1 → i < n → f i = true → EvL te ((wipe σ vs).set j (some (nV i))) H1 (iv (g i))) :
    EvR isL (tLc (iRng1 ta) (gName j) t te vs) σ H (((List.range n).filter f).map g) := fun H0 e Q q => h H0 e _ fun H1 e1 => ⟨(n : Int), rfl, by omega, by omega, fun Dl hD =>
  lc_it (n := n) walk_range (fun i H' => H1 Dl = none ∧ Ex H1 H' ∧ ∃ acc, H' Dl = some (.lst acc) ∧ acc.length ≤ i ∧ Ats (isL (cut Dl H')) acc (((List.range i).filter f).map g)) ⟨hD, Ex.new hD, [], upd_same, Nat.le_refl _, Ats.nil⟩ (fun _ _ _ _ => trivial) (fun i x H' H'' hi p y => by
    obtain ⟨eh, ex⟩ := y
    subst eh
    have ex2 : x = nV i := ex.trans (congrArg V.int (Int.zero_add _))
    clear ex
    subst ex2
    obtain ⟨p1, p2, acc, p3, p4, p5⟩ := p
    refine ⟨hw _, ht i H1 (e.trans e1) hi _ p2 _ fun H3 e3 => ?_⟩
    rw [List.range_succ, List.filter_append, List.map_append, List.filter_cons]
    cases hf : f i with
    | true =>
      show te _ H3 _
      refine he i H1 (e.trans e1) hi hf H3 (p2.trans e3) _ fun r H4 hr e4 h4 => ⟨acc, e4 _ _ (e3 _ _ p3), sz_lt (by omega), p1, Ex.mut ((p2.trans e3).trans e4) p1, _, upd_same, by rw [List.length_append, List.length_singleton]; omega, ?_⟩
      have nr : r ≠ Dl := (ne_of_none (e3 _ _ p3) hr).symm
      rw [cut_upd]
      exact (p5.mono fun _ _ z => z.mono (cut_mono (e3.trans e4))).append (Ats.one ⟨r, rfl, cut_at h4 nr⟩)
    | false =>
      refine ⟨p1, p2.trans e3, acc, e3 _ _ p3, by omega, ?_⟩
      show Ats _ acc (_ ++ ([] : List Nat).map g)
      rw [List.map_nil, List.append_nil]
      exact p5.mono fun _ _ z => z.mono (cut_mono e3)) (fun H' p => by
    obtain ⟨p1, p2, acc, p3, p4, p5⟩ := p
    exact q Dl H' acc (fresh_back e1 p1) (e1.trans p2) p3 (p5.mono fun _ _ z => z.mono cut_ex))⟩
/-- xs.index(x) -/
theorem ev_index {p : Addr} {o : List Nat} {x : Nat} (ha : Ev ta σ H (.ref p)) (hb : Ev tb σ H (nV x)) (h : H p = some (.lst (iv o))) (hx : x ∈ o) : Ev (tBM K "list" (rIndex K) ta (tCons tb tNil)) σ H (nV (o.idxOf x)) := fun H1 e Q q =>
  ha H1 e _ fun H2 e2 => ⟨.inl ⟨rfl, _, sq_of (e2 _ _ (e _ _ h))⟩, hb H2 (e.trans e2) _ fun H3 e3 => by
    have l := List.idxOf_lt_length_iff.mpr hx
    refine ⟨p, iv o, nV x, o.idxOf x, nV x, rfl, rfl, sq_of (e3 _ _ (e2 _ _ (e _ _ h))), rfl, flat_iv o, ?_, ?_, fun m z hm hz => ?_, q H3 (e2.trans e3)⟩
    · rw [iv_at l, List.getD_eq_getElem?_getD, List.getElem?_eq_getElem l, List.getElem_idxOf l]
      rfl
    · show ((x : Int) == (x : Int)) = true
      exact beq_self_eq_true _
    · obtain ⟨ml, rfl⟩ := iv_get hz
      have nf : (o[m] == x) = false := List.not_of_lt_findIdx hm
      rw [List.getD_eq_getElem?_getD, List.getElem?_eq_getElem ml]
      show ((o[m] : Int) == (x : Int)) = false
      rw [beq_eq_false_iff_ne] at nf ⊢
      omega⟩
end
variable {P : Program} {w : World} {K : PySem.W.Frag} {mg : Str → Option Value} {base : Heap} {A : Ad}
/-! ### stay -/
def fl2 : Option (Nat × Nat) → List Nat
  | none => []
  | some z => [z.1, z.2]
/-- a list told by its item -/
theorem take_more {α : Type} : ∀ {l : List α} {i : Nat} {x : α}, l[i]? = some x → l.take (i + 1) = l.take i ++ [x]
  | [], i, x, h => by simp at h
  | a :: l, 0, x, h => by
    have e : a = x := Option.some.inj h
    subst e
    rfl
  | a :: l, i + 1, x, h => by
    have ih := take_more (l := l) (i := i) (x := x) h
    show a :: l.take (i + 1) = a :: l.take i ++ [x]
    rw [ih]
    rfl
theorem lng_at {m : Pm} {k : Nat} {s : Nat × List Nat} (h : m.pieces[k]? = some s) : m.lng k = s.1 := by
  unfold Pm.lng
  rw [h]
  rfl
def sp_stay (A : Ad) : Sp := lstSp fun vs H xs => ∃ a m c o cp op y, vs = [.ref a, .ref cp, .ref op, nV y] ∧ PlayR A H a m ∧ H cp = some (.lst (iv c)) ∧ H op = some (.lst (iv o)) ∧ (∀ k ∈ o, k < m.pieces.length) ∧ (∀ x ∈ m.pieces, x.2.length ≤ 20 ∧ ∀ r ∈ x.2, r < c.length) ∧ xs = iv (m.stay c o y)
theorem cal_stay (T : Txt K mg A) (F : HasDef K mg "stay" s_stay ["play", "casting", "order", "player"]) (c_in_piece : Cal P w K mg base 1 "in_piece" (sp_in_piece A) []) : Cal P w K mg base 2 "stay" (sp_stay A) [] := by
  have nd := sc_stay.nd
  refine def_ok F sc_stay (fun vs H Q E h => ?_) (fun f cdv Ar outer s H vs Q E hr h => ⟨_, (pss_cons (ps_set (i := 4) nd rfl (Or.inl rfl) pe_int)
      (pss_cons (ps_set (i := 5) nd rfl (Or.inl rfl) pe_int)
      (pss_cons (ps_set (i := 6) nd rfl (Or.inl rfl) (pe_lst pa_nil))
      (pss_cons (ps_for PassesOwn.never rfl (pi_list (pv 2)) (pg_name (i := 7) nd rfl (Or.inl rfl)) (pss_cons (ps_set (i := 8) nd rfl (Or.inl rfl) (pv 4)) (pss_cons (ps_set (i := 4) nd rfl (Or.inl rfl) (pe_op op_add (pv 4) (pe_ix ix_tup (pe_ix ix_list (pe_fld (pv 0) rfl) (pv 7) (fun _ _ => rfl)) pe_int (fun _ _ => rfl)))) (pss_one (ps_if (pt_val (C8.pe_c c_in_piece hr (by decide) (by rfl) (pa_cons (pv 0) (pa_cons (pv 1) (pa_cons (pv 7) (pa_cons (pv 3) pa_nil)))))) (pss_cons (ps_set (i := 5) nd rfl (Or.inl rfl) (pe_op op_add (pv 5) (pe_ix ix_tup (pe_ix ix_list (pe_fld (pv 0) rfl) (pv 7) (fun _ _ => rfl)) pe_int (fun _ _ => rfl)))) (pss_cons (ps_if (pt_cmpR op_eq (pe_callB call_len_seq (by rfl) T.len PySem.boot_len (pa_cons (pv 6) pa_nil)) pe_int (nomark _)) (pss_one (ps_set (i := 6) nd rfl (Or.inl rfl) (pe_lst (pa_cons (pv 8) (pa_cons (pv 4) pa_nil))))) pss_nil) (pss_one (ps_asg (pv 4) (pg_sub (pv 6) pe_int set_list))))) pss_nil)))))
      (pss_cons (ps_if (pt_cmpR op_eq (pe_callB call_len_seq (by rfl) T.len PySem.boot_len (pa_cons (pv 6) pa_nil)) pe_int (nomark _)) (pss_one (ps_ret (pe_lst pa_nil))) pss_nil)
      (pss_one (ps_ret (pe_lst (pa_cons (pe_ix ix_list (pv 6) pe_int (fun _ _ => rfl)) (pa_cons (pe_ix ix_list (pv 6) pe_int (fun _ _ => rfl)) (pa_cons (pe_op op_sub (pe_op op_sub (pe_ix ix_list (pv 6) pe_int (fun _ _ => rfl)) (pe_ix ix_list (pv 6) pe_int (fun _ _ => rfl))) (pv 5)) pa_nil))))))))))), ?_⟩)
  · obtain ⟨z, ⟨a, m, c, o, cp, op, y, rfl, _⟩, _⟩ := h
    rfl
  · obtain ⟨xs, ⟨a, m, c, o, cp, op, y, rfl, hp, hc, ho, hk, hr', rfl⟩, q⟩ := h
    obtain ⟨p, dx, s1, s2, s3, s4, pl⟩ := hp
    refine q_asg (ev_c0 0) fun H1 e1 => q_asg (ev_c0 0) fun H2 e2 => q_asgL el_nil fun fp H3 hfp e3 h3 => ?_
    have e123 := (e1.trans e2).trans e3
    refine q_forLn (ev_var rfl) (sq_of (e123 _ _ ho)) (fun k σ' H' => ∃ fp x b, σ' = [some (.ref a), some (.ref cp), some (.ref op), some (nV y), some (nV (stF m.lng (m.inP c y) (o.take k)).1), some (nV (stF m.lng (m.inP c y) (o.take k)).2.1), some (.ref fp), x, b] ∧ Ex H H' ∧ H fp = none ∧ H' fp = some (.lst (iv (fl2 (stF m.lng (m.inP c y) (o.take k)).2.2))))
      (fun H4 e4 => ⟨fp, _, _, rfl, e123.trans e4, fresh_back (e1.trans e2) hfp, e4 _ _ h3⟩) (fun k σ' H' _ ⟨_, _, _, _, e, _⟩ => sq_of (e _ _ ho)) ?_ ?_
    · rintro k x σ' H4 hkx ⟨fp4, x4, b4, rfl, e4, hf4, h4⟩
      obtain ⟨kl, rfl⟩ := iv_get hkx
      have hmem := getD_mem kl
      have hgk : o[k]? = some (o.getD k 0) := by rw [List.getD_eq_getElem?_getD, List.getElem?_eq_getElem kl]; rfl
      rw [take_more hgk, stF_snoc]
      generalize hpc : o.getD k 0 = pc at *
      generalize hst : stF m.lng (m.inP c y) (o.take k) = st at *
      have hpl := hk _ hmem
      have hpe := List.getElem?_eq_getElem hpl
      have pl4 := pl.mono e4
      obtain ⟨v, hv, t, r, rfl, ht, hrr⟩ := pl4.pcs.2 _ _ hpe
      have lpc := lng_at hpe
      have lngV : ∀ {σ : L2.St} {tx ty : TE} {H5 : Hp}, Ex H4 H5 → Ev tx σ H5 (.ref a) → Ev ty σ H5 (nV pc) → Ev (tOp (rIxT K) (tOp (rIxL K) (tFld K tx "pieces") ty) (tC (.int 0))) σ H5 (nV (m.lng pc)) := fun {σ tx ty H5} e5 h1 h2 => by
        rw [lpc]
        exact ev_ixT (j := 0) (ev_ixL (ev_fld T.clP T.pp h1 (pl4.mono e5).ob (pF_p p)) h2 (pl4.mono e5).pc hv) (ev_c0 0) (e5 _ _ ht) rfl
      refine q_asg (ev_var rfl) fun H5 e5 => q_asg (ev_add (ev_var rfl) (lngV e5 (ev_var rfl) (ev_var rfl))) fun H6 e6 => ?_
      have e56 := e5.trans e6
      have pl6 := pl4.mono e56
      refine s_when (et_B (ev_c1 (ea_4 (ev_var rfl) (ev_var rfl) (ev_var rfl) (ev_var rfl)) (spV_of fun H7 e7 => ⟨a, m, c, cp, pc, y, rfl, ⟨p, dx, s1, s2, s3, s4, pl6.mono e7⟩, e7 _ _ (e56 _ _ (e4 _ _ hc)), hpl, hr', rfl⟩))) ?_ ?_
      · intro hb H7 e7
        have e567 := e56.trans e7
        refine q_asg (ev_add (ev_var rfl) (lngV e567 (ev_var rfl) (ev_var rfl))) fun H8 e8 => ?_
        have e58 := e567.trans e8
        have es : stp m.lng (m.inP c y) st pc = (st.1 + m.lng pc, st.2.1 + m.lng pc, some ((st.2.2.map fun x => x.1).getD st.1, st.1 + m.lng pc)) := if_pos hb
        rw [es]
        have h8 := e58 _ _ h4
        cases hz : st.2.2 with
        | none =>
          rw [hz] at h8
          refine q_when (b := true) (et_is (et_test (ev_eqI (ev_lenL (ev_var rfl) h8 rfl) (ev_c0 0))) rfl) (fun _ H9 e9 => ?_) (fun hb => by cases hb)
          refine s_asgL (el_lst (ea_2 (ev_var rfl) (ev_var rfl)) (by show 2 ≤ 100000; decide)) fun f2 H10 hf2 e10 h10 => ?_
          refine s_setL (j := 1) h10 (ev_var rfl) (ev_var rfl) (ev_c0 1) (by show 1 < 2; decide) fun H11 e11 => ?_
          have nf : H f2 = none := fresh_back ((e4.trans e58).trans e9) hf2
          refine ⟨f2, _, _, rfl, ((((e4.trans e58).trans e9).trans e10).trans e11).mut nf, nf, upd_same⟩
        | some z =>
          rw [hz] at h8
          refine q_when (b := false) (et_is (et_test (ev_eqI (ev_lenL (ev_var rfl) h8 rfl) (ev_c0 0))) rfl) (fun hb => by cases hb) (fun _ H9 e9 => ?_)
          refine s_setL (j := 1) (e9 _ _ h8) (ev_var rfl) (ev_var rfl) (ev_c0 1) (by show 1 < 2; decide) fun H11 e11 => ?_
          exact ⟨fp4, _, _, rfl, (((e4.trans e58).trans e9).trans e11).mut hf4, hf4, upd_same⟩
      · intro hb H7 e7
        have es : stp m.lng (m.inP c y) st pc = (st.1 + m.lng pc, st.2.1, st.2.2) := if_neg (by rw [hb]; decide)
        rw [es]
        exact ⟨fp4, _, _, rfl, (e4.trans e56).trans e7, hf4, e7 _ _ (e56 _ _ h4)⟩
    · rintro σ' H4 ⟨fp4, x4, b4, rfl, e4, hf4, h4⟩
      rw [List.length_map, List.take_length] at h4 ⊢
      have hq := (stF_eq m.lng (m.inP c y) o.length o rfl).2.1
      have hs := (stF_eq m.lng (m.inP c y) o.length o rfl).1
      have q : RetL (iv (stL (stF m.lng (m.inP c y) o))) H Q := q
      rw [hs] at h4 q ⊢
      cases hz : sty m.lng (m.inP c y) o with
      | none =>
        rw [hz] at h4 q
        refine q_when (b := true) (et_is (et_test (ev_eqI (ev_lenL (ev_var rfl) h4 rfl) (ev_c0 0))) rfl) (fun _ H5 e5 => ?_) (fun hb => by cases hb)
        exact s_retL el_nil fun r H6 hr6 e6 h6 => q r H6 (fresh_back (e4.trans e5) hr6) ((e4.trans e5).trans e6) h6
      | some z =>
        rw [hz] at h4 q
        obtain ⟨z1, z2, z3⟩ := hq z hz
        refine q_when (b := false) (et_is (et_test (ev_eqI (ev_lenL (ev_var rfl) h4 rfl) (ev_c0 0))) rfl) (fun hb => by cases hb) (fun _ H5 e5 => ?_)
        have h5 := e5 _ _ h4
        have i0 : ∀ {σ : L2.St} {tx : TE}, Ev tx σ H5 (.ref fp4) → Ev (tOp (rIxL K) tx (tC (.int 0))) σ H5 (nV z.1) := fun h => ev_ixL (j := 0) h (ev_c0 0) h5 rfl
        have i1 : ∀ {σ : L2.St} {tx : TE}, Ev tx σ H5 (.ref fp4) → Ev (tOp (rIxL K) tx (tC (.int 1))) σ H5 (nV z.2) := fun h => ev_ixL (j := 1) h (ev_c0 1) h5 rfl
        refine s_retL (el_lst (ea_3 (i0 (ev_var rfl)) (i1 (ev_var rfl)) (ev_sub (ev_sub (i1 (ev_var rfl)) (i0 (ev_var rfl)) z1) (ev_var rfl) z2)) (by show 3 ≤ 100000; decide)) fun r H6 hr6 e6 h6 => q r H6 (fresh_back (e4.trans e5) hr6) ((e4.trans e5).trans e6) h6
/-! ### stays -/
def sp_stays (A : Ad) : Sp := relSp isL fun vs H ls => ∃ a m c o cp op, vs = [.ref a, .ref cp, .ref op] ∧ PlayR A H a m ∧ H cp = some (.lst (iv c)) ∧ H op = some (.lst (iv o)) ∧ (∀ k ∈ o, k < m.pieces.length) ∧ (∀ x ∈ m.pieces, x.2.length ≤ 20 ∧ ∀ r ∈ x.2, r < c.length) ∧ m.players.length ≤ 4 ∧ ls = m.stays c o
theorem cal_stays (T : Txt K mg A) (F : HasDef K mg "stays" s_stays ["play", "casting", "order"]) (c_stay : Cal P w K mg base 2 "stay" (sp_stay A) []) : Cal P w K mg base 3 "stays" (sp_stays A) [] := by
  have nd := sc_stays.nd
  refine def_ok F sc_stays (fun vs H Q E h => ?_) (fun f cdv Ar outer s H vs Q E hr h => ⟨_, (pss_one (ps_ret (pe_lc (own := [("player", 3)]) (g := (gName 3)) (tt := tYes) (te := (tCall (sp_stay A) [] C8.E0 (tCons (tVar 0) (tCons (tVar 1) (tCons (tVar 2) (tCons (tVar 3) tNil)))))) rfl nd (pi_range1 (by rfl) T.range (pa_cons (pe_callB call_len_seq (by rfl) T.len PySem.boot_len (pa_cons (pe_fld (pv 0) rfl) pa_nil)) pa_nil)) (blkOk_by (own := [("player", 3)]) (N := N_stays) (sc := C8.fnScope s_stays) (by decide +kernel)) (fun _ _ _ _ _ => (pg_name (i := 3) nd rfl (Or.inl rfl))) (fun _ _ _ _ _ => pts_nil) (fun _ _ _ _ _ => (C8.pe_c c_stay hr (by decide) (by rfl) (pa_cons (pv 0) (pa_cons (pv 1) (pa_cons (pv 2) (pa_cons (pv 3) pa_nil))))))))), ?_⟩)
  · obtain ⟨z, ⟨a, m, c, o, cp, op, rfl, _⟩, _⟩ := h
    rfl
  · obtain ⟨ls, ⟨a, m, c, o, cp, op, rfl, hp, hc, ho, hk, hr', h4, rfl⟩, q⟩ := h
    obtain ⟨p, dx, s1, s2, s3, s4, pl⟩ := hp
    refine er_lcR (H := H) (fun _ => true) (m.stay c o) (ea_1 (ev_lenL (ev_fld T.clP T.pl (ev_var rfl) pl.ob (pF_l p)) pl.pl pl.pls.1)) (by omega) (fun _ => rfl) (fun _ _ _ _ => et_yes)
      (fun i H1 e hi _ => el_c1 (ea_4 (ev_var rfl) (ev_var rfl) (ev_var rfl) (ev_var rfl)) (spL_of fun H2 e2 => ⟨a, m, c, o, cp, op, i, rfl, ⟨p, dx, s1, s2, s3, s4, pl.mono (e.trans e2)⟩, e2 _ _ (e _ _ hc), e2 _ _ (e _ _ ho), hk, hr', rfl⟩)) H (Ex.refl H) Q ?_
    rw [List.filter_eq_self.mpr (fun _ _ => rfl)]
    exact q
end Rc
set_option Elab.async false
set_option linter.all false
set_option maxRecDepth 100000
set_option maxHeartbeats 4000000
/-! # The defs: wrong_order, order_cost, castings, orders -/
namespace Rc
open PySem PySem.Spec PyProof.Rows L2 Evl
open C8 (Cal Met Mak)
section
variable {K : PySem.W.Frag} {σ : L2.St} {H H' : Hp} {ta tb te : TE} {D : Ends} {tz : TS}
theorem ev_mul {i j : Nat} (ha : Ev ta σ H (nV i)) (hb : Ev tb σ H (nV j)) (h : i ≤ 1000) : Ev (tOp (rI CMul fun i j => .int (i * j)) ta tb) σ H (nV (i * j)) := ev_is (ev_op ha hb (rv_I (.inl ⟨by omega, by omega⟩))) (by show V.int _ = V.int _; congr 1)
theorem findSome_range {β : Type} {f : Nat → Option β} {v : β} : ∀ {n k : Nat}, (∀ j, j < k → f j = none) → f k = some v → k < n → (List.range n).findSome? f = some v
  | 0, k, _, _, h => absurd h (Nat.not_lt_zero _)
  | n + 1, k, h, hv, hk => by
    rw [List.range_succ, List.findSome?_append]
    by_cases c : k < n
    · rw [findSome_range h hv c]
      rfl
    · have e : k = n := by omega
      subst e
      have z : (List.range k).findSome? f = none := List.findSome?_eq_none_iff.mpr fun x hx => h x (List.mem_range.mp hx)
      rw [z]
      show (List.findSome? f [k]) = _
      rw [List.findSome?_cons, hv]
theorem el_cat {p : Addr} {xs ys : List V} (ha : Ev ta σ H (.ref p)) (hp : H p = some (.lst xs)) (hb : EvL tb σ H ys) (hl : xs.length + ys.length ≤ 100000) : EvL (tOp rCat ta tb) σ H (xs ++ ys) := fun H1 e Q q =>
  ha H1 e _ fun H2 e2 => hb H2 (e.trans e2) _ fun r H3 hr e3 h3 => ⟨p, r, xs, ys, rfl, rfl, e3 _ _ (e2 _ _ (e _ _ hp)), h3, sz_of hl, fun s hs => q s _ (fresh_back (e2.trans e3) hs) ((e2.trans e3).trans (Ex.new hs)) upd_same⟩
/-- a list of numbers that is new against H0 -/
def isN (H0 H : Hp) (v : V) (l : List Nat) : Prop := ∃ p, v = .ref p ∧ H p = some (.lst (iv l)) ∧ H0 p = none
def EvN (te : TE) (σ : L2.St) (H : Hp) (ls : List (List Nat)) : Prop := ∀ H1, Ex H H1 → ∀ Q : VK, (∀ p H2 xs, H1 p = none → Ex H1 H2 → H2 p = some (.lst xs) → Ats (isN H1 H2) xs ls → Q (.ref p) H2) → te σ H1 Q
theorem en_lcR {ta : TA} {t : TT} {j n : Nat} {vs : List Nat} (f : Nat → Bool) (g : Nat → List Nat) (h : EvA ta σ H [nV n]) (hn : n ≤ 40000) (hw : ∀ x, wipe ((wipe σ vs).set j (some x)) vs = wipe σ vs)
    (ht : ∀ (i : Nat) H1, Ex H H1 → i < n → EvT t ((wipe σ vs).set j (some (nV i))) H1 (f i)) (he : ∀ (i : Nat) H1, Ex H H1 → i < n → f i = true → EvL te ((wipe σ vs).set j (some (nV i))) H1 (iv (g i))) :
    EvN (tLc (iRng1 ta) (gName j) t te vs) σ H (((List.range n).filter f).map g) := fun H0 e Q q => h H0 e _ fun H1 e1 => ⟨(n : Int), rfl, by omega, by omega, fun Dl hD =>
  lc_it (n := n) walk_range (fun i H' => H1 Dl = none ∧ Ex H1 H' ∧ ∃ acc, H' Dl = some (.lst acc) ∧ acc.length ≤ i ∧ Ats (isN H1 (cut Dl H')) acc (((List.range i).filter f).map g)) ⟨hD, Ex.new hD, [], upd_same, Nat.le_refl _, Ats.nil⟩ (fun _ _ _ _ => trivial) (fun i x H' H'' hi p y => by
    obtain ⟨eh, ex⟩ := y
    subst eh
    have ex2 : x = nV i := ex.trans (congrArg V.int (Int.zero_add _))
    clear ex
    subst ex2
    obtain ⟨p1, p2, acc, p3, p4, p5⟩ := p
    refine ⟨hw _, ht i H1 (e.trans e1) hi _ p2 _ fun H3 e3 => ?_⟩
    rw [List.range_succ, List.filter_append, List.map_append, List.filter_cons]
    cases hf : f i with
    | true =>
      show te _ H3 _
      refine he i H1 (e.trans e1) hi hf H3 (p2.trans e3) _ fun r H4 hr e4 h4 => ⟨acc, e4 _ _ (e3 _ _ p3), sz_lt (by omega), p1, Ex.mut ((p2.trans e3).trans e4) p1, _, upd_same, by rw [List.length_append, List.length_singleton]; omega, ?_⟩
      have nr : r ≠ Dl := (ne_of_none (e3 _ _ p3) hr).symm
      rw [cut_upd]
      exact (p5.mono fun _ _ ⟨s, z1, z2, z3⟩ => ⟨s, z1, cut_mono (e3.trans e4) _ _ z2, z3⟩).append (Ats.one ⟨r, rfl, cut_at h4 nr, fresh_back (p2.trans e3) hr⟩)
    | false =>
      refine ⟨p1, p2.trans e3, acc, e3 _ _ p3, by omega, ?_⟩
      show Ats _ acc (_ ++ ([] : List Nat).map g)
      rw [List.map_nil, List.append_nil]
      exact p5.mono fun _ _ ⟨s, z1, z2, z3⟩ => ⟨s, z1, cut_mono e3 _ _ z2, z3⟩) (fun H' p => by
    obtain ⟨p1, p2, acc, p3, p4, p5⟩ := p
    exact q Dl H' acc (fresh_back e1 p1) (e1.trans p2) p3 (p5.mono fun _ _ ⟨s, z1, z2, z3⟩ => ⟨s, z1, cut_ex _ _ z2, fresh_back e1 z3⟩))⟩
/-- xs.extend(new lists) -/
theorem s_extN {l : Addr} {xs : List V} {ls : List (List Nat)} (hl : H l = some (.lst xs)) (ha : Ev ta σ H (.ref l)) (h : EvN te σ H ls) (hz : xs.length + ls.length ≤ 100000) (k : ∀ H1 ys, Ex H H1 → Ats (isL (cut l H1)) ys ls → D.nx σ (upd H1 l (.lst (xs ++ ys)))) :
    tDrop (tBM K "list" rExtend ta (tCons te tNil)) D σ H := ha H (Ex.refl H) _ fun H1 e1 =>
  ⟨Or.inl ⟨rfl, xs, sq_of (e1 l _ hl)⟩, h H1 e1 _ fun p H2 ys hp e2 h2 hat => ⟨l, p, xs, ys, rfl, rfl, e2 l _ (e1 l _ hl), h2, sz_of (by rw [hat.1]; exact hz), k H2 ys (e1.trans e2) (hat.mono fun _ _ ⟨s, z1, z2, z3⟩ => ⟨s, z1, cut_at z2 (ne_of_none (e1 l _ hl) z3).symm⟩)⟩⟩
/-- [[]] -/
theorem er_sing {l : List Nat} (h : EvL te σ H (iv l)) : EvR isL (tLst (tCons te tNil)) σ H [l] := fun H1 e Q q =>
  h H1 e _ fun p H2 hp e2 h2 => ⟨by show 1 ≤ sizeLine; decide, fun r hr => q r _ [.ref p] (fresh_back e2 hr) (e2.trans (Ex.new hr)) upd_same (Ats.one ⟨p, rfl, (Ex.new hr) _ _ h2⟩)⟩
theorem set6 {a b c d e f x : Option V} : ([a, b, c, d, e, f] : L2.St).set 1 x = [a, x, c, d, e, f] := rfl
/-- all lists, grown by one place a turn -/
theorem grow {ta : TA} {comp : TE} {n : Nat} {L : Nat → List (List Nat)} {v0 : V} {Q : VK} {nx : L2.St → Hp → Prop} (G : List Nat → List (List Nat)) (hL0 : L 0 = [[]]) (hL : ∀ k, L (k + 1) = (L k).flatMap G) (hb : ∀ k, k < n → (L k).length ≤ 5000) (hG : ∀ b, (G b).length ≤ 10) (hn : n ≤ 100)
    (ha : ∀ fp H1, Ex H H1 → EvA ta [some v0, some (.ref fp), none, none, none, none] H1 [nV n])
    (hc : ∀ fp k lp bp b x H1, Ex H H1 → b.length ≤ 100 → H1 bp = some (.lst (iv b)) → EvN comp [some v0, some (.ref fp), some (nV k), some (.ref lp), some (.ref bp), x] H1 (G b)) (hlen : ∀ k, k < n → ∀ b ∈ L k, b.length ≤ 100) (q : RetR isL (L n) H Q) :
    tSeq (tAsg (tLst (tCons (tLst tNil) tNil)) (gName 1)) (tSeq (tFor (iRng1 ta) (gName 2) (tSeq (tAsg (tLst tNil) (gName 3)) (tSeq (tFor (iList K (tVar 1)) (gName 4) (tDrop (tBM K "list" rExtend (tVar 3) (tCons comp tNil)))) (tAsg (tVar 3) (gName 1))))) (tRet (tVar 1)))
      { nx := nx, rt := Q } [some v0, none, none, none, none, none] H := by
  refine q_asgR (er_sing (l := []) el_nil) fun fp0 H1 xs0 hf0 e1 h1 hat1 => ?_
  refine q_forM (n := n) (ha fp0 H1 e1) (by omega) (fun k σ' H' => ∃ fp xs x2 x3 x4 x5, σ' = [some v0, some (.ref fp), x2, x3, x4, x5] ∧ Ex H H' ∧ H fp = none ∧ H' fp = some (.lst xs) ∧ Ats (isL H') xs (L k))
    (fun H2 e2 => ⟨fp0, xs0, _, _, _, _, rfl, e1.trans e2, hf0, e2 _ _ h1, by rw [hL0]; exact hat1.mono fun _ _ z => z.mono e2⟩) ?_ ?_
  · rintro k σ' H2 hk ⟨fp, xs, x2, x3, x4, x5, rfl, e2, hf, h2, hat⟩
    refine q_asgL el_nil fun lp H3 hlp e3 h3 => ?_
    have hfl : Ex H2 H3 := e3
    refine q_forLn (ev_var rfl) (sq_of (e3 _ _ h2)) (fun i σ' H' => ∃ bf ys, σ' = [some v0, some (.ref fp), some (nV k), some (.ref lp), bf, x5] ∧ Ex H2 H' ∧ H' lp = some (.lst ys) ∧ ys.length ≤ 10 * i ∧ Ats (isL (cut lp H')) ys (((L k).take i).flatMap G))
      (fun H4 e4 => ⟨_, [], rfl, e3.trans e4, e4 _ _ h3, Nat.le_refl _, Ats.nil⟩) (fun i σ' H' _ ⟨_, _, _, e, _⟩ => sq_of (e _ _ h2)) ?_ ?_
    · rintro i x σ' H4 hi ⟨bf, ys, rfl, e4, h4, hy, hats⟩
      obtain ⟨b, hbb, bp, rfl, hbp⟩ := hat.get hi
      have il := nat_get hi
      rw [hat.1] at il
      have := hb k hk
      have hlb := hlen k hk b (List.mem_of_getElem? hbb)
      refine s_extN h4 (ev_var rfl) (hc fp k lp bp b _ H4 (e2.trans e4) hlb (e4 _ _ hbp)) (by have := hG b; omega) fun H5 zs e5 hz => ?_
      refine ⟨_, _, rfl, (e4.trans e5).mut hlp, upd_same, by rw [List.length_append, hz.1]; have := hG b; omega, ?_⟩
      rw [cut_upd, take_more hbb, List.flatMap_append, List.flatMap_singleton]
      exact (hats.mono fun _ _ z => z.mono (cut_mono e5)).append hz
    · rintro σ' H4 ⟨bf, ys, rfl, e4, h4, hy, hats⟩
      refine s_asg (ev_var rfl) fun H5 e5 => ⟨lp, ys, _, _, _, _, rfl, (e2.trans e4).trans e5, fresh_back e2 hlp, e5 _ _ h4, ?_⟩
      rw [hat.1, List.take_length] at hats
      rw [hL]
      exact hats.mono fun _ _ z => (z.mono cut_ex).mono e5
  · rintro σ' H2 ⟨fp, xs, x2, x3, x4, x5, rfl, e2, hf, h2, hat⟩
    exact s_ret (ev_var rfl) fun H3 e3 => q fp H3 xs hf (e2.trans e3) (e3 _ _ h2) (hat.mono fun _ _ z => z.mono e3)
end
variable {P : Program} {w : World} {K : PySem.W.Frag} {mg : Str → Option Value} {base : Heap} {A : Ad}
/-! ### what a stay looks like -/
def Row (l : List Nat) : Prop := l = [] ∨ ∃ x y z, l = [x, y, z] ∧ x ≤ y
theorem stay_row (m : Pm) (c o : List Nat) (a : Nat) : Row (m.stay c o a) := by
  unfold Pm.stay
  rw [stL_eq]
  cases e : sty m.lng (m.inP c a) o with
  | none => exact .inl rfl
  | some z => exact .inr ⟨z.1, z.2, _, rfl, ((stF_eq m.lng (m.inP c a) o.length o rfl).2.1 z e).1⟩
theorem stays_row {m : Pm} {c o : List Nat} : ∀ l ∈ m.stays c o, Row l := fun l h => by
  obtain ⟨a, _, rfl⟩ := List.mem_map.mp h
  exact stay_row m c o a
/-! ### wrong_order -/
theorem getD_of {α : Type} {l : List α} {k : Nat} {x d : α} (h : l[k]? = some x) : l.getD k d = x := by
  rw [List.getD_eq_getElem?_getD, h]
  rfl
theorem bad_nil {m : Pm} {th : List (List Nat)} {k : Nat} (hl : th[k]? = some []) : m.bad th k = none := by
  unfold Pm.bad
  rw [getD_of hl]
  cases m.players[k]? <;> rfl
theorem bad_cons {m : Pm} {th : List (List Nat)} {k x z : Nat} {y : Pl} {r : List Nat} (hpe : m.players[k]? = some y) (hl : th[k]? = some (x :: z :: r)) : m.bad th k = if x < y.since then some (2, k) else if y.till < z then some (3, k) else none := by
  unfold Pm.bad
  rw [hpe, getD_of hl]
theorem oc_nil {m : Pm} {th : List (List Nat)} {k : Nat} (hl : th[k]? = some []) : m.oc1 th k = 0 := by
  unfold Pm.oc1
  rw [getD_of hl]
theorem oc_cons {m : Pm} {th : List (List Nat)} {k x z : Nat} {r : List Nat} (hl : th[k]? = some (x :: z :: r)) : m.oc1 th k = m.rateAt k * (z - x) := by
  unfold Pm.oc1
  rw [getD_of hl]
def sp_wrong_order (A : Ad) : Sp := lstSp fun vs H xs => ∃ a m o th op tp ts, vs = [.ref a, .ref op, .ref tp] ∧ PlayR A H a m ∧ H op = some (.lst (iv o)) ∧ H tp = some (.lst ts) ∧ Ats (isL H) ts th ∧ (∀ x ∈ m.pairs, x.1 ∈ o ∧ x.2 ∈ o) ∧ th.length = m.players.length ∧ (∀ l ∈ th, Row l) ∧ xs = iv (list2 (m.wrongO o th))
theorem cal_wrong_order (T : Txt K mg A) (F : HasDef K mg "wrong_order" s_wrong_order ["play", "order", "there"]) : Cal P w K mg base 1 "wrong_order" (sp_wrong_order A) [] := by
  have nd := sc_wrong_order.nd
  refine def_ok F sc_wrong_order (fun vs H Q E h => ?_) (fun f cdv Ar outer s H vs Q E hr h => ⟨_, (pss_cons (ps_for PassesOwn.never rfl (pi_enum (by rfl) T.enumerate (pa_cons (pe_fld (pv 0) rfl) pa_nil)) (pg_tup rfl (pgs_cons (pg_name (i := 3) nd rfl (Or.inl rfl)) (pgs_cons (pg_name (i := 4) nd rfl (Or.inl rfl)) pgs_nil))) (pss_one (ps_if (pt_cmpR op_gt (pe_bm PySem.F.plainAttrs_list PySem.F.slot_list_index PySem.F.type_list_index mt_index (pv 1) (pa_cons (pe_ix ix_tup (pv 4) pe_int (fun _ _ => rfl)) pa_nil)) (pe_bm PySem.F.plainAttrs_list PySem.F.slot_list_index PySem.F.type_list_index mt_index (pv 1) (pa_cons (pe_ix ix_tup (pv 4) pe_int (fun _ _ => rfl)) pa_nil)) (nomark _)) (pss_one (ps_ret (pe_lst (pa_cons pe_int (pa_cons (pv 3) pa_nil))))) pss_nil)))
      (pss_cons (ps_for PassesOwn.never rfl (pi_enum (by rfl) T.enumerate (pa_cons (pv 2) pa_nil)) (pg_tup rfl (pgs_cons (pg_name (i := 5) nd rfl (Or.inl rfl)) (pgs_cons (pg_name (i := 6) nd rfl (Or.inl rfl)) pgs_nil))) (pss_cons (ps_if (PW.pt (pw_and (pt_cmpR op_gt (pe_callB call_len_seq (by rfl) T.len PySem.boot_len (pa_cons (pv 6) pa_nil)) pe_int (nomark _)) (pw_and1 (pt_cmpR op_lt (pe_ix ix_list (pv 6) pe_int (fun _ _ => rfl)) (pe_fld (pe_ix ix_list (pe_fld (pv 0) rfl) (pv 5) (fun _ _ => rfl)) rfl) (nomark _))))) (pss_one (ps_ret (pe_lst (pa_cons pe_int (pa_cons (pv 5) pa_nil))))) pss_nil) (pss_one (ps_if (PW.pt (pw_and (pt_cmpR op_gt (pe_callB call_len_seq (by rfl) T.len PySem.boot_len (pa_cons (pv 6) pa_nil)) pe_int (nomark _)) (pw_and1 (pt_cmpR op_gt (pe_ix ix_list (pv 6) pe_int (fun _ _ => rfl)) (pe_fld (pe_ix ix_list (pe_fld (pv 0) rfl) (pv 5) (fun _ _ => rfl)) rfl) (nomark _))))) (pss_one (ps_ret (pe_lst (pa_cons pe_int (pa_cons (pv 5) pa_nil))))) pss_nil))))
      (pss_one (ps_ret (pe_lst pa_nil))))), ?_⟩)
  · obtain ⟨z, ⟨a, m, o, th, op, tp, ts, rfl, _⟩, _⟩ := h
    rfl
  · obtain ⟨xs, ⟨a, m, o, th, op, tp, ts, rfl, hp, ho, ht, hat, hpr, hln, hrow, rfl⟩, q⟩ := h
    obtain ⟨p, dx, s1, s2, s3, s4, pl⟩ := hp
    refine q_forE (ea_1 (ev_fld T.clP T.pr (ev_var rfl) pl.ob (pF_r p))) pl.pr (fun k σ' H' => ∃ x y o1 o2, σ' = [some (.ref a), some (.ref op), some (.ref tp), x, y, o1, o2] ∧ Ex H H' ∧ ∀ j, j < k → ∀ z, m.pairs[j]? = some z → behind o z = false) (fun H1 e => ⟨_, _, _, _, rfl, e, fun k' hk => absurd hk (Nat.not_lt_zero _)⟩) (fun k σ' H' _ ⟨_, _, _, _, _, e, _⟩ => e _ _ pl.pr) ?_ ?_
    · rintro k x σ' H' H2 hk ⟨x0, y0, o1, o2, rfl, e, hno⟩ e2
      obtain ⟨z, hz, t, rfl, htt⟩ := pl.prs.get hk
      have e3 := e.trans e2
      obtain ⟨z1, z2⟩ := hpr z (List.mem_of_getElem? hz)
      have ix : ∀ {x : Nat} {tb : TE}, x ∈ o → Ev tb [some (.ref a), some (.ref op), some (.ref tp), some (nV k), some (.ref t), o1, o2] H2 (nV x) → Ev (tBM K "list" (rIndex K) (tVar 1) (tCons tb tNil)) [some (.ref a), some (.ref op), some (.ref tp), some (nV k), some (.ref t), o1, o2] H2 (nV (o.idxOf x)) := fun hx hb => ev_index (ev_var rfl) hb (e3 _ _ ho) hx
      refine s_when (b := behind o z) (et_test (ev_gt (ix z1 (ev_ixT (j := 0) (ev_var rfl) (ev_c0 0) (e3 _ _ htt) rfl)) (ix z2 (ev_ixT (j := 1) (ev_var rfl) (ev_c0 1) (e3 _ _ htt) rfl)))) ?_ ?_
      · intro hb H3 e4
        refine s_retL (el_lst (ea_2 (ev_c0 1) (ev_var rfl)) (by show 2 ≤ 100000; decide)) fun r H4 hr4 e5 h4 => ?_
        have ee : m.wrongO o th = some (1, k) := by
          unfold Pm.wrongO
          have : m.pairs.findIdx? (behind o) = some k := List.findIdx?_eq_some_iff_getElem.mpr (by
            obtain ⟨kl, ke⟩ := List.getElem?_eq_some_iff.mp hz
            exact ⟨kl, by rw [ke]; exact hb, fun j hj => by rw [hno j hj _ (List.getElem?_eq_getElem (by omega))]; decide⟩)
          rw [this]
        refine q r H4 (fresh_back (e3.trans e4) hr4) ((e3.trans e4).trans e5) ?_
        rw [ee]
        exact h4
      · intro hb H3 e4
        refine ⟨_, _, _, _, rfl, e3.trans e4, lt_snoc hno fun y hy => ?_⟩
        rw [hz] at hy
        have hy := (Option.some.inj hy).symm
        subst hy
        exact hb
    · rintro σ' H1 ⟨x0, y0, o1, o2, rfl, e, hno⟩
      have ef : m.pairs.findIdx? (behind o) = none := List.findIdx?_eq_none_iff.mpr fun x hx => by
        obtain ⟨j, hj⟩ := List.mem_iff_getElem?.mp hx
        exact hno j (by rw [pl.prs.1]; exact nat_get hj) x hj
      refine q_forE (ea_1 (ev_var rfl)) (e _ _ ht) (fun k σ' H' => ∃ x y o1 o2, σ' = [some (.ref a), some (.ref op), some (.ref tp), x, y, o1, o2] ∧ Ex H H' ∧ ∀ j, j < k → m.bad th j = none) (fun H2 e2 => ⟨_, _, _, _, rfl, e.trans e2, fun k' hk => absurd hk (Nat.not_lt_zero _)⟩) (fun k σ' H' _ ⟨_, _, _, _, _, e, _⟩ => e _ _ ht) ?_ ?_
      · rintro k x σ' H' H2 hk ⟨x1, y1, o3, o4, rfl, e1, hno2⟩ e2
        obtain ⟨l, hl, r, rfl, hrl⟩ := hat.get hk
        have e3 := e1.trans e2
        have kl := nat_get hl
        have hpl : k < m.players.length := by rw [← hln]; exact kl
        have hpe := List.getElem?_eq_getElem hpl
        generalize (m.players[k]'hpl) = y at hpe
        have pl3 := pl.mono e3
        obtain ⟨v, hv, ya, yd, yr, rfl, hy, hf⟩ := pl3.pls.2 _ _ hpe
        have hrl3 := e3 _ _ hrl
        have give : ∀ (n : Nat) {H3 : Hp} {σ : L2.St} {tk : TE}, m.bad th k = some (n, k) → Ex H3 H3 → Ex H H3 → Ev tk σ H3 (nV k) → ∀ {nx bk ct : L2.St → Hp → Prop}, tRet (tLst (tCons (tC (.int (n : Int))) (tCons tk tNil))) { nx := nx, rt := Q, bk := bk, ct := ct } σ H3 := fun n {H3 σ tk} hb _ e4 hk {nx bk ct} =>
          s_retL (el_lst (ea_2 (ev_c0 n) hk) (by show 2 ≤ 100000; decide)) fun r H4 hr4 e5 h4 => by
            have ee : m.wrongO o th = some (n, k) := by
              unfold Pm.wrongO
              rw [ef]
              exact findSome_range hno2 hb kl
            refine q r H4 (fresh_back e4 hr4) (e4.trans e5) ?_
            rw [ee]
            exact h4
        rcases hrow l (List.mem_of_getElem? hl) with rfl | ⟨x2, y2, z2, rfl, _⟩
        · have t0 : ∀ {t : TT} {H3 : Hp} {σ : L2.St} {tx : TE}, Ex H2 H3 → Ev tx σ H3 (.ref r) → EvT (tAnd (tTest (tOp (rI0 fun i j => .bl (decide (j < i))) (tCB (rLenS K) (tCons tx tNil)) (tC (.int 0)))) t) σ H3 false := fun {t H3 σ tx} e4 hx =>
            et_is (et_and (a := false) (b := false) (et_is (et_test (ev_gt (ev_lenL (n := 0) hx (e4 _ _ hrl3) rfl) (ev_c0 0))) rfl) (fun z => by cases z)) rfl
          refine q_when (t0 (Ex.refl _) (ev_var rfl)) (fun z => by cases z) fun _ H3 e4 => ?_
          refine s_when (t0 e4 (ev_var rfl)) (fun z => by cases z) fun _ H4 e5 => ?_
          exact ⟨_, _, _, _, rfl, (e3.trans e4).trans e5, lt_snoc hno2 (bad_nil hl)⟩
        · have t0 : ∀ {t : TT} {b : Bool} {H3 : Hp} {σ : L2.St} {tx : TE}, Ex H2 H3 → Ev tx σ H3 (.ref r) → EvT t σ H3 b → EvT (tAnd (tTest (tOp (rI0 fun i j => .bl (decide (j < i))) (tCB (rLenS K) (tCons tx tNil)) (tC (.int 0)))) t) σ H3 b := fun {t b H3 σ tx} e4 hx ht =>
            et_is (et_and (a := true) (b := b) (et_is (et_test (ev_gt (ev_lenL (n := 3) hx (e4 _ _ hrl3) rfl) (ev_c0 0))) rfl) (fun _ => ht)) rfl
          have pv : ∀ {H3 : Hp} {σ : L2.St} {tx ty : TE}, Ex H2 H3 → Ev tx σ H3 (.ref a) → Ev ty σ H3 (nV k) → Ev (tOp (rIxL K) (tFld K tx "players") ty) σ H3 (.ref ya) := fun {H3 σ tx ty} e4 hx hk =>
            ev_ixL (ev_fld T.clP T.pl hx (pl3.mono e4).ob (pF_l p)) hk (pl3.mono e4).pl hv
          refine q_when (b := decide (x2 < y.since)) (t0 (Ex.refl _) (ev_var rfl) (et_test (ev_lt (ev_ixL (j := 0) (ev_var rfl) (ev_c0 0) hrl3 rfl) (ev_fld T.clY T.ys (pv (Ex.refl _) (ev_var rfl) (ev_var rfl)) hy (yF_s _ _))))) (fun hb H3 e4 => ?_) fun hb H3 e4 => ?_
          · refine give 2 ?_ (Ex.refl _) (e3.trans e4) (ev_var rfl)
            rw [bad_cons hpe hl]
            exact if_pos (of_decide_eq_true hb)
          · have hb := of_decide_eq_false hb
            refine s_when (b := decide (y.till < y2)) (t0 e4 (ev_var rfl) (et_test (ev_gt (ev_ixL (j := 1) (ev_var rfl) (ev_c0 1) (e4 _ _ hrl3) rfl) (ev_fld T.clY T.yt (pv e4 (ev_var rfl) (ev_var rfl)) (e4 _ _ hy) (yF_t _ _))))) (fun hb2 H4 e5 => ?_) fun hb2 H4 e5 => ?_
            · refine give 3 ?_ (Ex.refl _) ((e3.trans e4).trans e5) (ev_var rfl)
              rw [bad_cons hpe hl]
              exact (if_neg hb).trans (if_pos (of_decide_eq_true hb2))
            · refine ⟨_, _, _, _, rfl, (e3.trans e4).trans e5, lt_snoc hno2 ?_⟩
              rw [bad_cons hpe hl]
              exact (if_neg hb).trans (if_neg (of_decide_eq_false hb2))
      · rintro σ' H2 ⟨x1, y1, o3, o4, rfl, e1, hno2⟩
        refine s_retL el_nil fun r H3 hr3 e3 h3 => ?_
        have ee : m.wrongO o th = none := by
          unfold Pm.wrongO
          rw [ef]
          show (List.range th.length).findSome? (m.bad th) = none
          refine List.findSome?_eq_none_iff.mpr fun x hx => hno2 x (by rw [hat.1]; exact List.mem_range.mp hx)
        refine q r H3 (fresh_back e1 hr3) (e1.trans e3) ?_
        rw [ee]
        exact h3
/-! ### order_cost -/
def sp_order_cost (A : Ad) : Sp := valSp fun vs H z => ∃ a m th tp ts, vs = [.ref a, .ref tp] ∧ PlayR A H a m ∧ H tp = some (.lst ts) ∧ Ats (isL H) ts th ∧ th.length = m.players.length ∧ (∀ l ∈ th, Row l) ∧ (∀ p ∈ m.players, p.rate ≤ 1000) ∧ z = nV (m.oCost th)
theorem cal_order_cost (T : Txt K mg A) (F : HasDef K mg "order_cost" s_order_cost ["play", "there"]) : Cal P w K mg base 1 "order_cost" (sp_order_cost A) [] := by
  have nd := sc_order_cost.nd
  refine def_ok F sc_order_cost (fun vs H Q E h => ?_) (fun f cdv Ar outer s H vs Q E hr h => ⟨_, (pss_cons (ps_set (i := 2) nd rfl (Or.inl rfl) pe_int)
      (pss_cons (ps_for PassesOwn.never rfl (pi_enum (by rfl) T.enumerate (pa_cons (pv 1) pa_nil)) (pg_tup rfl (pgs_cons (pg_name (i := 3) nd rfl (Or.inl rfl)) (pgs_cons (pg_name (i := 4) nd rfl (Or.inl rfl)) pgs_nil))) (pss_one (ps_if (pt_cmpR op_gt (pe_callB call_len_seq (by rfl) T.len PySem.boot_len (pa_cons (pv 4) pa_nil)) pe_int (nomark _)) (pss_one (ps_set (i := 2) nd rfl (Or.inl rfl) (pe_op op_add (pv 2) (pe_op op_mul (pe_fld (pe_ix ix_list (pe_fld (pv 0) rfl) (pv 3) (fun _ _ => rfl)) rfl) (pe_op op_sub (pe_ix ix_list (pv 4) pe_int (fun _ _ => rfl)) (pe_ix ix_list (pv 4) pe_int (fun _ _ => rfl))))))) pss_nil)))
      (pss_one (ps_ret (pv 2))))), ?_⟩)
  · obtain ⟨z, ⟨a, m, th, tp, ts, rfl, _⟩, _⟩ := h
    rfl
  · obtain ⟨z, ⟨a, m, th, tp, ts, rfl, hp, ht, hat, hln, hrow, hrate, rfl⟩, q⟩ := h
    obtain ⟨p, dx, s1, s2, s3, s4, pl⟩ := hp
    refine q_asg (ev_c0 0) fun H1 e1 => ?_
    refine q_forE (ea_1 (ev_var rfl)) (e1 _ _ ht) (fun k σ' H' => ∃ x y, σ' = [some (.ref a), some (.ref tp), some (nV ((List.range k).map (m.oc1 th)).sum), x, y] ∧ Ex H H') (fun H2 e2 => ⟨_, _, rfl, e1.trans e2⟩) (fun k σ' H' _ ⟨_, _, _, e⟩ => e _ _ ht) ?_ ?_
    · rintro k x σ' H' H2 hk ⟨x1, y1, rfl, e2⟩ e2'
      obtain ⟨l, hl, r, rfl, hrl⟩ := hat.get hk
      have e3 := e2.trans e2'
      have kl := nat_get hl
      have hpl : k < m.players.length := by rw [← hln]; exact kl
      have hpe := List.getElem?_eq_getElem hpl
      have hra := hrate _ (List.getElem_mem hpl)
      generalize (m.players[k]'hpl) = y at hpe hra
      have pl3 := pl.mono e3
      obtain ⟨v, hv, ya, yd, yr, rfl, hy, hf⟩ := pl3.pls.2 _ _ hpe
      have hrl3 := e3 _ _ hrl
      have rt : m.rateAt k = y.rate := by
        unfold Pm.rateAt
        rw [hpe]
        rfl
      have sm : ((List.range (k + 1)).map (m.oc1 th)).sum = ((List.range k).map (m.oc1 th)).sum + m.oc1 th k := by
        rw [List.range_succ, List.map_append, List.sum_append]
        simp
      rcases hrow l (List.mem_of_getElem? hl) with rfl | ⟨x2, y2, z2, rfl, hxy⟩
      · refine s_when (b := false) (et_is (et_test (ev_gt (ev_lenL (n := 0) (ev_var rfl) hrl3 rfl) (ev_c0 0))) rfl) (fun z => by cases z) fun _ H3 e4 => ?_
        have : m.oc1 th k = 0 := oc_nil hl
        rw [sm, this]
        exact ⟨_, _, rfl, e3.trans e4⟩
      · refine s_when (b := true) (et_is (et_test (ev_gt (ev_lenL (n := 3) (ev_var rfl) hrl3 rfl) (ev_c0 0))) rfl) (fun _ H3 e4 => ?_) fun z => by cases z
        have : m.oc1 th k = y.rate * (y2 - x2) := by rw [oc_cons hl, rt]
        rw [sm, this]
        have pl4 := pl3.mono e4
        have h4 := e4 _ _ hrl3
        exact s_asg (ev_add (ev_var rfl) (ev_mul (ev_fld T.clY T.yr (ev_ixL (ev_fld T.clP T.pl (ev_var rfl) pl4.ob (pF_l p)) (ev_var rfl) pl4.pl hv) (e4 _ _ hy) (yF_r _ _)) (ev_sub (ev_ixL (j := 1) (ev_var rfl) (ev_c0 1) h4 rfl) (ev_ixL (j := 0) (ev_var rfl) (ev_c0 0) h4 rfl) hxy) hra)) fun H4 e5 => ⟨_, _, rfl, (e3.trans e4).trans e5⟩
    · rintro σ' H2 ⟨x1, y1, rfl, e2⟩
      refine s_ret (ev_var rfl) fun H3 e3 => ?_
      have := hat.1
      rw [this]
      exact q H3 (e2.trans e3)
/-! ### castings, orders -/
theorem castS_len (n : Nat) (h : n ≤ 4) : ∀ k, (castS n k).length ≤ 4 ^ k
  | 0 => Nat.le_refl _
  | k + 1 => by
    have ih := castS_len n h k
    have e : (castS n (k + 1)).length = (castS n k).length * n := by
      show ((castS n k).flatMap fun b => (List.range n).map fun a => b ++ [a]).length = _
      rw [List.length_flatMap]
      generalize castS n k = l
      induction l with
      | nil => simp
      | cons x r ih2 =>
        rw [List.map_cons, List.sum_cons, ih2, List.length_map, List.length_range, List.length_cons, Nat.succ_mul]
        omega
    rw [e, Nat.pow_succ]
    exact Nat.mul_le_mul ih h
theorem ordS_len (n : Nat) (h : n ≤ 4) : ∀ k, (ordS n k).length ≤ 4 ^ k
  | 0 => Nat.le_refl _
  | k + 1 => by
    have ih := ordS_len n h k
    have e : (ordS n (k + 1)).length ≤ (ordS n k).length * n := by
      show ((ordS n k).flatMap fun b => ((List.range n).filter fun x => !b.contains x).map fun x => b ++ [x]).length ≤ _
      rw [List.length_flatMap]
      generalize ordS n k = l
      induction l with
      | nil => simp
      | cons x r ih2 =>
        rw [List.map_cons, List.sum_cons, List.length_map, List.length_cons, Nat.succ_mul]
        have := List.length_filter_le (fun y => !x.contains y) (List.range n)
        rw [List.length_range] at this
        omega
    rw [Nat.pow_succ]
    exact Nat.le_trans e (Nat.mul_le_mul ih h)
theorem ordS_mem {n : Nat} : ∀ {k : Nat} {b : List Nat}, b ∈ ordS n k → b.length = k
  | 0, b, h => by
    have e : b = [] := by simpa [ordS] using h
    subst e
    rfl
  | k + 1, b, h => by
    obtain ⟨c, hc, h⟩ := List.mem_flatMap.mp (show b ∈ (ordS n k).flatMap fun b => ((List.range n).filter fun x => !b.contains x).map fun x => b ++ [x] from h)
    obtain ⟨x, _, rfl⟩ := List.mem_map.mp h
    rw [List.length_append, List.length_singleton, ordS_mem hc]
theorem pow_small {k : Nat} (h : k ≤ 5) : 4 ^ k ≤ 5000 := Nat.le_trans (Nat.pow_le_pow_right (by decide) h) (by decide)
def sp_castings (A : Ad) : Sp := relSp isL fun vs H ls => ∃ a m, vs = [.ref a] ∧ PlayR A H a m ∧ m.players.length ≤ 4 ∧ m.dress.length ≤ 5 ∧ ls = castS m.players.length m.dress.length
theorem cal_castings (T : Txt K mg A) (F : HasDef K mg "castings" s_castings ["play"]) : Cal P w K mg base 1 "castings" (sp_castings A) [] := by
  have nd := sc_castings.nd
  refine def_ok F sc_castings (fun vs H Q E h => ?_) (fun f cdv Ar outer s H vs Q E hr h => ⟨_, (pss_cons (ps_set (i := 1) nd rfl (Or.inl rfl) (pe_lst (pa_cons (pe_lst pa_nil) pa_nil)))
      (pss_cons (ps_for PassesOwn.never rfl (pi_range1 (by rfl) T.range (pa_cons (pe_callB call_len_seq (by rfl) T.len PySem.boot_len (pa_cons (pe_fld (pv 0) rfl) pa_nil)) pa_nil)) (pg_name (i := 2) nd rfl (Or.inl rfl)) (pss_cons (ps_set (i := 3) nd rfl (Or.inl rfl) (pe_lst pa_nil)) (pss_cons (ps_for PassesOwn.never rfl (pi_list (pv 1)) (pg_name (i := 4) nd rfl (Or.inr rfl)) (pss_one (ps_expr (pe_bm PySem.F.plainAttrs_list PySem.F.slot_list_extend PySem.F.type_list_extend mt_extend (pv 3) (pa_cons (pe_lc (own := [("player", 5)]) (g := (gName 5)) (tt := tYes) (te := (tOp rCat (tVar 4) (tLst (tCons (tVar 5) tNil)))) rfl nd (pi_range1 (by rfl) T.range (pa_cons (pe_callB call_len_seq (by rfl) T.len PySem.boot_len (pa_cons (pe_fld (pv 0) rfl) pa_nil)) pa_nil)) (blkOk_by (own := [("player", 5)]) (N := N_castings) (sc := C8.fnScope s_castings) (by decide +kernel)) (fun _ _ _ _ _ => (pg_name (i := 5) nd rfl (Or.inl rfl))) (fun _ _ _ _ _ => pts_nil) (fun _ _ _ _ _ => (pe_op op_cat (pv 4) (pe_lst (pa_cons (pv 5) pa_nil))))) pa_nil))))) (pss_one (ps_set (i := 1) nd rfl (Or.inl rfl) (pv 3))))))
      (pss_one (ps_ret (pv 1))))), ?_⟩)
  · obtain ⟨z, ⟨a, m, rfl, _⟩, _⟩ := h
    rfl
  · obtain ⟨ls, ⟨a, m, rfl, hp, h4, h5, rfl⟩, q⟩ := h
    obtain ⟨p, dx, s1, s2, s3, s4, pl⟩ := hp
    refine grow (L := castS m.players.length) (fun b => (List.range m.players.length).map fun a => b ++ [a]) rfl (fun _ => rfl) (fun k hk => Nat.le_trans (castS_len _ h4 k) (pow_small (by omega))) (fun b => by rw [List.length_map, List.length_range]; omega) (by omega)
      (fun fp H1 e => ea_1 (ev_lenL (ev_fld T.clP T.pd (ev_var rfl) (pl.mono e).ob (pF_d p)) (pl.mono e).dr (List.length_map ..))) (fun fp k lp bp b x H1 e hl hb => ?_) (fun k hk b hb => by rw [(mem_castS hb).1]; omega) q
    have en := en_lcR (te := tOp rCat (tVar 4) (tLst (tCons (tVar 5) tNil))) (t := tYes) (vs := [5]) (j := 5) (σ := [some (.ref a), some (.ref fp), some (nV k), some (.ref lp), some (.ref bp), x]) (H := H1) (fun _ => true) (fun i => b ++ [i]) (ea_1 (ev_lenL (K := K) (ev_fld T.clP T.pl (ev_var (i := 0) rfl) (pl.mono e).ob (pF_l p)) (pl.mono e).pl pl.pls.1)) (by omega) (fun _ => rfl) (fun _ _ _ _ => et_yes)
      (fun i H2 e2 hi _ => el_is (el_cat (ev_var rfl) (e2 _ _ hb) (el_lst (ea_1 (ev_var rfl)) (by show 1 ≤ 100000; decide)) (by rw [List.length_map]; show b.length + 1 ≤ 100000; omega)) (by unfold iv; rw [List.map_append]; rfl))
    rw [List.filter_eq_self.mpr (fun _ _ => rfl)] at en
    exact en
def sp_orders (A : Ad) : Sp := relSp isL fun vs H ls => ∃ a m, vs = [.ref a] ∧ PlayR A H a m ∧ m.pieces.length ≤ 4 ∧ ls = m.orders
theorem cal_orders (T : Txt K mg A) (F : HasDef K mg "orders" s_orders ["play"]) : Cal P w K mg base 1 "orders" (sp_orders A) [] := by
  have nd := sc_orders.nd
  refine def_ok F sc_orders (fun vs H Q E h => ?_) (fun f cdv Ar outer s H vs Q E hr h => ⟨_, (pss_cons (ps_set (i := 1) nd rfl (Or.inl rfl) (pe_lst (pa_cons (pe_lst pa_nil) pa_nil)))
      (pss_cons (ps_for PassesOwn.never rfl (pi_range1 (by rfl) T.range (pa_cons (pe_callB call_len_seq (by rfl) T.len PySem.boot_len (pa_cons (pe_fld (pv 0) rfl) pa_nil)) pa_nil)) (pg_name (i := 2) nd rfl (Or.inl rfl)) (pss_cons (ps_set (i := 3) nd rfl (Or.inl rfl) (pe_lst pa_nil)) (pss_cons (ps_for PassesOwn.never rfl (pi_list (pv 1)) (pg_name (i := 4) nd rfl (Or.inr rfl)) (pss_one (ps_expr (pe_bm PySem.F.plainAttrs_list PySem.F.slot_list_extend PySem.F.type_list_extend mt_extend (pv 3) (pa_cons (pe_lc (own := [("piece", 5)]) (g := (gName 5)) (tt := (tTest (tOp (rIn K true) (tVar 5) (tVar 4)))) (te := (tOp rCat (tVar 4) (tLst (tCons (tVar 5) tNil)))) rfl nd (pi_range1 (by rfl) T.range (pa_cons (pe_callB call_len_seq (by rfl) T.len PySem.boot_len (pa_cons (pe_fld (pv 0) rfl) pa_nil)) pa_nil)) (blkOk_by (own := [("piece", 5)]) (N := N_orders) (sc := C8.fnScope s_orders) (by decide +kernel)) (fun _ _ _ _ _ => (pg_name (i := 5) nd rfl (Or.inl rfl))) (fun _ _ _ _ _ => (pts_one (pt_cmpR op_notIn_seq (pv 5) (pv 4) rfl))) (fun _ _ _ _ _ => (pe_op op_cat (pv 4) (pe_lst (pa_cons (pv 5) pa_nil))))) pa_nil))))) (pss_one (ps_set (i := 1) nd rfl (Or.inl rfl) (pv 3))))))
      (pss_one (ps_ret (pv 1))))), ?_⟩)
  · obtain ⟨z, ⟨a, m, rfl, _⟩, _⟩ := h
    rfl
  · obtain ⟨ls, ⟨a, m, rfl, hp, h4, rfl⟩, q⟩ := h
    obtain ⟨p, dx, s1, s2, s3, s4, pl⟩ := hp
    refine grow (L := ordS m.pieces.length) (fun b => ((List.range m.pieces.length).filter fun x => !b.contains x).map fun x => b ++ [x]) rfl (fun _ => rfl) (fun k hk => Nat.le_trans (ordS_len _ h4 k) (pow_small (by omega))) (fun b => by
        rw [List.length_map]
        have := List.length_filter_le (fun y => !b.contains y) (List.range m.pieces.length)
        rw [List.length_range] at this
        omega) (by omega)
      (fun fp H1 e => ea_1 (ev_lenL (ev_fld T.clP T.pp (ev_var rfl) (pl.mono e).ob (pF_p p)) (pl.mono e).pc pl.pcs.1)) (fun fp k lp bp b x H1 e hl hb => ?_) (fun k hk b hb => by rw [ordS_mem hb]; omega) q
    exact en_lcR (H := H1) (fun x => !b.contains x) (fun i => b ++ [i]) (ea_1 (ev_lenL (ev_fld T.clP T.pp (ev_var rfl) (pl.mono e).ob (pF_p p)) (pl.mono e).pc pl.pcs.1)) (by omega) (fun _ => rfl) (fun i H2 e2 hi => et_test (ev_notIn (ev_var rfl) (ev_var rfl) (e2 _ _ hb)))
      (fun i H2 e2 hi _ => el_is (el_cat (ev_var rfl) (e2 _ _ hb) (el_lst (ea_1 (ev_var rfl)) (by show 1 ≤ 100000; decide)) (by rw [List.length_map]; show b.length + 1 ≤ 100000; omega)) (by unfold iv; rw [List.map_append]; rfl))
end Rc
set_option Elab.async false
set_option linter.all false
set_option maxRecDepth 100000
set_option maxHeartbeats 4000000
/-! # The defs: Best, best_order, right_castings, best_plan, best_casting -/
namespace Rc
open PySem PySem.Spec PyProof.Rows L2 Evl
open C8 (Cal Met Mak)
def Fine (m : Pm) : Prop := ∃ n, m.Ok n
def CastOk (m : Pm) (c : List Nat) : Prop := c.length = m.dress.length ∧ ∀ x ∈ c, x < m.players.length
def OrdOk (m : Pm) (o : List Nat) : Prop := (∀ k ∈ o, k < m.pieces.length) ∧ ∀ x ∈ m.pairs, x.1 ∈ o ∧ x.2 ∈ o
theorem ord_all : ∀ n, n ≤ 4 → ∀ o ∈ ordS n n, (∀ k ∈ o, k < n) ∧ ∀ i, i < n → i ∈ o := by
  have h : ∀ n, n ≤ 4 → ((ordS n n).all fun o => (o.all fun k => decide (k < n)) && ((List.range n).all fun i => o.contains i)) = true := by
    intro n h
    have : n = 0 ∨ n = 1 ∨ n = 2 ∨ n = 3 ∨ n = 4 := by omega
    rcases this with rfl | rfl | rfl | rfl | rfl <;> decide +kernel
  intro n hn o ho
  have := List.all_eq_true.mp (h n hn) o ho
  rw [Bool.and_eq_true, List.all_eq_true, List.all_eq_true] at this
  exact ⟨fun k hk => of_decide_eq_true (this.1 k hk), fun i hi => List.contains_iff_mem.mp (this.2 i (List.mem_range.mpr hi))⟩
theorem orders_ok {m : Pm} (h : Fine m) : ∀ o ∈ m.orders, OrdOk m o := fun o ho => by
  obtain ⟨n, h⟩ := h
  obtain ⟨h1, h2⟩ := ord_all _ h.npc o ho
  exact ⟨h1, fun x hx => ⟨h2 _ (h.prs x hx).1, h2 _ (h.prs x hx).2⟩⟩
section
variable {K : PySem.W.Frag} {mg : Str → Option Value} {A : Ad} {σ : L2.St} {H H' : Hp} {ta tb te tl t1 t2 t3 : TE} {D : Ends} {tu tz : TS} {x y v : V}
theorem ev_isN (ha : Ev ta σ H x) : Ev (tOp (fun x y H Q => y = .non ∧ Q (.bl (decide (x = .non))) H) ta (tC .non)) σ H (.bl (decide (x = .non))) := fun H1 e Q q => ha H1 e _ fun H2 e2 => ⟨rfl, q H2 e2⟩
theorem ev_notN (ha : Ev ta σ H x) : Ev (tOp (fun x y H Q => y = .non ∧ Q (.bl (!decide (x = .non))) H) ta (tC .non)) σ H (.bl (!decide (x = .non))) := fun H1 e Q q => ha H1 e _ fun H2 e2 => ⟨rfl, q H2 e2⟩
/-! ### a best, in the heap -/
def bS : B V → List (Str × V)
  | none => bF .non (nV 0) .non
  | some s => bF (nV s.1) (nV s.2.1) s.2.2
def bC : B V → V
  | none => .non
  | some s => nV s.1
def bK : B V → Nat
  | none => 0
  | some s => s.2.1
def bT : B V → V
  | none => .non
  | some s => s.2.2
theorem bS_c (s : B V) : (bS s).lookup ("cost" : Str) = some (bC s) := by cases s <;> exact bF_c _ _ _
theorem bS_k (s : B V) : (bS s).lookup ("many" : Str) = some (nV (bK s)) := by cases s <;> exact bF_k _ _ _
theorem bS_t (s : B V) : (bS s).lookup ("thing" : Str) = some (bT s) := by cases s <;> exact bF_t _ _ _
theorem bS_put (s : B V) : (bS s).lookup ("put" : Str) = none := by cases s <;> exact bF_put _ _ _
theorem bS_len (s : B V) : (bS s).length < 1000 := by cases s <;> (show 3 < 1000; decide)
theorem pf_c (c k t y : V) : putF "cost" y (bF c k t) = bF y k t := put_here
theorem pf_k (c k t y : V) : putF "many" y (bF c k t) = bF c y t := (put_past (by decide +kernel)).trans (congrArg _ put_here)
theorem pf_t (c k t y : V) : putF "thing" y (bF c k t) = bF c k y := (put_past (by decide +kernel)).trans (congrArg _ ((put_past (by decide +kernel)).trans (congrArg _ put_here)))
/-- one best stands for another -/
def BR {α : Type} (R : V → α → Prop) : B V → B α → Prop
  | none, none => True
  | some s, some b => s.1 = b.1 ∧ s.2.1 = b.2.1 ∧ R s.2.2 b.2.2
  | _, _ => False
theorem BR.mono {α : Type} {R S : V → α → Prop} {s : B V} {b : B α} (h : BR R s b) (k : ∀ x y, R x y → S x y) : BR S s b := by
  cases s <;> cases b <;> first | exact h | exact ⟨h.1, h.2.1, k _ _ h.2.2⟩
theorem BR.put {α : Type} {R : V → α → Prop} {s : B V} {b : B α} {c k : Nat} {v : V} {y : α} (h : BR R s b) (r : R v y) : BR R (Rc.put s c k v) (Rc.put b c k y) := by
  cases s with
  | none =>
    cases b with
    | none => exact ⟨rfl, rfl, r⟩
    | some b => exact h.elim
  | some s =>
    cases b with
    | none => exact h.elim
    | some b =>
      obtain ⟨h1, h2, h3⟩ := h
      show BR R (if c < s.1 then some (c, k, v) else if c = s.1 then some (s.1, s.2.1 + k, s.2.2) else some s) (if c < b.1 then some (c, k, y) else if c = b.1 then some (b.1, b.2.1 + k, b.2.2) else some b)
      rw [h1]
      by_cases c1 : c < b.1
      · rw [if_pos c1, if_pos c1]
        exact ⟨rfl, rfl, r⟩
      · rw [if_neg c1, if_neg c1]
        by_cases c2 : c = b.1
        · rw [if_pos c2, if_pos c2, h2]
          exact ⟨rfl, rfl, h3⟩
        · rw [if_neg c2, if_neg c2]
          exact ⟨h1, h2, h3⟩
theorem isL_updI {x C dx : Addr} {fs : List (Str × V)} {o : HO} {l : List Nat} (h : H x = some (.ins C dx fs)) (hv : isL H v l) : isL (upd H x o) v l := by
  obtain ⟨p, rfl, hp⟩ := hv
  exact ⟨p, rfl, by rw [upd_ne (ne_of hp h (by intro z; cases z))]; exact hp⟩
/-- a pair of a casting and an order -/
def isCO (H : Hp) (v : V) (y : List Nat × List Nat) : Prop := ∃ t v1 v2, v = .ref t ∧ H t = some (.tup [v1, v2]) ∧ isL H v1 y.1 ∧ isL H v2 y.2
theorem isCO.mono {y : List Nat × List Nat} (e : Ex H H') (h : isCO H v y) : isCO H' v y := let ⟨t, v1, v2, a, b, c, d⟩ := h; ⟨t, v1, v2, a, e _ _ b, c.mono e, d.mono e⟩
theorem isCO_updI {x C dx : Addr} {fs : List (Str × V)} {o : HO} {y : List Nat × List Nat} (h : H x = some (.ins C dx fs)) (hv : isCO H v y) : isCO (upd H x o) v y := by
  obtain ⟨t, v1, v2, rfl, ht, h1, h2⟩ := hv
  exact ⟨t, v1, v2, rfl, by rw [upd_ne (ne_of ht h (by intro z; cases z))]; exact ht, isL_updI h h1, isL_updI h h2⟩
def RetB {α : Type} (A : Ad) (R : Hp → V → α → Prop) (b : B α) (H : Hp) (Q : VK) : Prop := ∀ x dx H2 s, H x = none → Ex H H2 → H2 x = some (.ins A.cB dx (bS s)) → BR (R H2) s b → Q (.ref x) H2
def besSp {α : Type} (A : Ad) (R : Hp → V → α → Prop) (pre : List V → Hp → B α → Prop) : Sp := fun vs H Q _ => ∃ b, pre vs H b ∧ RetB A R b H Q
theorem q_asgB {α : Type} {R : Hp → V → α → Prop} {pre : List V → Hp → B α → Prop} {b : B α} {vs : List V} {E : XK} {t : TA} {i : Nat} (h : EvA t σ H vs) (hs : ∀ H1, Ex H H1 → pre vs H1 b)
    (k : ∀ x dx H1 s, H x = none → Ex H H1 → H1 x = some (.ins A.cB dx (bS s)) → BR (R H1) s b → tz D (σ.set i (some (.ref x))) H1) : tSeq (tAsg (tCall (besSp A R pre) [] E t) (gName i)) tz D σ H :=
  h H (Ex.refl H) _ fun H1 e => by
    rw [List.append_nil]
    exact ⟨b, hs H1 e, fun x dx H2 s hx e2 h2 hb => k x dx H2 s (fresh_back e hx) (e.trans e2) h2 hb⟩
/-! ### loops over a new list -/
theorem q_forR {α : Type} {R : Hp → V → α → Prop} {ls : List α} {j : Nat} (h : EvR R tl σ H ls) (k : ∀ p H1 xs, H p = none → Ex H H1 → H1 p = some (.lst xs) → Ats (R H1) xs ls → ∃ Pv : Nat → L2.St → Hp → Prop, Pv 0 σ H1 ∧ (∀ i σ' H', i ≤ xs.length → Pv i σ' H' → H' p = some (.lst xs)) ∧
      (∀ i x σ' H', xs[i]? = some x → Pv i σ' H' → tu { D with nx := Pv (i + 1), ct := Pv (i + 1), bk := tz D } (σ'.set j (some x)) H') ∧ ∀ σ' H', Pv xs.length σ' H' → tz D σ' H') : tSeq (tFor (iList K tl) (gName j) tu) tz D σ H :=
  h H (Ex.refl H) _ fun p H1 xs hp e h1 hat => by
    obtain ⟨Pv, k0, kl, ks, kd⟩ := k p H1 xs hp e h1 hat
    exact ⟨p, rfl, ⟨xs, sq_of h1⟩, for_list Pv k0 (fun i σ' H' hi pv => sq_of (kl i σ' H' hi pv)) ks kd⟩
/-- what of a new list is kept -/
theorem er_lcF {t : TT} {j : Nat} {vs : List Nat} {ls : List (List Nat)} (f : List Nat → Bool) (h : EvR isL tl σ H ls) (hz : ls.length ≤ 40000) (hw : ∀ x, wipe ((wipe σ vs).set j (some x)) vs = wipe σ vs) (hj : ∀ x, ((wipe σ vs).set j (some x))[j]? = some (some x))
    (ht : ∀ l x H1, Ex H H1 → l ∈ ls → isL H1 x l → EvT t ((wipe σ vs).set j (some x)) H1 (f l)) : EvR isL (tLc (iList K tl) (gName j) t (tVar j) vs) σ H (ls.filter f) := fun H0 e Q q => h H0 e _ fun a H1 xs ha e1 hx hat => ⟨a, rfl, ⟨xs, sq_of hx⟩, fun Dl hD =>
  lc_list (xs := xs) (fun i H' => H1 Dl = none ∧ Ex H1 H' ∧ ∃ acc, H' Dl = some (.lst acc) ∧ acc.length ≤ i ∧ Ats (isL H1) acc ((ls.take i).filter f)) ⟨hD, Ex.new hD, [], upd_same, Nat.le_refl _, Ats.nil⟩ (fun i H' _ p => sq_of (p.2.1 _ _ hx)) (fun i x H' hi p => by
    obtain ⟨p1, p2, acc, p3, p4, p5⟩ := p
    obtain ⟨l, hl, hxl⟩ := hat.get hi
    have il := nat_get hi
    have := hat.1
    refine ⟨hw _, ht l x H1 (e.trans e1) (List.mem_of_getElem? hl) hxl _ p2 _ fun H3 e3 => ?_⟩
    rw [take_more hl, List.filter_append, List.filter_cons]
    cases hf : f l with
    | true => exact ⟨x, hj x, acc, e3 _ _ p3, sz_lt (by omega), p1, Ex.mut (p2.trans e3) p1, _, upd_same, by rw [List.length_append, List.length_singleton]; omega, p5.append (Ats.one hxl)⟩
    | false =>
      refine ⟨p1, p2.trans e3, acc, e3 _ _ p3, by omega, ?_⟩
      show Ats _ acc (_ ++ [])
      rw [List.append_nil]
      exact p5) (fun H' p => by
    obtain ⟨p1, p2, acc, p3, p4, p5⟩ := p
    rw [hat.1, List.take_length] at p5
    exact q Dl H' acc (fresh_back e1 p1) (e1.trans p2) p3 (p5.mono fun _ _ z => z.mono p2))⟩
theorem er_is {α : Type} {R : Hp → V → α → Prop} {ls ls' : List α} (h : EvR R te σ H ls) (e : ls = ls') : EvR R te σ H ls' := by
  subst e
  exact h
end
variable {P : Program} {w : World} {K : PySem.W.Frag} {mg : Str → Option Value} {base : Heap} {A : Ad}
/-! ### Best.__init__, Best.put -/
def sp_Best (A : Ad) : Sp := fun vs H Q _ => ∃ p dx, vs = [.ref p] ∧ H p = some (.ins A.cB dx []) ∧ Q .non (upd H p (.ins A.cB dx (bS none)))
theorem mak_Best (T : Txt K mg A) (F : HasMak K mg "Best" A.cB "Best.__init__" s_Best_init ["self"]) : Mak P w K mg base 1 "Best" A.cB (sp_Best A) [] := by
  have nd := sc_Best_init.nd
  refine mak_ok F sc_Best_init (fun vs H Q E h => ?_) (fun f cdv Ar outer s H vs Q E hr h => ⟨_, (pss_cons (ps_fld (pv 0) pe_non rfl)
      (pss_cons (ps_fld (pv 0) pe_int rfl)
      (pss_one (ps_fld (pv 0) pe_non rfl)))), ?_⟩)
  · obtain ⟨p, dx, rfl, _⟩ := h
    rfl
  · obtain ⟨p, dx, rfl, hp, q⟩ := h
    refine ⟨_, rfl, p, A.cB, dx, [], rfl, hp, T.clB, T.bc, (by show 0 < 1000; decide), ?_⟩
    refine ⟨_, rfl, p, A.cB, dx, _, rfl, upd_same, T.clB, T.bm, (by show 1 < 1000; decide), ?_⟩
    refine ⟨_, rfl, p, A.cB, dx, _, rfl, upd_same, T.clB, T.bt, (by show 2 < 1000; decide), ?_⟩
    have e : putF "thing" V.non (putF "many" (V.int 0) (putF "cost" V.non [])) = bS none := by decide +kernel
    rw [upd_upd, upd_upd, e]
    exact q
theorem q_best {σ : L2.St} {H : Hp} {D : Ends} {tz : TS} {i : Nat} {E : XK} (k : ∀ x dx H1, H x = none → Ex H H1 → H1 x = some (.ins A.cB dx (bS none)) → tz D (σ.set i (some (.ref x))) H1) : tSeq (tAsg (tMake A.cB (sp_Best A) [] E tNil) (gName i)) tz D σ H := by
  intro x dx nx nd ne
  refine ⟨x, dx, rfl, upd_same, rfl, ?_⟩
  rw [upd_upd]
  refine k x dx _ nx (fun b o h => ?_) upd_same
  rw [upd_ne (ne_of_none h nx), upd_ne (ne_of_none h nd)]
  exact h
def sp_put (A : Ad) : Sp := fun vs H Q _ => ∃ x dx s c k t, vs = [.ref x, nV c, nV k, t] ∧ H x = some (.ins A.cB dx (bS s)) ∧ ∀ H1, Ex H H1 → Q .non (upd H1 x (.ins A.cB dx (bS (put s c k t))))
theorem met_put (T : Txt K mg A) (F : HasMeth K A.cB "put" "Best.put" s_Best_put ["self", "cost", "many", "thing"]) : Met P w K mg base 1 A.cB "put" (sp_put A) [] := by
  have nd := sc_Best_put.nd
  refine meth_ok T.clB F sc_Best_put (fun vs H Q E h => ?_) (fun f cdv Ar outer s H vs Q E hr h => ⟨_, (pss_one (ps_if (PW.pt (pw_or (pt_cmpR op_isN (pe_fld (pv 0) rfl) pe_non (nomark _)) (pw_or1 (pt_cmpR op_lt (pv 1) (pe_fld (pv 0) rfl) (nomark _))))) (pss_cons (ps_fld (pv 0) (pv 1) rfl) (pss_cons (ps_fld (pv 0) (pv 2) rfl) (pss_one (ps_fld (pv 0) (pv 3) rfl)))) (pss_one (ps_if (pt_cmpR op_eq (pv 1) (pe_fld (pv 0) rfl) (nomark _)) (pss_one (ps_fld (pv 0) (pe_op op_add (pe_fld (pv 0) rfl) (pv 2)) rfl)) pss_nil)))), ?_⟩)
  · obtain ⟨x, dx, s, c, k, t, rfl, _⟩ := h
    rfl
  · obtain ⟨x, dx, s, c, k, t, rfl, hx, q⟩ := h
    have store : ∀ {H1 : Hp} {nx bk ct : L2.St → Hp → Prop}, Ex H H1 → put s c k t = some (c, k, t) → (∀ H2, nx (start N_Best_put [.ref x, nV c, nV k, t]) H2 = Q .non H2) → tSeq (sFld K (tVar 0) (tVar 1) "cost") (tSeq (sFld K (tVar 0) (tVar 2) "many") (sFld K (tVar 0) (tVar 3) "thing")) { nx := nx, rt := Q, bk := bk, ct := ct } (start N_Best_put [.ref x, nV c, nV k, t]) H1 := fun {H1 nx bk ct} e he hnx => by
      refine ⟨_, rfl, _, rfl, x, A.cB, dx, _, rfl, e _ _ hx, T.clB, T.bc, bS_len s, ?_⟩
      obtain ⟨c0, k0, t0, es⟩ : ∃ c0 k0 t0, bS s = bF c0 k0 t0 := by cases s <;> exact ⟨_, _, _, rfl⟩
      rw [es, pf_c]
      refine ⟨_, rfl, _, rfl, x, A.cB, dx, _, rfl, upd_same, T.clB, T.bm, (by show 3 < 1000; decide), ?_⟩
      rw [pf_k]
      refine ⟨_, rfl, _, rfl, x, A.cB, dx, _, rfl, upd_same, T.clB, T.bt, (by show 3 < 1000; decide), ?_⟩
      rw [pf_t, upd_upd, upd_upd]
      show nx _ _
      rw [hnx]
      have := q H1 e
      rw [he] at this
      exact this
    cases s with
    | none =>
      refine s_if (b := true) (et_is (et_or (a := true) (b := true) (et_test (ev_isN (ev_fld T.clB T.bc (ev_var rfl) hx (bS_c none)))) (fun z => by cases z)) rfl) (fun _ H1 e => store e rfl fun _ => rfl) (fun z => by cases z)
    | some s =>
      have cv : ∀ {H1 : Hp} {tx : TE} {σ : L2.St}, Ex H H1 → Ev tx σ H1 (.ref x) → Ev (tFld K tx "cost") σ H1 (nV s.1) := fun e h => ev_fld T.clB T.bc h (e _ _ hx) (bS_c (some s))
      refine s_if (b := decide (c < s.1)) (et_is (et_or (a := false) (b := decide (c < s.1)) (et_is (et_test (ev_isN (cv (Ex.refl _) (ev_var rfl)))) rfl) fun _ => et_test (ev_lt (ev_var rfl) (cv (Ex.refl _) (ev_var rfl)))) rfl) (fun hb H1 e => store e (if_pos (of_decide_eq_true hb)) fun _ => rfl) (fun hb H1 e => ?_)
      have hb := of_decide_eq_false hb
      refine s_when (et_test (ev_eqI (ev_var rfl) (cv e (ev_var rfl)))) (fun hb2 H2 e2 => ?_) (fun hb2 H2 e2 => ?_)
      · have h2 := e2 _ _ (e _ _ hx)
        have he : put (some s) c k t = some (s.1, s.2.1 + k, s.2.2) := (if_neg hb).trans (if_pos (of_decide_eq_true hb2))
        refine (ev_add (ev_fld T.clB T.bm (ev_var rfl) h2 (bS_k (some s))) (ev_var rfl)) H2 (Ex.refl _) _ fun H3 e3 => ?_
        refine ⟨_, rfl, x, A.cB, dx, _, rfl, e3 _ _ h2, T.clB, T.bm, bS_len (some s), ?_⟩
        show Q _ _
        have := q H3 ((e.trans e2).trans e3)
        rw [he] at this
        show Q .non (upd H3 x (.ins A.cB dx (putF "many" (nV (s.2.1 + k)) (bF (nV s.1) (nV s.2.1) s.2.2))))
        rw [pf_k]
        exact this
      · have he : put (some s) c k t = some s := (if_neg hb).trans (if_neg (of_decide_eq_false hb2))
        have := q H2 (e.trans e2)
        rw [he] at this
        have hu : upd H2 x (.ins A.cB dx (bS (some s))) = H2 := by
          funext b
          unfold upd
          by_cases c : b = x
          · rw [if_pos c, c, e2 _ _ (e _ _ hx)]
          · rw [if_neg c]
        rw [hu] at this
        exact this
section
variable {σ : L2.St} {H : Hp} {D : Ends} {ta t1 t2 t3 : TE} {E : XK}
theorem s_put {x dx : Addr} {s : B V} {c k : Nat} {v : V} (ha : Ev ta σ H (.ref x)) (ho : H x = some (.ins A.cB dx (bS s))) (h1 : Ev t1 σ H (nV c)) (h2 : Ev t2 σ H (nV k)) (h3 : Ev t3 σ H v) (kk : ∀ H1, Ex H H1 → D.nx σ (upd H1 x (.ins A.cB dx (bS (put s c k v))))) :
    tDrop (tMeth A.cB "put" (sp_put A) [] E ta (tCons t1 (tCons t2 (tCons t3 tNil)))) D σ H := ha H (Ex.refl H) _ fun H1 e1 => ⟨x, dx, _, rfl, e1 _ _ ho, bS_put s, (ea_3 h1 h2 h3) H1 e1 _ fun H2 e2 => ⟨x, dx, s, c, k, v, rfl, e2 _ _ (e1 _ _ ho), fun H3 e3 => kk H3 ((e1.trans e2).trans e3)⟩⟩
theorem s_putU {x dx : Addr} {s : B V} {c k : Nat} {v1 v2 : V} (ha : Ev ta σ H (.ref x)) (ho : H x = some (.ins A.cB dx (bS s))) (h1 : Ev t1 σ H (nV c)) (h2 : Ev t2 σ H (nV k)) (h3 : EvU t3 σ H [v1, v2]) (kk : ∀ t H1, Ex H H1 → H1 t = some (.tup [v1, v2]) → D.nx σ (upd H1 x (.ins A.cB dx (bS (put s c k (.ref t)))))) :
    tDrop (tMeth A.cB "put" (sp_put A) [] E ta (tCons t1 (tCons t2 (tCons t3 tNil)))) D σ H := ha H (Ex.refl H) _ fun H1 e1 => ⟨x, dx, _, rfl, e1 _ _ ho, bS_put s, h1 H1 e1 _ fun H2 e2 => h2 H2 (e1.trans e2) _ fun H3 e3 => h3 H3 ((e1.trans e2).trans e3) _ fun t H4 _ e4 h4 =>
      ⟨x, dx, s, c, k, .ref t, rfl, e4 _ _ (e3 _ _ (e2 _ _ (e1 _ _ ho))), fun H5 e5 => kk t H5 ((((e1.trans e2).trans e3).trans e4).trans e5) (e5 _ _ h4)⟩⟩
end
/-! ### best_order -/
def sp_best_order (A : Ad) : Sp := besSp A isL fun vs H b => ∃ a m c os cp op xs, vs = [.ref a, .ref cp, .ref op] ∧ PlayR A H a m ∧ Fine m ∧ H cp = some (.lst (iv c)) ∧ CastOk m c ∧ H op = some (.lst xs) ∧ Ats (isL H) xs os ∧ (∀ o ∈ os, OrdOk m o) ∧ b = m.bestO c os
theorem cal_best_order (T : Txt K mg A) (F : HasDef K mg "best_order" s_best_order ["play", "casting", "all_orders"]) (c_Best : Mak P w K mg base 1 "Best" A.cB (sp_Best A) []) (c_stays : Cal P w K mg base 3 "stays" (sp_stays A) []) (c_wrong_order : Cal P w K mg base 1 "wrong_order" (sp_wrong_order A) []) (c_order_cost : Cal P w K mg base 1 "order_cost" (sp_order_cost A) []) (c_put : Met P w K mg base 1 A.cB "put" (sp_put A) []) :
    Cal P w K mg base 4 "best_order" (sp_best_order A) [] := by
  have nd := sc_best_order.nd
  refine def_ok F sc_best_order (fun vs H Q E h => ?_) (fun f cdv Ar outer s H vs Q E hr h => ⟨_, (pss_cons (ps_set (i := 3) nd rfl (Or.inl rfl) (pe_mk0 c_Best hr (by decide) (by rfl)))
      (pss_cons (ps_for PassesOwn.never rfl (pi_list (pv 2)) (pg_name (i := 4) nd rfl (Or.inl rfl)) (pss_cons (ps_set (i := 5) nd rfl (Or.inl rfl) (C8.pe_c c_stays hr (by decide) (by rfl) (pa_cons (pv 0) (pa_cons (pv 1) (pa_cons (pv 4) pa_nil))))) (pss_one (ps_if (pt_cmpR (op_eqD hr.units) (C8.pe_c c_wrong_order hr (by decide) (by rfl) (pa_cons (pv 0) (pa_cons (pv 4) (pa_cons (pv 5) pa_nil)))) (pe_lst pa_nil) (nomark _)) (pss_one (ps_expr (C8.pe_mt c_put hr (by decide) (pv 3) (pa_cons (C8.pe_c c_order_cost hr (by decide) (by rfl) (pa_cons (pv 0) (pa_cons (pv 5) pa_nil))) (pa_cons pe_int (pa_cons (pv 4) pa_nil)))))) pss_nil))))
      (pss_one (ps_ret (pv 3))))), ?_⟩)
  · obtain ⟨z, ⟨a, m, c, os, cp, op, xs, rfl, _⟩, _⟩ := h
    rfl
  · obtain ⟨b, ⟨a, m, c, os, cp, op, xs, rfl, hp, ⟨n, hm⟩, hc, ⟨hc1, hc2⟩, ho, hat, hos, rfl⟩, q⟩ := h
    obtain ⟨p, dx, s1, s2, s3, s4, pl⟩ := hp
    have hpc : ∀ x ∈ m.pieces, x.2.length ≤ 20 ∧ ∀ r ∈ x.2, r < c.length := fun x hx => by rw [hc1]; exact hm.pcr x hx
    refine q_best fun fx dxf H1 hfx e1 h1 => ?_
    refine q_forLn (ev_var rfl) (sq_of (e1 _ _ ho)) (fun i σ' H' => ∃ s x y, σ' = [some (.ref a), some (.ref cp), some (.ref op), some (.ref fx), x, y] ∧ Ex H H' ∧ H' fx = some (.ins A.cB dxf (bS s)) ∧ BR (isL H) s ((os.take i).foldl (m.bo1 c) none))
      (fun H2 e2 => ⟨none, _, _, rfl, e1.trans e2, e2 _ _ h1, trivial⟩) (fun i σ' H' _ ⟨_, _, _, _, e, _⟩ => sq_of (e _ _ ho)) ?_ ?_
    · rintro i x σ' H2 hi ⟨s, x0, y0, rfl, e2, h2, hb⟩
      obtain ⟨o, hoo, r, rfl, hr'⟩ := hat.get hi
      obtain ⟨ho1, ho2⟩ := hos o (List.mem_of_getElem? hoo)
      rw [take_more hoo, List.foldl_append]
      generalize (os.take i).foldl (m.bo1 c) none = bb at hb ⊢
      show tSeq _ _ _ _ _
      refine q_asgR (er_c1 (ea_3 (ev_var rfl) (ev_var rfl) (ev_var rfl)) fun H3 e3 => ⟨a, m, c, o, cp, r, rfl, ⟨p, dx, s1, s2, s3, s4, pl.mono (e2.trans e3)⟩, e3 _ _ (e2 _ _ hc), e3 _ _ (e2 _ _ hr'), ho1, hpc, hm.npl, rfl⟩) fun tp H3 ts htp e3 h3 hts => ?_
      have e23 := e2.trans e3
      have wv : SpL (sp_wrong_order A) [.ref a, .ref r, .ref tp] H3 (iv (list2 (m.wrongO o (m.stays c o)))) := spL_of fun H4 e4 => ⟨a, m, o, _, r, tp, ts, rfl, ⟨p, dx, s1, s2, s3, s4, pl.mono (e23.trans e4)⟩, e4 _ _ (e23 _ _ hr'), e4 _ _ h3, hts.mono fun _ _ z => z.mono e4, ho2, stays_len m c o, stays_row, rfl⟩
      refine s_when (b := (m.wrongO o (m.stays c o)).isNone) (et_is (et_test (ev_eqNil (el_c1 (ea_3 (ev_var rfl) (ev_var rfl) (ev_var rfl)) wv) (flat_ivs _))) ?_) (fun hb2 H4 e4 => ?_) (fun hb2 H4 e4 => ?_)
      · cases m.wrongO o (m.stays c o) <;> rfl
      · have ov : SpV (sp_order_cost A) [.ref a, .ref tp] H4 (nV (m.oCost (m.stays c o))) := spV_of fun H5 e5 => ⟨a, m, _, tp, ts, rfl, ⟨p, dx, s1, s2, s3, s4, pl.mono ((e23.trans e4).trans e5)⟩, e5 _ _ (e4 _ _ h3), hts.mono fun _ _ z => z.mono (e4.trans e5), stays_len m c o, stays_row, hm.rate, rfl⟩
        refine s_put (ev_var rfl) (e4 _ _ (e3 _ _ h2)) (ev_c1 (ea_2 (ev_var rfl) (ev_var rfl)) ov) (ev_c0 1) (ev_var rfl) fun H5 e5 => ⟨_, _, _, rfl, ((e23.trans e4).trans e5).mut hfx, upd_same, ?_⟩
        show BR (isL H) _ (m.bo1 c bb o)
        unfold Pm.bo1
        rw [if_pos hb2]
        exact hb.put ⟨r, rfl, hr'⟩
      · refine ⟨s, _, _, rfl, e23.trans e4, e4 _ _ (e3 _ _ h2), ?_⟩
        show BR (isL H) _ (m.bo1 c bb o)
        unfold Pm.bo1
        rw [if_neg (by rw [hb2]; decide)]
        exact hb
    · rintro σ' H2 ⟨s, x0, y0, rfl, e2, h2, hb⟩
      rw [hat.1, List.take_length] at hb
      exact s_ret (ev_var rfl) fun H3 e3 => q fx dxf H3 s hfx (e2.trans e3) (e3 _ _ h2) (hb.mono fun _ _ z => z.mono (e2.trans e3))
/-! ### right_castings -/
def clOk (m : Pm) (cl : List (Nat × Nat)) : Prop := ∀ x ∈ cl, x.1 < m.dress.length ∧ x.2 < m.dress.length
def sp_right_castings (A : Ad) : Sp := relSp isL fun vs H ls => ∃ a m cl clp cs, vs = [.ref a, .ref clp] ∧ PlayR A H a m ∧ Fine m ∧ H clp = some (.lst cs) ∧ Ats (isPr H) cs cl ∧ clOk m cl ∧ ls = m.rightC cl
theorem cal_right_castings (T : Txt K mg A) (F : HasDef K mg "right_castings" s_right_castings ["play", "clashes"]) (c_castings : Cal P w K mg base 1 "castings" (sp_castings A) []) (c_wrong_casting : Cal P w K mg base 2 "wrong_casting" (sp_wrong_casting A) []) : Cal P w K mg base 3 "right_castings" (sp_right_castings A) [] := by
  have nd := sc_right_castings.nd
  refine def_ok F sc_right_castings (fun vs H Q E h => ?_) (fun f cdv Ar outer s H vs Q E hr h => ⟨_, (pss_one (ps_ret (pe_lc (own := [("casting", 2)]) (g := (gName 2)) (tt := (tTest (tOp (rEqD K) (tCall (sp_wrong_casting A) [] C8.E0 (tCons (tVar 0) (tCons (tVar 1) (tCons (tVar 2) tNil)))) (tLst tNil)))) (te := (tVar 2)) rfl nd (pi_list (C8.pe_c c_castings hr (by decide) (by rfl) (pa_cons (pv 0) pa_nil))) (blkOk_by (own := [("casting", 2)]) (N := N_right_castings) (sc := C8.fnScope s_right_castings) (by decide +kernel)) (fun _ _ _ _ _ => (pg_name (i := 2) nd rfl (Or.inl rfl))) (fun _ _ _ _ _ => (pts_one (pt_cmpR (op_eqD hr.units) (C8.pe_c c_wrong_casting hr (by decide) (by rfl) (pa_cons (pv 0) (pa_cons (pv 1) (pa_cons (pv 2) pa_nil)))) (pe_lst pa_nil) (nomark _)))) (fun _ _ _ _ _ => (pv 2))))), ?_⟩)
  · obtain ⟨z, ⟨a, m, cl, clp, cs, rfl, _⟩, _⟩ := h
    rfl
  · obtain ⟨ls, ⟨a, m, cl, clp, cs, rfl, hp, ⟨n, hm⟩, hcl, hat, hco, rfl⟩, q⟩ := h
    obtain ⟨p, dx, s1, s2, s3, s4, pl⟩ := hp
    refine er_lcF (H := H) (fun c => (m.wrongC cl c).isNone) (er_c1 (ls := castS m.players.length m.dress.length) (ea_1 (ev_var rfl)) fun H1 e => ⟨a, m, rfl, ⟨p, dx, s1, s2, s3, s4, pl.mono e⟩, hm.npl, hm.roles, rfl⟩) (Nat.le_trans (castS_len _ hm.npl _) (Nat.le_trans (pow_small hm.roles) (by decide))) (fun _ => rfl) (fun _ => rfl) (fun l x H1 e hl hx => ?_) H (Ex.refl H) Q q
    obtain ⟨cp, rfl, hcp⟩ := hx
    obtain ⟨l1, l2⟩ := mem_castS hl
    have wv : SpL (sp_wrong_casting A) [.ref a, .ref clp, .ref cp] H1 (iv (list3 (m.wrongC cl l))) := spL_of fun H2 e2 => ⟨a, m, cl, l, clp, cp, cs, rfl, ⟨p, dx, s1, s2, s3, s4, pl.mono (e.trans e2)⟩, e2 _ _ hcp, e2 _ _ (e _ _ hcl), hat.mono fun _ _ z => z.mono (e.trans e2), l2, fun p hp => by rw [l1, hm.fees p hp]; exact Nat.le_refl _, fun x hx => by rw [l1]; exact hco x hx, rfl⟩
    refine et_is (et_test (ev_eqNil (el_c1 (ea_3 (ev_var rfl) (ev_var rfl) (ev_var rfl)) wv) (flat_ivs _))) ?_
    cases m.wrongC cl l <;> rfl
theorem mem_rightC {m : Pm} {cl : List (Nat × Nat)} {c : List Nat} (h : c ∈ m.rightC cl) : CastOk m c := mem_castS (List.mem_filter.mp h).1
/-! ### best_plan -/
def sp_best_plan (A : Ad) : Sp := besSp A isCO fun vs H b => ∃ a m cl clp cs, vs = [.ref a, .ref clp] ∧ PlayR A H a m ∧ Fine m ∧ H clp = some (.lst cs) ∧ Ats (isPr H) cs cl ∧ clOk m cl ∧ b = m.bestP cl
theorem cal_best_plan (T : Txt K mg A) (F : HasDef K mg "best_plan" s_best_plan ["play", "clashes"]) (c_Best : Mak P w K mg base 1 "Best" A.cB (sp_Best A) []) (c_orders : Cal P w K mg base 1 "orders" (sp_orders A) []) (c_right_castings : Cal P w K mg base 3 "right_castings" (sp_right_castings A) []) (c_best_order : Cal P w K mg base 4 "best_order" (sp_best_order A) []) (c_casting_cost : Cal P w K mg base 2 "casting_cost" (sp_casting_cost A) [])
    (c_put : Met P w K mg base 1 A.cB "put" (sp_put A) []) : Cal P w K mg base 5 "best_plan" (sp_best_plan A) [] := by
  have nd := sc_best_plan.nd
  refine def_ok F sc_best_plan (fun vs H Q E h => ?_) (fun f cdv Ar outer s H vs Q E hr h => ⟨_, (pss_cons (ps_set (i := 2) nd rfl (Or.inl rfl) (pe_mk0 c_Best hr (by decide) (by rfl)))
      (pss_cons (ps_set (i := 3) nd rfl (Or.inl rfl) (C8.pe_c c_orders hr (by decide) (by rfl) (pa_cons (pv 0) pa_nil)))
      (pss_cons (ps_for PassesOwn.never rfl (pi_list (C8.pe_c c_right_castings hr (by decide) (by rfl) (pa_cons (pv 0) (pa_cons (pv 1) pa_nil)))) (pg_name (i := 4) nd rfl (Or.inl rfl)) (pss_cons (ps_set (i := 5) nd rfl (Or.inl rfl) (C8.pe_c c_best_order hr (by decide) (by rfl) (pa_cons (pv 0) (pa_cons (pv 4) (pa_cons (pv 3) pa_nil))))) (pss_one (ps_if (pt_cmpR op_notN (pe_fld (pv 5) rfl) pe_non (nomark _)) (pss_one (ps_expr (C8.pe_mt c_put hr (by decide) (pv 2) (pa_cons (pe_op op_add (C8.pe_c c_casting_cost hr (by decide) (by rfl) (pa_cons (pv 0) (pa_cons (pv 4) pa_nil))) (pe_fld (pv 5) rfl)) (pa_cons (pe_fld (pv 5) rfl) (pa_cons (pe_tup (pa_cons (pv 4) (pa_cons (pe_fld (pv 5) rfl) pa_nil))) pa_nil)))))) pss_nil))))
      (pss_one (ps_ret (pv 2)))))), ?_⟩)
  · obtain ⟨z, ⟨a, m, cl, clp, cs, rfl, _⟩, _⟩ := h
    rfl
  · obtain ⟨b, ⟨a, m, cl, clp, cs, rfl, hp, hfine, hcl, hcat, hco, rfl⟩, q⟩ := h
    obtain ⟨p, dx, s1, s2, s3, s4, pl⟩ := hp
    obtain ⟨n, hm⟩ := id hfine
    refine q_best fun fx dxf H1 hfx e1 h1 => ?_
    refine q_asgR (er_c1 (ls := m.orders) (ea_1 (ev_var rfl)) fun H2 e2 => ⟨a, m, rfl, ⟨p, dx, s1, s2, s3, s4, pl.mono (e1.trans e2)⟩, hm.npc, rfl⟩) fun op H2 os hop e2 h2 hos => ?_
    have e12 := e1.trans e2
    refine q_forR (er_c1 (ls := m.rightC cl) (ea_2 (ev_var rfl) (ev_var rfl)) fun H3 e3 => ⟨a, m, cl, clp, cs, rfl, ⟨p, dx, s1, s2, s3, s4, pl.mono (e12.trans e3)⟩, hfine, e3 _ _ (e12 _ _ hcl), hcat.mono fun _ _ z => z.mono (e12.trans e3), hco, rfl⟩) fun rp H3 rs hrp e3 h3 hrs => ?_
    have e13 := e12.trans e3
    refine ⟨fun i σ' H' => ∃ s x y, σ' = [some (.ref a), some (.ref clp), some (.ref fx), some (.ref op), x, y] ∧ Ex (cut fx H3) H' ∧ H' fx = some (.ins A.cB dxf (bS s)) ∧ BR (isCO H') s (((m.rightC cl).take i).foldl m.bp1 none), ?_, ?_, ?_, ?_⟩
    · exact ⟨none, _, _, rfl, cut_ex, e3 _ _ (e2 _ _ h1), trivial⟩
    · rintro i σ' H' _ ⟨s, x, y, _, e, _⟩
      refine e _ _ (cut_at h3 fun z => ?_)
      rw [z] at hrp
      rw [e2 _ _ h1] at hrp
      cases hrp
    · rintro i x σ' H4 hi ⟨s, x0, y0, rfl, e4, h4, hb⟩
      obtain ⟨c, hc, cp, rfl, hcp⟩ := hrs.get hi
      have hcm := List.mem_of_getElem? hc
      obtain ⟨c1, c2⟩ := mem_rightC hcm
      have eH : Ex H H4 := fun b o h => e4 _ _ (cut_at (e13 _ _ h) (ne_of_none h hfx))
      have hcp4 : H4 cp = some (.lst (iv c)) := e4 _ _ (cut_at hcp (ne_of hcp (e3 _ _ (e2 _ _ h1)) (by intro z; cases z)))
      have hop4 : H4 op = some (.lst os) := e4 _ _ (cut_at (e3 _ _ h2) (ne_of (e3 _ _ h2) (e3 _ _ (e2 _ _ h1)) (by intro z; cases z)))
      have hos4 : Ats (isL H4) os m.orders := hos.mono fun v l ⟨r, e, hr⟩ => ⟨r, e, e4 _ _ (cut_at (e3 _ _ hr) (ne_of (e3 _ _ hr) (e3 _ _ (e2 _ _ h1)) (by intro z; cases z)))⟩
      have step : ((m.rightC cl).take (i + 1)).foldl m.bp1 none = m.bp1 (((m.rightC cl).take i).foldl m.bp1 none) c := by
        rw [take_more hc, List.foldl_append]
        rfl
      generalize ((m.rightC cl).take i).foldl m.bp1 none = bb at hb step
      refine q_asgB (ea_3 (ev_var rfl) (ev_var rfl) (ev_var rfl)) (fun H5 e5 => ⟨a, m, c, m.orders, cp, op, os, rfl, ⟨p, dx, s1, s2, s3, s4, pl.mono (eH.trans e5)⟩, hfine, e5 _ _ hcp4, ⟨c1, c2⟩, e5 _ _ hop4, hos4.mono fun _ _ z => z.mono e5, orders_ok hfine, rfl⟩) fun bx bdx H5 sb hbx e5 h5 hbb => ?_
      have pl5 := pl.mono (eH.trans e5)
      have h4' := e5 _ _ h4
      cases hbo : m.bestO c m.orders with
      | none =>
        rw [hbo] at hbb
        cases sb with
        | some sb => exact hbb.elim
        | none =>
          refine s_when (b := false) (et_is (et_test (ev_notN (ev_fld T.clB T.bc (ev_var rfl) h5 (bS_c none)))) rfl) (fun z => by cases z) (fun _ H6 e6 => ⟨s, _, _, rfl, (e4.trans e5).trans e6, e6 _ _ h4', ?_⟩)
          show BR (isCO H6) _ (((m.rightC cl).take (i + 1)).foldl m.bp1 none)
          rw [step]
          unfold Pm.bp1
          rw [hbo]
          exact hb.mono fun _ _ z => z.mono (e5.trans e6)
      | some ob =>
        rw [hbo] at hbb
        cases sb with
        | none => exact hbb.elim
        | some sb =>
          obtain ⟨b1, b2, b3⟩ := hbb
          refine s_when (b := true) (et_is (et_test (ev_notN (ev_fld T.clB T.bc (ev_var rfl) h5 (bS_c (some sb))))) rfl) (fun _ H6 e6 => ?_) (fun z => by cases z)
          have cv : SpV (sp_casting_cost A) [.ref a, .ref cp] H6 (nV (m.castCost c)) := spV_of fun H7 e7 => ⟨a, m, c, cp, rfl, ⟨p, dx, s1, s2, s3, s4, pl5.mono (e6.trans e7)⟩, e7 _ _ (e6 _ _ (e5 _ _ hcp4)), c2, fun p hp => by rw [c1, hm.fees p hp]; exact Nat.le_refl _, hm.npl, by rw [c1]; exact hm.roles, rfl⟩
          have h56 := e6 _ _ h5
          refine s_putU (ev_var rfl) (e6 _ _ h4') (ev_add (ev_c1 (ea_2 (ev_var rfl) (ev_var rfl)) cv) (ev_fld T.clB T.bc (ev_var rfl) h56 (bS_c (some sb)))) (ev_fld T.clB T.bm (ev_var rfl) h56 (bS_k (some sb))) (eu_tup (ea_2 (ev_var rfl) (ev_fld T.clB T.bt (ev_var rfl) h56 (bS_t (some sb)))) (by show 2 ≤ 100000; decide)) fun t H7 e7 h7 => ?_
          have h47 := e7 _ _ (e6 _ _ h4')
          refine ⟨_, _, _, rfl, ?_, upd_same, ?_⟩
          · intro b o h
            have nb : b ≠ fx := fun z => by
              unfold cut at h
              rw [if_pos z] at h
              cases h
            rw [upd_ne nb]
            exact e7 _ _ (e6 _ _ (e5 _ _ (e4 _ _ h)))
          · show BR (isCO _) _ (((m.rightC cl).take (i + 1)).foldl m.bp1 none)
            rw [step]
            unfold Pm.bp1
            rw [hbo]
            show BR _ (put s (m.castCost c + sb.1) sb.2.1 (.ref t)) (put bb (m.castCost c + ob.1) ob.2.1 (c, ob.2.2))
            rw [b1, b2]
            refine (hb.mono fun _ _ z => isCO_updI h47 (z.mono ((e5.trans e6).trans e7))).put (isCO_updI h47 ⟨t, _, _, rfl, h7, ⟨cp, rfl, e7 _ _ (e6 _ _ (e5 _ _ hcp4))⟩, b3.mono (e6.trans e7)⟩)
    · rintro σ' H4 ⟨s, x0, y0, rfl, e4, h4, hb⟩
      rw [hrs.1, List.take_length] at hb
      have eH : Ex H H4 := fun b o h => e4 _ _ (cut_at (e13 _ _ h) (ne_of_none h hfx))
      exact s_ret (ev_var rfl) fun H5 e5 => q fx dxf H5 s hfx (eH.trans e5) (e5 _ _ h4) (hb.mono fun _ _ z => z.mono e5)
/-! ### best_casting -/
def sp_best_casting (A : Ad) : Sp := besSp A isL fun vs H b => ∃ a m cl clp cs, vs = [.ref a, .ref clp] ∧ PlayR A H a m ∧ Fine m ∧ H clp = some (.lst cs) ∧ Ats (isPr H) cs cl ∧ clOk m cl ∧ b = m.bestC cl
theorem cal_best_casting (T : Txt K mg A) (F : HasDef K mg "best_casting" s_best_casting ["play", "clashes"]) (c_Best : Mak P w K mg base 1 "Best" A.cB (sp_Best A) []) (c_right_castings : Cal P w K mg base 3 "right_castings" (sp_right_castings A) []) (c_casting_cost : Cal P w K mg base 2 "casting_cost" (sp_casting_cost A) [])
    (c_put : Met P w K mg base 1 A.cB "put" (sp_put A) []) : Cal P w K mg base 4 "best_casting" (sp_best_casting A) [] := by
  have nd := sc_best_casting.nd
  refine def_ok F sc_best_casting (fun vs H Q E h => ?_) (fun f cdv Ar outer s H vs Q E hr h => ⟨_, (pss_cons (ps_set (i := 2) nd rfl (Or.inl rfl) (pe_mk0 c_Best hr (by decide) (by rfl)))
      (pss_cons (ps_for PassesOwn.never rfl (pi_list (C8.pe_c c_right_castings hr (by decide) (by rfl) (pa_cons (pv 0) (pa_cons (pv 1) pa_nil)))) (pg_name (i := 3) nd rfl (Or.inl rfl)) (pss_one (ps_expr (C8.pe_mt c_put hr (by decide) (pv 2) (pa_cons (C8.pe_c c_casting_cost hr (by decide) (by rfl) (pa_cons (pv 0) (pa_cons (pv 3) pa_nil))) (pa_cons pe_int (pa_cons (pv 3) pa_nil)))))))
      (pss_one (ps_ret (pv 2))))), ?_⟩)
  · obtain ⟨z, ⟨a, m, cl, clp, cs, rfl, _⟩, _⟩ := h
    rfl
  · obtain ⟨b, ⟨a, m, cl, clp, cs, rfl, hp, hfine, hcl, hcat, hco, rfl⟩, q⟩ := h
    obtain ⟨p, dx, s1, s2, s3, s4, pl⟩ := hp
    obtain ⟨n, hm⟩ := id hfine
    refine q_best fun fx dxf H1 hfx e1 h1 => ?_
    refine q_forR (er_c1 (ls := m.rightC cl) (ea_2 (ev_var rfl) (ev_var rfl)) fun H3 e3 => ⟨a, m, cl, clp, cs, rfl, ⟨p, dx, s1, s2, s3, s4, pl.mono (e1.trans e3)⟩, hfine, e3 _ _ (e1 _ _ hcl), hcat.mono fun _ _ z => z.mono (e1.trans e3), hco, rfl⟩) fun rp H3 rs hrp e3 h3 hrs => ?_
    have e13 := e1.trans e3
    refine ⟨fun i σ' H' => ∃ s x, σ' = [some (.ref a), some (.ref clp), some (.ref fx), x] ∧ Ex (cut fx H3) H' ∧ H' fx = some (.ins A.cB dxf (bS s)) ∧ BR (isL H') s (((m.rightC cl).take i).foldl m.bc1 none), ?_, ?_, ?_, ?_⟩
    · exact ⟨none, _, rfl, cut_ex, e3 _ _ h1, trivial⟩
    · rintro i σ' H' _ ⟨s, x, _, e, _⟩
      refine e _ _ (cut_at h3 fun z => ?_)
      rw [z] at hrp
      rw [h1] at hrp
      cases hrp
    · rintro i x σ' H4 hi ⟨s, x0, rfl, e4, h4, hb⟩
      obtain ⟨c, hc, cp, rfl, hcp⟩ := hrs.get hi
      have hcm := List.mem_of_getElem? hc
      obtain ⟨c1, c2⟩ := mem_rightC hcm
      have eH : Ex H H4 := fun b o h => e4 _ _ (cut_at (e13 _ _ h) (ne_of_none h hfx))
      have hcp4 : H4 cp = some (.lst (iv c)) := e4 _ _ (cut_at hcp (ne_of hcp (e3 _ _ h1) (by intro z; cases z)))
      have step : ((m.rightC cl).take (i + 1)).foldl m.bc1 none = m.bc1 (((m.rightC cl).take i).foldl m.bc1 none) c := by
        rw [take_more hc, List.foldl_append]
        rfl
      generalize ((m.rightC cl).take i).foldl m.bc1 none = bb at hb step
      have cv : SpV (sp_casting_cost A) [.ref a, .ref cp] H4 (nV (m.castCost c)) := spV_of fun H7 e7 => ⟨a, m, c, cp, rfl, ⟨p, dx, s1, s2, s3, s4, pl.mono (eH.trans e7)⟩, e7 _ _ hcp4, c2, fun p hp => by rw [c1, hm.fees p hp]; exact Nat.le_refl _, hm.npl, by rw [c1]; exact hm.roles, rfl⟩
      refine s_put (ev_var rfl) h4 (ev_c1 (ea_2 (ev_var rfl) (ev_var rfl)) cv) (ev_c0 1) (ev_var rfl) fun H5 e5 => ⟨_, _, rfl, ?_, upd_same, ?_⟩
      · intro b o h
        have nb : b ≠ fx := fun z => by
          unfold cut at h
          rw [if_pos z] at h
          cases h
        rw [upd_ne nb]
        exact e5 _ _ (e4 _ _ h)
      · show BR (isL _) _ (((m.rightC cl).take (i + 1)).foldl m.bc1 none)
        rw [step]
        have h45 := e5 _ _ h4
        exact (hb.mono fun _ _ z => isL_updI h45 (z.mono e5)).put (isL_updI h45 ⟨cp, rfl, e5 _ _ hcp4⟩)
    · rintro σ' H4 ⟨s, x0, rfl, e4, h4, hb⟩
      rw [hrs.1, List.take_length] at hb
      have eH : Ex H H4 := fun b o h => e4 _ _ (cut_at (e13 _ _ h) (ne_of_none h hfx))
      exact s_ret (ev_var rfl) fun H5 e5 => q fx dxf H5 s hfx (eH.trans e5) (e5 _ _ h4) (hb.mono fun _ _ z => z.mono e5)
end Rc
set_option Elab.async false
set_option linter.all false
set_option maxRecDepth 100000
set_option maxHeartbeats 4000000
/-! # The defs: listed, are_rising, is_casting, the calls that change nothing -/
namespace Rc
open PySem PySem.Spec PyProof.Rows L2 Evl
open C8 (Cal Met Mak)
abbrev jv (l : List Int) : List V := l.map V.int
theorem iv_jv (l : List Nat) : iv l = jv (ns l) := iv_int l
theorem jvl (l : List Nat) : (jv (lst l)).length = l.length + 1 := by
  rw [List.length_map]
  show (ns l).length + 1 = _
  unfold ns
  rw [List.length_map]
theorem jv_lst (l : List Nat) : jv (lst l) = nV l.length :: iv l := by
  rw [iv_jv]
  rfl
section
variable {K : PySem.W.Frag} {mg : Str → Option Value} {A : Ad} {σ : L2.St} {H H' : Hp} {ta tb te tl t0 t1 t2 : TE} {D : Ends} {tu tz : TS} {x y v v0 v1 v2 : V}
theorem el_catL {p : Addr} {xs ys : List V} (ha : EvL ta σ H xs) (hb : Ev tb σ H (.ref p)) (hp : H p = some (.lst ys)) (hl : xs.length + ys.length ≤ 100000) : EvL (tOp rCat ta tb) σ H (xs ++ ys) := fun H1 e Q q =>
  ha H1 e _ fun r H2 hr e2 h2 => hb H2 (e.trans e2) _ fun H3 e3 => ⟨r, p, xs, ys, rfl, rfl, e3 _ _ h2, e3 _ _ (e2 _ _ (e _ _ hp)), sz_of hl, fun s hs => q s _ (fresh_back (e2.trans e3) hs) ((e2.trans e3).trans (Ex.new hs)) upd_same⟩
theorem el_catN {xs ys : List V} (ha : EvL ta σ H xs) (hb : EvL tb σ H ys) (hl : xs.length + ys.length ≤ 100000) : EvL (tOp rCat ta tb) σ H (xs ++ ys) := fun H1 e Q q =>
  ha H1 e _ fun r H2 hr e2 h2 => hb H2 (e.trans e2) _ fun p H3 _ e3 h3 => ⟨r, p, xs, ys, rfl, rfl, e3 _ _ h2, h3, sz_of hl, fun s hs => q s _ (fresh_back (e2.trans e3) hs) ((e2.trans e3).trans (Ex.new hs)) upd_same⟩
/-- arguments, told by what is true of them -/
def EvAP (ta : TA) (σ : L2.St) (H : Hp) (Pr : List V → Hp → Prop) : Prop := ∀ H1, Ex H H1 → ∀ Q : List V → Hp → Prop, (∀ vs H2, Ex H1 H2 → Pr vs H2 → Q vs H2) → ta σ H1 Q
theorem ep_2 {α : Type} {R : Hp → V → α → Prop} {ls : List α} (h0 : Ev t0 σ H v0) (h1 : EvR R t1 σ H ls) : EvAP (tCons t0 (tCons t1 tNil)) σ H fun vs H2 => ∃ p xs, vs = [v0, .ref p] ∧ H2 p = some (.lst xs) ∧ Ats (R H2) xs ls := fun H1 e Q q =>
  h0 H1 e _ fun H2 e2 => h1 H2 (e.trans e2) _ fun p H3 xs _ e3 h3 hat => q _ H3 (e2.trans e3) ⟨p, xs, rfl, h3, hat⟩
theorem ep_3 {α : Type} {R : Hp → V → α → Prop} {ls : List α} (h0 : Ev t0 σ H v0) (h1 : Ev t1 σ H v1) (h2 : EvR R t2 σ H ls) : EvAP (tCons t0 (tCons t1 (tCons t2 tNil))) σ H fun vs H2 => ∃ p xs, vs = [v0, v1, .ref p] ∧ H2 p = some (.lst xs) ∧ Ats (R H2) xs ls := fun H1 e Q q =>
  h0 H1 e _ fun H2 e2 => h1 H2 (e.trans e2) _ fun H3 e3 => h2 H3 ((e.trans e2).trans e3) _ fun p H4 xs _ e4 h4 hat => q _ H4 ((e2.trans e3).trans e4) ⟨p, xs, rfl, h4, hat⟩
theorem ep_2v {α : Type} {R : Hp → V → α → Prop} {ls : List α} (rm : ∀ {H H' : Hp} {v : V} {y : α}, Ex H H' → R H v y → R H' v y) (h0 : Ev t0 σ H v0) (h1 : EvR R t1 σ H ls) (h2 : Ev t2 σ H v2) : EvAP (tCons t0 (tCons t1 (tCons t2 tNil))) σ H fun vs H2 => ∃ p xs, vs = [v0, .ref p, v2] ∧ H2 p = some (.lst xs) ∧ Ats (R H2) xs ls := fun H1 e Q q =>
  h0 H1 e _ fun H2 e2 => h1 H2 (e.trans e2) _ fun p H3 xs _ e3 h3 hat => h2 H3 ((e.trans e2).trans e3) _ fun H4 e4 => q _ H4 ((e2.trans e3).trans e4) ⟨p, xs, rfl, e4 _ _ h3, hat.mono fun _ _ z => rm e4 z⟩
theorem q_asgBP {α : Type} {R : Hp → V → α → Prop} {pre : List V → Hp → B α → Prop} {b : B α} {Pr : List V → Hp → Prop} {E : XK} {t : TA} {i : Nat} (h : EvAP t σ H Pr) (hs : ∀ vs H1, Ex H H1 → Pr vs H1 → pre vs H1 b)
    (k : ∀ x dx H1 s, H x = none → Ex H H1 → H1 x = some (.ins A.cB dx (bS s)) → BR (R H1) s b → tz D (σ.set i (some (.ref x))) H1) : tSeq (tAsg (tCall (besSp A R pre) [] E t) (gName i)) tz D σ H :=
  h H (Ex.refl H) _ fun vs H1 e pr => by
    rw [List.append_nil]
    exact ⟨b, hs vs H1 e pr, fun x dx H2 s hx e2 h2 hb => k x dx H2 s (fresh_back e hx) (e.trans e2) h2 hb⟩
theorem el_cP {pre : List V → Hp → List V → Prop} {Pr : List V → Hp → Prop} {xs : List V} {E : XK} {t : TA} (h : EvAP t σ H Pr) (hs : ∀ vs H1, Ex H H1 → Pr vs H1 → pre vs H1 xs) : EvL (tCall (lstSp pre) [] E t) σ H xs := fun H1 e Q q =>
  h H1 e _ fun vs H2 e2 pr => by
    rw [List.append_nil]
    exact ⟨xs, hs vs H2 (e.trans e2) pr, fun p H3 hp e3 h3 => q p H3 (fresh_back e2 hp) (e2.trans e3) h3⟩
theorem q_asgT {te : TE} {t : Addr} {i j : Nat} (h : Ev te σ H (.ref t)) (ht : H t = some (.tup [x, y])) (k : ∀ H1, Ex H H1 → tz D ((σ.set i (some x)).set j (some y)) H1) : tSeq (tAsg te (gTup K 2 (gCons (gName i) (gCons (gName j) gNil)))) tz D σ H :=
  h H (Ex.refl H) _ fun H1 e => gTup2 (e _ _ ht) (k H1 e)
/-- over range(lo, n) -/
theorem el_lcR2 {te : TE} {t : TT} {ta : TA} {j lo n : Nat} {vs : List Nat} (f : Nat → Bool) (v : Nat → V) (h : EvA ta σ H [nV lo, nV n]) (h1 : lo ≤ 40000) (h2 : n ≤ 40000) (hw : ∀ x, wipe ((wipe σ vs).set j (some x)) vs = wipe σ vs)
    (ht : ∀ (i : Nat) H1, Ex H H1 → lo + i < n → EvT t ((wipe σ vs).set j (some (nV (lo + i)))) H1 (f i)) (he : ∀ (i : Nat) H1, Ex H H1 → lo + i < n → f i = true → Ev te ((wipe σ vs).set j (some (nV (lo + i)))) H1 (v i)) :
    EvL (tLc (iRng2 ta) (gName j) t te vs) σ H (given (n - lo) f v) := fun H0 e Q q => h H0 e _ fun H1 e1 => ⟨(lo : Int), (n : Int), rfl, ⟨by omega, by omega, by omega, by omega⟩, fun Dl hD => by
  have en : ((n : Int) - (lo : Int)).toNat = n - lo := by omega
  rw [en]
  exact lc_range (lo := (lo : Int)) (n := n - lo) (Cw H1 f v Dl) ⟨hD, Ex.new hD, upd_same⟩ (fun i H' hi p => ⟨hw _, cw_turn p (by omega) (ht i H1 (e.trans e1) (by omega)) (fun hf => he i H1 (e.trans e1) (by omega) hf)⟩) (fun H' p => q Dl H' (fresh_back e1 p.1) (e1.trans p.2.1) p.2.2)⟩
theorem el_neg {n : Nat} : EvL (tLst (tCons (tUn (rU fun i => .int (-i)) (tC (.int n))) tNil)) σ H [.int (-n)] := el_lst (ea_1 (ev_un ev_c ru_neg)) (by show 1 ≤ 100000; decide)
end
variable {P : Program} {w : World} {K : PySem.W.Frag} {mg : Str → Option Value} {base : Heap} {A : Ad}
/-! ### listed, are_rising, is_casting -/
def sp_listed (A : Ad) : Sp := lstSp fun vs H xs => ∃ rp l, vs = [.ref rp] ∧ H rp = some (.lst (iv l)) ∧ l.length ≤ 1000 ∧ xs = jv (lst l)
theorem cal_listed (T : Txt K mg A) (F : HasDef K mg "listed" s_listed ["row"]) : Cal P w K mg base 1 "listed" (sp_listed A) [] := by
  have nd := sc_listed.nd
  refine def_ok F sc_listed (fun vs H Q E h => ?_) (fun f cdv Ar outer s H vs Q E hr h => ⟨_, (pss_one (ps_ret (pe_op op_cat (pe_lst (pa_cons (pe_callB call_len_seq (by rfl) T.len PySem.boot_len (pa_cons (pv 0) pa_nil)) pa_nil)) (pv 0)))), ?_⟩)
  · obtain ⟨z, ⟨rp, l, rfl, _⟩, _⟩ := h
    rfl
  · obtain ⟨xs, ⟨rp, l, rfl, h1, hl, rfl⟩, q⟩ := h
    refine s_retL (el_is (el_catL (el_lst (ea_1 (ev_lenL (ev_var rfl) h1 (List.length_map ..))) (by show 1 ≤ 100000; decide)) (ev_var rfl) h1 (by rw [List.length_map]; show 1 + l.length ≤ 100000; omega)) ?_) q
    rw [jv_lst]
    rfl
theorem el_listed {σ : L2.St} {H : Hp} {te : TE} {l : List Nat} {E : XK} (h : EvL te σ H (iv l)) (hl : l.length ≤ 1000) : EvL (tCall (sp_listed A) [] E (tCons te tNil)) σ H (jv (lst l)) := fun H1 e Q q =>
  h H1 e _ fun p H2 hp e2 h2 => by
    show sp_listed A ([.ref p] ++ []) H2 Q E
    exact ⟨_, ⟨p, l, rfl, h2, hl, rfl⟩, fun r H3 hr e3 h3 => q r H3 (fresh_back e2 hr) (e2.trans e3) h3⟩
theorem el_listedL {σ : L2.St} {H : Hp} {te : TE} {l : List Nat} {p : Addr} {E : XK} (h : Ev te σ H (.ref p)) (hp : H p = some (.lst (iv l))) (hl : l.length ≤ 1000) : EvL (tCall (sp_listed A) [] E (tCons te tNil)) σ H (jv (lst l)) :=
  el_c1 (ea_1 h) (spL_of fun H1 e => ⟨p, l, rfl, e _ _ hp, hl, rfl⟩)
def sp_are_rising (A : Ad) : Sp := valSp fun vs H z => ∃ a m rp r, vs = [.ref a, .ref rp] ∧ PlayR A H a m ∧ H rp = some (.lst (iv r)) ∧ r.length ≤ 1000 ∧ z = .bl (m.rise r)
theorem cal_are_rising (T : Txt K mg A) (F : HasDef K mg "are_rising" s_are_rising ["play", "roles"]) : Cal P w K mg base 1 "are_rising" (sp_are_rising A) [] := by
  have nd := sc_are_rising.nd
  refine def_ok F sc_are_rising (fun vs H Q E h => ?_) (fun f cdv Ar outer s H vs Q E hr h => ⟨_, (pss_cons (ps_if (pt_cmpR (op_neD hr.units) (pe_lc (own := [("role", 2)]) (g := (gName 2)) (tt := (tTest (tOp (rI0 fun i j => .bl (decide (j ≤ i))) (tVar 2) (tCB (rLenS K) (tCons (tFld K (tVar 0) "dressing") tNil))))) (te := (tVar 2)) rfl nd (pi_list (pv 1)) (blkOk_by (own := [("role", 2)]) (N := N_are_rising) (sc := C8.fnScope s_are_rising) (by decide +kernel)) (fun _ _ _ _ _ => (pg_name (i := 2) nd rfl (Or.inl rfl))) (fun _ _ _ _ _ => (pts_one (pt_cmpR op_ge (pv 2) (pe_callB call_len_seq (by rfl) T.len PySem.boot_len (pa_cons (pe_fld (pv 0) rfl) pa_nil)) (nomark _)))) (fun _ _ _ _ _ => (pv 2))) (pe_lst pa_nil) (nomark _)) (pss_one (ps_ret pe_bl)) pss_nil)
      (pss_one (ps_ret (pe_cmpR (op_eqD hr.units) (pe_lc (own := [("at", 3)]) (g := (gName 3)) (tt := (tTest (tOp (rI0 fun i j => .bl (decide (i ≤ j))) (tOp (rIxL K) (tVar 1) (tVar 3)) (tOp (rIxL K) (tVar 1) (tOp (rI0 fun i j => .int (i - j)) (tVar 3) (tC (.int 1))))))) (te := (tVar 3)) rfl nd (pi_range2 (by rfl) T.range (pa_cons pe_int (pa_cons (pe_callB call_len_seq (by rfl) T.len PySem.boot_len (pa_cons (pv 1) pa_nil)) pa_nil))) (blkOk_by (own := [("at", 3)]) (N := N_are_rising) (sc := C8.fnScope s_are_rising) (by decide +kernel)) (fun _ _ _ _ _ => (pg_name (i := 3) nd rfl (Or.inl rfl))) (fun _ _ _ _ _ => (pts_one (pt_cmpR op_le (pe_ix ix_list (pv 1) (pv 3) (fun _ _ => rfl)) (pe_ix ix_list (pv 1) (pe_op op_sub (pv 3) pe_int) (fun _ _ => rfl)) (nomark _)))) (fun _ _ _ _ _ => (pv 3))) (pe_lst pa_nil) (nomark _))))), ?_⟩)
  · obtain ⟨z, ⟨a, m, rp, r, rfl, _⟩, _⟩ := h
    rfl
  · obtain ⟨z, ⟨a, m, rp, r, rfl, ⟨p, dx, s1, s2, s3, s4, pl⟩, h1, hl, rfl⟩, q⟩ := h
    have ld : (iv m.dress).length = m.dress.length := List.length_map ..
    have lr : (iv r).length = r.length := List.length_map ..
    refine q_when (b := !r.all fun x => decide (x < m.dress.length)) (et_is (et_test (ev_neNil (xs := given (iv r).length (fun i => decide (m.dress.length ≤ r.getD i 0)) (fun i => nV (r.getD i 0))) (el_lcL (fun i => decide (m.dress.length ≤ r.getD i 0)) (fun i => nV (r.getD i 0)) (ev_var rfl) (sq_of h1) (by omega) (fun _ => rfl) ?_ ?_) ?_)) ?_) ?_ ?_
    · intro i x H1 e hi
      obtain ⟨il, rfl⟩ := iv_get hi
      have pl1 := pl.mono e
      exact et_test (ev_ge (ev_var rfl) (ev_lenL (ev_fld T.clP T.pd (ev_var rfl) pl1.ob (pF_d p)) pl1.dr ld))
    · intro i x H1 e hi _
      obtain ⟨il, rfl⟩ := iv_get hi
      exact ev_var rfl
    · rw [given_iv]
      exact flat_ivs _
    · rw [given_nil, Bool.not_not, Bool.eq_iff_iff, List.any_eq_true, Bool.not_eq_true', List.all_eq_false, lr]
      constructor
      · rintro ⟨i, hi, h⟩
        have h := of_decide_eq_true h
        exact ⟨_, getD_mem (List.mem_range.mp hi), by rw [decide_eq_true_eq]; omega⟩
      · rintro ⟨x, hx, h⟩
        obtain ⟨i, hi⟩ := List.mem_iff_getElem?.mp hx
        rw [decide_eq_true_eq] at h
        refine ⟨i, List.mem_range.mpr (nat_get hi), ?_⟩
        rw [List.getD_eq_getElem?_getD, hi]
        exact decide_eq_true (by show m.dress.length ≤ x; omega)
    · intro hb H1 e
      refine s_ret ev_c fun H2 e2 => ?_
      have : m.rise r = false := by
        unfold Pm.rise
        rw [show (r.all fun x => decide (x < m.dress.length)) = false by simpa using hb]
        rfl
      rw [this] at q
      exact q H2 (e.trans e2)
    · intro hb H1 e
      have h1' := e _ _ h1
      refine s_ret (ev_is (ev_eqNil (xs := given (r.length - 1) (fun i => decide (r.getD (1 + i) 0 ≤ r.getD i 0)) (fun i => nV (1 + i))) (el_lcR2 (lo := 1) (n := r.length) (fun i => decide (r.getD (1 + i) 0 ≤ r.getD i 0)) (fun i => nV (1 + i)) (ea_2 (ev_c0 1) (ev_lenL (ev_var rfl) h1' lr)) (by omega) (by omega) (fun _ => rfl) ?_ ?_) ?_) ?_) fun H2 e2 => q H2 (e.trans e2)
      · intro i H2 e2 hi
        have h2 := e2 _ _ h1'
        refine et_test (ev_le (ev_at (ev_var rfl) (ev_var rfl) h2 (by omega)) (ev_at (j := i) (ev_var rfl) (ev_is (ev_sub (ev_var rfl) (ev_c0 1) (by omega)) (by congr 2; omega)) h2 (by omega)))
      · intro i H2 e2 hi _
        exact ev_var rfl
      · rw [given_iv]
        exact flat_ivs _
      · rw [given_nil]
        congr 1
        unfold Pm.rise
        rw [show (r.all fun x => decide (x < m.dress.length)) = true by simpa using hb, Bool.true_and]
        unfold risingAt
        rw [Bool.eq_iff_iff, Bool.not_eq_true', List.any_eq_false, List.all_eq_true]
        constructor
        · intro h i hi
          have := h i hi
          rw [decide_eq_true_eq] at this
          rw [Nat.add_comm]
          exact decide_eq_true (by omega)
        · intro h i hi
          have := of_decide_eq_true (h i hi)
          rw [Nat.add_comm] at this
          rw [decide_eq_true_eq]
          omega
def sp_is_casting (A : Ad) : Sp := valSp fun vs H z => ∃ a m cp c, vs = [.ref a, .ref cp] ∧ PlayR A H a m ∧ H cp = some (.lst (iv c)) ∧ c.length ≤ 1000 ∧ z = .bl (m.castOk c)
theorem cal_is_casting (T : Txt K mg A) (F : HasDef K mg "is_casting" s_is_casting ["play", "casting"]) : Cal P w K mg base 1 "is_casting" (sp_is_casting A) [] := by
  have nd := sc_is_casting.nd
  refine def_ok F sc_is_casting (fun vs H Q E h => ?_) (fun f cdv Ar outer s H vs Q E hr h => ⟨_, (pss_one (ps_ret (pe_and (pe_cmpR op_eq (pe_callB call_len_seq (by rfl) T.len PySem.boot_len (pa_cons (pv 1) pa_nil)) (pe_callB call_len_seq (by rfl) T.len PySem.boot_len (pa_cons (pe_fld (pv 0) rfl) pa_nil)) (nomark _)) (pe_one (pe_cmpR (op_eqD hr.units) (pe_lc (own := [("own", 2)]) (g := (gName 2)) (tt := (tTest (tOp (rI0 fun i j => .bl (decide (j ≤ i))) (tVar 2) (tCB (rLenS K) (tCons (tFld K (tVar 0) "players") tNil))))) (te := (tVar 2)) rfl nd (pi_list (pv 1)) (blkOk_by (own := [("own", 2)]) (N := N_is_casting) (sc := C8.fnScope s_is_casting) (by decide +kernel)) (fun _ _ _ _ _ => (pg_name (i := 2) nd rfl (Or.inl rfl))) (fun _ _ _ _ _ => (pts_one (pt_cmpR op_ge (pv 2) (pe_callB call_len_seq (by rfl) T.len PySem.boot_len (pa_cons (pe_fld (pv 0) rfl) pa_nil)) (nomark _)))) (fun _ _ _ _ _ => (pv 2))) (pe_lst pa_nil) (nomark _)))))), ?_⟩)
  · obtain ⟨z, ⟨a, m, cp, c, rfl, _⟩, _⟩ := h
    rfl
  · obtain ⟨z, ⟨a, m, cp, c, rfl, ⟨p, dx, s1, s2, s3, s4, pl⟩, h1, hl, rfl⟩, q⟩ := h
    have ld : (iv m.dress).length = m.dress.length := List.length_map ..
    have lc : (iv c).length = c.length := List.length_map ..
    refine s_ret (ev_is (ev_andV (a := decide (c.length = m.dress.length)) (b := c.all fun a => decide (a < m.players.length)) (ev_eqI (ev_lenL (ev_var rfl) h1 lc) (ev_lenL (ev_fld T.clP T.pd (ev_var rfl) pl.ob (pF_d p)) pl.dr ld)) fun _ => ev_is (ev_eqNil (xs := given (iv c).length (fun i => decide (m.players.length ≤ c.getD i 0)) (fun i => nV (c.getD i 0))) (el_lcL (fun i => decide (m.players.length ≤ c.getD i 0)) (fun i => nV (c.getD i 0)) (ev_var rfl) (sq_of h1) (by omega) (fun _ => rfl) ?_ ?_) ?_) ?_) rfl) q
    · intro i x H1 e hi
      obtain ⟨il, rfl⟩ := iv_get hi
      have pl1 := pl.mono e
      exact et_test (ev_ge (ev_var rfl) (ev_lenL (ev_fld T.clP T.pl (ev_var rfl) pl1.ob (pF_l p)) pl1.pl pl1.pls.1))
    · intro i x H1 e hi _
      obtain ⟨il, rfl⟩ := iv_get hi
      exact ev_var rfl
    · rw [given_iv]
      exact flat_ivs _
    · rw [given_nil]
      congr 1
      rw [Bool.eq_iff_iff, Bool.not_eq_true', List.any_eq_false, List.all_eq_true, lc]
      constructor
      · intro h x hx
        obtain ⟨i, hi⟩ := List.mem_iff_getElem?.mp hx
        have := h i (List.mem_range.mpr (nat_get hi))
        rw [List.getD_eq_getElem?_getD, hi, decide_eq_true_eq] at this
        exact decide_eq_true (by
          have this : ¬ m.players.length ≤ x := this
          omega)
      · intro h i hi
        have := of_decide_eq_true (h _ (getD_mem (List.mem_range.mp hi)))
        rw [decide_eq_true_eq]
        omega
/-! ### order -/
theorem clashes_ok {m : Pm} (h : Fine m) : clOk m m.clashes := fun x hx => by
  obtain ⟨n, h⟩ := h
  obtain ⟨a, ha, hx⟩ := List.mem_flatMap.mp (show x ∈ (List.range m.dress.length).flatMap fun a => m.clRow a (m.dress.length - (a + 1)) from hx)
  obtain ⟨d, hd, rfl⟩ := List.mem_map.mp (List.mem_filter.mp hx).1
  have ha := List.mem_range.mp ha
  have hd := List.mem_range.mp hd
  show a < m.dress.length ∧ a + 1 + d < m.dress.length
  omega
theorem castOk_of {m : Pm} {c : List Nat} (h : m.castOk c = true) : CastOk m c := by
  unfold Pm.castOk at h
  rw [Bool.and_eq_true, decide_eq_true_eq, List.all_eq_true] at h
  exact ⟨h.1, fun x hx => of_decide_eq_true (h.2 x hx)⟩
theorem best_in {α : Type} {f : B α → α → B α} {pr : α → Prop} (hf : ∀ b c, (∀ z, b = some z → pr z.2.2) → pr c → ∀ z, f b c = some z → pr z.2.2) : ∀ (cs : List α) (b : B α), (∀ c ∈ cs, pr c) → (∀ z, b = some z → pr z.2.2) → ∀ z, cs.foldl f b = some z → pr z.2.2
  | [], b, _, hb, z, e => hb z e
  | c :: r, b, hc, hb, z, e => best_in hf r (f b c) (fun x hx => hc x (List.mem_cons_of_mem _ hx)) (hf b c hb (hc c (List.mem_cons_self ..))) z e
theorem put_in {α : Type} {pr : α → Prop} {b : B α} {c k : Nat} {x : α} (hb : ∀ z, b = some z → pr z.2.2) (hx : pr x) : ∀ z, put b c k x = some z → pr z.2.2 := fun z e => by
  cases b with
  | none =>
    have e := (Option.some.inj (show some (c, k, x) = some z from e)).symm
    subst e
    exact hx
  | some y =>
    by_cases c1 : c < y.1
    · have e := (Option.some.inj ((if_pos c1).symm.trans e)).symm
      subst e
      exact hx
    · by_cases c2 : c = y.1
      · have e := (Option.some.inj (((if_neg c1).trans (if_pos c2)).symm.trans e)).symm
        subst e
        exact hb y rfl
      · have e := (Option.some.inj (((if_neg c1).trans (if_neg c2)).symm.trans e)).symm
        subst e
        exact hb _ rfl
theorem bestC_ok {m : Pm} {cl : List (Nat × Nat)} {y : Nat × Nat × List Nat} (h : m.bestC cl = some y) : CastOk m y.2.2 :=
  best_in (f := m.bc1) (pr := CastOk m) (fun b c hb hc => put_in hb hc) (m.rightC cl) none (fun c hc => mem_rightC hc) (fun z e => nomatch e) y h
theorem bestO_len {m : Pm} {c : List Nat} {y : Nat × Nat × List Nat} (h : m.bestO c m.orders = some y) : y.2.2.length = m.pieces.length := by
  refine best_in (f := m.bo1 c) (pr := fun o : List Nat => o.length = m.pieces.length) (fun b o hb hc z e => ?_) m.orders none (fun o ho => ordS_mem ho) (fun z e => nomatch e) y h
  unfold Pm.bo1 at e
  by_cases q : (m.wrongO o (m.stays c o)).isNone = true
  · rw [if_pos q] at e
    exact put_in (pr := fun o : List Nat => o.length = m.pieces.length) hb hc z e
  · rw [if_neg q] at e
    exact hb z e
theorem bestP_ok {m : Pm} {cl : List (Nat × Nat)} {y : Nat × Nat × List Nat × List Nat} (h : m.bestP cl = some y) : CastOk m y.2.2.1 ∧ y.2.2.2.length = m.pieces.length := by
  unfold Pm.bestP at h
  have key : ∀ (cs : List (List Nat)) (b : B (List Nat × List Nat)), (∀ c ∈ cs, CastOk m c) → (∀ z, b = some z → CastOk m z.2.2.1 ∧ z.2.2.2.length = m.pieces.length) → ∀ z, cs.foldl m.bp1 b = some z → CastOk m z.2.2.1 ∧ z.2.2.2.length = m.pieces.length := by
    intro cs
    induction cs with
    | nil => exact fun b _ hb z e => hb z e
    | cons c r ih =>
      intro b hc hb z e
      refine ih (m.bp1 b c) (fun x hx => hc x (List.mem_cons_of_mem _ hx)) (fun z e => ?_) z e
      unfold Pm.bp1 at e
      cases q : m.bestO c m.orders with
      | none =>
        rw [q] at e
        exact hb z e
      | some o =>
        rw [q] at e
        exact put_in (pr := fun co : List Nat × List Nat => CastOk m co.1 ∧ co.2.length = m.pieces.length) hb ⟨hc c (List.mem_cons_self ..), bestO_len q⟩ z e
  exact key _ none (fun c hc => mem_rightC hc) (fun z e => nomatch e) y h
def sp_order (A : Ad) : Sp := lstSp fun vs H xs => ∃ a m cp c, vs = [.ref a, .ref cp] ∧ PlayR A H a m ∧ Fine m ∧ H cp = some (.lst (iv c)) ∧ c.length ≤ 20 ∧ xs = jv (aOrder m c)
theorem cal_order (T : Txt K mg A) (F : HasDef K mg "order" s_order ["play", "casting"]) (c_is_casting : Cal P w K mg base 1 "is_casting" (sp_is_casting A) []) (c_best_order : Cal P w K mg base 4 "best_order" (sp_best_order A) []) (c_orders : Cal P w K mg base 1 "orders" (sp_orders A) []) (c_listed : Cal P w K mg base 1 "listed" (sp_listed A) []) :
    Cal P w K mg base 5 "order" (sp_order A) [] := by
  have nd := sc_order.nd
  refine def_ok F sc_order (fun vs H Q E h => ?_) (fun f cdv Ar outer s H vs Q E hr h => ⟨_, (pss_cons (ps_if (pt_not (pt_val (C8.pe_c c_is_casting hr (by decide) (by rfl) (pa_cons (pv 0) (pa_cons (pv 1) pa_nil))))) (pss_one (ps_ret (pe_lst (pa_cons (pe_un un_neg pe_int) pa_nil)))) pss_nil)
      (pss_cons (ps_set (i := 2) nd rfl (Or.inl rfl) (C8.pe_c c_best_order hr (by decide) (by rfl) (pa_cons (pv 0) (pa_cons (pv 1) (pa_cons (C8.pe_c c_orders hr (by decide) (by rfl) (pa_cons (pv 0) pa_nil)) pa_nil)))))
      (pss_cons (ps_if (pt_cmpR op_isN (pe_fld (pv 2) rfl) pe_non (nomark _)) (pss_one (ps_ret (pe_lst (pa_cons (pe_un un_neg pe_int) pa_nil)))) pss_nil)
      (pss_one (ps_ret (pe_op op_cat (pe_op op_cat (pe_lst (pa_cons (pe_fld (pv 2) rfl) pa_nil)) (C8.pe_c c_listed hr (by decide) (by rfl) (pa_cons (pe_lst (pa_cons (pe_fld (pv 2) rfl) pa_nil)) pa_nil))) (C8.pe_c c_listed hr (by decide) (by rfl) (pa_cons (pe_fld (pv 2) rfl) pa_nil)))))))), ?_⟩)
  · obtain ⟨z, ⟨a, m, cp, c, rfl, _⟩, _⟩ := h
    rfl
  · obtain ⟨xs, ⟨a, m, cp, c, rfl, hp, hfine, hc, hl, rfl⟩, q⟩ := h
    obtain ⟨p, dx, s1, s2, s3, s4, pl⟩ := hp
    obtain ⟨n, hm⟩ := id hfine
    refine q_when (et_not (et_B (ev_c1 (ea_2 (ev_var rfl) (ev_var rfl)) (spV_of fun H1 e => ⟨a, m, cp, c, rfl, ⟨p, dx, s1, s2, s3, s4, pl.mono e⟩, e _ _ hc, by omega, rfl⟩)))) (fun hb H1 e => ?_) (fun hb H1 e => ?_)
    · refine s_retL el_neg fun r H2 hr2 e2 h2 => ?_
      have ea : aOrder m c = [-1] := if_pos hb
      rw [ea] at q
      exact q r H2 (fresh_back e hr2) (e.trans e2) h2
    · have hok : m.castOk c = true := by simpa using hb
      have ea : aOrder m c = match m.bestO c m.orders with
          | none => [-6]
          | some y => (y.1 : Int) :: (lst [y.2.1] ++ lst y.2.2) := if_neg (by rw [hb]; decide)
      rw [ea] at q
      refine q_asgBP (b := m.bestO c m.orders) (ep_3 (ls := m.orders) (ev_var rfl) (ev_var rfl) (er_c1 (ea_1 (ev_var rfl)) fun H2 e2 => ⟨a, m, rfl, ⟨p, dx, s1, s2, s3, s4, pl.mono (e.trans e2)⟩, hm.npc, rfl⟩)) (fun vs H2 e2 ⟨op, os, ev, ho, hos⟩ => ⟨a, m, c, m.orders, cp, op, os, ev, ⟨p, dx, s1, s2, s3, s4, pl.mono (e.trans e2)⟩, hfine, e2 _ _ (e _ _ hc), castOk_of hok, ho, hos, orders_ok hfine, rfl⟩) fun bx bdx H3 sb hbx e3 h3 hbb => ?_
      have e13 := e.trans e3
      cases hbo : m.bestO c m.orders with
      | none =>
        rw [hbo] at hbb q
        cases sb with
        | some sb => exact hbb.elim
        | none =>
          refine q_when (b := true) (et_is (et_test (ev_isN (ev_fld T.clB T.bc (ev_var rfl) h3 (bS_c none)))) rfl) (fun _ H4 e4 => ?_) (fun z => by cases z)
          exact s_retL el_neg fun r H5 hr5 e5 h5 => q r H5 (fresh_back (e13.trans e4) hr5) ((e13.trans e4).trans e5) h5
      | some y =>
        have hly := bestO_len hbo
        have hnp := hm.npc
        rw [hbo] at hbb q
        cases sb with
        | none => exact hbb.elim
        | some sb =>
          obtain ⟨b1, b2, tp, b3, b4⟩ := hbb
          refine q_when (b := false) (et_is (et_test (ev_isN (ev_fld T.clB T.bc (ev_var rfl) h3 (bS_c (some sb))))) rfl) (fun z => by cases z) (fun _ H4 e4 => ?_)
          have h4 := e4 _ _ h3
          refine s_retL (el_catN (el_catN (el_lst (ea_1 (ev_fld T.clB T.bc (ev_var rfl) h4 (bS_c (some sb)))) (by show 1 ≤ 100000; decide)) (el_listed (l := [sb.2.1]) (el_lst (ea_1 (ev_fld T.clB T.bm (ev_var rfl) h4 (bS_k (some sb)))) (by show 1 ≤ 100000; decide)) (by show 1 ≤ 1000; decide)) (by show 1 + 2 ≤ 100000; decide)) (el_listedL (l := y.2.2) (ev_is (ev_fld T.clB T.bt (ev_var rfl) h4 (bS_t (some sb))) b3) (e4 _ _ b4) (by omega)) (by
            simp only [List.length_append, jvl, List.length_cons, List.length_nil]
            omega)) fun r H5 hr5 e5 h5 => q r H5 (fresh_back (e13.trans e4) hr5) ((e13.trans e4).trans e5) ?_
          rw [h5]
          show some (HO.lst ((nV sb.1 :: jv (lst [sb.2.1])) ++ jv (lst y.2.2))) = some (HO.lst (jv ((y.1 : Int) :: (lst [y.2.1] ++ lst y.2.2))))
          rw [← b1, ← b2]
          unfold jv
          rw [List.map_cons, List.map_append]
          rfl
/-! ### best -/
def sp_best (A : Ad) : Sp := lstSp fun vs H xs => ∃ a m, vs = [.ref a] ∧ PlayR A H a m ∧ Fine m ∧ xs = jv (aBest m)
theorem cal_best (T : Txt K mg A) (F : HasDef K mg "best" s_best ["play"]) (c_best_plan : Cal P w K mg base 5 "best_plan" (sp_best_plan A) []) (c_clashing : Cal P w K mg base 4 "clashing" (sp_clashing A) []) (c_casting_cost : Cal P w K mg base 2 "casting_cost" (sp_casting_cost A) []) (c_listed : Cal P w K mg base 1 "listed" (sp_listed A) []) :
    Cal P w K mg base 6 "best" (sp_best A) [] := by
  have nd := sc_best.nd
  refine def_ok F sc_best (fun vs H Q E h => ?_) (fun f cdv Ar outer s H vs Q E hr h => ⟨_, (pss_cons (ps_set (i := 1) nd rfl (Or.inl rfl) (C8.pe_c c_best_plan hr (by decide) (by rfl) (pa_cons (pv 0) (pa_cons (C8.pe_c c_clashing hr (by decide) (by rfl) (pa_cons (pv 0) pa_nil)) pa_nil))))
      (pss_cons (ps_if (pt_cmpR op_isN (pe_fld (pv 1) rfl) pe_non (nomark _)) (pss_one (ps_ret (pe_lst (pa_cons (pe_un un_neg pe_int) pa_nil)))) pss_nil)
      (pss_cons (ps_asg (pe_fld (pv 1) rfl) (pg_tup rfl (pgs_cons (pg_name (i := 2) nd rfl (Or.inl rfl)) (pgs_cons (pg_name (i := 3) nd rfl (Or.inl rfl)) pgs_nil))))
      (pss_one (ps_ret (pe_op op_cat (pe_op op_cat (pe_op op_cat (pe_lst (pa_cons (pe_fld (pv 1) rfl) pa_nil)) (C8.pe_c c_listed hr (by decide) (by rfl) (pa_cons (pe_lst (pa_cons (pe_fld (pv 1) rfl) (pa_cons (C8.pe_c c_casting_cost hr (by decide) (by rfl) (pa_cons (pv 0) (pa_cons (pv 2) pa_nil))) pa_nil))) pa_nil))) (C8.pe_c c_listed hr (by decide) (by rfl) (pa_cons (pv 2) pa_nil))) (C8.pe_c c_listed hr (by decide) (by rfl) (pa_cons (pv 3) pa_nil)))))))), ?_⟩)
  · obtain ⟨z, ⟨a, m, rfl, _⟩, _⟩ := h
    rfl
  · obtain ⟨xs, ⟨a, m, rfl, hp, hfine, rfl⟩, q⟩ := h
    obtain ⟨p, dx, s1, s2, s3, s4, pl⟩ := hp
    obtain ⟨n, hm⟩ := id hfine
    refine q_asgBP (b := m.bestP m.clashes) (ep_2 (ls := m.clashes) (ev_var rfl) (er_c1 (ea_1 (ev_var rfl)) fun H2 e2 => ⟨a, m, rfl, ⟨p, dx, s1, s2, s3, s4, pl.mono e2⟩, hm.nsc, hm.roles, rfl⟩)) (fun vs H2 e2 ⟨cp, cs, ev, hc, hcs⟩ => ⟨a, m, m.clashes, cp, cs, ev, ⟨p, dx, s1, s2, s3, s4, pl.mono e2⟩, hfine, hc, hcs, clashes_ok hfine, rfl⟩) fun bx bdx H3 sb hbx e3 h3 hbb => ?_
    unfold aBest at q
    cases hbo : m.bestP m.clashes with
    | none =>
      rw [hbo] at hbb q
      cases sb with
      | some sb => exact hbb.elim
      | none =>
        refine q_when (b := true) (et_is (et_test (ev_isN (ev_fld T.clB T.bc (ev_var rfl) h3 (bS_c none)))) rfl) (fun _ H4 e4 => ?_) (fun z => by cases z)
        exact s_retL el_neg fun r H5 hr5 e5 h5 => q r H5 (fresh_back (e3.trans e4) hr5) ((e3.trans e4).trans e5) h5
    | some y =>
      obtain ⟨⟨hc1, hc2⟩, hly⟩ := bestP_ok hbo
      have hnp := hm.npc
      have hnr := hm.roles
      rw [hbo] at hbb q
      cases sb with
      | none => exact hbb.elim
      | some sb =>
        obtain ⟨b1, b2, t, v1, v2, b3, b4, ⟨cp, rfl, b5⟩, ⟨op, rfl, b6⟩⟩ := hbb
        refine q_when (b := false) (et_is (et_test (ev_isN (ev_fld T.clB T.bc (ev_var rfl) h3 (bS_c (some sb))))) rfl) (fun z => by cases z) (fun _ H4 e4 => ?_)
        refine q_asgT (ev_is (ev_fld T.clB T.bt (ev_var rfl) (e4 _ _ h3) (bS_t (some sb))) b3) (e4 _ _ b4) fun H5 e5 => ?_
        have e345 := (e3.trans e4).trans e5
        have h5 := e5 _ _ (e4 _ _ h3)
        have c5 := e5 _ _ (e4 _ _ b5)
        have o5 := e5 _ _ (e4 _ _ b6)
        have cv : SpV (sp_casting_cost A) [.ref a, .ref cp] H5 (nV (m.castCost y.2.2.1)) := spV_of fun H7 e7 => ⟨a, m, y.2.2.1, cp, rfl, ⟨p, dx, s1, s2, s3, s4, pl.mono (e345.trans e7)⟩, e7 _ _ c5, hc2, fun p hp => by rw [hc1, hm.fees p hp]; exact Nat.le_refl _, hm.npl, by rw [hc1]; exact hm.roles, rfl⟩
        have lc : (iv y.2.2.1).length = m.dress.length := by rw [List.length_map, hc1]
        refine s_retL (el_catN (el_catN (el_catN (el_lst (ea_1 (ev_fld T.clB T.bc (ev_var rfl) h5 (bS_c (some sb)))) (by show 1 ≤ 100000; decide)) (el_listed (l := [sb.2.1, m.castCost y.2.2.1]) (el_lst (ea_2 (ev_fld T.clB T.bm (ev_var rfl) h5 (bS_k (some sb))) (ev_c1 (ea_2 (ev_var rfl) (ev_var rfl)) cv)) (by show 2 ≤ 100000; decide)) (by show 2 ≤ 1000; decide)) (by show 1 + 3 ≤ 100000; decide)) (el_listedL (l := y.2.2.1) (ev_var rfl) c5 (by omega)) (by
          simp only [List.length_append, jvl, List.length_cons, List.length_nil]
          omega)) (el_listedL (l := y.2.2.2) (ev_var rfl) o5 (by omega)) (by
          simp only [List.length_append, jvl, List.length_cons, List.length_nil]
          omega)) fun r H6 hr6 e6 h6 => q r H6 (fresh_back e345 hr6) (e345.trans e6) ?_
        rw [h6]
        show some (HO.lst (((nV sb.1 :: jv (lst [sb.2.1, m.castCost y.2.2.1])) ++ jv (lst y.2.2.1)) ++ jv (lst y.2.2.2))) = some (HO.lst (jv ((y.1 : Int) :: (lst [y.2.1, m.castCost y.2.2.1] ++ lst y.2.2.1 ++ lst y.2.2.2))))
        rw [← b1, ← b2]
        unfold jv
        rw [List.map_cons, List.map_append, List.map_append]
        rfl
end Rc
set_option Elab.async false
set_option linter.all false
set_option maxRecDepth 100000
set_option maxHeartbeats 4000000
/-! # The defs: apart, check -/
namespace Rc
open PySem PySem.Spec PyProof.Rows L2 Evl
open C8 (Cal Met Mak)
/-! ### a list sorted is 0, 1, .. where it's an order -/
theorem perm_range : ∀ {n : Nat} {l : List Nat}, l.length = n → (∀ i, i < n → i ∈ l) → l.Perm (List.range n)
  | 0, l, h, _ => by
    have e : l = [] := List.length_eq_zero_iff.mp h
    subst e
    exact List.Perm.refl _
  | n + 1, l, h, hm => by
    have hn := hm n (Nat.lt_succ_self n)
    have ih := perm_range (n := n) (l := l.erase n) (by rw [List.length_erase_of_mem hn]; omega) fun i hi => (List.mem_erase_of_ne (by omega)).mpr (hm i (by omega))
    rw [List.range_succ]
    exact (List.perm_cons_erase hn).trans ((ih.cons n).trans (List.perm_append_singleton n _).symm)
theorem isPerm_iff {n : Nat} {o : List Nat} : isPerm n o = true ↔ o.Perm (List.range n) := by
  unfold isPerm
  rw [Bool.and_eq_true, decide_eq_true_eq, List.all_eq_true]
  constructor
  · rintro ⟨h1, h2⟩
    exact perm_range h1 fun i hi => List.contains_iff_mem.mp (h2 i (List.mem_range.mpr hi))
  · intro h
    exact ⟨by rw [h.length_eq, List.length_range], fun i hi => List.contains_iff_mem.mpr (h.mem_iff.mpr hi)⟩
theorem ns_nat (l : List Nat) : (ns l).map Int.toNat = l := by
  unfold ns
  rw [List.map_map]
  conv => rhs; rw [← List.map_id l]
  rfl
theorem sorted_range (n : Nat) : (ns (List.range n)).Pairwise (· ≤ ·) := by
  unfold ns
  rw [List.pairwise_map]
  exact (List.pairwise_lt_range (n := n)).imp fun h => by omega
theorem sorted_is {n : Nat} {o : List Nat} {l : List Int} (hp : l.Perm (ns o)) (hs : l.Pairwise (· ≤ ·)) : l = ns (List.range n) ↔ isPerm n o = true := by
  rw [isPerm_iff]
  constructor
  · rintro rfl
    have := (hp.map Int.toNat).symm
    rw [ns_nat, ns_nat] at this
    exact this
  · intro h
    exact List.Perm.eq_of_pairwise (fun a b _ _ h1 h2 => by omega) hs (sorted_range n) (hp.trans (h.map _))
theorem eqv_ints : ∀ is js : List Int, PyData.eqvAll (is.map PyData.int) (js.map PyData.int) = decide (is = js)
  | [], [] => by simp [PyData.eqvAll]
  | [], _ :: _ => by simp [PyData.eqvAll]
  | _ :: _, [] => by simp [PyData.eqvAll]
  | i :: r, j :: s => by
    simp only [List.map_cons, PyData.eqvAll, PyData.eqv, eqv_ints r s]
    rw [Bool.eq_iff_iff, Bool.and_eq_true, beq_iff_eq, decide_eq_true_eq, decide_eq_true_eq, List.cons.injEq]
theorem rgV_jv (n : Nat) : rgV 0 (n : Int) = jv (ns (List.range n)) := by
  unfold rgV
  rw [show ((n : Int) - 0).toNat = n by omega, show jv (ns (List.range n)) = (List.range n).map (fun (i : Nat) => V.int (i : Int)) from List.map_map]
  exact List.map_congr_left fun i _ => by rw [Int.zero_add]
section
variable {K : PySem.W.Frag} {mg : Str → Option Value} {A : Ad} {σ : L2.St} {H H' : Hp} {ta tb te : TE} {D : Ends}
theorem ev_sortNe {p : Addr} {o : List Nat} {n : Nat} (ha : Ev ta σ H (.ref p)) (hp : H p = some (.lst (iv o))) (ho : o.length < 64) (hb : Ev tb σ H (nV n)) (hn : n ≤ 1000) : Ev (tOp (rNeD K) (tCB (rSorted K) (tCons ta tNil)) (tLstRg (tRg1 tb))) σ H (.bl (!isPerm n o)) := fun H1 e Q q =>
  ha H1 e _ fun H2 e2 => ⟨p, ns o, rfl, by
    have := e2 _ _ (e _ _ hp)
    rw [iv_jv] at this
    exact sq_of this, by unfold ns; rw [List.length_map]; exact ho, fun l r hl hs hr => by
    have e3 : Ex H2 (upd H2 r (.lst (jv l))) := Ex.new hr
    refine hb _ ((e.trans e2).trans e3) _ fun H4 e4 => ⟨(n : Int), rfl, ⟨by omega, by omega, by omega, by omega, by omega⟩, fun s hs2 => ?_⟩
    have e5 : Ex H4 (upd H4 s (.lst (rgV 0 (n : Int)))) := Ex.new hs2
    refine ⟨.list (l.map PyData.int), .list ((ns (List.range n)).map PyData.int), .lst (sq_of (e5 _ _ (e4 _ _ upd_same))) (dpAll_ints l), ?_, shaped_list (lay_ints _) (by rw [dep_ints]; decide), shaped_list (lay_ints _) (by rw [dep_ints]; decide), ?_⟩
    · rw [rgV_jv]
      exact .lst (sq_of upd_same) (dpAll_ints _)
    · have eb : PyData.eqv (.list (l.map PyData.int)) (.list ((ns (List.range n)).map PyData.int)) = isPerm n o := by
        simp only [PyData.eqv, eqv_ints]
        rw [Bool.eq_iff_iff, decide_eq_true_eq]
        exact sorted_is hl hs
      rw [eb]
      exact q _ ((e2.trans e3).trans (e4.trans e5))⟩
theorem s_ext {l : Addr} {xs ys : List V} (hl : H l = some (.lst xs)) (ha : Ev ta σ H (.ref l)) (h : EvL te σ H ys) (hz : xs.length + ys.length ≤ 100000) (k : ∀ H1, Ex H H1 → D.nx σ (upd H1 l (.lst (xs ++ ys)))) :
    tDrop (tBM K "list" rExtend ta (tCons te tNil)) D σ H := ha H (Ex.refl H) _ fun H1 e1 =>
  ⟨Or.inl ⟨rfl, xs, sq_of (e1 l _ hl)⟩, h H1 e1 _ fun p H2 hp e2 h2 => ⟨l, p, xs, ys, rfl, rfl, e2 l _ (e1 l _ hl), h2, sz_of hz, k H2 (e1.trans e2)⟩⟩
end
variable {P : Program} {w : World} {K : PySem.W.Frag} {mg : Str → Option Value} {base : Heap} {A : Ad}
/-! ### apart -/
def sp_apart (A : Ad) : Sp := lstSp fun vs H xs => ∃ a m, vs = [.ref a] ∧ PlayR A H a m ∧ Fine m ∧ xs = jv (aApart m)
theorem cal_apart (T : Txt K mg A) (F : HasDef K mg "apart" s_apart ["play"]) (c_best_casting : Cal P w K mg base 4 "best_casting" (sp_best_casting A) []) (c_clashing : Cal P w K mg base 4 "clashing" (sp_clashing A) []) (c_best_order : Cal P w K mg base 4 "best_order" (sp_best_order A) []) (c_orders : Cal P w K mg base 1 "orders" (sp_orders A) [])
    (c_listed : Cal P w K mg base 1 "listed" (sp_listed A) []) : Cal P w K mg base 5 "apart" (sp_apart A) [] := by
  have nd := sc_apart.nd
  refine def_ok F sc_apart (fun vs H Q E h => ?_) (fun f cdv Ar outer s H vs Q E hr h => ⟨_, (pss_cons (ps_set (i := 1) nd rfl (Or.inl rfl) (C8.pe_c c_best_casting hr (by decide) (by rfl) (pa_cons (pv 0) (pa_cons (C8.pe_c c_clashing hr (by decide) (by rfl) (pa_cons (pv 0) pa_nil)) pa_nil))))
      (pss_cons (ps_if (pt_cmpR op_isN (pe_fld (pv 1) rfl) pe_non (nomark _)) (pss_one (ps_ret (pe_lst (pa_cons (pe_un un_neg pe_int) pa_nil)))) pss_nil)
      (pss_cons (ps_set (i := 2) nd rfl (Or.inl rfl) (C8.pe_c c_best_order hr (by decide) (by rfl) (pa_cons (pv 0) (pa_cons (pe_fld (pv 1) rfl) (pa_cons (C8.pe_c c_orders hr (by decide) (by rfl) (pa_cons (pv 0) pa_nil)) pa_nil)))))
      (pss_cons (ps_if (pt_cmpR op_isN (pe_fld (pv 2) rfl) pe_non (nomark _)) (pss_one (ps_ret (pe_lst (pa_cons (pe_un un_neg pe_int) pa_nil)))) pss_nil)
      (pss_one (ps_ret (pe_op op_cat (pe_op op_cat (pe_lst (pa_cons (pe_op op_add (pe_fld (pv 1) rfl) (pe_fld (pv 2) rfl)) pa_nil)) (C8.pe_c c_listed hr (by decide) (by rfl) (pa_cons (pe_fld (pv 1) rfl) pa_nil))) (C8.pe_c c_listed hr (by decide) (by rfl) (pa_cons (pe_fld (pv 2) rfl) pa_nil))))))))), ?_⟩)
  · obtain ⟨z, ⟨a, m, rfl, _⟩, _⟩ := h
    rfl
  · obtain ⟨xs, ⟨a, m, rfl, hp, hfine, rfl⟩, q⟩ := h
    obtain ⟨p, dx, s1, s2, s3, s4, pl⟩ := hp
    obtain ⟨n, hm⟩ := id hfine
    refine q_asgBP (b := m.bestC m.clashes) (ep_2 (ls := m.clashes) (ev_var rfl) (er_c1 (ea_1 (ev_var rfl)) fun H2 e2 => ⟨a, m, rfl, ⟨p, dx, s1, s2, s3, s4, pl.mono e2⟩, hm.nsc, hm.roles, rfl⟩)) (fun vs H2 e2 ⟨cp, cs, ev, hc, hcs⟩ => ⟨a, m, m.clashes, cp, cs, ev, ⟨p, dx, s1, s2, s3, s4, pl.mono e2⟩, hfine, hc, hcs, clashes_ok hfine, rfl⟩) fun bx bdx H3 sb hbx e3 h3 hbb => ?_
    unfold aApart at q
    cases hbo : m.bestC m.clashes with
    | none =>
      rw [hbo] at hbb q
      cases sb with
      | some sb => exact hbb.elim
      | none =>
        refine q_when (b := true) (et_is (et_test (ev_isN (ev_fld T.clB T.bc (ev_var rfl) h3 (bS_c none)))) rfl) (fun _ H4 e4 => ?_) (fun z => by cases z)
        exact s_retL el_neg fun r H5 hr5 e5 h5 => q r H5 (fresh_back (e3.trans e4) hr5) ((e3.trans e4).trans e5) h5
    | some y =>
      have hcast := bestC_ok hbo
      rw [hbo] at hbb q
      cases sb with
      | none => exact hbb.elim
      | some sb =>
        obtain ⟨b1, b2, cp, b3, b4⟩ := hbb
        refine q_when (b := false) (et_is (et_test (ev_isN (ev_fld T.clB T.bc (ev_var rfl) h3 (bS_c (some sb))))) rfl) (fun z => by cases z) (fun _ H4 e4 => ?_)
        have h4 := e4 _ _ h3
        have c4 := e4 _ _ b4
        have e34 := e3.trans e4
        refine q_asgBP (b := m.bestO y.2.2 m.orders) (ep_3 (ls := m.orders) (ev_var rfl) (ev_is (ev_fld T.clB T.bt (ev_var rfl) h4 (bS_t (some sb))) b3) (er_c1 (ea_1 (ev_var rfl)) fun H5 e5 => ⟨a, m, rfl, ⟨p, dx, s1, s2, s3, s4, pl.mono (e34.trans e5)⟩, hm.npc, rfl⟩)) (fun vs H5 e5 ⟨op, os, ev, ho, hos⟩ => ⟨a, m, y.2.2, m.orders, cp, op, os, ev, ⟨p, dx, s1, s2, s3, s4, pl.mono (e34.trans e5)⟩, hfine, e5 _ _ c4, hcast, ho, hos, orders_ok hfine, rfl⟩) fun ox odx H5 so hox e5 h5 hoo => ?_
        have e35 := e34.trans e5
        cases hob : m.bestO y.2.2 m.orders with
        | none =>
          rw [hob] at hoo
          simp only [hob] at q
          cases so with
          | some so => exact hoo.elim
          | none =>
            refine q_when (b := true) (et_is (et_test (ev_isN (ev_fld T.clB T.bc (ev_var rfl) h5 (bS_c none)))) rfl) (fun _ H6 e6 => ?_) (fun z => by cases z)
            exact s_retL el_neg fun r H7 hr7 e7 h7 => q r H7 (fresh_back (e35.trans e6) hr7) ((e35.trans e6).trans e7) h7
        | some z =>
          have hlz := bestO_len hob
          have hnp := hm.npc
          have hnr := hm.roles
          have hcl := hcast.1
          rw [hob] at hoo
          simp only [hob] at q
          cases so with
          | none => exact hoo.elim
          | some so =>
            obtain ⟨o1, o2, op, o3, o4⟩ := hoo
            refine q_when (b := false) (et_is (et_test (ev_isN (ev_fld T.clB T.bc (ev_var rfl) h5 (bS_c (some so))))) rfl) (fun z => by cases z) (fun _ H6 e6 => ?_)
            have h6 := e6 _ _ h5
            have h46 := e6 _ _ (e5 _ _ h4)
            refine s_retL (el_catN (el_catN (el_lst (ea_1 (ev_add (ev_fld T.clB T.bc (ev_var rfl) h46 (bS_c (some sb))) (ev_fld T.clB T.bc (ev_var rfl) h6 (bS_c (some so))))) (by show 1 ≤ 100000; decide)) (el_listedL (l := y.2.2) (ev_is (ev_fld T.clB T.bt (ev_var rfl) h46 (bS_t (some sb))) b3) (e6 _ _ (e5 _ _ c4)) (by omega)) (by
              simp only [List.length_append, jvl, List.length_cons, List.length_nil]
              omega)) (el_listedL (l := z.2.2) (ev_is (ev_fld T.clB T.bt (ev_var rfl) h6 (bS_t (some so))) o3) (e6 _ _ o4) (by omega)) (by
              simp only [List.length_append, jvl, List.length_cons, List.length_nil]
              omega)) fun r H7 hr7 e7 h7 => q r H7 (fresh_back (e35.trans e6) hr7) ((e35.trans e6).trans e7) ?_
            rw [h7]
            show some (HO.lst ((nV (sb.1 + so.1) :: jv (lst y.2.2)) ++ jv (lst z.2.2))) = some (HO.lst (jv (((y.1 + z.1 : Nat) : Int) :: (lst y.2.2 ++ lst z.2.2))))
            rw [← b1, ← o1]
            unfold jv
            rw [List.map_cons, List.map_append]
            rfl
/-! ### check -/
def sp_check (A : Ad) : Sp := lstSp fun vs H xs => ∃ a m cp c op o, vs = [.ref a, .ref cp, .ref op] ∧ PlayR A H a m ∧ Fine m ∧ H cp = some (.lst (iv c)) ∧ H op = some (.lst (iv o)) ∧ c.length ≤ 20 ∧ o.length ≤ 20 ∧ xs = jv (aCheck m c o)
theorem list3_len (x : Option (Nat × Nat × Nat)) : (list3 x).length ≤ 3 := by cases x <;> (show _ ≤ 3; simp [list3])
theorem list2_len (x : Option (Nat × Nat)) : (list2 x).length ≤ 2 := by cases x <;> (show _ ≤ 2; simp [list2])
theorem row_len {l : List Nat} (h : Row l) : l.length ≤ 3 := by
  rcases h with rfl | ⟨x, y, z, rfl, _⟩
  · decide
  · exact Nat.le_refl _
theorem cal_check (T : Txt K mg A) (F : HasDef K mg "check" s_check ["play", "casting", "order_told"]) (c_is_casting : Cal P w K mg base 1 "is_casting" (sp_is_casting A) []) (c_wrong_casting : Cal P w K mg base 2 "wrong_casting" (sp_wrong_casting A) []) (c_clashing : Cal P w K mg base 4 "clashing" (sp_clashing A) []) (c_listed : Cal P w K mg base 1 "listed" (sp_listed A) [])
    (c_stays : Cal P w K mg base 3 "stays" (sp_stays A) []) (c_wrong_order : Cal P w K mg base 1 "wrong_order" (sp_wrong_order A) []) (c_casting_cost : Cal P w K mg base 2 "casting_cost" (sp_casting_cost A) []) (c_order_cost : Cal P w K mg base 1 "order_cost" (sp_order_cost A) []) : Cal P w K mg base 5 "check" (sp_check A) [] := by
  have nd := sc_check.nd
  refine def_ok F sc_check (fun vs H Q E h => ?_) (fun f cdv Ar outer s H vs Q E hr h => ⟨_, (pss_cons (ps_if (PW.pt (pw_or (pt_not (pt_val (C8.pe_c c_is_casting hr (by decide) (by rfl) (pa_cons (pv 0) (pa_cons (pv 1) pa_nil))))) (pw_or1 (pt_cmpR (op_neD hr.units) (pe_callB cr_sorted (by rfl) T.sorted (by decide +kernel) (pa_cons (pv 2) pa_nil)) (pe_listRg rfl (by rfl) T.list (prg_1 (by rfl) T.range (pe_callB call_len_seq (by rfl) T.len PySem.boot_len (pa_cons (pe_fld (pv 0) rfl) pa_nil)))) (nomark _))))) (pss_one (ps_ret (pe_lst (pa_cons (pe_un un_neg pe_int) pa_nil)))) pss_nil)
      (pss_cons (ps_set (i := 3) nd rfl (Or.inl rfl) (C8.pe_c c_wrong_casting hr (by decide) (by rfl) (pa_cons (pv 0) (pa_cons (C8.pe_c c_clashing hr (by decide) (by rfl) (pa_cons (pv 0) pa_nil)) (pa_cons (pv 1) pa_nil)))))
      (pss_cons (ps_if (pt_cmpR (op_neD hr.units) (pv 3) (pe_lst pa_nil) (nomark _)) (pss_one (ps_ret (pe_op op_cat (pe_lst (pa_cons pe_int pa_nil)) (C8.pe_c c_listed hr (by decide) (by rfl) (pa_cons (pe_op op_cat (pe_lst (pa_cons pe_int pa_nil)) (pv 3)) pa_nil))))) pss_nil)
      (pss_cons (ps_set (i := 4) nd rfl (Or.inl rfl) (C8.pe_c c_stays hr (by decide) (by rfl) (pa_cons (pv 0) (pa_cons (pv 1) (pa_cons (pv 2) pa_nil)))))
      (pss_cons (ps_set (i := 3) nd rfl (Or.inl rfl) (C8.pe_c c_wrong_order hr (by decide) (by rfl) (pa_cons (pv 0) (pa_cons (pv 2) (pa_cons (pv 4) pa_nil)))))
      (pss_cons (ps_if (pt_cmpR (op_neD hr.units) (pv 3) (pe_lst pa_nil) (nomark _)) (pss_one (ps_ret (pe_op op_cat (pe_lst (pa_cons pe_int pa_nil)) (C8.pe_c c_listed hr (by decide) (by rfl) (pa_cons (pe_op op_cat (pe_lst (pa_cons pe_int pa_nil)) (pv 3)) pa_nil))))) pss_nil)
      (pss_cons (ps_set (i := 5) nd rfl (Or.inl rfl) (pe_op op_cat (pe_lst (pa_cons pe_int pa_nil)) (C8.pe_c c_listed hr (by decide) (by rfl) (pa_cons (pe_lst (pa_cons (C8.pe_c c_casting_cost hr (by decide) (by rfl) (pa_cons (pv 0) (pa_cons (pv 1) pa_nil))) (pa_cons (C8.pe_c c_order_cost hr (by decide) (by rfl) (pa_cons (pv 0) (pa_cons (pv 4) pa_nil))) pa_nil))) pa_nil))))
      (pss_cons (ps_for PassesOwn.never rfl (pi_list (pv 4)) (pg_name (i := 6) nd rfl (Or.inl rfl)) (pss_one (ps_expr (pe_bm PySem.F.plainAttrs_list PySem.F.slot_list_extend PySem.F.type_list_extend mt_extend (pv 5) (pa_cons (C8.pe_c c_listed hr (by decide) (by rfl) (pa_cons (pv 6) pa_nil)) pa_nil)))))
      (pss_one (ps_ret (pv 5))))))))))), ?_⟩)
  · obtain ⟨z, ⟨a, m, cp, c, op, o, rfl, _⟩, _⟩ := h
    rfl
  · obtain ⟨xs, ⟨a, m, cp, c, op, o, rfl, hp, hfine, hc, ho, hlc, hlo, rfl⟩, q⟩ := h
    obtain ⟨p, dx, s1, s2, s3, s4, pl⟩ := hp
    obtain ⟨n, hm⟩ := id hfine
    have hnp := hm.npc
    refine q_when (b := !m.castOk c || !isPerm m.pieces.length o) (et_or (et_not (et_B (ev_c1 (ea_2 (ev_var rfl) (ev_var rfl)) (spV_of fun H1 e => ⟨a, m, cp, c, rfl, ⟨p, dx, s1, s2, s3, s4, pl.mono e⟩, e _ _ hc, by omega, rfl⟩)))) fun _ => et_test (ev_sortNe (ev_var rfl) ho (by omega) (ev_lenL (ev_fld T.clP T.pp (ev_var rfl) pl.ob (pF_p p)) pl.pc pl.pcs.1) (by omega))) (fun hb H1 e1 => ?_) (fun hb H1 e1 => ?_)
    · refine s_retL el_neg fun r H2 hr2 e2 h2 => ?_
      have ea : aCheck m c o = [-1] := if_pos hb
      rw [ea] at q
      exact q r H2 (fresh_back e1 hr2) (e1.trans e2) h2
    · have hok : m.castOk c = true ∧ isPerm m.pieces.length o = true := by
        revert hb
        cases m.castOk c <;> cases isPerm m.pieces.length o <;> simp
      have ea : aCheck m c o = match m.wrongC m.clashes c with
          | some x => 0 :: lst (1 :: list3 (some x))
          | none => match m.wrongO o (m.stays c o) with
            | some x => 0 :: lst (2 :: list2 (some x))
            | none => 1 :: (lst [m.castCost c, m.oCost (m.stays c o)] ++ (m.stays c o).flatMap lst) := if_neg (by rw [hb]; decide)
      rw [ea] at q
      obtain ⟨hc1, hc2⟩ := castOk_of hok.1
      have hperm := isPerm_iff.mp hok.2
      have ho1 : ∀ k ∈ o, k < m.pieces.length := fun k hk => List.mem_range.mp (hperm.mem_iff.mp hk)
      have ho2 : ∀ x ∈ m.pairs, x.1 ∈ o ∧ x.2 ∈ o := fun x hx => ⟨hperm.mem_iff.mpr (List.mem_range.mpr (hm.prs x hx).1), hperm.mem_iff.mpr (List.mem_range.mpr (hm.prs x hx).2)⟩
      have hpc : ∀ x ∈ m.pieces, x.2.length ≤ 20 ∧ ∀ r ∈ x.2, r < c.length := fun x hx => by rw [hc1]; exact hm.pcr x hx
      have hfe : ∀ p ∈ m.players, c.length ≤ p.fees.length := fun p hp => by rw [hc1, hm.fees p hp]; exact Nat.le_refl _
      refine q_asgL (el_cP (xs := iv (list3 (m.wrongC m.clashes c))) (ep_2v (ls := m.clashes) (R := isPr) (fun e z => z.mono e) (ev_var rfl) (er_c1 (ea_1 (ev_var rfl)) fun H2 e2 => ⟨a, m, rfl, ⟨p, dx, s1, s2, s3, s4, pl.mono (e1.trans e2)⟩, hm.nsc, hm.roles, rfl⟩) (ev_var rfl)) fun vs H2 e2 ⟨clp, cs, ev, hcl, hcs⟩ => ⟨a, m, m.clashes, c, clp, cp, cs, ev, ⟨p, dx, s1, s2, s3, s4, pl.mono (e1.trans e2)⟩, e2 _ _ (e1 _ _ hc), hcl, hcs, hc2, hfe, fun x hx => by rw [hc1]; exact clashes_ok hfine x hx, rfl⟩) fun wp H2 hwp e2 h2 => ?_
      have e12 := e1.trans e2
      refine q_when (b := (m.wrongC m.clashes c).isSome) (et_is (et_test (ev_neNilL (ev_var rfl) h2 (flat_ivs _))) (by cases m.wrongC m.clashes c <;> rfl)) (fun hb H3 e3 => ?_) (fun hb H3 e3 => ?_)
      · obtain ⟨x, hx⟩ := Option.isSome_iff_exists.mp hb
        rw [hx] at q
        rw [hx] at h2
        refine s_retL (el_catN (el_lst (ea_1 (ev_c0 0)) (by show 1 ≤ 100000; decide)) (el_listed (l := 1 :: list3 (some x)) (el_catL (el_lst (ea_1 (ev_c0 1)) (by show 1 ≤ 100000; decide)) (ev_var rfl) (e3 _ _ h2) (by show 1 + 3 ≤ 100000; decide)) (by show 4 ≤ 1000; decide)) (by rw [jvl]; show 1 + 5 ≤ 100000; decide)) fun r H4 hr4 e4 h4 => q r H4 (fresh_back (e12.trans e3) hr4) ((e12.trans e3).trans e4) ?_
        rw [h4]
        rfl
      · have hx : m.wrongC m.clashes c = none := by
          cases z : m.wrongC m.clashes c with
          | none => rfl
          | some x => rw [z] at hb; cases hb
        rw [hx] at q
        have e13 := e12.trans e3
        refine q_asgR (er_c1 (ls := m.stays c o) (ea_3 (ev_var rfl) (ev_var rfl) (ev_var rfl)) fun H4 e4 => ⟨a, m, c, o, cp, op, rfl, ⟨p, dx, s1, s2, s3, s4, pl.mono (e13.trans e4)⟩, e4 _ _ (e13 _ _ hc), e4 _ _ (e13 _ _ ho), ho1, hpc, hm.npl, rfl⟩) fun tp H4 ts htp e4 h4 hts => ?_
        have e14 := e13.trans e4
        refine q_asgL (xs := iv (list2 (m.wrongO o (m.stays c o)))) (el_c1 (ea_3 (ev_var rfl) (ev_var rfl) (ev_var rfl)) (spL_of fun H5 e5 => ⟨a, m, o, m.stays c o, op, tp, ts, rfl, ⟨p, dx, s1, s2, s3, s4, pl.mono (e14.trans e5)⟩, e5 _ _ (e14 _ _ ho), e5 _ _ h4, hts.mono fun _ _ z => z.mono e5, ho2, stays_len m c o, stays_row, rfl⟩)) fun wp2 H5 hwp2 e5 h5 => ?_
        have e15 := e14.trans e5
        refine q_when (b := (m.wrongO o (m.stays c o)).isSome) (et_is (et_test (ev_neNilL (ev_var rfl) h5 (flat_ivs _))) (by cases m.wrongO o (m.stays c o) <;> rfl)) (fun hb2 H6 e6 => ?_) (fun hb2 H6 e6 => ?_)
        · obtain ⟨x, hx2⟩ := Option.isSome_iff_exists.mp hb2
          simp only [hx2] at q
          rw [hx2] at h5
          refine s_retL (el_catN (el_lst (ea_1 (ev_c0 0)) (by show 1 ≤ 100000; decide)) (el_listed (l := 2 :: list2 (some x)) (el_catL (el_lst (ea_1 (ev_c0 2)) (by show 1 ≤ 100000; decide)) (ev_var rfl) (e6 _ _ h5) (by show 1 + 2 ≤ 100000; decide)) (by show 3 ≤ 1000; decide)) (by rw [jvl]; show 1 + 4 ≤ 100000; decide)) fun r H7 hr7 e7 h7 => q r H7 (fresh_back (e15.trans e6) hr7) ((e15.trans e6).trans e7) ?_
          rw [h7]
          rfl
        · have hx2 : m.wrongO o (m.stays c o) = none := by
            cases z : m.wrongO o (m.stays c o) with
            | none => rfl
            | some x => rw [z] at hb2; cases hb2
          simp only [hx2] at q
          have e16 := e15.trans e6
          have h46 := e6 _ _ (e5 _ _ h4)
          have hts6 : Ats (isL H6) ts (m.stays c o) := hts.mono fun _ _ z => z.mono (e5.trans e6)
          have cv : SpV (sp_casting_cost A) [.ref a, .ref cp] H6 (nV (m.castCost c)) := spV_of fun H7 e7 => ⟨a, m, c, cp, rfl, ⟨p, dx, s1, s2, s3, s4, pl.mono (e16.trans e7)⟩, e7 _ _ (e16 _ _ hc), hc2, hfe, hm.npl, by rw [hc1]; exact hm.roles, rfl⟩
          have ov : SpV (sp_order_cost A) [.ref a, .ref tp] H6 (nV (m.oCost (m.stays c o))) := spV_of fun H7 e7 => ⟨a, m, _, tp, ts, rfl, ⟨p, dx, s1, s2, s3, s4, pl.mono (e16.trans e7)⟩, e7 _ _ h46, hts6.mono fun _ _ z => z.mono e7, stays_len m c o, stays_row, hm.rate, rfl⟩
          refine q_asgL (el_catN (el_lst (ea_1 (ev_c0 1)) (by show 1 ≤ 100000; decide)) (el_listed (l := [m.castCost c, m.oCost (m.stays c o)]) (el_lst (ea_2 (ev_c1 (ea_2 (ev_var rfl) (ev_var rfl)) cv) (ev_c1 (ea_2 (ev_var rfl) (ev_var rfl)) ov)) (by show 2 ≤ 100000; decide)) (by show 2 ≤ 1000; decide)) (by show 1 + 3 ≤ 100000; decide)) fun fp H7 hfp e7 h7 => ?_
          have hl4 : (m.stays c o).length ≤ 4 := by rw [stays_len]; exact hm.npl
          refine q_forLn (ev_var rfl) (sq_of (e7 _ _ h46)) (fun i σ' H' => ∃ x, σ' = [some (.ref a), some (.ref cp), some (.ref op), some (.ref wp2), some (.ref tp), some (.ref fp), x] ∧ Ex H6 H' ∧ ∃ l : List Int, H' fp = some (.lst (jv l)) ∧ l = 1 :: (lst [m.castCost c, m.oCost (m.stays c o)] ++ ((m.stays c o).take i).flatMap lst) ∧ l.length ≤ 4 + 4 * i)
            (fun H8 e8 => ⟨_, rfl, e7.trans e8, 1 :: (lst [m.castCost c, m.oCost (m.stays c o)] ++ []), by rw [List.append_nil]; exact e8 _ _ h7, rfl, by show 4 ≤ 4; decide⟩) (fun i σ' H' _ ⟨_, _, e, _⟩ => sq_of (e _ _ h46)) ?_ ?_
          · rintro i x σ' H8 hi ⟨x0, rfl, e8, l, h8, hl, hll⟩
            obtain ⟨rw', hrw, r, rfl, hr8⟩ := hts6.get hi
            have hrow := row_len (stays_row _ (List.mem_of_getElem? hrw))
            have il := nat_get hrw
            refine s_ext h8 (ev_var rfl) (el_listedL (l := rw') (ev_var rfl) (e8 _ _ hr8) (by omega)) (by rw [jvl, List.length_map]; omega) fun H9 e9 => ⟨_, rfl, (e8.trans e9).mut hfp, l ++ lst rw', ?_, ?_, ?_⟩
            · rw [upd_same]
              show _ = some (HO.lst ((l ++ lst rw').map V.int))
              rw [List.map_append]
            · rw [hl, take_more hrw, List.flatMap_append, List.flatMap_singleton, List.cons_append, List.append_assoc]
            · have := jvl rw'
              rw [List.length_map] at this
              rw [List.length_append, this]
              omega
          · rintro σ' H8 ⟨x0, rfl, e8, l, h8, hl, hll⟩
            rw [hts6.1, List.take_length] at hl
            exact s_ret (ev_var rfl) fun H9 e9 => q fp H9 (fresh_back e16 hfp) ((e16.trans e8).trans e9) (by rw [← hl]; exact e9 _ _ h8)
end Rc
set_option Elab.async false
set_option linter.all false
set_option maxRecDepth 100000
set_option maxHeartbeats 4000000
/-! # The defs: what is made and what changes -/
namespace Rc
open PySem PySem.Spec PyProof.Rows L2 Evl
open C8 (Cal Met Mak)
/-! ### a play that is owned: its four lists stand apart from all else -/
def cut4 (p : Pa) (J : Hp) : Hp := fun b => if b = p.as ∨ b = p.al ∨ b = p.ai ∨ b = p.ar then none else J b
theorem cut4_at {p : Pa} {J : Hp} {b : Addr} {o : HO} : cut4 p J b = some o ↔ (b ≠ p.as ∧ b ≠ p.al ∧ b ≠ p.ai ∧ b ≠ p.ar) ∧ J b = some o := by
  unfold cut4
  by_cases c : b = p.as ∨ b = p.al ∨ b = p.ai ∨ b = p.ar
  · rw [if_pos c]
    constructor
    · intro h
      cases h
    · rintro ⟨⟨h1, h2, h3, h4⟩, _⟩
      rcases c with c | c | c | c
      · exact absurd c h1
      · exact absurd c h2
      · exact absurd c h3
      · exact absurd c h4
  · rw [if_neg c]
    exact ⟨fun h => ⟨⟨fun z => c (.inl z), fun z => c (.inr (.inl z)), fun z => c (.inr (.inr (.inl z))), fun z => c (.inr (.inr (.inr z)))⟩, h⟩, fun h => h.2⟩
structure Own (A : Ad) (J : Hp) (a : Addr) (m : Pm) (p : Pa) (dx : Addr) (s1 s2 s3 s4 : List V) : Prop where
  ob : J a = some (.ins A.cP dx (pF p))
  sc : J p.as = some (.lst s1)
  pl : J p.al = some (.lst s2)
  pc : J p.ai = some (.lst s3)
  pr : J p.ar = some (.lst s4)
  n1 : p.as ≠ p.al
  n2 : p.as ≠ p.ai
  n3 : p.as ≠ p.ar
  n4 : p.al ≠ p.ai
  n5 : p.al ≠ p.ar
  n6 : p.ai ≠ p.ar
  dr : cut4 p J p.ad = some (.lst (iv m.dress))
  scs : Ats (isSc (cut4 p J)) s1 m.scenes
  pls : Ats (isY A.cY (cut4 p J)) s2 m.players
  pcs : Ats (isSc (cut4 p J)) s3 m.pieces
  prs : Ats (isPr (cut4 p J)) s4 m.pairs
section
variable {A : Ad} {J J' H : Hp} {a dx : Addr} {m : Pm} {p : Pa} {s1 s2 s3 s4 : List V} {v : V}
theorem cut4_ex : Ex (cut4 p J) J := fun b o h => (cut4_at.mp h).2
theorem Own.play (h : Own A J a m p dx s1 s2 s3 s4) (e : Ex J H) : Play A H a m p dx s1 s2 s3 s4 :=
  ⟨e _ _ h.ob, e _ _ (cut4_ex _ _ h.dr), e _ _ h.sc, e _ _ h.pl, e _ _ h.pc, e _ _ h.pr, h.scs.mono fun _ _ z => (z.mono cut4_ex).mono e, h.pls.mono fun _ _ z => (z.mono cut4_ex).mono e, h.pcs.mono fun _ _ z => (z.mono cut4_ex).mono e, h.prs.mono fun _ _ z => (z.mono cut4_ex).mono e⟩
theorem Own.mono (h : Own A J a m p dx s1 s2 s3 s4) (e : Ex J J') : Own A J' a m p dx s1 s2 s3 s4 := by
  have ec : Ex (cut4 p J) (cut4 p J') := fun b o z => cut4_at.mpr ⟨(cut4_at.mp z).1, e _ _ (cut4_at.mp z).2⟩
  exact ⟨e _ _ h.ob, e _ _ h.sc, e _ _ h.pl, e _ _ h.pc, e _ _ h.pr, h.n1, h.n2, h.n3, h.n4, h.n5, h.n6, ec _ _ h.dr, h.scs.mono fun _ _ z => z.mono ec, h.pls.mono fun _ _ z => z.mono ec, h.pcs.mono fun _ _ z => z.mono ec, h.prs.mono fun _ _ z => z.mono ec⟩
/-- a list of it grows -/
theorem grow_ex {l : Addr} (hl : l = p.as ∨ l = p.al ∨ l = p.ai ∨ l = p.ar) (hk : ∀ b o, J b = some o → b ≠ l → J' b = some o) : Ex (cut4 p J) (cut4 p J') := fun b o z => by
  obtain ⟨⟨h1, h2, h3, h4⟩, h⟩ := cut4_at.mp z
  refine cut4_at.mpr ⟨⟨h1, h2, h3, h4⟩, hk b o h ?_⟩
  rcases hl with rfl | rfl | rfl | rfl <;> assumption
theorem Own.ne {l : Addr} {xs : List V} (h : Own A J a m p dx s1 s2 s3 s4) (hl : J l = some (.lst xs)) : a ≠ l := ne_of h.ob hl (by intro z; cases z)
theorem Own.grow1 {x : Nat × List Nat} (h : Own A J a m p dx s1 s2 s3 s4) (hk : ∀ b o, J b = some o → b ≠ p.as → J' b = some o) (hl : J' p.as = some (.lst (s1 ++ [v]))) (hv : isSc (cut4 p J') v x) : Own A J' a { m with scenes := m.scenes ++ [x] } p dx (s1 ++ [v]) s2 s3 s4 := by
  have ec := grow_ex (.inl rfl) hk
  exact ⟨hk _ _ h.ob (h.ne h.sc), hl, hk _ _ h.pl h.n1.symm, hk _ _ h.pc h.n2.symm, hk _ _ h.pr h.n3.symm, h.n1, h.n2, h.n3, h.n4, h.n5, h.n6, ec _ _ h.dr, (h.scs.mono fun _ _ z => z.mono ec).snoc hv, h.pls.mono fun _ _ z => z.mono ec, h.pcs.mono fun _ _ z => z.mono ec, h.prs.mono fun _ _ z => z.mono ec⟩
theorem Own.grow2 {x : Pl} (h : Own A J a m p dx s1 s2 s3 s4) (hk : ∀ b o, J b = some o → b ≠ p.al → J' b = some o) (hl : J' p.al = some (.lst (s2 ++ [v]))) (hv : isY A.cY (cut4 p J') v x) : Own A J' a { m with players := m.players ++ [x] } p dx s1 (s2 ++ [v]) s3 s4 := by
  have ec := grow_ex (.inr (.inl rfl)) hk
  exact ⟨hk _ _ h.ob (h.ne h.pl), hk _ _ h.sc h.n1, hl, hk _ _ h.pc h.n4.symm, hk _ _ h.pr h.n5.symm, h.n1, h.n2, h.n3, h.n4, h.n5, h.n6, ec _ _ h.dr, h.scs.mono fun _ _ z => z.mono ec, (h.pls.mono fun _ _ z => z.mono ec).snoc hv, h.pcs.mono fun _ _ z => z.mono ec, h.prs.mono fun _ _ z => z.mono ec⟩
theorem Own.grow3 {x : Nat × List Nat} (h : Own A J a m p dx s1 s2 s3 s4) (hk : ∀ b o, J b = some o → b ≠ p.ai → J' b = some o) (hl : J' p.ai = some (.lst (s3 ++ [v]))) (hv : isSc (cut4 p J') v x) : Own A J' a { m with pieces := m.pieces ++ [x] } p dx s1 s2 (s3 ++ [v]) s4 := by
  have ec := grow_ex (.inr (.inr (.inl rfl))) hk
  exact ⟨hk _ _ h.ob (h.ne h.pc), hk _ _ h.sc h.n2, hk _ _ h.pl h.n4, hl, hk _ _ h.pr h.n6.symm, h.n1, h.n2, h.n3, h.n4, h.n5, h.n6, ec _ _ h.dr, h.scs.mono fun _ _ z => z.mono ec, h.pls.mono fun _ _ z => z.mono ec, (h.pcs.mono fun _ _ z => z.mono ec).snoc hv, h.prs.mono fun _ _ z => z.mono ec⟩
theorem Own.grow4 {x : Nat × Nat} (h : Own A J a m p dx s1 s2 s3 s4) (hk : ∀ b o, J b = some o → b ≠ p.ar → J' b = some o) (hl : J' p.ar = some (.lst (s4 ++ [v]))) (hv : isPr (cut4 p J') v x) : Own A J' a { m with pairs := m.pairs ++ [x] } p dx s1 s2 s3 (s4 ++ [v]) := by
  have ec := grow_ex (.inr (.inr (.inr rfl))) hk
  exact ⟨hk _ _ h.ob (h.ne h.pr), hk _ _ h.sc h.n3, hk _ _ h.pl h.n5, hk _ _ h.pc h.n6, hl, h.n1, h.n2, h.n3, h.n4, h.n5, h.n6, ec _ _ h.dr, h.scs.mono fun _ _ z => z.mono ec, h.pls.mono fun _ _ z => z.mono ec, h.pcs.mono fun _ _ z => z.mono ec, (h.prs.mono fun _ _ z => z.mono ec).snoc hv⟩
def OwnP (A : Ad) (J : Hp) (a : Addr) (m : Pm) : Prop := ∃ p dx s1 s2 s3 s4, Own A J a m p dx s1 s2 s3 s4
theorem OwnP.mono (h : OwnP A J a m) (e : Ex J J') : OwnP A J' a m := let ⟨p, dx, s1, s2, s3, s4, o⟩ := h; ⟨p, dx, s1, s2, s3, s4, o.mono e⟩
theorem OwnP.play (h : OwnP A J a m) (e : Ex J H) : PlayR A H a m := let ⟨p, dx, s1, s2, s3, s4, o⟩ := h; ⟨p, dx, s1, s2, s3, s4, o.play e⟩
end
/-- nothing of J is of G -/
def Sep (G J : Hp) : Prop := ∀ b o, J b = some o → G b = none
/-- a call that may change the play at a: G stands, what is owned goes on -/
def RetP (A : Ad) (G : Hp) (a : Addr) (r : Pm × List Int) (H : Hp) (Q : VK) : Prop := ∀ p H' J', H p = none → Ex G H' → Ex J' H' → Sep G J' → OwnP A J' a r.1 → H' p = some (.lst (jv r.2)) → Q (.ref p) H'
/-- a heap, J and some things of H1 more -/
def more (J H1 : Hp) (N : Addr → Prop) [DecidablePred N] : Hp := fun b => if N b then H1 b else J b
section
variable {K : PySem.W.Frag} {mg : Str → Option Value} {A : Ad} {σ : L2.St} {H H' : Hp} {ta tb te tc : TE} {D : Ends} {E : XK}
theorem s_meth {C a dx : Addr} {m : Str} {sp : Sp} {fs : List (Str × V)} {t : TA} {vs : List V} (ha : Ev ta σ H (.ref a)) (ho : H a = some (.ins C dx fs)) (hl : fs.lookup m = none) (ht : EvA t σ H vs) (k : ∀ H1, Ex H H1 → sp (.ref a :: vs) H1 (fun _ H2 => D.nx σ H2) E) :
    tDrop (tMeth C m sp [] E ta t) D σ H := ha H (Ex.refl H) _ fun H1 e1 => ⟨a, dx, fs, rfl, e1 _ _ ho, hl, ht H1 e1 _ fun H2 e2 => by
    rw [List.append_nil]
    exact k H2 (e1.trans e2)⟩
theorem s_fldMake {C : Addr} {sp : Sp} {td : TE} {f : Str} {xs : List V} (hd : EvL td σ H xs) (k : ∀ d H1, H d = none → Ex H H1 → H1 d = some (.lst xs) → ∀ x dx, H1 x = none → H1 dx = none → dx ≠ x → sp [.ref x, .ref d] (upd (upd H1 dx (.own x)) x (.ins C dx [])) (fun v H2 => v = .non ∧ ta σ H2 fun y H3 => ∃ a C dx fs, y = .ref a ∧ H3 a = some (.ins C dx fs) ∧ Cls K C ∧ NoAttr K C f ∧ fs.length < 1000 ∧ D.nx σ (upd H3 a (.ins C dx (putF f (.ref x) fs)))) E) :
    sFld K ta (tMake C sp [] E (tCons td tNil)) f D σ H := hd H (Ex.refl H) _ fun d H1 hd' e h1 => k d H1 hd' e h1
theorem ev_chain {i j k : Nat} (ha : Ev ta σ H (nV i)) (hb : Ev tb σ H (nV j)) (hc : Ev tc σ H (nV k)) : Ev (tChain (rI0 fun i j => .bl (decide (i ≤ j))) (rI0 fun i j => .bl (decide (i ≤ j))) ta tb tc) σ H (.bl (decide (i ≤ j) && decide (j ≤ k))) := fun H1 e Q q =>
  ha H1 e _ fun H2 e2 => hb H2 (e.trans e2) _ fun H3 e3 => ⟨(i : Int), (j : Int), rfl, rfl, decide ((i : Int) ≤ (j : Int)), rfl, by
    by_cases c : i ≤ j
    · rw [decide_eq_true (show (i : Int) ≤ (j : Int) by omega), if_pos rfl]
      refine hc H3 ((e.trans e2).trans e3) _ fun H4 e4 => ⟨(j : Int), (k : Int), rfl, rfl, ?_⟩
      rw [decide_eq_true c, Bool.true_and] at q
      have ed : decide ((j : Int) ≤ (k : Int)) = decide (j ≤ k) := decide_eq_decide.mpr (by omega)
      show Q (.bl (decide ((j : Int) ≤ (k : Int)))) H4
      rw [ed]
      exact q H4 ((e2.trans e3).trans e4)
    · rw [decide_eq_false (show ¬ (i : Int) ≤ (j : Int) by omega), if_neg (by decide)]
      rw [decide_eq_false c, Bool.false_and] at q
      exact q H3 (e2.trans e3)⟩
theorem et_max {p : Addr} {d : List Nat} {n : Nat} (ha : Ev ta σ H (.ref p)) (hp : H p = some (.lst (iv d))) (hd : 0 < d.length) : EvT (tTest (tOp (rI0 fun i j => .bl (decide (j < i))) (tCB (rMax K) (tCons ta tNil)) (tC (.int (n : Int))))) σ H (!d.all fun x => decide (x ≤ n)) := fun H1 e Q q =>
  ha H1 e _ fun H2 e2 => ⟨p, ns d, rfl, by
    have := e2 _ _ (e _ _ hp)
    rw [iv_jv] at this
    exact sq_of this, by unfold ns; rw [List.length_map]; exact hd, fun x hx hle => ⟨x, (n : Int), rfl, rfl, decide ((n : Int) < x), rfl, by
    have ed : decide ((n : Int) < x) = !d.all fun x => decide (x ≤ n) := by
      rw [Bool.eq_iff_iff, decide_eq_true_eq, Bool.not_eq_true', List.all_eq_false]
      obtain ⟨y, hy, rfl⟩ := List.mem_map.mp hx
      constructor
      · intro h
        exact ⟨y, hy, by rw [decide_eq_true_eq]; omega⟩
      · rintro ⟨z, hz, h⟩
        rw [decide_eq_true_eq] at h
        have := hle (z : Int) (List.mem_map.mpr ⟨z, hz, rfl⟩)
        omega
    rw [ed]
    exact q H2 e2⟩⟩
end
variable {P : Program} {w : World} {K : PySem.W.Frag} {mg : Str → Option Value} {base : Heap} {A : Ad}
/-! ### Player.__init__ -/
def sp_Player (A : Ad) : Sp := fun vs H Q _ => ∃ y dx u r s t fp, vs = [.ref y, nV u, nV r, nV s, nV t, .ref fp] ∧ H y = some (.ins A.cY dx []) ∧ Q .non (upd H y (.ins A.cY dx [("wage", nV u), ("rate", nV r), ("since", nV s), ("till", nV t), ("fees", .ref fp)]))
theorem pn0 {f : Str} {v : V} : putF f v [] = [(f, v)] := rfl
theorem mak_Player (T : Txt K mg A) (F : HasMak K mg "Player" A.cY "Player.__init__" s_Player_init ["self", "wage", "rate", "since", "till", "fees"]) : Mak P w K mg base 1 "Player" A.cY (sp_Player A) [] := by
  have nd := sc_Player_init.nd
  refine mak_ok F sc_Player_init (fun vs H Q E h => ?_) (fun f cdv Ar outer s H vs Q E hr h => ⟨_, (pss_cons (ps_fld (pv 0) (pv 1) rfl)
      (pss_cons (ps_fld (pv 0) (pv 2) rfl)
      (pss_cons (ps_fld (pv 0) (pv 3) rfl)
      (pss_cons (ps_fld (pv 0) (pv 4) rfl)
      (pss_one (ps_fld (pv 0) (pv 5) rfl)))))), ?_⟩)
  · obtain ⟨y, dx, u, r, s, t, fp, rfl, _⟩ := h
    rfl
  · obtain ⟨y, dx, u, r, s, t, fp, rfl, hy, q⟩ := h
    refine ⟨_, rfl, _, rfl, y, A.cY, dx, [], rfl, hy, T.clY, T.yw, (by show 0 < 1000; decide), ?_⟩
    rw [pn0]
    refine ⟨_, rfl, _, rfl, y, A.cY, dx, _, rfl, upd_same, T.clY, T.yr, (by show 1 < 1000; decide), ?_⟩
    rw [put_past (by decide +kernel), pn0]
    refine ⟨_, rfl, _, rfl, y, A.cY, dx, _, rfl, upd_same, T.clY, T.ys, (by show 2 < 1000; decide), ?_⟩
    rw [put_past (by decide +kernel), put_past (by decide +kernel), pn0]
    refine ⟨_, rfl, _, rfl, y, A.cY, dx, _, rfl, upd_same, T.clY, T.yt, (by show 3 < 1000; decide), ?_⟩
    rw [put_past (by decide +kernel), put_past (by decide +kernel), put_past (by decide +kernel), pn0]
    refine ⟨_, rfl, _, rfl, y, A.cY, dx, _, rfl, upd_same, T.clY, T.yf, (by show 4 < 1000; decide), ?_⟩
    rw [put_past (by decide +kernel), put_past (by decide +kernel), put_past (by decide +kernel), put_past (by decide +kernel), pn0, upd_upd, upd_upd, upd_upd, upd_upd]
    exact q
/-! ### Play.__init__ -/
def sp_Play (A : Ad) : Sp := fun vs H Q _ => ∃ a dx d, vs = [.ref a, .ref d] ∧ H a = some (.ins A.cP dx []) ∧ ∀ (F : Hp) (p : Pa), p.ad = d → F a = some (.ins A.cP dx (pF p)) → F p.as = some (.lst []) → F p.al = some (.lst []) → F p.ai = some (.lst []) → F p.ar = some (.lst []) →
  (p.as ≠ p.al ∧ p.as ≠ p.ai ∧ p.as ≠ p.ar ∧ p.al ≠ p.ai ∧ p.al ≠ p.ar ∧ p.ai ≠ p.ar) → (H p.as = none ∧ H p.al = none ∧ H p.ai = none ∧ H p.ar = none) → (∀ b o, H b = some o → b ≠ a → F b = some o) → Q .non F
/-- a new list is made and stored in a field -/
theorem store_new {F : Hp} {a C dx s : Addr} {fs fs' : List (Str × V)} (ha : F a = some (.ins C dx fs)) (hs : F s = none) : upd (upd F s (.lst [])) a (.ins C dx fs') s = some (.lst []) ∧ s ≠ a ∧ ∀ b o, F b = some o → b ≠ a → upd (upd F s (.lst [])) a (.ins C dx fs') b = some o := by
  have ne : s ≠ a := (ne_of_none ha hs).symm
  refine ⟨by rw [upd_ne ne, upd_same], ne, fun b o h hb => ?_⟩
  rw [upd_ne hb, upd_ne (ne_of_none h hs)]
  exact h
theorem mak_Play (T : Txt K mg A) (F : HasMak K mg "Play" A.cP "Play.__init__" s_Play_init ["self", "dressing"]) : Mak P w K mg base 1 "Play" A.cP (sp_Play A) [] := by
  have nd := sc_Play_init.nd
  refine mak_ok F sc_Play_init (fun vs H Q E h => ?_) (fun f cdv Ar outer s H vs Q E hr h => ⟨_, (pss_cons (ps_fld (pv 0) (pv 1) rfl)
      (pss_cons (ps_fld (pv 0) (pe_lst pa_nil) rfl)
      (pss_cons (ps_fld (pv 0) (pe_lst pa_nil) rfl)
      (pss_cons (ps_fld (pv 0) (pe_lst pa_nil) rfl)
      (pss_one (ps_fld (pv 0) (pe_lst pa_nil) rfl)))))), ?_⟩)
  · obtain ⟨a, dx, d, rfl, _⟩ := h
    rfl
  · obtain ⟨a, dx, d, rfl, ha, q⟩ := h
    refine ⟨_, rfl, _, rfl, a, A.cP, dx, [], rfl, ha, T.clP, T.pd, (by show 0 < 1000; decide), ?_⟩
    rw [pn0]
    have k0 : ∀ b o, H b = some o → b ≠ a → upd H a (.ins A.cP dx [("dressing", .ref d)]) b = some o := fun b o h hb => by rw [upd_ne hb]; exact h
    have a0 : upd H a (.ins A.cP dx [("dressing", .ref d)]) a = _ := upd_same
    generalize upd H a (.ins A.cP dx [("dressing", .ref d)]) = F0 at k0 a0 ⊢
    refine ⟨by show 0 ≤ sizeLine; decide, fun l1 n1 => ?_⟩
    obtain ⟨p1, ne1, k1⟩ := store_new (fs' := putF "scenes" (.ref l1) [("dressing", .ref d)]) a0 n1
    refine ⟨_, rfl, a, A.cP, dx, _, rfl, by rw [upd_ne ne1.symm]; exact a0, T.clP, T.ps, (by show 1 < 1000; decide), ?_⟩
    have a1 : upd (upd F0 l1 (.lst [])) a (.ins A.cP dx (putF "scenes" (.ref l1) [("dressing", .ref d)])) a = some (.ins A.cP dx (putF "scenes" (.ref l1) [("dressing", .ref d)])) := upd_same
    generalize upd (upd F0 l1 (.lst [])) a (.ins A.cP dx (putF "scenes" (.ref l1) [("dressing", .ref d)])) = F1 at p1 k1 a1 ⊢
    rw [put_past (by decide +kernel), pn0] at a1
    refine ⟨by show 0 ≤ sizeLine; decide, fun l2 n2 => ?_⟩
    obtain ⟨p2, ne2, k2⟩ := store_new (fs' := putF "players" (.ref l2) [("dressing", .ref d), ("scenes", .ref l1)]) a1 n2
    refine ⟨_, rfl, a, A.cP, dx, _, rfl, by rw [upd_ne ne2.symm]; exact a1, T.clP, T.pl, (by show 2 < 1000; decide), ?_⟩
    have a2 : upd (upd F1 l2 (.lst [])) a (.ins A.cP dx (putF "players" (.ref l2) [("dressing", .ref d), ("scenes", .ref l1)])) a = some (.ins A.cP dx (putF "players" (.ref l2) [("dressing", .ref d), ("scenes", .ref l1)])) := upd_same
    generalize upd (upd F1 l2 (.lst [])) a (.ins A.cP dx (putF "players" (.ref l2) [("dressing", .ref d), ("scenes", .ref l1)])) = F2 at p2 k2 a2 ⊢
    rw [put_past (by decide +kernel), put_past (by decide +kernel), pn0] at a2
    refine ⟨by show 0 ≤ sizeLine; decide, fun l3 n3 => ?_⟩
    obtain ⟨p3, ne3, k3⟩ := store_new (fs' := putF "pieces" (.ref l3) [("dressing", .ref d), ("scenes", .ref l1), ("players", .ref l2)]) a2 n3
    refine ⟨_, rfl, a, A.cP, dx, _, rfl, by rw [upd_ne ne3.symm]; exact a2, T.clP, T.pp, (by show 3 < 1000; decide), ?_⟩
    have a3 : upd (upd F2 l3 (.lst [])) a (.ins A.cP dx (putF "pieces" (.ref l3) [("dressing", .ref d), ("scenes", .ref l1), ("players", .ref l2)])) a = some (.ins A.cP dx (putF "pieces" (.ref l3) [("dressing", .ref d), ("scenes", .ref l1), ("players", .ref l2)])) := upd_same
    generalize upd (upd F2 l3 (.lst [])) a (.ins A.cP dx (putF "pieces" (.ref l3) [("dressing", .ref d), ("scenes", .ref l1), ("players", .ref l2)])) = F3 at p3 k3 a3 ⊢
    rw [put_past (by decide +kernel), put_past (by decide +kernel), put_past (by decide +kernel), pn0] at a3
    refine ⟨by show 0 ≤ sizeLine; decide, fun l4 n4 => ?_⟩
    obtain ⟨p4, ne4, k4⟩ := store_new (fs' := putF "pairs" (.ref l4) [("dressing", .ref d), ("scenes", .ref l1), ("players", .ref l2), ("pieces", .ref l3)]) a3 n4
    refine ⟨_, rfl, a, A.cP, dx, _, rfl, by rw [upd_ne ne4.symm]; exact a3, T.clP, T.pr, (by show 4 < 1000; decide), ?_⟩
    have a4 : upd (upd F3 l4 (.lst [])) a (.ins A.cP dx (putF "pairs" (.ref l4) [("dressing", .ref d), ("scenes", .ref l1), ("players", .ref l2), ("pieces", .ref l3)])) a = some (.ins A.cP dx (putF "pairs" (.ref l4) [("dressing", .ref d), ("scenes", .ref l1), ("players", .ref l2), ("pieces", .ref l3)])) := upd_same
    show Q .non (upd (upd F3 l4 (.lst [])) a (.ins A.cP dx (putF "pairs" (.ref l4) [("dressing", .ref d), ("scenes", .ref l1), ("players", .ref l2), ("pieces", .ref l3)])))
    generalize upd (upd F3 l4 (.lst [])) a (.ins A.cP dx (putF "pairs" (.ref l4) [("dressing", .ref d), ("scenes", .ref l1), ("players", .ref l2), ("pieces", .ref l3)])) = F4 at p4 k4 a4 ⊢
    rw [put_past (by decide +kernel), put_past (by decide +kernel), put_past (by decide +kernel), put_past (by decide +kernel), pn0] at a4
    have q1 := k2 _ _ p1 ne1
    have r1 := k3 _ _ q1 ne1
    have r2 := k3 _ _ p2 ne2
    have keep : ∀ b o, H b = some o → b ≠ a → F4 b = some o := fun b o h hb => k4 _ _ (k3 _ _ (k2 _ _ (k1 _ _ (k0 b o h hb) hb) hb) hb) hb
    have free : ∀ {l : Addr} {G : Hp}, (∀ b o, H b = some o → b ≠ a → G b = some o) → G l = none → l ≠ a → H l = none := fun {l G} k n ne => by
      cases z : H l with
      | none => rfl
      | some o =>
        rw [k l o z ne] at n
        cases n
    refine q F4 ⟨d, l1, l2, l3, l4⟩ rfl a4 (k4 _ _ r1 ne1) (k4 _ _ r2 ne2) (k4 _ _ p3 ne3) p4 ⟨ne_of_none p1 n2, ne_of_none q1 n3, ne_of_none r1 n4, ne_of_none p2 n3, ne_of_none r2 n4, ne_of_none p3 n4⟩ ⟨free k0 n1 ne1, free (fun b o h hb => k1 _ _ (k0 b o h hb) hb) n2 ne2, free (fun b o h hb => k2 _ _ (k1 _ _ (k0 b o h hb) hb) hb) n3 ne3, free (fun b o h hb => k3 _ _ (k2 _ _ (k1 _ _ (k0 b o h hb) hb) hb) hb) n4 ne4⟩ keep
/-- Play(d), d a list that stands -/
theorem make_play {H1 : Hp} {d : Addr} {l : List Nat} {Q : Addr → Hp → Prop} {E : XK} (hd : H1 d = some (.lst (iv l))) (k : ∀ x F J, H1 x = none → Ex H1 F → Ex J F → OwnP A J x ⟨l, [], [], [], []⟩ → (∀ b o, J b = some o → b = d ∨ H1 b = none) → Q x F) :
    ∀ x dx, H1 x = none → H1 dx = none → dx ≠ x → sp_Play A [.ref x, .ref d] (upd (upd H1 dx (.own x)) x (.ins A.cP dx [])) (fun v H2 => v = .non ∧ Q x H2) E := fun x dx nx nd ne => by
  refine ⟨x, dx, d, rfl, upd_same, fun F p hp h1 h2 h3 h4 h5 hne hfr hk => ⟨rfl, ?_⟩⟩
  have e0 : ∀ b o, H1 b = some o → upd (upd H1 dx (.own x)) x (.ins A.cP dx []) b = some o := fun b o h => by rw [upd_ne (ne_of_none h nx), upd_ne (ne_of_none h nd)]; exact h
  have eF : Ex H1 F := fun b o h => hk b o (e0 b o h) (ne_of_none h nx)
  have fr : ∀ {b : Addr}, upd (upd H1 dx (.own x)) x (.ins A.cP dx []) b = none → H1 b = none := fun {b} n => by
    cases z : H1 b with
    | none => rfl
    | some o =>
      rw [e0 b o z] at n
      cases n
  have f1 := fr hfr.1
  have f2 := fr hfr.2.1
  have f3 := fr hfr.2.2.1
  have f4 := fr hfr.2.2.2
  have hJ : ∀ b o, (b = x ∨ b = p.as ∨ b = p.al ∨ b = p.ai ∨ b = p.ar ∨ b = d) → F b = some o → (fun b => if b = x ∨ b = p.as ∨ b = p.al ∨ b = p.ai ∨ b = p.ar ∨ b = d then F b else none : Hp) b = some o := fun b o c h => by
    show (if _ then _ else _) = _
    rw [if_pos c]
    exact h
  refine k x F (fun b => if b = x ∨ b = p.as ∨ b = p.al ∨ b = p.ai ∨ b = p.ar ∨ b = d then F b else none) nx eF (fun b o h => ?_) ⟨p, dx, [], [], [], [], ?_⟩ (fun b o h => ?_)
  · by_cases c : b = x ∨ b = p.as ∨ b = p.al ∨ b = p.ai ∨ b = p.ar ∨ b = d
    · have h : (if _ then _ else _) = some o := h
      rw [if_pos c] at h
      exact h
    · have h : (if _ then _ else _) = some o := h
      rw [if_neg c] at h
      cases h
  · refine ⟨hJ _ _ (.inl rfl) h1, hJ _ _ (.inr (.inl rfl)) h2, hJ _ _ (.inr (.inr (.inl rfl))) h3, hJ _ _ (.inr (.inr (.inr (.inl rfl)))) h4, hJ _ _ (.inr (.inr (.inr (.inr (.inl rfl))))) h5, hne.1, hne.2.1, hne.2.2.1, hne.2.2.2.1, hne.2.2.2.2.1, hne.2.2.2.2.2, ?_, Ats.nil, Ats.nil, Ats.nil, Ats.nil⟩
    rw [hp]
    exact cut4_at.mpr ⟨⟨ne_of_none hd f1, ne_of_none hd f2, ne_of_none hd f3, ne_of_none hd f4⟩, hJ _ _ (.inr (.inr (.inr (.inr (.inr rfl))))) (eF _ _ hd)⟩
  · by_cases c : b = x ∨ b = p.as ∨ b = p.al ∨ b = p.ai ∨ b = p.ar ∨ b = d
    · rcases c with rfl | rfl | rfl | rfl | rfl | rfl
      · exact .inr nx
      · exact .inr f1
      · exact .inr f2
      · exact .inr f3
      · exact .inr f4
      · exact .inl rfl
    · have h : (if _ then _ else _) = some o := h
      rw [if_neg c] at h
      cases h
/-! ### put_scene, put_piece, put_pair, put_player -/
def spPutT (A : Ad) (g : Pa → Addr) (f : V → V → List V) (okv : V → V → Prop) : Sp := fun vs H Q _ => ∃ a dx p s v1 v2, vs = [.ref a, v1, v2] ∧ H a = some (.ins A.cP dx (pF p)) ∧ H (g p) = some (.lst s) ∧ s.length ≤ 10000 ∧ ∀ t H1, H t = none → Ex H H1 → H1 t = some (.tup [v1, v2]) → Q .non (upd H1 (g p) (.lst (s ++ [.ref t])))
def sp_put_scene (A : Ad) : Sp := spPutT A Pa.as (fun a b => [a, b]) fun _ _ => True
def sp_put_piece (A : Ad) : Sp := spPutT A Pa.ai (fun a b => [a, b]) fun _ _ => True
def sp_put_pair (A : Ad) : Sp := spPutT A Pa.ar (fun a b => [a, b]) fun _ _ => True
theorem met_put_scene (T : Txt K mg A) (F : HasMeth K A.cP "put_scene" "Play.put_scene" s_Play_put_scene ["self", "minutes", "roles"]) : Met P w K mg base 1 A.cP "put_scene" (sp_put_scene A) [] := by
  have nd := sc_Play_put_scene.nd
  refine meth_ok T.clP F sc_Play_put_scene (fun vs H Q E h => ?_) (fun f cdv Ar outer s H vs Q E hr h => ⟨_, (pss_one (ps_expr (pe_bm PySem.F.plainAttrs_list PySem.F.slot_list_append PySem.F.type_list_append mt_append (pe_fld (pv 0) rfl) (pa_cons (pe_tup (pa_cons (pv 1) (pa_cons (pv 2) pa_nil))) pa_nil)))), ?_⟩)
  · obtain ⟨a, dx, p, s, v1, v2, rfl, _⟩ := h
    rfl
  · obtain ⟨a, dx, p, s1, v1, v2, rfl, ha, hs, hl, q⟩ := h
    exact s_appU hs (ev_fld T.clP T.ps (ev_var rfl) ha (pF_s p)) (eu_tup (ea_2 (ev_var rfl) (ev_var rfl)) (by show 2 ≤ 100000; decide)) (by omega) fun t H1 ht e h1 => q t H1 ht e h1
theorem met_put_piece (T : Txt K mg A) (F : HasMeth K A.cP "put_piece" "Play.put_piece" s_Play_put_piece ["self", "minutes", "roles"]) : Met P w K mg base 1 A.cP "put_piece" (sp_put_piece A) [] := by
  have nd := sc_Play_put_piece.nd
  refine meth_ok T.clP F sc_Play_put_piece (fun vs H Q E h => ?_) (fun f cdv Ar outer s H vs Q E hr h => ⟨_, (pss_one (ps_expr (pe_bm PySem.F.plainAttrs_list PySem.F.slot_list_append PySem.F.type_list_append mt_append (pe_fld (pv 0) rfl) (pa_cons (pe_tup (pa_cons (pv 1) (pa_cons (pv 2) pa_nil))) pa_nil)))), ?_⟩)
  · obtain ⟨a, dx, p, s, v1, v2, rfl, _⟩ := h
    rfl
  · obtain ⟨a, dx, p, s1, v1, v2, rfl, ha, hs, hl, q⟩ := h
    exact s_appU hs (ev_fld T.clP T.pp (ev_var rfl) ha (pF_p p)) (eu_tup (ea_2 (ev_var rfl) (ev_var rfl)) (by show 2 ≤ 100000; decide)) (by omega) fun t H1 ht e h1 => q t H1 ht e h1
theorem met_put_pair (T : Txt K mg A) (F : HasMeth K A.cP "put_pair" "Play.put_pair" s_Play_put_pair ["self", "i", "j"]) : Met P w K mg base 1 A.cP "put_pair" (sp_put_pair A) [] := by
  have nd := sc_Play_put_pair.nd
  refine meth_ok T.clP F sc_Play_put_pair (fun vs H Q E h => ?_) (fun f cdv Ar outer s H vs Q E hr h => ⟨_, (pss_one (ps_expr (pe_bm PySem.F.plainAttrs_list PySem.F.slot_list_append PySem.F.type_list_append mt_append (pe_fld (pv 0) rfl) (pa_cons (pe_tup (pa_cons (pv 1) (pa_cons (pv 2) pa_nil))) pa_nil)))), ?_⟩)
  · obtain ⟨a, dx, p, s, v1, v2, rfl, _⟩ := h
    rfl
  · obtain ⟨a, dx, p, s1, v1, v2, rfl, ha, hs, hl, q⟩ := h
    exact s_appU hs (ev_fld T.clP T.pr (ev_var rfl) ha (pF_r p)) (eu_tup (ea_2 (ev_var rfl) (ev_var rfl)) (by show 2 ≤ 100000; decide)) (by omega) fun t H1 ht e h1 => q t H1 ht e h1
def sp_put_player (A : Ad) : Sp := fun vs H Q _ => ∃ a dx p s v, vs = [.ref a, v] ∧ H a = some (.ins A.cP dx (pF p)) ∧ H p.al = some (.lst s) ∧ s.length ≤ 10000 ∧ ∀ H1, Ex H H1 → Q .non (upd H1 p.al (.lst (s ++ [v])))
theorem met_put_player (T : Txt K mg A) (F : HasMeth K A.cP "put_player" "Play.put_player" s_Play_put_player ["self", "player"]) : Met P w K mg base 1 A.cP "put_player" (sp_put_player A) [] := by
  have nd := sc_Play_put_player.nd
  refine meth_ok T.clP F sc_Play_put_player (fun vs H Q E h => ?_) (fun f cdv Ar outer s H vs Q E hr h => ⟨_, (pss_one (ps_expr (pe_bm PySem.F.plainAttrs_list PySem.F.slot_list_append PySem.F.type_list_append mt_append (pe_fld (pv 0) rfl) (pa_cons (pv 1) pa_nil)))), ?_⟩)
  · obtain ⟨a, dx, p, s, v, rfl, _⟩ := h
    rfl
  · obtain ⟨a, dx, p, s1, v, rfl, ha, hs, hl, q⟩ := h
    exact s_app hs (ev_fld T.clP T.pl (ev_var rfl) ha (pF_l p)) (ev_var rfl) (by omega) fun H1 e => q H1 e
/-! ### Holder.__init__, Holder.hold -/
def HoldAt (A : Ad) (J : Hp) (h : Addr) (m : Pm) : Prop := ∃ dx a, J h = some (.ins A.cH dx (hF a)) ∧ OwnP A (cut h J) a m
def sp_Holder (A : Ad) : Sp := fun vs H Q _ => ∃ h dx, vs = [.ref h] ∧ H h = some (.ins A.cH dx []) ∧ ∀ F J, (∀ b o, H b = some o → b ≠ h → F b = some o) → Ex J F → HoldAt A J h Pm.init → (∀ b o, J b = some o → b = h ∨ H b = none) → Q .non F
theorem mak_Holder (T : Txt K mg A) (F : HasMak K mg "Holder" A.cH "Holder.__init__" s_Holder_init ["self"]) (c_Play : Mak P w K mg base 1 "Play" A.cP (sp_Play A) []) : Mak P w K mg base 3 "Holder" A.cH (sp_Holder A) [] := by
  have nd := sc_Holder_init.nd
  refine mak_ok F sc_Holder_init (fun vs H Q E h => ?_) (fun f cdv Ar outer s H vs Q E hr h => ⟨_, (pss_one (ps_fld (pv 0) (C8.pe_mk c_Play hr (by decide) (by rfl) (pa_cons (pe_lst pa_nil) pa_nil)) rfl)), ?_⟩)
  · obtain ⟨h, dx, rfl, _⟩ := h
    rfl
  · obtain ⟨h, dx, rfl, hh, q⟩ := h
    refine s_fldMake el_nil fun d H1 hd e1 h1 => ?_
    refine make_play (l := []) h1 fun x G J hx e2 eJ ow hJ => ?_
    have nh : ∀ {b : Addr} {o : HO}, J b = some o → b ≠ h := fun {b o} hb z => by
      rcases hJ b o hb with r | r
      · rw [r] at z
        rw [← z, hd] at hh
        cases hh
      · rw [z, e1 _ _ hh] at r
        cases r
    refine ⟨_, rfl, h, A.cH, dx, [], rfl, e2 _ _ (e1 _ _ hh), T.clH, T.hp, (by show 0 < 1000; decide), ?_⟩
    rw [pn0]
    refine q _ (upd J h (.ins A.cH dx (hF x))) (fun b o hb ne => ?_) (fun b o hb => ?_) ⟨dx, x, upd_same, ?_⟩ (fun b o hb => ?_)
    · rw [upd_ne ne]
      exact e2 _ _ (e1 _ _ hb)
    · by_cases c : b = h
      · rw [c, upd_same] at hb
        rw [c, upd_same]
        exact hb
      · rw [upd_ne c] at hb
        rw [upd_ne c]
        exact eJ _ _ hb
    · rw [cut_upd]
      exact ow.mono fun b o hb => cut_at hb (nh hb)
    · by_cases c : b = h
      · exact .inl c
      · rw [upd_ne c] at hb
        rcases hJ b o hb with r | r
        · rw [r]
          exact .inr hd
        · exact .inr (fresh_back e1 r)
def sp_hold (A : Ad) : Sp := fun vs H Q _ => ∃ h dx a0 a, vs = [.ref h, .ref a] ∧ H h = some (.ins A.cH dx (hF a0)) ∧ Q .non (upd H h (.ins A.cH dx (hF a)))
theorem met_hold (T : Txt K mg A) (F : HasMeth K A.cH "hold" "Holder.hold" s_Holder_hold ["self", "play"]) : Met P w K mg base 1 A.cH "hold" (sp_hold A) [] := by
  have nd := sc_Holder_hold.nd
  refine meth_ok T.clH F sc_Holder_hold (fun vs H Q E h => ?_) (fun f cdv Ar outer s H vs Q E hr h => ⟨_, (pss_one (ps_fld (pv 0) (pv 1) rfl)), ?_⟩)
  · obtain ⟨h, dx, a0, a, rfl, _⟩ := h
    rfl
  · obtain ⟨h, dx, a0, a, rfl, hh, q⟩ := h
    refine ⟨_, rfl, _, rfl, h, A.cH, dx, _, rfl, hh, T.clH, T.hp, (by show 1 < 1000; decide), ?_⟩
    have e : putF "play" (V.ref a) (hF a0) = hF a := put_here
    rw [e]
    exact q
end Rc
set_option Elab.async false
set_option linter.all false
set_option maxRecDepth 100000
set_option maxHeartbeats 4000000
/-! # The defs: the calls that change the play -/
namespace Rc
open PySem PySem.Spec PyProof.Rows L2 Evl
open C8 (Cal Met Mak)
section
variable {A : Ad} {G J H H2 : Hp} {l : Addr} {s : List V} {o : HO}
/-- J with some new things, one list of it grown -/
theorem grow_all (N : Addr → Prop) [DecidablePred N] (eG : Ex G H) (eJ : Ex J H) (sep : Sep G J) (e : Ex H H2) (hl : J l = some (.lst s)) (hN : ∀ b, N b → J b = none ∧ G b = none) :
    Ex (upd (more J H2 N) l o) (upd H2 l o) ∧ Ex G (upd H2 l o) ∧ Sep G (upd (more J H2 N) l o) ∧ (∀ b u, J b = some u → b ≠ l → upd (more J H2 N) l o b = some u) ∧ upd (more J H2 N) l o l = some o ∧ ∀ b u, N b → H2 b = some u → b ≠ l ∧ upd (more J H2 N) l o b = some u := by
  refine ⟨fun b u h => ?_, (eG.trans e).mut (sep _ _ hl), fun b u h => ?_, fun b u h hb => ?_, upd_same, fun b u h hb => ?_⟩
  · by_cases c : b = l
    · rw [c, upd_same] at h
      rw [c, upd_same]
      exact h
    · rw [upd_ne c] at h
      rw [upd_ne c]
      unfold more at h
      by_cases n : N b
      · rw [if_pos n] at h
        exact h
      · rw [if_neg n] at h
        exact e _ _ (eJ _ _ h)
  · by_cases c : b = l
    · rw [c]
      exact sep _ _ hl
    · rw [upd_ne c] at h
      unfold more at h
      by_cases n : N b
      · exact (hN b n).2
      · rw [if_neg n] at h
        exact sep _ _ h
  · rw [upd_ne hb]
    unfold more
    by_cases n : N b
    · rw [(hN b n).1] at h
      cases h
    · rw [if_neg n]
      exact h
  · have ne : b ≠ l := fun z => by
      rw [z] at h
      rw [(hN l h).1] at hl
      cases hl
    refine ⟨ne, ?_⟩
    rw [upd_ne ne]
    unfold more
    rw [if_pos h]
    exact hb
end
section
variable {K : PySem.W.Frag} {mg : Str → Option Value} {A : Ad} {σ : L2.St} {H H' : Hp} {ta tb tc te : TE} {D : Ends} {E : XK} {tz tu : TS} {G J : Hp} {a : Addr} {m : Pm} {Q : VK}
theorem q_meth {C a dx : Addr} {m : Str} {sp : Sp} {fs : List (Str × V)} {t : TA} {vs : List V} (ha : Ev ta σ H (.ref a)) (ho : H a = some (.ins C dx fs)) (hl : fs.lookup m = none) (ht : EvA t σ H vs) (k : ∀ H1, Ex H H1 → sp (.ref a :: vs) H1 (fun _ H2 => tz D σ H2) E) :
    tSeq (tDrop (tMeth C m sp [] E ta t)) tz D σ H := s_meth (D := { D with nx := tz D }) ha ho hl ht k
/-- a refusal -/
theorem s_no {n : Nat} {nx bk ct : L2.St → Hp → Prop} {H1 : Hp} (q : RetP A G a (m, [-(n : Int)]) H Q) (eG : Ex G H) (eJ : Ex J H) (sep : Sep G J) (ow : OwnP A J a m) (e : Ex H H1) : tRet (tLst (tCons (tUn (rU fun i => .int (-i)) (tC (.int (n : Int)))) tNil)) { nx := nx, rt := Q, bk := bk, ct := ct } σ H1 :=
  s_retL el_neg fun r H2 hr e2 h2 => q r H2 J (fresh_back e hr) (eG.trans (e.trans e2)) (eJ.trans (e.trans e2)) sep ow h2
theorem q_unl4 {t : Addr} {x1 x2 x3 x4 : V} {i1 i2 i3 i4 : Nat} (h : Ev te σ H (.ref t)) (ht : H t = some (.lst [x1, x2, x3, x4])) (k : ∀ H1, Ex H H1 → tz D ((((σ.set i1 (some x1)).set i2 (some x2)).set i3 (some x3)).set i4 (some x4)) H1) :
    tSeq (tAsg te (gUnl K 4 (gCons (gName i1) (gCons (gName i2) (gCons (gName i3) (gCons (gName i4) gNil)))))) tz D σ H := h H (Ex.refl H) _ fun H1 e =>
  ⟨t, [x1, x2, x3, x4], rfl, sq_of (e _ _ ht), rfl, x1, _, rfl, x2, _, rfl, x3, _, rfl, x4, _, rfl, rfl, k H1 e⟩
end
variable {P : Program} {w : World} {K : PySem.W.Frag} {mg : Str → Option Value} {base : Heap} {A : Ad}
/-! ### scene -/
def sp_scene (A : Ad) : Sp := fun vs H Q _ => ∃ G J a m k n rp r, vs = [.ref a, nV n, .ref rp] ∧ Ex G H ∧ Ex J H ∧ Sep G J ∧ OwnP A J a m ∧ m.Ok k ∧ H rp = some (.lst (iv r)) ∧ J rp = none ∧ G rp = none ∧ r.length ≤ 20 ∧ RetP A G a (dScene m n r) H Q
theorem cal_scene (T : Txt K mg A) (F : HasDef K mg "scene" s_scene ["play", "minutes", "roles"]) (c_are_rising : Cal P w K mg base 1 "are_rising" (sp_are_rising A) []) (c_put_scene : Met P w K mg base 1 A.cP "put_scene" (sp_put_scene A) []) : Cal P w K mg base 2 "scene" (sp_scene A) [] := by
  have nd := sc_scene.nd
  refine def_ok F sc_scene (fun vs H Q E h => ?_) (fun f cdv Ar outer s H vs Q E hr h => ⟨_, (pss_cons (ps_if (PW.pt (pw_or (pt_cmpR op_gt (pv 1) (pe_k (by rfl) T.kMOST_MINUTES) (nomark _)) (pw_or1 (pt_not (pt_val (C8.pe_c c_are_rising hr (by decide) (by rfl) (pa_cons (pv 0) (pa_cons (pv 2) pa_nil)))))))) (pss_one (ps_ret (pe_lst (pa_cons (pe_un un_neg pe_int) pa_nil)))) pss_nil)
      (pss_cons (ps_if (pt_cmpR op_eq (pe_callB call_len_seq (by rfl) T.len PySem.boot_len (pa_cons (pe_fld (pv 0) rfl) pa_nil)) (pe_k (by rfl) T.kMOST_SCENES) (nomark _)) (pss_one (ps_ret (pe_lst (pa_cons (pe_un un_neg pe_int) pa_nil)))) pss_nil)
      (pss_cons (ps_expr (C8.pe_mt c_put_scene hr (by decide) (pv 0) (pa_cons (pv 1) (pa_cons (pv 2) pa_nil))))
      (pss_one (ps_ret (pe_lst (pa_cons (pe_op op_sub (pe_callB call_len_seq (by rfl) T.len PySem.boot_len (pa_cons (pe_fld (pv 0) rfl) pa_nil)) pe_int) pa_nil))))))), ?_⟩)
  · obtain ⟨G, J, a, m, k, n, rp, r, rfl, _⟩ := h
    rfl
  · obtain ⟨G, J, a, m, k, n, rp, r, rfl, eG, eJ, sep, ow, hm, hrp, hJ, hG, hl, q⟩ := h
    obtain ⟨p, dx, s1, s2, s3, s4, o⟩ := id ow
    have pl := o.play eJ
    refine q_when (b := decide (1000 < n) || !m.rise r) (et_or (et_test (ev_gt (ev_var rfl) (ev_c0 1000))) fun _ => et_not (et_B (ev_c1 (ea_2 (ev_var rfl) (ev_var rfl)) (spV_of fun H1 e => ⟨a, m, rp, r, rfl, ⟨p, dx, s1, s2, s3, s4, pl.mono e⟩, e _ _ hrp, by omega, rfl⟩)))) (fun hb H1 e1 => ?_) (fun hb H1 e1 => ?_)
    · have hc : 1000 < n ∨ m.rise r = false := by
        rw [Bool.or_eq_true, decide_eq_true_eq, Bool.not_eq_true'] at hb
        exact hb
      have ed : dScene m n r = (m, [-1]) := if_pos hc
      rw [ed] at q
      exact s_no q eG eJ sep ow e1
    · have hc : ¬ (1000 < n ∨ m.rise r = false) := by
        rw [Bool.or_eq_false_iff, decide_eq_false_iff_not, Bool.not_eq_false'] at hb
        rintro (z | z)
        · exact hb.1 z
        · rw [z] at hb
          cases hb.2
      have pl1 := pl.mono e1
      refine q_when (et_test (ev_eqI (ev_lenL (ev_fld T.clP T.ps (ev_var rfl) pl1.ob (pF_s p)) pl1.sc pl1.scs.1) (ev_c0 10))) (fun hb2 H2 e2 => ?_) (fun hb2 H2 e2 => ?_)
      · have ed : dScene m n r = (m, [-5]) := (if_neg hc).trans (if_pos (of_decide_eq_true hb2))
        rw [ed] at q
        exact s_no q eG eJ sep ow (e1.trans e2)
      · have ed : dScene m n r = ({ m with scenes := m.scenes ++ [(n, r)] }, [(m.scenes.length : Int)]) := (if_neg hc).trans (if_neg (of_decide_eq_false hb2))
        rw [ed] at q
        have pl2 := pl1.mono e2
        have hs := hm.nsc
        have ls := pl.scs.1
        refine q_meth (ev_var rfl) pl2.ob (pF_none p (.inr (.inl rfl))) (ea_2 (ev_var rfl) (ev_var rfl)) fun H3 e3 => ?_
        refine ⟨a, dx, p, s1, _, _, rfl, e3 _ _ pl2.ob, e3 _ _ pl2.sc, by omega, fun t H4 ht e4 h4 => ?_⟩
        have eH4 := ((e1.trans e2).trans e3).trans e4
        have nt := fresh_back ((e1.trans e2).trans e3) ht
        obtain ⟨g1, g2, g3, g4, g5, g6⟩ := grow_all (o := .lst (s1 ++ [.ref t])) (fun b => b = t ∨ b = rp) eG eJ sep eH4 o.sc (fun b z => by
          rcases z with rfl | rfl
          · exact ⟨fresh_back eJ nt, fresh_back eG nt⟩
          · exact ⟨hJ, hG⟩)
        have ct : ∀ {b : Addr} {u : HO}, (b = t ∨ b = rp) → H4 b = some u → cut4 p (upd (more J H4 (fun b => b = t ∨ b = rp)) p.as (.lst (s1 ++ [.ref t]))) b = some u := fun {b u} z hb => by
          have nj : J b = none := by
            rcases z with rfl | rfl
            · exact fresh_back eJ nt
            · exact hJ
          exact cut4_at.mpr ⟨⟨(ne_of_none o.sc nj).symm, (ne_of_none o.pl nj).symm, (ne_of_none o.pc nj).symm, (ne_of_none o.pr nj).symm⟩, (g6 b u z hb).2⟩
        have own := o.grow1 g4 g5 (x := (n, r)) ⟨t, rp, rfl, ct (.inl rfl) h4, ct (.inr rfl) (eH4 _ _ hrp)⟩
        have pl4 := own.play g1
        refine s_retL (el_lst (ea_1 (ev_sub (ev_lenL (n := m.scenes.length + 1) (ev_fld T.clP T.ps (ev_var rfl) pl4.ob (pF_s p)) pl4.sc (by rw [List.length_append, ls]; rfl)) (ev_c0 1) (by omega))) (by show 1 ≤ 100000; decide)) fun r' H5 hr5 e5 h5 => ?_
        refine q r' H5 _ ?_ (g2.trans e5) (g1.trans e5) g3 ⟨p, dx, _, s2, s3, s4, own⟩ h5
        have := hr5
        have nb : r' ≠ p.as := fun z => by
          rw [z, upd_same] at this
          cases this
        rw [upd_ne nb] at this
        exact fresh_back eH4 this
/-! ### piece -/
def sp_piece (A : Ad) : Sp := fun vs H Q _ => ∃ G J a m k n rp r, vs = [.ref a, nV n, .ref rp] ∧ Ex G H ∧ Ex J H ∧ Sep G J ∧ OwnP A J a m ∧ m.Ok k ∧ H rp = some (.lst (iv r)) ∧ J rp = none ∧ G rp = none ∧ r.length ≤ 20 ∧ RetP A G a (dPiece m n r) H Q
theorem cal_piece (T : Txt K mg A) (F : HasDef K mg "piece" s_piece ["play", "minutes", "roles"]) (c_are_rising : Cal P w K mg base 1 "are_rising" (sp_are_rising A) []) (c_put_piece : Met P w K mg base 1 A.cP "put_piece" (sp_put_piece A) []) : Cal P w K mg base 2 "piece" (sp_piece A) [] := by
  have nd := sc_piece.nd
  refine def_ok F sc_piece (fun vs H Q E h => ?_) (fun f cdv Ar outer s H vs Q E hr h => ⟨_, (pss_cons (ps_if (PW.pt (pw_or (pt_not (pt_chain op_le op_le pe_int (pv 1) (pe_k (by rfl) T.kMOST_PIECE))) (pw_or1 (pt_not (pt_val (C8.pe_c c_are_rising hr (by decide) (by rfl) (pa_cons (pv 0) (pa_cons (pv 2) pa_nil)))))))) (pss_one (ps_ret (pe_lst (pa_cons (pe_un un_neg pe_int) pa_nil)))) pss_nil)
      (pss_cons (ps_if (pt_cmpR op_eq (pe_callB call_len_seq (by rfl) T.len PySem.boot_len (pa_cons (pe_fld (pv 0) rfl) pa_nil)) (pe_k (by rfl) T.kMOST_PIECES) (nomark _)) (pss_one (ps_ret (pe_lst (pa_cons (pe_un un_neg pe_int) pa_nil)))) pss_nil)
      (pss_cons (ps_expr (C8.pe_mt c_put_piece hr (by decide) (pv 0) (pa_cons (pv 1) (pa_cons (pv 2) pa_nil))))
      (pss_one (ps_ret (pe_lst (pa_cons (pe_op op_sub (pe_callB call_len_seq (by rfl) T.len PySem.boot_len (pa_cons (pe_fld (pv 0) rfl) pa_nil)) pe_int) pa_nil))))))), ?_⟩)
  · obtain ⟨G, J, a, m, k, n, rp, r, rfl, _⟩ := h
    rfl
  · obtain ⟨G, J, a, m, k, n, rp, r, rfl, eG, eJ, sep, ow, hm, hrp, hJ, hG, hl, q⟩ := h
    obtain ⟨p, dx, s1, s2, s3, s4, o⟩ := id ow
    have pl := o.play eJ
    refine q_when (b := !(decide (1 ≤ n) && decide (n ≤ 600)) || !m.rise r) (et_or (et_not (et_test (ev_chain (ev_c0 1) (ev_var rfl) (ev_c0 600)))) fun _ => et_not (et_B (ev_c1 (ea_2 (ev_var rfl) (ev_var rfl)) (spV_of fun H1 e => ⟨a, m, rp, r, rfl, ⟨p, dx, s1, s2, s3, s4, pl.mono e⟩, e _ _ hrp, by omega, rfl⟩)))) (fun hb H1 e1 => ?_) (fun hb H1 e1 => ?_)
    · have hc : n < 1 ∨ 600 < n ∨ m.rise r = false := by
        rw [Bool.or_eq_true, Bool.not_eq_true', Bool.not_eq_true', Bool.and_eq_false_iff, decide_eq_false_iff_not, decide_eq_false_iff_not] at hb
        rcases hb with (z | z) | z
        · exact .inl (by omega)
        · exact .inr (.inl (by omega))
        · exact .inr (.inr z)
      have ed : dPiece m n r = (m, [-1]) := if_pos hc
      rw [ed] at q
      exact s_no q eG eJ sep ow e1
    · have hc : ¬ (n < 1 ∨ 600 < n ∨ m.rise r = false) := by
        rw [Bool.or_eq_false_iff, Bool.not_eq_false', Bool.not_eq_false', Bool.and_eq_true, decide_eq_true_eq, decide_eq_true_eq] at hb
        rintro (z | z | z)
        · omega
        · omega
        · rw [z] at hb
          cases hb.2
      have pl1 := pl.mono e1
      refine q_when (et_test (ev_eqI (ev_lenL (ev_fld T.clP T.pp (ev_var rfl) pl1.ob (pF_p p)) pl1.pc pl1.pcs.1) (ev_c0 4))) (fun hb2 H2 e2 => ?_) (fun hb2 H2 e2 => ?_)
      · have ed : dPiece m n r = (m, [-5]) := (if_neg hc).trans (if_pos (of_decide_eq_true hb2))
        rw [ed] at q
        exact s_no q eG eJ sep ow (e1.trans e2)
      · have ed : dPiece m n r = ({ m with pieces := m.pieces ++ [(n, r)] }, [(m.pieces.length : Int)]) := (if_neg hc).trans (if_neg (of_decide_eq_false hb2))
        rw [ed] at q
        have pl2 := pl1.mono e2
        have hs := hm.npc
        have ls := pl.pcs.1
        refine q_meth (ev_var rfl) pl2.ob (pF_none p (.inr (.inr (.inr (.inl rfl))))) (ea_2 (ev_var rfl) (ev_var rfl)) fun H3 e3 => ?_
        refine ⟨a, dx, p, s3, _, _, rfl, e3 _ _ pl2.ob, e3 _ _ pl2.pc, by omega, fun t H4 ht e4 h4 => ?_⟩
        have eH4 := ((e1.trans e2).trans e3).trans e4
        have nt := fresh_back ((e1.trans e2).trans e3) ht
        obtain ⟨g1, g2, g3, g4, g5, g6⟩ := grow_all (o := .lst (s3 ++ [.ref t])) (fun b => b = t ∨ b = rp) eG eJ sep eH4 o.pc (fun b z => by
          rcases z with rfl | rfl
          · exact ⟨fresh_back eJ nt, fresh_back eG nt⟩
          · exact ⟨hJ, hG⟩)
        have ct : ∀ {b : Addr} {u : HO}, (b = t ∨ b = rp) → H4 b = some u → cut4 p (upd (more J H4 (fun b => b = t ∨ b = rp)) p.ai (.lst (s3 ++ [.ref t]))) b = some u := fun {b u} z hb => by
          have nj : J b = none := by
            rcases z with rfl | rfl
            · exact fresh_back eJ nt
            · exact hJ
          exact cut4_at.mpr ⟨⟨(ne_of_none o.sc nj).symm, (ne_of_none o.pl nj).symm, (ne_of_none o.pc nj).symm, (ne_of_none o.pr nj).symm⟩, (g6 b u z hb).2⟩
        have own := o.grow3 g4 g5 (x := (n, r)) ⟨t, rp, rfl, ct (.inl rfl) h4, ct (.inr rfl) (eH4 _ _ hrp)⟩
        have pl4 := own.play g1
        refine s_retL (el_lst (ea_1 (ev_sub (ev_lenL (n := m.pieces.length + 1) (ev_fld T.clP T.pp (ev_var rfl) pl4.ob (pF_p p)) pl4.pc (by rw [List.length_append, ls]; rfl)) (ev_c0 1) (by omega))) (by show 1 ≤ 100000; decide)) fun r' H5 hr5 e5 h5 => ?_
        refine q r' H5 _ ?_ (g2.trans e5) (g1.trans e5) g3 ⟨p, dx, s1, s2, _, s4, own⟩ h5
        have := hr5
        have nb : r' ≠ p.ai := fun z => by
          rw [z, upd_same] at this
          cases this
        rw [upd_ne nb] at this
        exact fresh_back eH4 this
/-! ### ahead -/
theorem dp_pr {H : Hp} {v : V} {x : Nat × Nat} (h : isPr H v x) : Dp K H v (.tuple [.int x.1, .int x.2]) := by
  obtain ⟨t, rfl, ht⟩ := h
  exact .tup (st_of ht) (.cons (.int _) (.cons (.int _) .nil))
theorem dpAll_pr {H : Hp} : ∀ {vs : List V} {xs : List (Nat × Nat)}, Ats (isPr H) vs xs → DpAll K H vs (xs.map fun x => .tuple [.int x.1, .int x.2])
  | [], xs, h => by
    have e : xs = [] := List.length_eq_zero_iff.mp h.1.symm
    subst e
    exact .nil
  | v :: vs, [], h => by
    have := h.1
    cases this
  | v :: vs, x :: xs, h => by
    have h0 := h.2 0 x rfl
    obtain ⟨v', e, hp⟩ := h0
    have e := (Option.some.inj e).symm
    subst e
    have ht : Ats (isPr H) vs xs := ⟨Nat.succ.inj h.1, fun i y hy => h.2 (i + 1) y hy⟩
    exact .cons (dp_pr hp) (dpAll_pr ht)
theorem lay_prs : ∀ xs : List (Nat × Nat), PyData.canLayAll0 (xs.map fun x => PyData.tuple [.int x.1, .int x.2]) = true
  | [] => by simp [PyData.canLayAll0]
  | x :: r => by simp [PyData.canLayAll0, PyData.canLay0, lay_prs r]
theorem dep_prs : ∀ xs : List (Nat × Nat), PyData.depthAll (xs.map fun x => PyData.tuple [.int x.1, .int x.2]) ≤ 1
  | [] => by simp [PyData.depthAll]
  | x :: r => by
    have := dep_prs r
    simp only [List.map_cons, PyData.depthAll, PyData.depth]
    omega
theorem eqv_pr (x y : Nat × Nat) : PyData.eqv (.tuple [.int x.1, .int x.2]) (.tuple [.int y.1, .int y.2]) = decide (x = y) := by
  obtain ⟨a, b⟩ := x
  obtain ⟨c, d⟩ := y
  simp only [PyData.eqv, PyData.eqvAll, Bool.and_true]
  rw [Bool.eq_iff_iff, Bool.and_eq_true, beq_iff_eq, beq_iff_eq, decide_eq_true_eq, Prod.mk.injEq]
  omega
theorem any_pr (y : Nat × Nat) (xs : List (Nat × Nat)) : ((xs.map fun x => PyData.tuple [.int x.1, .int x.2]).any fun z => PyData.eqv z (.tuple [.int y.1, .int y.2])) = decide (y ∈ xs) := by
  rw [Bool.eq_iff_iff, List.any_eq_true, decide_eq_true_eq]
  constructor
  · rintro ⟨z, hz, h⟩
    obtain ⟨x, hx, rfl⟩ := List.mem_map.mp hz
    rw [eqv_pr, decide_eq_true_eq] at h
    rw [← h]
    exact hx
  · intro h
    refine ⟨_, List.mem_map.mpr ⟨y, h, rfl⟩, ?_⟩
    rw [eqv_pr]
    exact decide_eq_true rfl
theorem ev_inPr {σ : L2.St} {H : Hp} {ta tb : TE} {p : Addr} {vs : List V} {xs : List (Nat × Nat)} {i j : Nat} (ha : EvU ta σ H [nV i, nV j]) (hb : Ev tb σ H (.ref p)) (hp : H p = some (.lst vs)) (hat : Ats (isPr H) vs xs) : Ev (tOp (rInD K) ta tb) σ H (.bl (decide ((i, j) ∈ xs))) := fun H1 e Q q =>
  ha H1 e _ fun t H2 _ e2 h2 => hb H2 (e.trans e2) _ fun H3 e3 => by
    refine ⟨.tuple [.int i, .int j], _, dp_pr (x := (i, j)) ⟨t, rfl, e3 _ _ h2⟩, .lst (sq_of (e3 _ _ (e2 _ _ (e _ _ hp)))) (dpAll_pr (hat.mono fun _ _ z => z.mono ((e.trans e2).trans e3))), ?_, shaped_list (lay_prs xs) (Nat.le_trans (dep_prs xs) (by decide)), ?_⟩
    · show (PyData.canLay0 (.tuple [.int i, .int j]) && decide (PyData.depth (.tuple [.int i, .int j]) ≤ 64)) = true
      simp [PyData.canLay0, PyData.canLayAll0, PyData.depth, PyData.depthAll]
    · rw [any_pr (i, j) xs]
      exact q H3 (e2.trans e3)
def sp_ahead (A : Ad) : Sp := fun vs H Q _ => ∃ G J a m k i j, vs = [.ref a, nV i, nV j] ∧ Ex G H ∧ Ex J H ∧ Sep G J ∧ OwnP A J a m ∧ m.Ok k ∧ k ≤ 1000 ∧ RetP A G a (dAhead m i j) H Q
theorem cal_ahead (T : Txt K mg A) (F : HasDef K mg "ahead" s_ahead ["play", "i", "j"]) (c_put_pair : Met P w K mg base 1 A.cP "put_pair" (sp_put_pair A) []) : Cal P w K mg base 2 "ahead" (sp_ahead A) [] := by
  have nd := sc_ahead.nd
  refine def_ok F sc_ahead (fun vs H Q E h => ?_) (fun f cdv Ar outer s H vs Q E hr h => ⟨_, (pss_cons (ps_if (PW.pt (pw_or (pt_cmpR op_ge (pv 1) (pe_callB call_len_seq (by rfl) T.len PySem.boot_len (pa_cons (pe_fld (pv 0) rfl) pa_nil)) (nomark _)) (pw_or1 (pt_cmpR op_ge (pv 2) (pe_callB call_len_seq (by rfl) T.len PySem.boot_len (pa_cons (pe_fld (pv 0) rfl) pa_nil)) (nomark _))))) (pss_one (ps_ret (pe_lst (pa_cons (pe_un un_neg pe_int) pa_nil)))) pss_nil)
      (pss_cons (ps_if (PW.pt (pw_or (pt_cmpR op_eq (pv 1) (pv 2) (nomark _)) (pw_or1 (pt_cmpR (op_inD hr.u65) (pe_tup (pa_cons (pv 1) (pa_cons (pv 2) pa_nil))) (pe_fld (pv 0) rfl) rfl)))) (pss_one (ps_ret (pe_lst (pa_cons (pe_un un_neg pe_int) pa_nil)))) pss_nil)
      (pss_cons (ps_expr (C8.pe_mt c_put_pair hr (by decide) (pv 0) (pa_cons (pv 1) (pa_cons (pv 2) pa_nil))))
      (pss_one (ps_ret (pe_lst (pa_cons (pe_callB call_len_seq (by rfl) T.len PySem.boot_len (pa_cons (pe_fld (pv 0) rfl) pa_nil)) pa_nil))))))), ?_⟩)
  · obtain ⟨G, J, a, m, k, i, j, rfl, _⟩ := h
    rfl
  · obtain ⟨G, J, a, m, k, i, j, rfl, eG, eJ, sep, ow, hm, hk, q⟩ := h
    obtain ⟨p, dx, s1, s2, s3, s4, o⟩ := id ow
    have pl := o.play eJ
    have lenV : ∀ {x : TE} {σ : L2.St} {H1 : Hp}, Ex H H1 → Ev x σ H1 (.ref a) → Ev (tCB (rLenS K) (tCons (tFld K x "pieces") tNil)) σ H1 (nV m.pieces.length) := fun e h => ev_lenL (ev_fld T.clP T.pp h (pl.mono e).ob (pF_p p)) (pl.mono e).pc pl.pcs.1
    refine q_when (b := decide (m.pieces.length ≤ i) || decide (m.pieces.length ≤ j)) (et_or (et_test (ev_ge (ev_var rfl) (lenV (Ex.refl _) (ev_var rfl)))) fun _ => et_test (ev_ge (ev_var rfl) (lenV (Ex.refl _) (ev_var rfl)))) (fun hb H1 e1 => ?_) (fun hb H1 e1 => ?_)
    · have hc : m.pieces.length ≤ i ∨ m.pieces.length ≤ j := by
        rw [Bool.or_eq_true, decide_eq_true_eq, decide_eq_true_eq] at hb
        exact hb
      have ed : dAhead m i j = (m, [-2]) := if_pos hc
      rw [ed] at q
      exact s_no q eG eJ sep ow e1
    · have hc : ¬ (m.pieces.length ≤ i ∨ m.pieces.length ≤ j) := by
        rw [Bool.or_eq_false_iff, decide_eq_false_iff_not, decide_eq_false_iff_not] at hb
        rintro (z | z)
        · exact hb.1 z
        · exact hb.2 z
      have pl1 := pl.mono e1
      refine q_when (b := decide (i = j) || decide ((i, j) ∈ m.pairs)) (et_or (et_test (ev_eqI (ev_var rfl) (ev_var rfl))) fun _ => et_test (ev_inPr (eu_tup (ea_2 (ev_var rfl) (ev_var rfl)) (by show 2 ≤ 100000; decide)) (ev_fld T.clP T.pr (ev_var rfl) pl1.ob (pF_r p)) pl1.pr pl1.prs)) (fun hb2 H2 e2 => ?_) (fun hb2 H2 e2 => ?_)
      · have hc2 : i = j ∨ (i, j) ∈ m.pairs := by
          rw [Bool.or_eq_true, decide_eq_true_eq, decide_eq_true_eq] at hb2
          exact hb2
        have ed : dAhead m i j = (m, [-3]) := (if_neg hc).trans (if_pos hc2)
        rw [ed] at q
        exact s_no q eG eJ sep ow (e1.trans e2)
      · have hc2 : ¬ (i = j ∨ (i, j) ∈ m.pairs) := by
          rw [Bool.or_eq_false_iff, decide_eq_false_iff_not, decide_eq_false_iff_not] at hb2
          rintro (z | z)
          · exact hb2.1 z
          · exact hb2.2 z
        have ed : dAhead m i j = ({ m with pairs := m.pairs ++ [(i, j)] }, [((m.pairs.length + 1 : Nat) : Int)]) := (if_neg hc).trans (if_neg hc2)
        rw [ed] at q
        have pl2 := pl1.mono e2
        have hs := hm.npr
        have ls := pl.prs.1
        refine q_meth (ev_var rfl) pl2.ob (pF_none p (.inr (.inr (.inr (.inr rfl))))) (ea_2 (ev_var rfl) (ev_var rfl)) fun H3 e3 => ?_
        refine ⟨a, dx, p, s4, _, _, rfl, e3 _ _ pl2.ob, e3 _ _ pl2.pr, by omega, fun t H4 ht e4 h4 => ?_⟩
        have eH4 := ((e1.trans e2).trans e3).trans e4
        have nt := fresh_back ((e1.trans e2).trans e3) ht
        obtain ⟨g1, g2, g3, g4, g5, g6⟩ := grow_all (o := .lst (s4 ++ [.ref t])) (fun b => b = t) eG eJ sep eH4 o.pr (fun b z => by
          subst z
          exact ⟨fresh_back eJ nt, fresh_back eG nt⟩)
        have nj : J t = none := fresh_back eJ nt
        have own := o.grow4 g4 g5 (x := (i, j)) ⟨t, rfl, cut4_at.mpr ⟨⟨(ne_of_none o.sc nj).symm, (ne_of_none o.pl nj).symm, (ne_of_none o.pc nj).symm, (ne_of_none o.pr nj).symm⟩, (g6 t _ rfl h4).2⟩⟩
        have pl4 := own.play g1
        refine s_retL (el_lst (ea_1 (ev_lenL (n := m.pairs.length + 1) (ev_fld T.clP T.pr (ev_var rfl) pl4.ob (pF_r p)) pl4.pr (by rw [List.length_append, ls]; rfl))) (by show 1 ≤ 100000; decide)) fun r' H5 hr5 e5 h5 => ?_
        refine q r' H5 _ ?_ (g2.trans e5) (g1.trans e5) g3 ⟨p, dx, s1, s2, s3, _, own⟩ h5
        have := hr5
        have nb : r' ≠ p.ar := fun z => by
          rw [z, upd_same] at this
          cases this
        rw [upd_ne nb] at this
        exact fresh_back eH4 this
/-! ### player -/
theorem q_putY {σ : L2.St} {H : Hp} {D : Ends} {tz : TS} {E E' : XK} {ta : TE} {t : TA} {a dx : Addr} {p : Pa} {u r s e fp : Addr} {n1 n2 n3 n4 : Nat} (ha : Ev ta σ H (.ref a)) (ho : H a = some (.ins A.cP dx (pF p))) (ht : EvA t σ H [nV n1, nV n2, nV n3, nV n4, .ref fp])
    (k : ∀ y dy H1, H y = none → Ex H H1 → H1 y = some (.ins A.cY dy [("wage", nV n1), ("rate", nV n2), ("since", nV n3), ("till", nV n4), ("fees", .ref fp)]) → sp_put_player A [.ref a, .ref y] H1 (fun _ H2 => tz D σ H2) E) :
    tSeq (tDrop (tMeth A.cP "put_player" (sp_put_player A) [] E ta (tCons (tMake A.cY (sp_Player A) [] E' t) tNil))) tz D σ H := ha H (Ex.refl H) _ fun H1 e1 => ⟨a, dx, pF p, rfl, e1 _ _ ho, pF_none p (.inr (.inr (.inl rfl))), ht H1 e1 _ fun H2 e2 => fun y dy ny ndy ne => by
  refine ⟨y, dy, n1, n2, n3, n4, fp, rfl, upd_same, rfl, ?_⟩
  rw [upd_upd]
  have e3 : Ex H2 (upd (upd H2 dy (.own y)) y (.ins A.cY dy [("wage", nV n1), ("rate", nV n2), ("since", nV n3), ("till", nV n4), ("fees", .ref fp)])) := fun b o h => by
    rw [upd_ne (ne_of_none h ny), upd_ne (ne_of_none h ndy)]
    exact h
  exact k y dy _ (fresh_back (e1.trans e2) ny) ((e1.trans e2).trans e3) upd_same⟩
def sp_player (A : Ad) : Sp := fun vs H Q _ => ∃ G J a m k tp fp n1 n2 n3 n4 fe, vs = [.ref a, .ref tp, .ref fp] ∧ Ex G H ∧ Ex J H ∧ Sep G J ∧ OwnP A J a m ∧ m.Ok k ∧ H tp = some (.lst (iv [n1, n2, n3, n4])) ∧ H fp = some (.lst (iv fe)) ∧ J fp = none ∧ G fp = none ∧ fe.length ≤ 20 ∧ RetP A G a (dPlayer m n1 n2 n3 n4 fe) H Q
theorem cal_player (T : Txt K mg A) (F : HasDef K mg "player" s_player ["play", "told", "fees"]) (c_Player : Mak P w K mg base 1 "Player" A.cY (sp_Player A) []) (c_put_player : Met P w K mg base 1 A.cP "put_player" (sp_put_player A) []) : Cal P w K mg base 3 "player" (sp_player A) [] := by
  have nd := sc_player.nd
  refine def_ok F sc_player (fun vs H Q E h => ?_) (fun f cdv Ar outer s H vs Q E hr h => ⟨_, (pss_cons (ps_asg (pv 1) (pg_unl rfl (pgs_cons (pg_name (i := 3) nd rfl (Or.inl rfl)) (pgs_cons (pg_name (i := 4) nd rfl (Or.inl rfl)) (pgs_cons (pg_name (i := 5) nd rfl (Or.inl rfl)) (pgs_cons (pg_name (i := 6) nd rfl (Or.inl rfl)) pgs_nil))))))
      (pss_cons (ps_if (PW.pt (pw_or (pt_cmpR op_gt (pv 4) (pe_k (by rfl) T.kMOST_MINUTES) (nomark _)) (pw_or (pt_cmpR op_lt (pv 6) (pv 5) (nomark _)) (pw_or1 (pt_cmpR op_gt (pv 6) (pe_k (by rfl) T.kMOST_DAY) (nomark _)))))) (pss_one (ps_ret (pe_lst (pa_cons (pe_un un_neg pe_int) pa_nil)))) pss_nil)
      (pss_cons (ps_if (pt_cmpR op_eq (pe_callB call_len_seq (by rfl) T.len PySem.boot_len (pa_cons (pe_fld (pv 0) rfl) pa_nil)) (pe_k (by rfl) T.kMOST_PLAYERS) (nomark _)) (pss_one (ps_ret (pe_lst (pa_cons (pe_un un_neg pe_int) pa_nil)))) pss_nil)
      (pss_cons (ps_if (PW.pt (pw_or (pt_cmpR op_gt (pv 3) (pe_k (by rfl) T.kMOST_MONEY) (nomark _)) (pw_or (pt_cmpR op_ne (pe_callB call_len_seq (by rfl) T.len PySem.boot_len (pa_cons (pv 2) pa_nil)) (pe_callB call_len_seq (by rfl) T.len PySem.boot_len (pa_cons (pe_fld (pv 0) rfl) pa_nil)) (nomark _)) (pw_or1 (pt_cmpR (op_neD hr.units) (pe_lc (own := [("fee", 7)]) (g := (gName 7)) (tt := (tTest (tOp (rI0 fun i j => .bl (decide (j < i))) (tVar 7) (tOp (rI0 fun i j => .int (i + j)) (tC (.int 100000)) (tC (.int 1)))))) (te := (tVar 7)) rfl nd (pi_list (pv 2)) (blkOk_by (own := [("fee", 7)]) (N := N_player) (sc := C8.fnScope s_player) (by decide +kernel)) (fun _ _ _ _ _ => (pg_name (i := 7) nd rfl (Or.inl rfl))) (fun _ _ _ _ _ => (pts_one (pt_cmpR op_gt (pv 7) (pe_op op_add (pe_k (by rfl) T.kMOST_MONEY) pe_int) (nomark _)))) (fun _ _ _ _ _ => (pv 7))) (pe_lst pa_nil) (nomark _)))))) (pss_one (ps_ret (pe_lst (pa_cons (pe_un un_neg pe_int) pa_nil)))) pss_nil)
      (pss_cons (ps_expr (C8.pe_mt c_put_player hr (by decide) (pv 0) (pa_cons (C8.pe_mk c_Player hr (by decide) (by rfl) (pa_cons (pv 3) (pa_cons (pv 4) (pa_cons (pv 5) (pa_cons (pv 6) (pa_cons (pv 2) pa_nil)))))) pa_nil)))
      (pss_one (ps_ret (pe_lst (pa_cons (pe_op op_sub (pe_callB call_len_seq (by rfl) T.len PySem.boot_len (pa_cons (pe_fld (pv 0) rfl) pa_nil)) pe_int) pa_nil))))))))), ?_⟩)
  · obtain ⟨G, J, a, m, k, tp, fp, n1, n2, n3, n4, fe, rfl, _⟩ := h
    rfl
  · obtain ⟨G, J, a, m, k, tp, fp, n1, n2, n3, n4, fe, rfl, eG, eJ, sep, ow, hm, htp, hfp, hJ, hG, hl, q⟩ := h
    obtain ⟨p, dx, s1, s2, s3, s4, o⟩ := id ow
    have pl := o.play eJ
    have ld : (iv m.dress).length = m.dress.length := List.length_map ..
    have lf : (iv fe).length = fe.length := List.length_map ..
    refine q_unl4 (ev_var rfl) htp fun H0 e0 => ?_
    refine q_when (b := decide (1000 < n2) || (decide (n4 < n3) || decide (3600 < n4))) (et_or (et_test (ev_gt (ev_var rfl) (ev_c0 1000))) fun _ => et_or (et_test (ev_lt (ev_var rfl) (ev_var rfl))) fun _ => et_test (ev_gt (ev_var rfl) (ev_c0 3600))) (fun hb H1 e1 => ?_) (fun hb H1 e1 => ?_)
    · have hc : 1000 < n2 ∨ n4 < n3 ∨ 3600 < n4 := by
        rw [Bool.or_eq_true, Bool.or_eq_true, decide_eq_true_eq, decide_eq_true_eq, decide_eq_true_eq] at hb
        exact hb
      have ed : dPlayer m n1 n2 n3 n4 fe = (m, [-1]) := if_pos hc
      rw [ed] at q
      exact s_no q eG eJ sep ow (e0.trans e1)
    · have hc : ¬ (1000 < n2 ∨ n4 < n3 ∨ 3600 < n4) := by
        rw [Bool.or_eq_false_iff, Bool.or_eq_false_iff, decide_eq_false_iff_not, decide_eq_false_iff_not, decide_eq_false_iff_not] at hb
        rintro (z | z | z)
        · exact hb.1 z
        · exact hb.2.1 z
        · exact hb.2.2 z
      have e01 := e0.trans e1
      have pl1 := pl.mono e01
      refine q_when (et_test (ev_eqI (ev_lenL (ev_fld T.clP T.pl (ev_var rfl) pl1.ob (pF_l p)) pl1.pl pl1.pls.1) (ev_c0 4))) (fun hb2 H2 e2 => ?_) (fun hb2 H2 e2 => ?_)
      · have ed : dPlayer m n1 n2 n3 n4 fe = (m, [-5]) := (if_neg hc).trans (if_pos (of_decide_eq_true hb2))
        rw [ed] at q
        exact s_no q eG eJ sep ow (e01.trans e2)
      · have hc2 := of_decide_eq_false hb2
        have pl2 := pl1.mono e2
        have e02 := e01.trans e2
        have hf2 := e02 _ _ hfp
        refine q_when (b := decide (100000 < n1) || (!decide (fe.length = m.dress.length) || !fe.all fun x => decide (x ≤ 100001))) (et_or (et_test (ev_gt (ev_var rfl) (ev_c0 100000))) fun _ => et_or (et_test (ev_neI (ev_lenL (ev_var rfl) hf2 lf) (ev_lenL (ev_fld T.clP T.pd (ev_var rfl) pl2.ob (pF_d p)) pl2.dr ld))) fun _ => et_is (et_test (ev_neNil (xs := given (iv fe).length (fun i => decide (100001 < fe.getD i 0)) (fun i => nV (fe.getD i 0))) (el_lcL (fun i => decide (100001 < fe.getD i 0)) (fun i => nV (fe.getD i 0)) (ev_var rfl) (sq_of hf2) (by omega) (fun _ => rfl) ?_ ?_) ?_)) ?_) (fun hb3 H3 e3 => ?_) (fun hb3 H3 e3 => ?_)
        · intro i x H3 e3 hi
          obtain ⟨il, rfl⟩ := iv_get hi
          exact et_test (ev_gt (ev_var rfl) (ev_add (i := 100000) (j := 1) (ev_c0 100000) (ev_c0 1)))
        · intro i x H3 e3 hi _
          obtain ⟨il, rfl⟩ := iv_get hi
          exact ev_var rfl
        · rw [given_iv]
          exact flat_ivs _
        · rw [given_nil, Bool.not_not, Bool.eq_iff_iff, List.any_eq_true, Bool.not_eq_true', List.all_eq_false, lf]
          constructor
          · rintro ⟨i, hi, h⟩
            have h := of_decide_eq_true h
            exact ⟨_, getD_mem (List.mem_range.mp hi), by rw [decide_eq_true_eq]; omega⟩
          · rintro ⟨x, hx, h⟩
            obtain ⟨i, hi⟩ := List.mem_iff_getElem?.mp hx
            rw [decide_eq_true_eq] at h
            refine ⟨i, List.mem_range.mpr (nat_get hi), ?_⟩
            rw [List.getD_eq_getElem?_getD, hi]
            exact decide_eq_true (by show 100001 < x; omega)
        · have hc3 : 100000 < n1 ∨ fe.length ≠ m.dress.length ∨ ¬ (fe.all fun x => decide (x ≤ 100001)) = true := by
            rw [Bool.or_eq_true, Bool.or_eq_true, decide_eq_true_eq, Bool.not_eq_true', decide_eq_false_iff_not, Bool.not_eq_true'] at hb3
            rcases hb3 with z | z | z
            · exact .inl z
            · exact .inr (.inl z)
            · exact .inr (.inr (by rw [z]; decide))
          have ed : dPlayer m n1 n2 n3 n4 fe = (m, [-1]) := (if_neg hc).trans ((if_neg hc2).trans (if_pos hc3))
          rw [ed] at q
          exact s_no q eG eJ sep ow (e02.trans e3)
        · have hc3 : ¬ (100000 < n1 ∨ fe.length ≠ m.dress.length ∨ ¬ (fe.all fun x => decide (x ≤ 100001)) = true) := by
            rw [Bool.or_eq_false_iff, Bool.or_eq_false_iff, decide_eq_false_iff_not, Bool.not_eq_false', decide_eq_true_eq, Bool.not_eq_false'] at hb3
            rintro (z | z | z)
            · exact hb3.1 z
            · exact z hb3.2.1
            · exact z hb3.2.2
          have ed : dPlayer m n1 n2 n3 n4 fe = ({ m with players := m.players ++ [⟨n1, n2, n3, n4, fe⟩] }, [(m.players.length : Int)]) := (if_neg hc).trans ((if_neg hc2).trans (if_neg hc3))
          rw [ed] at q
          have pl3 := pl2.mono e3
          have e03 := e02.trans e3
          have hs := hm.npl
          have ls := pl.pls.1
          refine q_putY (u := a) (r := a) (s := a) (e := a) (ev_var rfl) pl3.ob (ea_cons (ev_var rfl) (ea_4 (ev_var rfl) (ev_var rfl) (ev_var rfl) (ev_var rfl))) fun y dy H4 ny e4 h4 => ?_
          refine ⟨a, dx, p, s2, _, rfl, e4 _ _ pl3.ob, e4 _ _ pl3.pl, by omega, fun H5 e5 => ?_⟩
          have eH5 := (e03.trans e4).trans e5
          have nt := fresh_back e03 ny
          obtain ⟨g1, g2, g3, g4, g5, g6⟩ := grow_all (o := .lst (s2 ++ [.ref y])) (fun b => b = y ∨ b = fp) eG eJ sep eH5 o.pl (fun b z => by
            rcases z with rfl | rfl
            · exact ⟨fresh_back eJ nt, fresh_back eG nt⟩
            · exact ⟨hJ, hG⟩)
          have ct : ∀ {b : Addr} {u : HO}, (b = y ∨ b = fp) → H5 b = some u → cut4 p (upd (more J H5 (fun b => b = y ∨ b = fp)) p.al (.lst (s2 ++ [.ref y]))) b = some u := fun {b u} z hb => by
            have nj : J b = none := by
              rcases z with rfl | rfl
              · exact fresh_back eJ nt
              · exact hJ
            exact cut4_at.mpr ⟨⟨(ne_of_none o.sc nj).symm, (ne_of_none o.pl nj).symm, (ne_of_none o.pc nj).symm, (ne_of_none o.pr nj).symm⟩, (g6 b u z hb).2⟩
          have own := o.grow2 g4 g5 (x := ⟨n1, n2, n3, n4, fe⟩) ⟨y, dy, fp, rfl, ct (.inl rfl) (e5 _ _ h4), ct (.inr rfl) (eH5 _ _ hfp)⟩
          have pl4 := own.play g1
          refine s_retL (el_lst (ea_1 (ev_sub (ev_lenL (n := m.players.length + 1) (ev_fld T.clP T.pl (ev_var rfl) pl4.ob (pF_l p)) pl4.pl (by rw [List.length_append, ls]; rfl)) (ev_c0 1) (by omega))) (by show 1 ≤ 100000; decide)) fun r' H6 hr6 e6 h6 => ?_
          refine q r' H6 _ ?_ (g2.trans e6) (g1.trans e6) g3 ⟨p, dx, s1, _, s3, s4, own⟩ h6
          have := hr6
          have nb : r' ≠ p.al := fun z => by
            rw [z, upd_same] at this
            cases this
          rw [upd_ne nb] at this
          exact fresh_back eH5 this
end Rc
set_option Elab.async false
set_option linter.all false
set_option maxRecDepth 100000
set_option maxHeartbeats 4000000
/-! # The defs: begins, asked, answer -/
namespace Rc
open PySem PySem.Spec PyProof.Rows L2 Evl
open C8 (Cal Met Mak)
/-- a call on the holder at h: G stands, what is owned goes on -/
def RetM (A : Ad) (G : Hp) (h : Addr) (r : Pm × List Int) (H : Hp) (Q : VK) : Prop := ∀ p H' J', H p = none → Ex G H' → Ex J' H' → Sep G J' → HoldAt A J' h r.1 → H' p = some (.lst (jv r.2)) → Q (.ref p) H'
theorem RetM.at {A : Ad} {G : Hp} {h : Addr} {r : Pm × List Int} {H H1 : Hp} {Q : VK} (q : RetM A G h r H Q) (e : Ex H H1) : RetM A G h r H1 Q := fun p H' J' hp => q p H' J' (fresh_back e hp)
def codeOf : Uw07.Call → Nat
  | .begins _ => 0
  | .scene _ _ => 1
  | .player _ _ _ _ _ => 2
  | .piece _ _ => 3
  | .ahead _ _ => 4
  | .best => 5
  | .apart => 6
  | .check _ _ => 7
  | .order _ => 8
def toldOf : Uw07.Call → List Nat
  | .scene n _ => [n]
  | .player w r a b _ => [w, r, a, b]
  | .piece n _ => [n]
  | .ahead i j => [i, j]
  | _ => []
def rowsOf : Uw07.Call → List (List Nat)
  | .begins d => [d]
  | .scene _ r => [r]
  | .player _ _ _ _ f => [f]
  | .piece _ r => [r]
  | .check c o => [c, o]
  | .order c => [c]
  | _ => []
theorem raw_parts (x : Uw07.Call) : rawOf x = ((codeOf x : Int) :: ns (toldOf x)) :: (rowsOf x).map ns := by cases x <;> rfl
section
variable {K : PySem.W.Frag} {A : Ad} {σ : L2.St} {H H' : Hp} {te : TE} {D : Ends} {E : XK} {tz tu : TS}
/-- if call == i: .. -/
theorem q_skip {i c : Nat} (h : Ev te σ H (nV c)) (ne : c ≠ i) (k : ∀ H1, Ex H H1 → tz D σ H1) : tSeq (tIfS (tTest (tOp rEq te (tC (.int (i : Int))))) tu tNext) tz D σ H :=
  q_when (b := false) (et_is (et_test (ev_eqI h (ev_c0 i))) (decide_eq_false ne)) (fun z => by cases z) fun _ H1 e => k H1 e
theorem q_hit {i : Nat} (h : Ev te σ H (nV i)) (k : ∀ H1, Ex H H1 → tu { D with nx := tz D } σ H1) : tSeq (tIfS (tTest (tOp rEq te (tC (.int (i : Int))))) tu tNext) tz D σ H :=
  q_when (b := true) (et_is (et_test (ev_eqI h (ev_c0 i))) (decide_eq_true rfl)) (fun _ H1 e => k H1 e) fun z => by cases z
theorem s_retS {sp : Sp} {vs : List V} {t : TA} (h : EvA t σ H vs) (k : ∀ H1, Ex H H1 → sp vs H1 D.rt E) : tRet (tCall sp [] E t) D σ H := h H (Ex.refl H) _ fun H1 e => by
  rw [List.append_nil]
  exact k H1 e
end
theorem q_holdNew {σ : L2.St} {H : Hp} {ta td : TE} {D : Ends} {E E' : XK} {tz : TS} {A : Ad} {h dx a0 d : Addr} {l : List Nat} (ha : Ev ta σ H (.ref h)) (ho : H h = some (.ins A.cH dx (hF a0))) (hd : Ev td σ H (.ref d)) (hd' : H d = some (.lst (iv l)))
    (k : ∀ x F J1 H3, Ex H H3 → H3 x = none → Ex H3 F → Ex J1 F → OwnP A J1 x ⟨l, [], [], [], []⟩ → (∀ b o, J1 b = some o → b = d ∨ H3 b = none) → tz D σ (upd F h (.ins A.cH dx (hF x)))) :
    tSeq (tDrop (tMeth A.cH "hold" (sp_hold A) [] E ta (tCons (tMake A.cP (sp_Play A) [] E' (tCons td tNil)) tNil))) tz D σ H := ha H (Ex.refl H) _ fun H1 e1 => ⟨h, dx, hF a0, rfl, e1 _ _ ho, hF_hold a0, hd H1 e1 _ fun H2 e2 =>
  make_play (l := l) (Q := fun x F => sp_hold A (.ref h :: ([V.ref x] ++ [])) F (fun _ H4 => tz D σ H4) E) (e2 _ _ (e1 _ _ hd')) fun x F J1 hx e3 eJ ow hJ => ⟨h, dx, a0, x, rfl, e3 _ _ (e2 _ _ (e1 _ _ ho)), k x F J1 H2 (e1.trans e2) hx e3 eJ ow hJ⟩⟩
variable {P : Program} {w : World} {K : PySem.W.Frag} {mg : Str → Option Value} {base : Heap} {A : Ad}
/-! ### begins -/
def sp_begins (A : Ad) : Sp := fun vs H Q _ => ∃ G J h m dp d, vs = [.ref h, .ref dp] ∧ Ex G H ∧ Ex J H ∧ Sep G J ∧ HoldAt A J h m ∧ H dp = some (.lst (iv d)) ∧ J dp = none ∧ G dp = none ∧ d.length ≤ 20 ∧ RetM A G h (dBegins m d) H Q
theorem cal_begins (T : Txt K mg A) (F : HasDef K mg "begins" s_begins ["holder", "dressing"]) (c_Play : Mak P w K mg base 1 "Play" A.cP (sp_Play A) []) (c_hold : Met P w K mg base 1 A.cH "hold" (sp_hold A) []) : Cal P w K mg base 3 "begins" (sp_begins A) [] := by
  have nd := sc_begins.nd
  refine def_ok F sc_begins (fun vs H Q E h => ?_) (fun f cdv Ar outer s H vs Q E hr h => ⟨_, (pss_cons (ps_if (PW.pt (pw_or (pt_not (pt_chain op_le op_le pe_int (pe_callB call_len_seq (by rfl) T.len PySem.boot_len (pa_cons (pv 1) pa_nil)) (pe_k (by rfl) T.kMOST_ROLES))) (pw_or1 (pt_cmpR op_gt (pe_callB (cr_max rfl) (by rfl) T.max (by decide +kernel) (pa_cons (pv 1) pa_nil)) (pe_k (by rfl) T.kMOST_MINUTES) (nomark _))))) (pss_one (ps_ret (pe_lst (pa_cons (pe_un un_neg pe_int) pa_nil)))) pss_nil)
      (pss_cons (ps_expr (C8.pe_mt c_hold hr (by decide) (pv 0) (pa_cons (C8.pe_mk c_Play hr (by decide) (by rfl) (pa_cons (pv 1) pa_nil)) pa_nil)))
      (pss_one (ps_ret (pe_lst (pa_cons (pe_callB call_len_seq (by rfl) T.len PySem.boot_len (pa_cons (pv 1) pa_nil)) pa_nil)))))), ?_⟩)
  · obtain ⟨G, J, h, m, dp, d, rfl, _⟩ := h
    rfl
  · obtain ⟨G, J, h, m, dp, d, rfl, eG, eJ, sep, hold, hd, hJ, hG, hl, q⟩ := h
    obtain ⟨dxh, a0, hh, ow⟩ := id hold
    have ld : (iv d).length = d.length := List.length_map ..
    refine q_when (b := !(decide (1 ≤ d.length) && decide (d.length ≤ 5)) || !d.all fun x => decide (x ≤ 1000)) (et_or (et_not (et_test (ev_chain (ev_c0 1) (ev_lenL (ev_var rfl) hd ld) (ev_c0 5)))) fun z => et_max (n := 1000) (ev_var rfl) hd ?_) (fun hb H1 e1 => ?_) (fun hb H1 e1 => ?_)
    · rw [Bool.not_eq_false', Bool.and_eq_true, decide_eq_true_eq] at z
      omega
    · have hc : d.length < 1 ∨ 5 < d.length ∨ ¬ (d.all fun x => decide (x ≤ 1000)) = true := by
        rw [Bool.or_eq_true, Bool.not_eq_true', Bool.not_eq_true', Bool.and_eq_false_iff, decide_eq_false_iff_not, decide_eq_false_iff_not] at hb
        rcases hb with (z | z) | z
        · exact .inl (by omega)
        · exact .inr (.inl (by omega))
        · exact .inr (.inr (by rw [z]; decide))
      have ed : dBegins m d = (m, [-1]) := if_pos hc
      rw [ed] at q
      exact s_retL el_neg fun r H2 hr e2 h2 => q r H2 J (fresh_back e1 hr) (eG.trans (e1.trans e2)) (eJ.trans (e1.trans e2)) sep hold h2
    · have hc : ¬ (d.length < 1 ∨ 5 < d.length ∨ ¬ (d.all fun x => decide (x ≤ 1000)) = true) := by
        rw [Bool.or_eq_false_iff, Bool.not_eq_false', Bool.not_eq_false', Bool.and_eq_true, decide_eq_true_eq, decide_eq_true_eq] at hb
        rintro (z | z | z)
        · omega
        · omega
        · exact z hb.2
      have ed : dBegins m d = (⟨d, [], [], [], []⟩, [(d.length : Int)]) := if_neg hc
      rw [ed] at q
      refine q_holdNew (ev_var rfl) (e1 _ _ (eJ _ _ hh)) (ev_var rfl) (e1 _ _ hd) fun x F J1 H3 e3 hx e4 eJ1 own hJ1 => ?_
      have e13 := e1.trans e3
      have e14 := e13.trans e4
      have nh : ∀ {b : Addr} {o : HO}, J1 b = some o → b ≠ h := fun {b o} hb z => by
        rcases hJ1 b o hb with r | r
        · rw [r] at z
          rw [z] at hd
          rw [eJ _ _ hh] at hd
          cases hd
        · rw [z, e13 _ _ (eJ _ _ hh)] at r
          cases r
      have ndp : dp ≠ h := fun z => by
        rw [z, eJ _ _ hh] at hd
        cases hd
      refine s_retL (el_lst (ea_1 (ev_lenL (ev_var rfl) (by rw [upd_ne ndp]; exact e14 _ _ hd) ld)) (by show 1 ≤ 100000; decide)) fun r H5 hr5 e5 h5 => ?_
      refine q r H5 (upd J1 h (.ins A.cH dxh (hF x))) ?_ (((eG.trans e14).mut (sep _ _ hh)).trans e5) (Ex.trans (fun b o hb => ?_) e5) (fun b o hb => ?_) ⟨dxh, x, upd_same, ?_⟩ h5
      · have nb : r ≠ h := fun z => by
          rw [z, upd_same] at hr5
          cases hr5
        rw [upd_ne nb] at hr5
        exact fresh_back e14 hr5
      · by_cases c : b = h
        · rw [c, upd_same] at hb
          rw [c, upd_same]
          exact hb
        · rw [upd_ne c] at hb
          rw [upd_ne c]
          exact eJ1 _ _ hb
      · by_cases c : b = h
        · rw [c]
          exact sep _ _ hh
        · rw [upd_ne c] at hb
          rcases hJ1 b o hb with z | z
          · rw [z]
            exact hG
          · exact fresh_back (eG.trans e13) z
      · rw [cut_upd]
        exact own.mono fun b o hb => cut_at hb (nh hb)
/-! ### asked -/
def Quiet : Uw07.Call → Prop
  | .best => True
  | .apart => True
  | .check _ _ => True
  | .order _ => True
  | _ => False
def sp_asked (A : Ad) : Sp := lstSp fun vs H xs => ∃ a m x rp rs, vs = [.ref a, nV (codeOf x), .ref rp] ∧ PlayR A H a m ∧ Fine m ∧ H rp = some (.lst rs) ∧ Ats (isL H) rs (rowsOf x) ∧ Quiet x ∧ Small x ∧ xs = jv (stepM m x).2
theorem cal_asked (T : Txt K mg A) (F : HasDef K mg "asked" s_asked ["play", "call", "rows"]) (c_best : Cal P w K mg base 6 "best" (sp_best A) []) (c_apart : Cal P w K mg base 5 "apart" (sp_apart A) []) (c_check : Cal P w K mg base 5 "check" (sp_check A) []) (c_order : Cal P w K mg base 5 "order" (sp_order A) []) : Cal P w K mg base 7 "asked" (sp_asked A) [] := by
  have nd := sc_asked.nd
  refine def_ok F sc_asked (fun vs H Q E h => ?_) (fun f cdv Ar outer s H vs Q E hr h => ⟨_, (pss_cons (ps_if (pt_cmpR op_eq (pv 1) pe_int (nomark _)) (pss_one (ps_ret (C8.pe_c c_best hr (by decide) (by rfl) (pa_cons (pv 0) pa_nil)))) pss_nil)
      (pss_cons (ps_if (pt_cmpR op_eq (pv 1) pe_int (nomark _)) (pss_one (ps_ret (C8.pe_c c_apart hr (by decide) (by rfl) (pa_cons (pv 0) pa_nil)))) pss_nil)
      (pss_cons (ps_if (pt_cmpR op_eq (pv 1) pe_int (nomark _)) (pss_one (ps_ret (C8.pe_c c_check hr (by decide) (by rfl) (pa_cons (pv 0) (pa_cons (pe_ix ix_list (pv 2) pe_int (fun _ _ => rfl)) (pa_cons (pe_ix ix_list (pv 2) pe_int (fun _ _ => rfl)) pa_nil)))))) pss_nil)
      (pss_one (ps_ret (C8.pe_c c_order hr (by decide) (by rfl) (pa_cons (pv 0) (pa_cons (pe_ix ix_list (pv 2) pe_int (fun _ _ => rfl)) pa_nil)))))))), ?_⟩)
  · obtain ⟨z, ⟨a, m, x, rp, rs, rfl, _⟩, _⟩ := h
    rfl
  · obtain ⟨xs, ⟨a, m, x, rp, rs, rfl, hp, hfine, hrp, hat, hq, hs, rfl⟩, q⟩ := h
    have row : ∀ {j : Nat} {l : List Nat} {H1 : Hp}, Ex H H1 → (rowsOf x)[j]? = some l → ∃ r, H1 r = some (.lst (iv l)) ∧ ∀ {te : TE} {σ : L2.St}, Ev te σ H1 (.ref rp) → Ev (tOp (rIxL K) te (tC (.int (j : Int)))) σ H1 (.ref r) := fun {j l H1} e hj => by
      obtain ⟨v, hv, r, rfl, hr⟩ := hat.2 j l hj
      exact ⟨r, e _ _ hr, fun h => ev_ixL (j := j) h (ev_c0 j) (e _ _ hrp) hv⟩
    cases x with
    | begins d => exact hq.elim
    | scene n r => exact hq.elim
    | player w r a b f => exact hq.elim
    | piece n r => exact hq.elim
    | ahead i j => exact hq.elim
    | best =>
      refine q_hit (i := 5) (ev_var rfl) fun H1 e1 => ?_
      exact s_retL (el_c1 (ea_1 (ev_var rfl)) (spL_of fun H2 e2 => ⟨a, m, rfl, hp.mono (e1.trans e2), hfine, rfl⟩)) fun r H2 hr2 e2 h2 => q r H2 (fresh_back e1 hr2) (e1.trans e2) h2
    | apart =>
      refine q_skip (i := 5) (ev_var rfl) (by simp [codeOf]) fun H1 e1 => q_hit (i := 6) (ev_var rfl) fun H2 e2 => ?_
      exact s_retL (el_c1 (ea_1 (ev_var rfl)) (spL_of fun H3 e3 => ⟨a, m, rfl, hp.mono ((e1.trans e2).trans e3), hfine, rfl⟩)) fun r H3 hr3 e3 h3 => q r H3 (fresh_back (e1.trans e2) hr3) ((e1.trans e2).trans e3) h3
    | check c o =>
      refine q_skip (i := 5) (ev_var rfl) (by simp [codeOf]) fun H1 e1 => q_skip (i := 6) (ev_var rfl) (by simp [codeOf]) fun H2 e2 => q_hit (i := 7) (ev_var rfl) fun H3 e3 => ?_
      have e := (e1.trans e2).trans e3
      obtain ⟨r0, h0, v0⟩ := row (j := 0) e rfl
      obtain ⟨r1, h1, v1⟩ := row (j := 1) e rfl
      exact s_retL (el_c1 (ea_3 (ev_var rfl) (v0 (ev_var rfl)) (v1 (ev_var rfl))) (spL_of fun H4 e4 => ⟨a, m, r0, c, r1, o, rfl, hp.mono (e.trans e4), hfine, e4 _ _ h0, e4 _ _ h1, hs.1, hs.2, rfl⟩)) fun r H4 hr4 e4 h4 => q r H4 (fresh_back e hr4) (e.trans e4) h4
    | order c =>
      refine q_skip (i := 5) (ev_var rfl) (by simp [codeOf]) fun H1 e1 => q_skip (i := 6) (ev_var rfl) (by simp [codeOf]) fun H2 e2 => q_skip (i := 7) (ev_var rfl) (by simp [codeOf]) fun H3 e3 => ?_
      have e := (e1.trans e2).trans e3
      obtain ⟨r0, h0, v0⟩ := row (j := 0) e rfl
      exact s_retL (el_c1 (ea_2 (ev_var rfl) (v0 (ev_var rfl))) (spL_of fun H4 e4 => ⟨a, m, r0, c, rfl, hp.mono (e.trans e4), hfine, e4 _ _ h0, hs, rfl⟩)) fun r H4 hr4 e4 h4 => q r H4 (fresh_back e hr4) (e.trans e4) h4
/-! ### answer -/
/-- a row that is nobody's yet -/
def isF (G J H : Hp) (v : V) (l : List Nat) : Prop := ∃ p, v = .ref p ∧ H p = some (.lst (iv l)) ∧ J p = none ∧ G p = none
def sp_answer (A : Ad) : Sp := fun vs H Q _ => ∃ G J h m k x tp rp rs, vs = [.ref h, nV (codeOf x), .ref tp, .ref rp] ∧ Ex G H ∧ Ex J H ∧ Sep G J ∧ HoldAt A J h m ∧ m.Ok k ∧ k ≤ 1000 ∧ H tp = some (.lst (iv (toldOf x))) ∧ H rp = some (.lst rs) ∧ Ats (isF G J H) rs (rowsOf x) ∧ Small x ∧ RetM A G h (stepM m x) H Q
/-- a call that has the play alone, seen from the holder -/
theorem ret_hold {G J H : Hp} {h dx a : Addr} {m : Pm} {r : Pm × List Int} {Q : VK} (eG : Ex G H) (eJ : Ex J H) (sep : Sep G J) (hh : J h = some (.ins A.cH dx (hF a))) (q : RetM A G h r H Q) :
    Ex (upd G h (.ins A.cH dx (hF a))) H ∧ Ex (cut h J) H ∧ Sep (upd G h (.ins A.cH dx (hF a))) (cut h J) ∧ (∀ p, J p = none → cut h J p = none) ∧ (∀ p, J p = none → G p = none → upd G h (.ins A.cH dx (hF a)) p = none) ∧ RetP A (upd G h (.ins A.cH dx (hF a))) a r H Q := by
  have gh := sep _ _ hh
  refine ⟨fun b o hb => ?_, fun b o hb => eJ _ _ (cut_ex _ _ hb), fun b o hb => ?_, fun p hp => ?_, fun p hp hg => ?_, fun p H' J' hp eG' eJ' sep' own' h' => ?_⟩
  · by_cases c : b = h
    · rw [c, upd_same] at hb
      rw [c, eJ _ _ hh]
      exact hb
    · rw [upd_ne c] at hb
      exact eG _ _ hb
  · have c : b ≠ h := fun z => by
      unfold cut at hb
      rw [if_pos z] at hb
      cases hb
    rw [upd_ne c]
    exact sep _ _ (cut_ex _ _ hb)
  · unfold cut
    by_cases c : p = h
    · rw [if_pos c]
    · rw [if_neg c]
      exact hp
  · have c : p ≠ h := fun z => by
      rw [z, hh] at hp
      cases hp
    rw [upd_ne c]
    exact hg
  · have nh : ∀ {b : Addr} {o : HO}, J' b = some o → b ≠ h := fun {b o} hb z => by
      have := sep' _ _ hb
      rw [z, upd_same] at this
      cases this
    refine q p H' (upd J' h (.ins A.cH dx (hF a))) hp (fun b o hb => eG' _ _ (by rw [upd_ne (ne_of_none hb gh)]; exact hb)) (fun b o hb => ?_) (fun b o hb => ?_) ⟨dx, a, upd_same, ?_⟩ h'
    · by_cases c : b = h
      · rw [c, upd_same] at hb
        rw [c, eG' _ _ upd_same]
        exact hb
      · rw [upd_ne c] at hb
        exact eJ' _ _ hb
    · by_cases c : b = h
      · rw [c]
        exact gh
      · rw [upd_ne c] at hb
        have := sep' _ _ hb
        rw [upd_ne c] at this
        exact this
    · rw [cut_upd]
      exact own'.mono fun b o hb => cut_at hb (nh hb)
theorem cal_answer (T : Txt K mg A) (F : HasDef K mg "answer" s_answer ["holder", "call", "told", "rows"]) (c_begins : Cal P w K mg base 3 "begins" (sp_begins A) []) (c_scene : Cal P w K mg base 2 "scene" (sp_scene A) []) (c_player : Cal P w K mg base 3 "player" (sp_player A) []) (c_piece : Cal P w K mg base 2 "piece" (sp_piece A) []) (c_ahead : Cal P w K mg base 2 "ahead" (sp_ahead A) [])
    (c_asked : Cal P w K mg base 7 "asked" (sp_asked A) []) : Cal P w K mg base 8 "answer" (sp_answer A) [] := by
  have nd := sc_answer.nd
  refine def_ok F sc_answer (fun vs H Q E h => ?_) (fun f cdv Ar outer s H vs Q E hr h => ⟨_, (pss_cons (ps_set (i := 4) nd rfl (Or.inl rfl) (pe_fld (pv 0) rfl))
      (pss_cons (ps_if (pt_cmpR op_eq (pv 1) pe_int (nomark _)) (pss_one (ps_ret (C8.pe_c c_begins hr (by decide) (by rfl) (pa_cons (pv 0) (pa_cons (pe_ix ix_list (pv 3) pe_int (fun _ _ => rfl)) pa_nil))))) pss_nil)
      (pss_cons (ps_if (pt_cmpR op_eq (pv 1) pe_int (nomark _)) (pss_one (ps_ret (C8.pe_c c_scene hr (by decide) (by rfl) (pa_cons (pv 4) (pa_cons (pe_ix ix_list (pv 2) pe_int (fun _ _ => rfl)) (pa_cons (pe_ix ix_list (pv 3) pe_int (fun _ _ => rfl)) pa_nil)))))) pss_nil)
      (pss_cons (ps_if (pt_cmpR op_eq (pv 1) pe_int (nomark _)) (pss_one (ps_ret (C8.pe_c c_player hr (by decide) (by rfl) (pa_cons (pv 4) (pa_cons (pv 2) (pa_cons (pe_ix ix_list (pv 3) pe_int (fun _ _ => rfl)) pa_nil)))))) pss_nil)
      (pss_cons (ps_if (pt_cmpR op_eq (pv 1) pe_int (nomark _)) (pss_one (ps_ret (C8.pe_c c_piece hr (by decide) (by rfl) (pa_cons (pv 4) (pa_cons (pe_ix ix_list (pv 2) pe_int (fun _ _ => rfl)) (pa_cons (pe_ix ix_list (pv 3) pe_int (fun _ _ => rfl)) pa_nil)))))) pss_nil)
      (pss_cons (ps_if (pt_cmpR op_eq (pv 1) pe_int (nomark _)) (pss_one (ps_ret (C8.pe_c c_ahead hr (by decide) (by rfl) (pa_cons (pv 4) (pa_cons (pe_ix ix_list (pv 2) pe_int (fun _ _ => rfl)) (pa_cons (pe_ix ix_list (pv 2) pe_int (fun _ _ => rfl)) pa_nil)))))) pss_nil)
      (pss_one (ps_ret (C8.pe_c c_asked hr (by decide) (by rfl) (pa_cons (pv 4) (pa_cons (pv 1) (pa_cons (pv 3) pa_nil)))))))))))), ?_⟩)
  · obtain ⟨G, J, h, m, k, x, tp, rp, rs, rfl, _⟩ := h
    rfl
  · obtain ⟨G, J, h, m, k, x, tp, rp, rs, rfl, eG, eJ, sep, hold, hm, hk, htp, hrp, hat, hs, q⟩ := h
    obtain ⟨dx, a, hh, ow⟩ := id hold
    have row : ∀ {j : Nat} {l : List Nat}, (rowsOf x)[j]? = some l → ∃ r, H r = some (.lst (iv l)) ∧ J r = none ∧ G r = none ∧ ∀ {te : TE} {σ : L2.St} {H1 : Hp}, Ex H H1 → Ev te σ H1 (.ref rp) → Ev (tOp (rIxL K) te (tC (.int (j : Int)))) σ H1 (.ref r) := fun {j l} hj => by
      obtain ⟨v, hv, r, rfl, hr, h1, h2⟩ := hat.2 j l hj
      exact ⟨r, hr, h1, h2, fun e h => ev_ixL (j := j) h (ev_c0 j) (e _ _ hrp) hv⟩
    have tld : ∀ {j n : Nat} {te : TE} {σ : L2.St} {H1 : Hp}, (toldOf x)[j]? = some n → Ex H H1 → Ev te σ H1 (.ref tp) → Ev (tOp (rIxL K) te (tC (.int (j : Int)))) σ H1 (nV n) := fun {j n te σ H1} hj e h => by
      have l := nat_get hj
      refine ev_is (ev_at (j := j) h (ev_c0 j) (e _ _ htp) l) ?_
      rw [getD_of hj]
    refine q_asg (ev_fld T.clH T.hp (ev_var rfl) (eJ _ _ hh) (hF_p a)) fun H0 e0 => ?_
    have hq : ∀ {r : Pm × List Int} {H1 : Hp}, Ex H H1 → RetM A G h r H Q → _ := fun {r H1} e q => ret_hold (m := m) (r := r) (eG.trans e) (eJ.trans e) sep hh (q.at e)
    have quiet : Quiet x → ∀ {H1 : Hp}, Ex H H1 → ∀ {nx bk ct : L2.St → Hp → Prop}, tRet (tCall (sp_asked A) [] C8.E0 (tCons (tVar 4) (tCons (tVar 1) (tCons (tVar 3) tNil)))) { nx := nx, rt := Q, bk := bk, ct := ct } [some (.ref h), some (nV (codeOf x)), some (.ref tp), some (.ref rp), some (.ref a)] H1 := fun hx {H1} e {nx bk ct} => by
      have hfst : (stepM m x).1 = m := by cases x <;> first | rfl | exact hx.elim
      exact s_retL (el_c1 (ea_3 (ev_var rfl) (ev_var rfl) (ev_var rfl)) (spL_of fun H2 e2 => ⟨a, m, x, rp, rs, rfl, ow.play (Ex.trans cut_ex (eJ.trans (e.trans e2))), ⟨k, hm⟩, e2 _ _ (e _ _ hrp), hat.mono fun _ _ ⟨r, z1, z2, _⟩ => ⟨r, z1, e2 _ _ (e _ _ z2)⟩, hx, hs, rfl⟩)) fun r H2 hr2 e2 h2 => q r H2 J (fresh_back e hr2) (eG.trans (e.trans e2)) (eJ.trans (e.trans e2)) sep (by rw [hfst]; exact hold) h2
    cases x with
    | begins d =>
      obtain ⟨r0, h0, j0, g0, v0⟩ := row (j := 0) rfl
      refine q_hit (i := 0) (ev_var rfl) fun H1 e1 => ?_
      have e := e0.trans e1
      exact s_retS (ea_2 (ev_var rfl) (v0 e (ev_var rfl))) fun H2 e2 => ⟨G, J, h, m, r0, d, rfl, eG.trans (e.trans e2), eJ.trans (e.trans e2), sep, hold, e2 _ _ (e _ _ h0), j0, g0, hs, q.at (e.trans e2)⟩
    | scene n r =>
      obtain ⟨r0, h0, j0, g0, v0⟩ := row (j := 0) rfl
      refine q_skip (i := 0) (ev_var rfl) (by simp [codeOf]) fun H1 e1 => q_hit (i := 1) (ev_var rfl) fun H2 e2 => ?_
      have e := (e0.trans e1).trans e2
      refine s_retS (ea_3 (ev_var rfl) (tld (j := 0) rfl e (ev_var rfl)) (v0 e (ev_var rfl))) fun H3 e3 => ?_
      obtain ⟨a1, a2, a3, a4, a5, a6⟩ := hq (e.trans e3) q
      exact ⟨_, _, a, m, k, n, r0, r, rfl, a1, a2, a3, ow, hm, e3 _ _ (e _ _ h0), a4 _ j0, a5 _ j0 g0, hs, a6⟩
    | player n1 n2 n3 n4 fe =>
      obtain ⟨r0, h0, j0, g0, v0⟩ := row (j := 0) rfl
      refine q_skip (i := 0) (ev_var rfl) (by simp [codeOf]) fun H1 e1 => q_skip (i := 1) (ev_var rfl) (by simp [codeOf]) fun H2 e2 => q_hit (i := 2) (ev_var rfl) fun H3 e3 => ?_
      have e := ((e0.trans e1).trans e2).trans e3
      refine s_retS (ea_3 (ev_var rfl) (ev_var rfl) (v0 e (ev_var rfl))) fun H4 e4 => ?_
      obtain ⟨a1, a2, a3, a4, a5, a6⟩ := hq (e.trans e4) q
      exact ⟨_, _, a, m, k, tp, r0, n1, n2, n3, n4, fe, rfl, a1, a2, a3, ow, hm, e4 _ _ (e _ _ htp), e4 _ _ (e _ _ h0), a4 _ j0, a5 _ j0 g0, hs, a6⟩
    | piece n r =>
      obtain ⟨r0, h0, j0, g0, v0⟩ := row (j := 0) rfl
      refine q_skip (i := 0) (ev_var rfl) (by simp [codeOf]) fun H1 e1 => q_skip (i := 1) (ev_var rfl) (by simp [codeOf]) fun H2 e2 => q_skip (i := 2) (ev_var rfl) (by simp [codeOf]) fun H3 e3 => q_hit (i := 3) (ev_var rfl) fun H4 e4 => ?_
      have e := (((e0.trans e1).trans e2).trans e3).trans e4
      refine s_retS (ea_3 (ev_var rfl) (tld (j := 0) rfl e (ev_var rfl)) (v0 e (ev_var rfl))) fun H5 e5 => ?_
      obtain ⟨a1, a2, a3, a4, a5, a6⟩ := hq (e.trans e5) q
      exact ⟨_, _, a, m, k, n, r0, r, rfl, a1, a2, a3, ow, hm, e5 _ _ (e _ _ h0), a4 _ j0, a5 _ j0 g0, hs, a6⟩
    | ahead i j =>
      refine q_skip (i := 0) (ev_var rfl) (by simp [codeOf]) fun H1 e1 => q_skip (i := 1) (ev_var rfl) (by simp [codeOf]) fun H2 e2 => q_skip (i := 2) (ev_var rfl) (by simp [codeOf]) fun H3 e3 => q_skip (i := 3) (ev_var rfl) (by simp [codeOf]) fun H4 e4 => q_hit (i := 4) (ev_var rfl) fun H5 e5 => ?_
      have e := ((((e0.trans e1).trans e2).trans e3).trans e4).trans e5
      refine s_retS (ea_3 (ev_var rfl) (tld (j := 0) rfl e (ev_var rfl)) (tld (j := 1) rfl e (ev_var rfl))) fun H6 e6 => ?_
      obtain ⟨a1, a2, a3, a4, a5, a6⟩ := hq (e.trans e6) q
      exact ⟨_, _, a, m, k, i, j, rfl, a1, a2, a3, ow, hm, hk, a6⟩
    | best =>
      refine q_skip (i := 0) (ev_var rfl) (by simp [codeOf]) fun H1 e1 => q_skip (i := 1) (ev_var rfl) (by simp [codeOf]) fun H2 e2 => q_skip (i := 2) (ev_var rfl) (by simp [codeOf]) fun H3 e3 => q_skip (i := 3) (ev_var rfl) (by simp [codeOf]) fun H4 e4 => q_skip (i := 4) (ev_var rfl) (by simp [codeOf]) fun H5 e5 => ?_
      exact quiet trivial (((((e0.trans e1).trans e2).trans e3).trans e4).trans e5)
    | apart =>
      refine q_skip (i := 0) (ev_var rfl) (by simp [codeOf]) fun H1 e1 => q_skip (i := 1) (ev_var rfl) (by simp [codeOf]) fun H2 e2 => q_skip (i := 2) (ev_var rfl) (by simp [codeOf]) fun H3 e3 => q_skip (i := 3) (ev_var rfl) (by simp [codeOf]) fun H4 e4 => q_skip (i := 4) (ev_var rfl) (by simp [codeOf]) fun H5 e5 => ?_
      exact quiet trivial (((((e0.trans e1).trans e2).trans e3).trans e4).trans e5)
    | check c o =>
      refine q_skip (i := 0) (ev_var rfl) (by simp [codeOf]) fun H1 e1 => q_skip (i := 1) (ev_var rfl) (by simp [codeOf]) fun H2 e2 => q_skip (i := 2) (ev_var rfl) (by simp [codeOf]) fun H3 e3 => q_skip (i := 3) (ev_var rfl) (by simp [codeOf]) fun H4 e4 => q_skip (i := 4) (ev_var rfl) (by simp [codeOf]) fun H5 e5 => ?_
      exact quiet trivial (((((e0.trans e1).trans e2).trans e3).trans e4).trans e5)
    | order c =>
      refine q_skip (i := 0) (ev_var rfl) (by simp [codeOf]) fun H1 e1 => q_skip (i := 1) (ev_var rfl) (by simp [codeOf]) fun H2 e2 => q_skip (i := 2) (ev_var rfl) (by simp [codeOf]) fun H3 e3 => q_skip (i := 3) (ev_var rfl) (by simp [codeOf]) fun H4 e4 => q_skip (i := 4) (ev_var rfl) (by simp [codeOf]) fun H5 e5 => ?_
      exact quiet trivial (((((e0.trans e1).trans e2).trans e3).trans e4).trans e5)
end Rc
set_option Elab.async false
set_option linter.all false
set_option maxRecDepth 100000
set_option maxHeartbeats 4000000
/-! # The def answers: the line of calls -/
namespace Rc
open PySem PySem.Spec PyProof.Rows L2 Evl
open C8 (Cal Met Mak)
theorem mid_at {α : Type} (pre t : List α) (c : α) : (pre ++ c :: t)[pre.length]? = some c := by simp
theorem mid_cut {α : Type} (pre t r : List α) (c : α) : ((pre ++ c :: (t ++ r)).take (pre.length + 1 + t.length)).drop (pre.length + 1) = t := by
  have e : pre ++ c :: (t ++ r) = ((pre ++ [c]) ++ t) ++ r := by simp
  have l1 : ((pre ++ [c]) ++ t).length = pre.length + 1 + t.length := by
    rw [List.length_append, List.length_append, List.length_singleton]
  have l2 : (pre ++ [c]).length = pre.length + 1 := by simp
  rw [e, ← l1, List.take_left, ← l2, List.drop_left]
theorem told_cons (a : List Int) (r : List (List Int)) : PyFlat.told (a :: r) = ((a.length : Int) :: a) ++ PyFlat.told r := by
  unfold PyFlat.told
  rw [List.flatMap_cons]
theorem jv_app (a b : List Int) : jv (a ++ b) = jv a ++ jv b := List.map_append
theorem jv_mid (pre t r : List Int) (c : Int) : jv (pre ++ c :: (t ++ r)) = jv pre ++ V.int c :: (jv t ++ jv r) := by
  unfold jv
  rw [List.map_append, List.map_cons, List.map_append]
section
variable {K : PySem.W.Frag} {A : Ad} {σ : L2.St} {H H' : Hp} {ta tb te : TE} {D : Ends} {E : XK} {tz tu : TS}
theorem ev_ixS {p : Addr} {xs : List V} {j : Nat} {v : V} (ha : Ev ta σ H (.ref p)) (hb : Ev tb σ H (nV j)) (h : SqL K H p xs) (hx : xs[j]? = some v) : Ev (tOp (rIxL K) ta tb) σ H v := ev_op ha hb (rv_ixL h (atI_nat hx))
theorem q_appBig {l : Addr} {xs : List V} {v : V} (hl : H l = some (.lst xs)) (ha : Ev ta σ H (.ref l)) (h : Ev te σ H v) (hz : xs.length < sizeLine) (k : ∀ H1, Ex H H1 → tz D σ (upd H1 l (.lst (xs ++ [v])))) :
    tSeq (tDrop (tBM K "list" rAppend ta (tCons te tNil))) tz D σ H := ha H (Ex.refl H) _ fun H1 e1 =>
  ⟨Or.inl ⟨rfl, xs, sq_of (e1 l _ hl)⟩, h H1 e1 _ fun H2 e2 => ⟨l, xs, v, rfl, rfl, e2 l _ (e1 l _ hl), hz, k H2 (e1.trans e2)⟩⟩
theorem s_extBig {l p : Addr} {xs ys : List V} (hl : H l = some (.lst xs)) (ha : Ev ta σ H (.ref l)) (h : Ev te σ H (.ref p)) (hp : H p = some (.lst ys)) (hz : xs.length + ys.length ≤ sizeLine) (k : ∀ H1, Ex H H1 → D.nx σ (upd H1 l (.lst (xs ++ ys)))) :
    tDrop (tBM K "list" rExtend ta (tCons te tNil)) D σ H := ha H (Ex.refl H) _ fun H1 e1 =>
  ⟨Or.inl ⟨rfl, xs, sq_of (e1 l _ hl)⟩, h H1 e1 _ fun H2 e2 => ⟨l, p, xs, ys, rfl, rfl, e2 l _ (e1 l _ hl), e2 _ _ (e1 _ _ hp), hz, k H2 (e1.trans e2)⟩⟩
theorem q_asgS {sp : Sp} {vs : List V} {t : TA} {i : Nat} (h : EvA t σ H vs) (k : ∀ H1, Ex H H1 → sp vs H1 (fun v H2 => tz D (σ.set i (some v)) H2) E) : tSeq (tAsg (tCall sp [] E t) (gName i)) tz D σ H := h H (Ex.refl H) _ fun H1 e => by
  rw [List.append_nil]
  exact k H1 e
theorem q_holder {i : Nat} (k : ∀ h H1 J, H h = none → Ex H H1 → Ex J H1 → HoldAt A J h Pm.init → (∀ b o, J b = some o → H b = none) → tz D (σ.set i (some (.ref h))) H1) : tSeq (tAsg (tMake A.cH (sp_Holder A) [] E tNil) (gName i)) tz D σ H := by
  intro h dx nh nd ne
  have e0 : ∀ b o, H b = some o → upd (upd H dx (.own h)) h (.ins A.cH dx []) b = some o := fun b o z => by
    rw [upd_ne (ne_of_none z nh), upd_ne (ne_of_none z nd)]
    exact z
  refine ⟨h, dx, rfl, upd_same, fun F J hk eJ hold hJ => ⟨rfl, k h F J nh (fun b o z => hk b o (e0 b o z) (ne_of_none z nh)) eJ hold fun b o z => ?_⟩⟩
  rcases hJ b o z with r | r
  · rw [r]
    exact nh
  · cases q : H b with
    | none => rfl
    | some u =>
      rw [e0 b u q] at r
      cases r
end
variable {P : Program} {w : World} {K : PySem.W.Frag} {mg : Str → Option Value} {base : Heap} {A : Ad}
theorem num_at (x : Uw07.Call) : ([.int 0, .int 1, .int 4, .int 1, .int 2, .int 0, .int 0, .int 0, .int 0] : List V)[codeOf x]? = some (nV (toldOf x).length) := by cases x <;> rfl
theorem row_at (x : Uw07.Call) : ([.int 1, .int 1, .int 1, .int 1, .int 0, .int 0, .int 0, .int 2, .int 1] : List V)[codeOf x]? = some (nV (rowsOf x).length) := by cases x <;> rfl
theorem ns_len (l : List Nat) : (ns l).length = l.length := List.length_map ..
def sp_answers (K : PySem.W.Frag) : Sp := fun vs H Q _ => ∃ cp l, vs = [.ref cp] ∧ SqL K H cp (jv l) ∧ PyUw07.answers_asked l = true ∧ l.length ≤ 2000 ∧ ∀ p H', H' p = some (.lst (jv (PyUw07.answers l))) → Q (.ref p) H'
theorem sep_upd {G J : Hp} {f : Addr} {o : HO} (h : Sep G J) (hf : J f = none) : Sep (upd G f o) J := fun b u hb => by
  have ne : b ≠ f := fun z => by
    rw [z, hf] at hb
    cases hb
  rw [upd_ne ne]
  exact h _ _ hb
theorem fn_answers {f0 : Addr} {fd : FuncData} (T : Txt K mg A) (F : C8.Fun K "answers" "answers" s_answers f0 fd) (c_Holder : Mak P w K mg base 3 "Holder" A.cH (sp_Holder A) []) (c_answer : Cal P w K mg base 8 "answer" (sp_answer A) []) : FnOk P w K mg base C8.CX0 9 f0 fd ["calls"] (sp_answers K) := by
  have nd := sc_answers.nd
  refine C8.fn0 F sc_answers (fun vs H Q E h => ?_) (fun cdv Ar outer s H vs Q E hr h => ⟨_, (pss_cons (ps_set (i := 1) nd rfl (Or.inl rfl) (pe_mk0 c_Holder hr (by decide) (by rfl)))
      (pss_cons (ps_set (i := 2) nd rfl (Or.inl rfl) (pe_lst pa_nil))
      (pss_cons (ps_set (i := 3) nd rfl (Or.inl rfl) pe_int)
      (pss_cons (ps_while PassesOwn.never (pt_cmpR op_lt (pv 3) (pe_callB call_len_seq (by rfl) T.len PySem.boot_len (pa_cons (pv 0) pa_nil)) (nomark _)) (pss_cons (ps_set (i := 4) nd rfl (Or.inl rfl) (pe_ix ix_list (pv 0) (pv 3) (fun _ _ => rfl))) (pss_cons (ps_set (i := 5) nd rfl (Or.inl rfl) (pe_slice sl_list (pv 0) (po_some (pe_op op_add (pv 3) pe_int)) (po_some (pe_op op_add (pe_op op_add (pv 3) pe_int) (pe_ix ix_tup (pe_kt (by rfl) T.tNUMBERS) (pv 4) (fun _ _ => rfl)))))) (pss_cons (ps_set (i := 3) nd rfl (Or.inl rfl) (pe_op op_add (pe_op op_add (pv 3) pe_int) (pe_ix ix_tup (pe_kt (by rfl) T.tNUMBERS) (pv 4) (fun _ _ => rfl)))) (pss_cons (ps_set (i := 6) nd rfl (Or.inl rfl) (pe_lst pa_nil)) (pss_cons (ps_for PassesOwn.never rfl (pi_range1 (by rfl) T.range (pa_cons (pe_ix ix_tup (pe_kt (by rfl) T.tROWS) (pv 4) (fun _ _ => rfl)) pa_nil)) (pg_name (i := 7) nd rfl (Or.inl rfl)) (pss_cons (ps_expr (pe_bm PySem.F.plainAttrs_list PySem.F.slot_list_append PySem.F.type_list_append mt_append (pv 6) (pa_cons (pe_slice sl_list (pv 0) (po_some (pe_op op_add (pv 3) pe_int)) (po_some (pe_op op_add (pe_op op_add (pv 3) pe_int) (pe_ix ix_list (pv 0) (pv 3) (fun _ _ => rfl))))) pa_nil))) (pss_one (ps_set (i := 3) nd rfl (Or.inl rfl) (pe_op op_add (pe_op op_add (pv 3) pe_int) (pe_ix ix_list (pv 0) (pv 3) (fun _ _ => rfl))))))) (pss_cons (ps_set (i := 8) nd rfl (Or.inl rfl) (C8.pe_c c_answer hr (by decide) (by rfl) (pa_cons (pv 1) (pa_cons (pv 4) (pa_cons (pv 5) (pa_cons (pv 6) pa_nil)))))) (pss_cons (ps_expr (pe_bm PySem.F.plainAttrs_list PySem.F.slot_list_append PySem.F.type_list_append mt_append (pv 2) (pa_cons (pe_callB call_len_seq (by rfl) T.len PySem.boot_len (pa_cons (pv 8) pa_nil)) pa_nil))) (pss_one (ps_expr (pe_bm PySem.F.plainAttrs_list PySem.F.slot_list_extend PySem.F.type_list_extend mt_extend (pv 2) (pa_cons (pv 8) pa_nil))))))))))))
      (pss_one (ps_ret (pv 2))))))), ?_⟩)
  · obtain ⟨cp, l, rfl, _⟩ := h
    rfl
  · obtain ⟨cp, l, rfl, hcp, hask, hl, q⟩ := h
    obtain ⟨xs, hxs, h40, hsm, hans, hlen⟩ := due hask
    rw [hans] at q
    have hsz := sizeLine_eq
    refine q_holder fun h H1 J0 nh e1 eJ0 hold0 hJ0 => ?_
    refine q_asgL el_nil fun fp H2 nf e2 h2 => ?_
    have e12 := e1.trans e2
    have nfH : H fp = none := fresh_back e1 nf
    refine q_asg (ev_c0 0) fun H3 e3 => ?_
    refine q_while (fun mm σ' H' => ∃ rest fs M J k pre o4 o5 o6 o7 o8, mm = rest.length ∧ σ' = [some (.ref cp), some (.ref h), some (.ref fp), some (nV pre.length), o4, o5, o6, o7, o8] ∧ l = pre ++ PyFlat.put (rest.map rawOf) ∧ (∀ x ∈ rest, Small x) ∧ Ex H H' ∧ H' fp = some (.lst (jv fs)) ∧
        fs ++ PyFlat.told (playM M rest) = PyFlat.told (playM Pm.init xs) ∧ M.Ok k ∧ k + rest.length ≤ 40 ∧ Ex J H' ∧ Sep H J ∧ J fp = none ∧ HoldAt A J h M) xs.length ?_ ?_
    · exact ⟨xs, [], Pm.init, J0, 0, [], _, _, _, _, _, rfl, rfl, hxs, hsm, e12.trans e3, e3 _ _ h2, rfl, Pm.Ok.start, by omega, (eJ0.trans e2).trans e3, hJ0, fresh_back eJ0 nf, hold0⟩
    · rintro mm σ' H4 ⟨rest, fs, M, J, k, pre, o4, o5, o6, o7, o8, rfl, rfl, hpre, hsm, e4, h4, hfs, hok, hk, eJ, sep, hJf, hold⟩
      have hjl : (jv l).length = l.length := List.length_map ..
      refine ⟨decide (pre.length < l.length), et_test (ev_lt (ev_var rfl) (ev_is (ev_len (ev_var rfl) (ex_l e4 hcp)) (by rw [hjl]))), fun hb H5 e5 => ?_, fun hb H5 e5 => ?_⟩
      · cases rest with
        | nil =>
          have hb := of_decide_eq_true hb
          rw [hpre] at hb
          simp [PyFlat.put] at hb
        | cons x rest =>
          have hput : l = pre ++ (codeOf x : Int) :: (ns (toldOf x) ++ (PyFlat.putRows ((rowsOf x).map ns) ++ PyFlat.put (rest.map rawOf))) := by
            rw [hpre]
            show pre ++ (PyFlat.put1 (rawOf x) ++ PyFlat.put (rest.map rawOf)) = _
            rw [raw_parts]
            show pre ++ ((((codeOf x : Int) :: ns (toldOf x)) ++ PyFlat.putRows ((rowsOf x).map ns)) ++ PyFlat.put (rest.map rawOf)) = _
            rw [List.append_assoc, List.cons_append]
          refine ⟨fun σ2 H' => ∃ fs' M' J' k' pre' o4 o5 o6 o7 o8, σ2 = [some (.ref cp), some (.ref h), some (.ref fp), some (nV pre'.length), o4, o5, o6, o7, o8] ∧ l = pre' ++ PyFlat.put (rest.map rawOf) ∧ Ex H H' ∧ H' fp = some (.lst (jv fs')) ∧
              fs' ++ PyFlat.told (playM M' rest) = PyFlat.told (playM Pm.init xs) ∧ M'.Ok k' ∧ k' + rest.length ≤ 40 ∧ Ex J' H' ∧ Sep H J' ∧ J' fp = none ∧ HoldAt A J' h M', ?_, ?_⟩
          · rintro σ2 H' ⟨fs', M', J', k', pre', p4, p5, p6, p7, p8, rfl, hp', a1, a2, a3, a4, a5, a6, a7, a8, a9⟩
            exact ⟨rest.length, Nat.lt_succ_self _, rest, fs', M', J', k', pre', p4, p5, p6, p7, p8, rfl, rfl, hp', fun y hy => hsm y (List.mem_cons_of_mem _ hy), a1, a2, a3, a4, a5, a6, a7, a8, a9⟩
          · have hjv : jv l = jv pre ++ nV (codeOf x) :: (iv (toldOf x) ++ jv (PyFlat.putRows ((rowsOf x).map ns) ++ PyFlat.put (rest.map rawOf))) := by
              rw [hput, iv_jv]
              exact jv_mid _ _ _ _
            have lpre : (jv pre).length = pre.length := List.length_map ..
            have lt : (iv (toldOf x)).length = (toldOf x).length := List.length_map ..
            have e45 := e4.trans e5
            have numV : ∀ {σ : L2.St} {H6 : Hp} {tx : TE}, Ev tx σ H6 (nV (codeOf x)) → Ev (tOp (rIxT K) (tC (.ref A.aN)) tx) σ H6 (nV (toldOf x).length) := fun h => ev_ixTw ev_c h T.qN (num_at x)
            refine q_asg (v := nV (codeOf x)) (ev_ixS (ev_var rfl) (ev_var rfl) (ex_l e45 hcp) (by
              have := mid_at (jv pre) (iv (toldOf x) ++ jv (PyFlat.putRows ((rowsOf x).map ns) ++ PyFlat.put (rest.map rawOf))) (nV (codeOf x))
              rw [lpre] at this
              rw [hjv]
              exact this)) fun H6 e6 => ?_
            have e46 := e45.trans e6
            refine q_asgL (xs := iv (toldOf x)) (el_is (el_sl (lo := some ((pre.length + 1 : Nat) : Int)) (hi := some ((pre.length + 1 + (toldOf x).length : Nat) : Int)) (ev_var rfl) (eo_some (ev_add (ev_var rfl) (ev_c0 1))) (eo_some (ev_add (ev_add (ev_var rfl) (ev_c0 1)) (numV (ev_var rfl)))) (ex_l e46 hcp)) (by
              rw [cutV_nat, hjv]
              have := mid_cut (jv pre) (iv (toldOf x)) (jv (PyFlat.putRows ((rowsOf x).map ns) ++ PyFlat.put (rest.map rawOf))) (nV (codeOf x))
              rw [lpre, lt] at this
              exact this)) fun tp H7 ntp e7 h7 => ?_
            refine q_asg (ev_add (ev_add (ev_var rfl) (ev_c0 1)) (numV (ev_var rfl))) fun H8 e8 => ?_
            refine q_asgL el_nil fun rp H9 nrp e9 h9 => ?_
            have e48 := (e46.trans e7).trans e8
            have h8f : H8 fp = some (.lst (jv fs)) := e8 _ _ (e7 _ _ (e6 _ _ (e5 _ _ h4)))
            have eJ8 : Ex J H8 := ((eJ.trans (e5.trans e6)).trans e7).trans e8
            refine q_forM (n := (rowsOf x).length) (ea_1 (ev_ixTw ev_c (ev_var rfl) T.qR (row_at x))) (by cases x <;> (show _ ≤ 100000; simp [rowsOf])) (fun j σ' H' => ∃ pj rs p7, σ' = [some (.ref cp), some (.ref h), some (.ref fp), some (nV pj.length), some (nV (codeOf x)), some (.ref tp), some (.ref rp), p7, o8] ∧ l = pj ++ (PyFlat.putRows (((rowsOf x).drop j).map ns) ++ PyFlat.put (rest.map rawOf)) ∧
                Ex H8 H' ∧ H' rp = some (.lst rs) ∧ rs.length ≤ j ∧ Ats (isF H8 J (cut rp H')) rs ((rowsOf x).take j)) ?_ ?_ ?_
            · intro H10 e10
              refine ⟨pre ++ ((codeOf x : Int) :: ns (toldOf x)), [], o7, ?_, ?_, e9.trans e10, e10 _ _ h9, Nat.le_refl _, Ats.nil⟩
              · have : (pre ++ ((codeOf x : Int) :: ns (toldOf x))).length = pre.length + 1 + (toldOf x).length := by
                  rw [List.length_append, List.length_cons, ns_len]
                  omega
                rw [this]
                rfl
              · rw [hput, List.append_assoc, List.cons_append]
                rfl
            · rintro j σ' H10 hj ⟨pj, rs, p7, rfl, hpj, e10, h10, hrl, hats⟩
              obtain ⟨wr, hwr⟩ : ∃ wr, (rowsOf x)[j]? = some wr := ⟨_, List.getElem?_eq_getElem hj⟩
              have hdrop : (rowsOf x).drop j = wr :: (rowsOf x).drop (j + 1) := by
                obtain ⟨hl', hw'⟩ := List.getElem?_eq_some_iff.mp hwr
                rw [List.drop_eq_getElem_cons hl', hw']
              have hpj2 : l = pj ++ (wr.length : Int) :: (ns wr ++ (PyFlat.putRows (((rowsOf x).drop (j + 1)).map ns) ++ PyFlat.put (rest.map rawOf))) := by
                rw [hpj, hdrop, List.map_cons]
                show pj ++ ((PyFlat.putRow (ns wr) ++ PyFlat.putRows (((rowsOf x).drop (j + 1)).map ns)) ++ PyFlat.put (rest.map rawOf)) = _
                unfold PyFlat.putRow
                rw [ns_len, List.append_assoc, List.cons_append]
              have hjv2 : jv l = jv pj ++ nV wr.length :: (iv wr ++ jv (PyFlat.putRows (((rowsOf x).drop (j + 1)).map ns) ++ PyFlat.put (rest.map rawOf))) := by
                rw [hpj2, iv_jv]
                exact jv_mid _ _ _ _
              have lpj : (jv pj).length = pj.length := List.length_map ..
              have lw : (iv wr).length = wr.length := List.length_map ..
              have eH10 := e48.trans e10
              have atV : ∀ {σ : L2.St} {H11 : Hp} {t1 t2 : TE}, Ex H H11 → Ev t1 σ H11 (.ref cp) → Ev t2 σ H11 (nV pj.length) → Ev (tOp (rIxL K) t1 t2) σ H11 (nV wr.length) := fun e h1 h2 => ev_ixS h1 h2 (ex_l e hcp) (by
                have := mid_at (jv pj) (iv wr ++ jv (PyFlat.putRows (((rowsOf x).drop (j + 1)).map ns) ++ PyFlat.put (rest.map rawOf))) (nV wr.length)
                rw [lpj] at this
                rw [hjv2]
                exact this)
              have hj2 : j ≤ 100 := by
                have : (rowsOf x).length ≤ 2 := by cases x <;> simp [rowsOf]
                omega
              refine q_appL h10 (ev_var rfl) (ys := iv wr) (el_is (el_sl (lo := some ((pj.length + 1 : Nat) : Int)) (hi := some ((pj.length + 1 + wr.length : Nat) : Int)) (ev_var rfl) (eo_some (ev_add (ev_var rfl) (ev_c0 1))) (eo_some (ev_add (ev_add (ev_var rfl) (ev_c0 1)) (atV eH10 (ev_var rfl) (ev_var rfl)))) (ex_l eH10 hcp)) (by
                rw [cutV_nat, hjv2]
                have := mid_cut (jv pj) (iv wr) (jv (PyFlat.putRows (((rowsOf x).drop (j + 1)).map ns) ++ PyFlat.put (rest.map rawOf))) (nV wr.length)
                rw [lpj, lw] at this
                exact this)) (by omega) fun wp H11 nwp e11 h11 => ?_
              have nrp8 : H8 rp = none := nrp
              have e12' : Ex H8 (upd H11 rp (.lst (rs ++ [.ref wp]))) := (e10.trans e11).mut nrp8
              have nr : wp ≠ rp := (ne_of_none h10 nwp).symm
              refine s_asg (ev_add (ev_add (ev_var rfl) (ev_c0 1)) (atV (e48.trans e12') (ev_var rfl) (ev_var rfl))) fun H12 e12 => ?_
              refine ⟨pj ++ ((wr.length : Int) :: ns wr), rs ++ [.ref wp], some (nV j), ?_, ?_, e12'.trans e12, e12 _ _ upd_same, by rw [List.length_append, List.length_singleton]; omega, ?_⟩
              · have : (pj ++ ((wr.length : Int) :: ns wr)).length = pj.length + 1 + wr.length := by
                  rw [List.length_append, List.length_cons, ns_len]
                  omega
                rw [this]
                rfl
              · rw [hpj2, List.append_assoc, List.cons_append]
              · rw [take_more hwr]
                have ec : Ex (cut rp H11) (cut rp H12) := by
                  have := cut_mono (D := rp) e12
                  rw [cut_upd] at this
                  exact this
                refine (hats.mono fun v y ⟨r, z1, z2, z3, z4⟩ => ⟨r, z1, ec _ _ (cut_mono e11 _ _ z2), z3, z4⟩).snoc ⟨wp, rfl, ec _ _ (cut_at h11 nr), fresh_back (eJ8.trans e10) nwp, fresh_back e10 nwp⟩
            · rintro σ' H10 ⟨pj, rs, p7, rfl, hpj, e10, h10, hrl, hats⟩
              rw [List.drop_length] at hpj
              rw [List.take_length] at hats
              have hpj : l = pj ++ PyFlat.put (rest.map rawOf) := hpj
              have eG : Ex (upd H fp (.lst (jv fs))) H10 := fun b o hb => by
                by_cases c : b = fp
                · rw [c, upd_same] at hb
                  rw [c, e10 _ _ h8f]
                  exact hb
                · rw [upd_ne c] at hb
                  exact e10 _ _ (e48 _ _ hb)
              have eG8 : Ex (upd H fp (.lst (jv fs))) H8 := fun b o hb => by
                by_cases c : b = fp
                · rw [c, upd_same] at hb
                  rw [c, h8f]
                  exact hb
                · rw [upd_ne c] at hb
                  exact e48 _ _ hb
              refine q_asgS (ea_4 (ev_var rfl) (ev_var rfl) (ev_var rfl) (ev_var rfl)) fun H11 e11 => ?_
              refine ⟨upd H fp (.lst (jv fs)), J, h, M, k, x, tp, rp, rs, rfl, eG.trans e11, (eJ8.trans e10).trans e11, sep_upd sep hJf, hold, hok, by omega, e11 _ _ (e10 _ _ (e8 _ _ h7)), e11 _ _ h10, hats.mono fun v y ⟨r, z1, z2, z3, z4⟩ => ⟨r, z1, e11 _ _ (cut_ex _ _ z2), z3, fresh_back eG8 z4⟩, hsm x (List.mem_cons_self ..), fun p H12 J' np eG12 eJ' sep' hold' h12 => ?_⟩
              obtain ⟨s1, s2, s3⟩ := same1 hok (hsm x (List.mem_cons_self ..))
              have hplay : playM M (x :: rest) = (stepM M x).2 :: playM (stepM M x).1 rest := rfl
              rw [hplay, told_cons] at hfs
              have hlen2 : fs.length + 1 + (stepM M x).2.length ≤ 10000000 := by
                rw [← hfs] at hlen
                rw [List.length_append, List.length_append, List.length_cons] at hlen
                omega
              have hf12 : H12 fp = some (.lst (jv fs)) := eG12 _ _ upd_same
              have hJ'f : J' fp = none := by
                cases z : J' fp with
                | none => rfl
                | some u =>
                  have := sep' _ _ z
                  rw [upd_same] at this
                  cases this
              have eH12 : Ex H H12 := fun b o hb => eG12 _ _ (by rw [upd_ne (ne_of_none hb nfH)]; exact hb)
              have lfs : (jv fs).length = fs.length := List.length_map ..
              have lan : (jv (stepM M x).2).length = (stepM M x).2.length := List.length_map ..
              have npf : p ≠ fp := fun z => by
                rw [z, eG.trans e11 |>.trans (Ex.refl _) |> fun e => e _ _ upd_same] at np
                cases np
              refine q_appBig hf12 (ev_var rfl) (ev_lenL (ev_var rfl) h12 lan) (by rw [lfs]; omega) fun H13 e13 => ?_
              refine s_extBig (xs := jv fs ++ [nV (stepM M x).2.length]) (ys := jv (stepM M x).2) upd_same (ev_var rfl) (ev_var rfl) (by rw [upd_ne npf]; exact e13 _ _ h12) (by rw [List.length_append, lfs, lan, List.length_singleton]; omega) fun H14 e14 => ?_
              refine ⟨fs ++ (((stepM M x).2.length : Int) :: (stepM M x).2), (stepM M x).1, J', k + 1, pj, _, _, _, _, _, rfl, hpj, (((eH12.trans e13).mut nfH).trans e14).mut nfH, ?_, ?_, s3, by rw [List.length_cons] at hk; omega, ((((eJ'.trans e13).mut hJ'f).trans e14).mut hJ'f), fun b o hb => ?_, hJ'f, hold'⟩
              · rw [upd_same, jv_app, List.append_assoc]
                rfl
              · rw [← hfs, List.append_assoc]
              · have := sep' _ _ hb
                have ne : b ≠ fp := fun z => by
                  rw [z, hJ'f] at hb
                  cases hb
                rw [upd_ne ne] at this
                exact this
      · cases rest with
        | cons x rest =>
          have hb := of_decide_eq_false hb
          rw [hpre] at hb
          exfalso
          apply hb
          show pre.length < (pre ++ (PyFlat.put1 (rawOf x) ++ PyFlat.put (rest.map rawOf))).length
          rw [raw_parts]
          show pre.length < (pre ++ ((((codeOf x : Int) :: ns (toldOf x)) ++ PyFlat.putRows ((rowsOf x).map ns)) ++ PyFlat.put (rest.map rawOf))).length
          rw [List.length_append, List.length_append, List.length_append, List.length_cons]
          omega
        | nil =>
          have hfs : fs ++ [] = PyFlat.told (playM Pm.init xs) := hfs
          rw [List.append_nil] at hfs
          exact s_ret (ev_var rfl) fun H6 e6 => q fp H6 (by rw [← hfs]; exact e6 _ _ (e5 _ _ h4))
end Rc
set_option Elab.async false
set_option linter.all false
set_option maxRecDepth 100000
set_option maxHeartbeats 4000000
/-! # The facts put together (printed by genend.py) -/
namespace Rc
open PySem PySem.Spec PyProof.Rows L2 Evl
open C8 (Cal Met Mak)
def Bnd (x qual : Str) (st : Stmt) (ps : List Str) : Prop := ∀ (kV doc pm : Value) (an : Option Addr) (cdv ct : Value) (us : List Value), us.length = ps.length → bindArgs (PySem.W.fnOf x qual (C8.fnArgs st) (C8.fnBody st) (C8.fnScope st) .none kV doc pm an cdv ct) ⟨us, []⟩ = pure (ps.zip us)
section
variable {K : PySem.W.Frag} {h : Heap} {mg : Str → Option Value} {x qual : Str} {st : Stmt} {ps : List Str} {f C : Addr} {oc kV dc pm cd ct : Value} {od an : Option Addr} {sl : Array (Option Value)}
theorem fun_mk (l : K.lookup f = some ⟨oc, od, .func (PySem.W.fnOf x qual (C8.fnArgs st) (C8.fnBody st) (C8.fnScope st) .none kV dc pm an cd ct), sl⟩) (c : PySem.W.codeIn K cd qual = true) : C8.Fun K x qual st f (PySem.W.fnOf x qual (C8.fnArgs st) (C8.fnBody st) (C8.fnScope st) .none kV dc pm an cd ct) :=
  ⟨oc, od, .none, kV, dc, pm, an, cd, ct, sl, rfl, l, c⟩
theorem def_mk (b : Bnd x x st ps) (X : K.In h) (G : h.Ns mainGlobals mg) (a : PySem.W.nsIn K mainGlobals x = some (some (.ref f)))
    (l : K.lookup f = some ⟨oc, od, .func (PySem.W.fnOf x x (C8.fnArgs st) (C8.fnBody st) (C8.fnScope st) .none kV dc pm an cd ct), sl⟩) (c : PySem.W.codeIn K cd x = true) (k : PySem.W.keepIn K (.ref f) = true) : HasDef K mg x st ps :=
  ⟨f, _, ⟨fun_mk l c, PySem.W.mg_of X G a, k⟩, (fun_mk l c).binds rfl b⟩
theorem meth_mk (b : Bnd x qual st ps) (a : PySem.W.findIn K (.ref C) x = some (some (.ref f))) (i : PySem.W.isFn K (.ref f) = true)
    (l : K.lookup f = some ⟨oc, od, .func (PySem.W.fnOf x qual (C8.fnArgs st) (C8.fnBody st) (C8.fnScope st) .none kV dc pm an cd ct), sl⟩) (c : PySem.W.codeIn K cd qual = true) (k : PySem.W.keepIn K (.ref f) = true) : HasMeth K C x qual st ps :=
  ⟨f, _, ⟨a, i, k⟩, fun_mk l c, (fun_mk l c).binds rfl b⟩
theorem make_mk (b : Bnd "__init__" qual st ps) (X : K.In h) (G : h.Ns mainGlobals mg) (aC : PySem.W.nsIn K mainGlobals x = some (some (.ref C))) (m : PySem.W.makesIn K C = true) (kc : PySem.W.keepIn K (.ref C) = true) (a : PySem.W.findIn K (.ref C) "__init__" = some (some (.ref f))) (i : PySem.W.isFn K (.ref f) = true)
    (l : K.lookup f = some ⟨oc, od, .func (PySem.W.fnOf "__init__" qual (C8.fnArgs st) (C8.fnBody st) (C8.fnScope st) .none kV dc pm an cd ct), sl⟩) (c : PySem.W.codeIn K cd qual = true) : HasMak K mg x C qual st ps :=
  ⟨f, _, ⟨m, a, i, kc⟩, PySem.W.mg_of X G aC, fun_mk l c, (fun_mk l c).binds rfl b⟩
theorem int_mk {n : Int} {tg : Tok} (X : K.In h) (G : h.Ns mainGlobals mg) (a : PySem.W.nsIn K mainGlobals x = some (some (.int n tg))) : ∃ u, mg x = some u ∧ RelV (.int n) u := ⟨_, PySem.W.mg_of X G a, _, rfl⟩
theorem ref_mk (X : K.In h) (G : h.Ns mainGlobals mg) (a : PySem.W.nsIn K mainGlobals x = some (some (.ref f))) : ∃ u, mg x = some u ∧ RelV (.ref f) u := ⟨_, PySem.W.mg_of X G a, rfl⟩
theorem tup_mk {o : Obj} {its : Array Value} {n : Nat} {xs : List V} (l : K.lookup f = some o) (hc : o.cls = .type "tuple") (hd : o.data = .seq its n) (hz : its.size ≤ sizeLine) (hv : Vals xs its.toList) : ∀ H : Hp, SqT K H f xs := fun H => .inr ⟨o, its, n, l, hc, hd, hz, hv⟩
end
theorem bd_wrong_casting : Bnd "wrong_casting" "wrong_casting" s_wrong_casting ["play", "clashes", "casting"] := fun _ _ _ _ _ _ us hl => match us, hl with | [_, _, _], _ => rfl
theorem bd_casting_cost : Bnd "casting_cost" "casting_cost" s_casting_cost ["play", "casting"] := fun _ _ _ _ _ _ us hl => match us, hl with | [_, _], _ => rfl
theorem bd_in_piece : Bnd "in_piece" "in_piece" s_in_piece ["play", "casting", "piece", "player"] := fun _ _ _ _ _ _ us hl => match us, hl with | [_, _, _, _], _ => rfl
theorem bd_stay : Bnd "stay" "stay" s_stay ["play", "casting", "order", "player"] := fun _ _ _ _ _ _ us hl => match us, hl with | [_, _, _, _], _ => rfl
theorem bd_stays : Bnd "stays" "stays" s_stays ["play", "casting", "order"] := fun _ _ _ _ _ _ us hl => match us, hl with | [_, _, _], _ => rfl
theorem bd_wrong_order : Bnd "wrong_order" "wrong_order" s_wrong_order ["play", "order", "there"] := fun _ _ _ _ _ _ us hl => match us, hl with | [_, _, _], _ => rfl
theorem bd_order_cost : Bnd "order_cost" "order_cost" s_order_cost ["play", "there"] := fun _ _ _ _ _ _ us hl => match us, hl with | [_, _], _ => rfl
theorem bd_castings : Bnd "castings" "castings" s_castings ["play"] := fun _ _ _ _ _ _ us hl => match us, hl with | [_], _ => rfl
theorem bd_orders : Bnd "orders" "orders" s_orders ["play"] := fun _ _ _ _ _ _ us hl => match us, hl with | [_], _ => rfl
theorem bd_Best_init : Bnd "__init__" "Best.__init__" s_Best_init ["self"] := fun _ _ _ _ _ _ us hl => match us, hl with | [_], _ => rfl
theorem bd_Best_put : Bnd "put" "Best.put" s_Best_put ["self", "cost", "many", "thing"] := fun _ _ _ _ _ _ us hl => match us, hl with | [_, _, _, _], _ => rfl
theorem bd_best_order : Bnd "best_order" "best_order" s_best_order ["play", "casting", "all_orders"] := fun _ _ _ _ _ _ us hl => match us, hl with | [_, _, _], _ => rfl
theorem bd_right_castings : Bnd "right_castings" "right_castings" s_right_castings ["play", "clashes"] := fun _ _ _ _ _ _ us hl => match us, hl with | [_, _], _ => rfl
theorem bd_best_plan : Bnd "best_plan" "best_plan" s_best_plan ["play", "clashes"] := fun _ _ _ _ _ _ us hl => match us, hl with | [_, _], _ => rfl
theorem bd_best_casting : Bnd "best_casting" "best_casting" s_best_casting ["play", "clashes"] := fun _ _ _ _ _ _ us hl => match us, hl with | [_, _], _ => rfl
theorem bd_Player_init : Bnd "__init__" "Player.__init__" s_Player_init ["self", "wage", "rate", "since", "till", "fees"] := fun _ _ _ _ _ _ us hl => match us, hl with | [_, _, _, _, _, _], _ => rfl
theorem bd_Player_can_play : Bnd "can_play" "Player.can_play" s_Player_can_play ["self", "role"] := fun _ _ _ _ _ _ us hl => match us, hl with | [_, _], _ => rfl
theorem bd_Player_fee : Bnd "fee" "Player.fee" s_Player_fee ["self", "role"] := fun _ _ _ _ _ _ us hl => match us, hl with | [_, _], _ => rfl
theorem bd_Play_init : Bnd "__init__" "Play.__init__" s_Play_init ["self", "dressing"] := fun _ _ _ _ _ _ us hl => match us, hl with | [_, _], _ => rfl
theorem bd_Play_put_scene : Bnd "put_scene" "Play.put_scene" s_Play_put_scene ["self", "minutes", "roles"] := fun _ _ _ _ _ _ us hl => match us, hl with | [_, _, _], _ => rfl
theorem bd_Play_put_player : Bnd "put_player" "Play.put_player" s_Play_put_player ["self", "player"] := fun _ _ _ _ _ _ us hl => match us, hl with | [_, _], _ => rfl
theorem bd_Play_put_piece : Bnd "put_piece" "Play.put_piece" s_Play_put_piece ["self", "minutes", "roles"] := fun _ _ _ _ _ _ us hl => match us, hl with | [_, _, _], _ => rfl
theorem bd_Play_put_pair : Bnd "put_pair" "Play.put_pair" s_Play_put_pair ["self", "i", "j"] := fun _ _ _ _ _ _ us hl => match us, hl with | [_, _, _], _ => rfl
theorem bd_Play_between : Bnd "between" "Play.between" s_Play_between ["self", "first", "last"] := fun _ _ _ _ _ _ us hl => match us, hl with | [_, _, _], _ => rfl
theorem bd_is_too_soon : Bnd "is_too_soon" "is_too_soon" s_is_too_soon ["play", "one", "other"] := fun _ _ _ _ _ _ us hl => match us, hl with | [_, _, _], _ => rfl
theorem bd_clash : Bnd "clash" "clash" s_clash ["play", "one", "other"] := fun _ _ _ _ _ _ us hl => match us, hl with | [_, _, _], _ => rfl
theorem bd_clashing : Bnd "clashing" "clashing" s_clashing ["play"] := fun _ _ _ _ _ _ us hl => match us, hl with | [_], _ => rfl
theorem bd_Holder_init : Bnd "__init__" "Holder.__init__" s_Holder_init ["self"] := fun _ _ _ _ _ _ us hl => match us, hl with | [_], _ => rfl
theorem bd_Holder_hold : Bnd "hold" "Holder.hold" s_Holder_hold ["self", "play"] := fun _ _ _ _ _ _ us hl => match us, hl with | [_, _], _ => rfl
theorem bd_listed : Bnd "listed" "listed" s_listed ["row"] := fun _ _ _ _ _ _ us hl => match us, hl with | [_], _ => rfl
theorem bd_are_rising : Bnd "are_rising" "are_rising" s_are_rising ["play", "roles"] := fun _ _ _ _ _ _ us hl => match us, hl with | [_, _], _ => rfl
theorem bd_begins : Bnd "begins" "begins" s_begins ["holder", "dressing"] := fun _ _ _ _ _ _ us hl => match us, hl with | [_, _], _ => rfl
theorem bd_scene : Bnd "scene" "scene" s_scene ["play", "minutes", "roles"] := fun _ _ _ _ _ _ us hl => match us, hl with | [_, _, _], _ => rfl
theorem bd_player : Bnd "player" "player" s_player ["play", "told", "fees"] := fun _ _ _ _ _ _ us hl => match us, hl with | [_, _, _], _ => rfl
theorem bd_piece : Bnd "piece" "piece" s_piece ["play", "minutes", "roles"] := fun _ _ _ _ _ _ us hl => match us, hl with | [_, _, _], _ => rfl
theorem bd_ahead : Bnd "ahead" "ahead" s_ahead ["play", "i", "j"] := fun _ _ _ _ _ _ us hl => match us, hl with | [_, _, _], _ => rfl
theorem bd_best : Bnd "best" "best" s_best ["play"] := fun _ _ _ _ _ _ us hl => match us, hl with | [_], _ => rfl
theorem bd_apart : Bnd "apart" "apart" s_apart ["play"] := fun _ _ _ _ _ _ us hl => match us, hl with | [_], _ => rfl
theorem bd_is_casting : Bnd "is_casting" "is_casting" s_is_casting ["play", "casting"] := fun _ _ _ _ _ _ us hl => match us, hl with | [_, _], _ => rfl
theorem bd_check : Bnd "check" "check" s_check ["play", "casting", "order_told"] := fun _ _ _ _ _ _ us hl => match us, hl with | [_, _, _], _ => rfl
theorem bd_order : Bnd "order" "order" s_order ["play", "casting"] := fun _ _ _ _ _ _ us hl => match us, hl with | [_, _], _ => rfl
theorem bd_asked : Bnd "asked" "asked" s_asked ["play", "call", "rows"] := fun _ _ _ _ _ _ us hl => match us, hl with | [_, _, _], _ => rfl
theorem bd_answer : Bnd "answer" "answer" s_answer ["holder", "call", "told", "rows"] := fun _ _ _ _ _ _ us hl => match us, hl with | [_, _, _, _], _ => rfl
theorem bd_answers : Bnd "answers" "answers" s_answers ["calls"] := fun _ _ _ _ _ _ us hl => match us, hl with | [_], _ => rfl
theorem all_mk {P : Program} {w : World} {K : PySem.W.Frag} {h : Heap} {mg : Str → Option Value} {fa f0 cY cP cB cH aN aR : Addr} {oc kV dc pm cd ct : Value} {od an : Option Addr} {sl : Array (Option Value)} (X : K.In h) (G : h.Ns mainGlobals mg) (hfa : mg "answers" = some (.ref fa))
    (aY : PySem.W.nsIn K mainGlobals "Player" = some (some (.ref cY))) (aP : PySem.W.nsIn K mainGlobals "Play" = some (some (.ref cP))) (aB : PySem.W.nsIn K mainGlobals "Best" = some (some (.ref cB))) (aH : PySem.W.nsIn K mainGlobals "Holder" = some (some (.ref cH)))
    (T : Txt K mg ⟨cY, cP, cB, cH, aN, aR⟩)
    (f_mak_Play : HasMak K mg "Play" cP "Play.__init__" s_Play_init ["self", "dressing"])
    (f_mak_Holder : HasMak K mg "Holder" cH "Holder.__init__" s_Holder_init ["self"])
    (f_met_hold : HasMeth K cH "hold" "Holder.hold" s_Holder_hold ["self", "play"])
    (f_cal_begins : HasDef K mg "begins" s_begins ["holder", "dressing"])
    (f_cal_are_rising : HasDef K mg "are_rising" s_are_rising ["play", "roles"])
    (f_met_put_scene : HasMeth K cP "put_scene" "Play.put_scene" s_Play_put_scene ["self", "minutes", "roles"])
    (f_cal_scene : HasDef K mg "scene" s_scene ["play", "minutes", "roles"])
    (f_mak_Player : HasMak K mg "Player" cY "Player.__init__" s_Player_init ["self", "wage", "rate", "since", "till", "fees"])
    (f_met_put_player : HasMeth K cP "put_player" "Play.put_player" s_Play_put_player ["self", "player"])
    (f_cal_player : HasDef K mg "player" s_player ["play", "told", "fees"])
    (f_met_put_piece : HasMeth K cP "put_piece" "Play.put_piece" s_Play_put_piece ["self", "minutes", "roles"])
    (f_cal_piece : HasDef K mg "piece" s_piece ["play", "minutes", "roles"])
    (f_met_put_pair : HasMeth K cP "put_pair" "Play.put_pair" s_Play_put_pair ["self", "i", "j"])
    (f_cal_ahead : HasDef K mg "ahead" s_ahead ["play", "i", "j"])
    (f_mak_Best : HasMak K mg "Best" cB "Best.__init__" s_Best_init ["self"])
    (f_cal_orders : HasDef K mg "orders" s_orders ["play"])
    (f_cal_castings : HasDef K mg "castings" s_castings ["play"])
    (f_met_can_play : HasMeth K cY "can_play" "Player.can_play" s_Player_can_play ["self", "role"])
    (f_cal_wrong_casting : HasDef K mg "wrong_casting" s_wrong_casting ["play", "clashes", "casting"])
    (f_cal_right_castings : HasDef K mg "right_castings" s_right_castings ["play", "clashes"])
    (f_cal_in_piece : HasDef K mg "in_piece" s_in_piece ["play", "casting", "piece", "player"])
    (f_cal_stay : HasDef K mg "stay" s_stay ["play", "casting", "order", "player"])
    (f_cal_stays : HasDef K mg "stays" s_stays ["play", "casting", "order"])
    (f_cal_wrong_order : HasDef K mg "wrong_order" s_wrong_order ["play", "order", "there"])
    (f_cal_order_cost : HasDef K mg "order_cost" s_order_cost ["play", "there"])
    (f_met_put : HasMeth K cB "put" "Best.put" s_Best_put ["self", "cost", "many", "thing"])
    (f_cal_best_order : HasDef K mg "best_order" s_best_order ["play", "casting", "all_orders"])
    (f_met_fee : HasMeth K cY "fee" "Player.fee" s_Player_fee ["self", "role"])
    (f_cal_casting_cost : HasDef K mg "casting_cost" s_casting_cost ["play", "casting"])
    (f_cal_best_plan : HasDef K mg "best_plan" s_best_plan ["play", "clashes"])
    (f_met_between : HasMeth K cP "between" "Play.between" s_Play_between ["self", "first", "last"])
    (f_cal_is_too_soon : HasDef K mg "is_too_soon" s_is_too_soon ["play", "one", "other"])
    (f_cal_clash : HasDef K mg "clash" s_clash ["play", "one", "other"])
    (f_cal_clashing : HasDef K mg "clashing" s_clashing ["play"])
    (f_cal_listed : HasDef K mg "listed" s_listed ["row"])
    (f_cal_best : HasDef K mg "best" s_best ["play"])
    (f_cal_best_casting : HasDef K mg "best_casting" s_best_casting ["play", "clashes"])
    (f_cal_apart : HasDef K mg "apart" s_apart ["play"])
    (f_cal_is_casting : HasDef K mg "is_casting" s_is_casting ["play", "casting"])
    (f_cal_check : HasDef K mg "check" s_check ["play", "casting", "order_told"])
    (f_cal_order : HasDef K mg "order" s_order ["play", "casting"])
    (f_cal_asked : HasDef K mg "asked" s_asked ["play", "call", "rows"])
    (f_cal_answer : HasDef K mg "answer" s_answer ["holder", "call", "told", "rows"])
    (a0 : PySem.W.nsIn K mainGlobals "answers" = some (some (.ref f0))) (l0 : K.lookup f0 = some ⟨oc, od, .func (PySem.W.fnOf "answers" "answers" (C8.fnArgs s_answers) (C8.fnBody s_answers) (C8.fnScope s_answers) .none kV dc pm an cd ct), sl⟩) (c0 : PySem.W.codeIn K cd "answers" = true) :
    ∃ fd : FuncData, (∀ (s : Shared) (us : List Value), us.length = (["calls"] : List Str).length → BindsTo s fd ⟨us, []⟩ ((["calls"] : List Str).zip us)) ∧ ∀ base : Heap, K.In base → base.Ns mainGlobals mg → FnOk P w K mg base C8.CX0 9 fa fd ["calls"] (sp_answers K) := by
  have e := hfa.symm.trans (PySem.W.mg_of X G a0)
  cases e
  have F0 := fun_mk (st := s_answers) l0 c0
  refine ⟨_, fun s us hu => .of_eq (bd_answers kV dc pm an cd ct us hu), fun base _ _ => ?_⟩
  have g_mak_Play := mak_Play (P := P) (w := w) (base := base) T f_mak_Play
  have g_mak_Holder := mak_Holder (P := P) (w := w) (base := base) T f_mak_Holder g_mak_Play
  have g_met_hold := met_hold (P := P) (w := w) (base := base) T f_met_hold
  have g_cal_begins := cal_begins (P := P) (w := w) (base := base) T f_cal_begins g_mak_Play g_met_hold
  have g_cal_are_rising := cal_are_rising (P := P) (w := w) (base := base) T f_cal_are_rising
  have g_met_put_scene := met_put_scene (P := P) (w := w) (base := base) T f_met_put_scene
  have g_cal_scene := cal_scene (P := P) (w := w) (base := base) T f_cal_scene g_cal_are_rising g_met_put_scene
  have g_mak_Player := mak_Player (P := P) (w := w) (base := base) T f_mak_Player
  have g_met_put_player := met_put_player (P := P) (w := w) (base := base) T f_met_put_player
  have g_cal_player := cal_player (P := P) (w := w) (base := base) T f_cal_player g_mak_Player g_met_put_player
  have g_met_put_piece := met_put_piece (P := P) (w := w) (base := base) T f_met_put_piece
  have g_cal_piece := cal_piece (P := P) (w := w) (base := base) T f_cal_piece g_cal_are_rising g_met_put_piece
  have g_met_put_pair := met_put_pair (P := P) (w := w) (base := base) T f_met_put_pair
  have g_cal_ahead := cal_ahead (P := P) (w := w) (base := base) T f_cal_ahead g_met_put_pair
  have g_mak_Best := mak_Best (P := P) (w := w) (base := base) T f_mak_Best
  have g_cal_orders := cal_orders (P := P) (w := w) (base := base) T f_cal_orders
  have g_cal_castings := cal_castings (P := P) (w := w) (base := base) T f_cal_castings
  have g_met_can_play := met_can_play (P := P) (w := w) (base := base) T f_met_can_play
  have g_cal_wrong_casting := cal_wrong_casting (P := P) (w := w) (base := base) T f_cal_wrong_casting g_met_can_play
  have g_cal_right_castings := cal_right_castings (P := P) (w := w) (base := base) T f_cal_right_castings g_cal_castings g_cal_wrong_casting
  have g_cal_in_piece := cal_in_piece (P := P) (w := w) (base := base) T f_cal_in_piece
  have g_cal_stay := cal_stay (P := P) (w := w) (base := base) T f_cal_stay g_cal_in_piece
  have g_cal_stays := cal_stays (P := P) (w := w) (base := base) T f_cal_stays g_cal_stay
  have g_cal_wrong_order := cal_wrong_order (P := P) (w := w) (base := base) T f_cal_wrong_order
  have g_cal_order_cost := cal_order_cost (P := P) (w := w) (base := base) T f_cal_order_cost
  have g_met_put := met_put (P := P) (w := w) (base := base) T f_met_put
  have g_cal_best_order := cal_best_order (P := P) (w := w) (base := base) T f_cal_best_order g_mak_Best g_cal_stays g_cal_wrong_order g_cal_order_cost g_met_put
  have g_met_fee := met_fee (P := P) (w := w) (base := base) T f_met_fee
  have g_cal_casting_cost := cal_casting_cost (P := P) (w := w) (base := base) T f_cal_casting_cost g_met_fee
  have g_cal_best_plan := cal_best_plan (P := P) (w := w) (base := base) T f_cal_best_plan g_mak_Best g_cal_orders g_cal_right_castings g_cal_best_order g_cal_casting_cost g_met_put
  have g_met_between := met_between (P := P) (w := w) (base := base) T f_met_between
  have g_cal_is_too_soon := cal_is_too_soon (P := P) (w := w) (base := base) T f_cal_is_too_soon g_met_between
  have g_cal_clash := cal_clash (P := P) (w := w) (base := base) T f_cal_clash g_cal_is_too_soon
  have g_cal_clashing := cal_clashing (P := P) (w := w) (base := base) T f_cal_clashing g_cal_clash
  have g_cal_listed := cal_listed (P := P) (w := w) (base := base) T f_cal_listed
  have g_cal_best := cal_best (P := P) (w := w) (base := base) T f_cal_best g_cal_best_plan g_cal_clashing g_cal_casting_cost g_cal_listed
  have g_cal_best_casting := cal_best_casting (P := P) (w := w) (base := base) T f_cal_best_casting g_mak_Best g_cal_right_castings g_cal_casting_cost g_met_put
  have g_cal_apart := cal_apart (P := P) (w := w) (base := base) T f_cal_apart g_cal_best_casting g_cal_clashing g_cal_best_order g_cal_orders g_cal_listed
  have g_cal_is_casting := cal_is_casting (P := P) (w := w) (base := base) T f_cal_is_casting
  have g_cal_check := cal_check (P := P) (w := w) (base := base) T f_cal_check g_cal_is_casting g_cal_wrong_casting g_cal_clashing g_cal_listed g_cal_stays g_cal_wrong_order g_cal_casting_cost g_cal_order_cost
  have g_cal_order := cal_order (P := P) (w := w) (base := base) T f_cal_order g_cal_is_casting g_cal_best_order g_cal_orders g_cal_listed
  have g_cal_asked := cal_asked (P := P) (w := w) (base := base) T f_cal_asked g_cal_best g_cal_apart g_cal_check g_cal_order
  have g_cal_answer := cal_answer (P := P) (w := w) (base := base) T f_cal_answer g_cal_begins g_cal_scene g_cal_player g_cal_piece g_cal_ahead g_cal_asked
  exact fn_answers T F0 g_mak_Holder g_cal_answer
end Rc
set_option Elab.async false
open PySem PySem.W PyProof.Rows
set_option maxRecDepth 100000 in
set_option maxHeartbeats 16000000 in
theorem PySem.Challenge.cw_rolecasting_s01_answers_holds : PySem.Challenge.rw_rolecasting_s01_answers.Holds := by
  w_on; k_headS; (case hw => exact ⟨[.list [.int 5]], by decide +kernel, by decide +kernel⟩)
  k_fillS
  refine L2.walk_specK (r := PySem.Challenge.rw_rolecasting_s01_answers) (k := 9) (CX := C8.CX0) (ps := ["calls"]) (sp := Rc.sp_answers) (by decide +kernel) rfl rfl ⟨rfl, by decide, by decide⟩ (fun w h Y => PySem.W.kIn_of Y) ?F ?S (fun _ _ _ _ z => z)
  case F =>
    intro w mg fa h Y KX G (hmg : mg "answers" = some (.ref fa))
    clear Y
    refine' Rc.all_mk KX G hmg ?aY ?aP ?aB ?aH ?T ?f_mak_Play ?f_mak_Holder ?f_met_hold ?f_cal_begins ?f_cal_are_rising ?f_met_put_scene ?f_cal_scene ?f_mak_Player ?f_met_put_player ?f_cal_player ?f_met_put_piece ?f_cal_piece ?f_met_put_pair ?f_cal_ahead ?f_mak_Best ?f_cal_orders ?f_cal_castings ?f_met_can_play ?f_cal_wrong_casting ?f_cal_right_castings ?f_cal_in_piece ?f_cal_stay ?f_cal_stays ?f_cal_wrong_order ?f_cal_order_cost ?f_met_put ?f_cal_best_order ?f_met_fee ?f_cal_casting_cost ?f_cal_best_plan ?f_met_between ?f_cal_is_too_soon ?f_cal_clash ?f_cal_clashing ?f_cal_listed ?f_cal_best ?f_cal_best_casting ?f_cal_apart ?f_cal_is_casting ?f_cal_check ?f_cal_order ?f_cal_asked ?f_cal_answer ?a0 ?l0 ?c0
    (case aY => k_is); (case aP => k_is); (case aB => k_is); (case aH => k_is)
    case T =>
      refine' {len := ?T_len, max := ?T_max, sum := ?T_sum, sorted := ?T_sorted, list := ?T_list, range := ?T_range, enumerate := ?T_enumerate, kMOST_ROLES := ?T_kMOST_ROLES, kMOST_SCENES := ?T_kMOST_SCENES, kMOST_PLAYERS := ?T_kMOST_PLAYERS, kMOST_PIECES := ?T_kMOST_PIECES, kMOST_MINUTES := ?T_kMOST_MINUTES, kMOST_PIECE := ?T_kMOST_PIECE, kMOST_DAY := ?T_kMOST_DAY, kMOST_MONEY := ?T_kMOST_MONEY, tNUMBERS := ?T_tNUMBERS, tROWS := ?T_tROWS, qN := ?T_qN, qR := ?T_qR, clY := ?T_clY, clP := ?T_clP, clB := ?T_clB, clH := ?T_clH, yw := ?T_yw, yr := ?T_yr, ys := ?T_ys, yt := ?T_yt, yf := ?T_yf, pd := ?T_pd, ps := ?T_ps, pl := ?T_pl, pp := ?T_pp, pr := ?T_pr, bc := ?T_bc, bm := ?T_bm, bt := ?T_bt, hp := ?T_hp}
      (case T_len => (refine' PySem.W.mg_none_of KX G ?z_T_len; k_is))
      (case T_max => (refine' PySem.W.mg_none_of KX G ?z_T_max; k_is))
      (case T_sum => (refine' PySem.W.mg_none_of KX G ?z_T_sum; k_is))
      (case T_sorted => (refine' PySem.W.mg_none_of KX G ?z_T_sorted; k_is))
      (case T_list => (refine' PySem.W.mg_none_of KX G ?z_T_list; k_is))
      (case T_range => (refine' PySem.W.mg_none_of KX G ?z_T_range; k_is))
      (case T_enumerate => (refine' PySem.W.mg_none_of KX G ?z_T_enumerate; k_is))
      (case T_kMOST_ROLES => (refine' Rc.int_mk KX G ?z_T_kMOST_ROLES; (case z_T_kMOST_ROLES => k_is)))
      (case T_kMOST_SCENES => (refine' Rc.int_mk KX G ?z_T_kMOST_SCENES; (case z_T_kMOST_SCENES => k_is)))
      (case T_kMOST_PLAYERS => (refine' Rc.int_mk KX G ?z_T_kMOST_PLAYERS; (case z_T_kMOST_PLAYERS => k_is)))
      (case T_kMOST_PIECES => (refine' Rc.int_mk KX G ?z_T_kMOST_PIECES; (case z_T_kMOST_PIECES => k_is)))
      (case T_kMOST_MINUTES => (refine' Rc.int_mk KX G ?z_T_kMOST_MINUTES; (case z_T_kMOST_MINUTES => k_is)))
      (case T_kMOST_PIECE => (refine' Rc.int_mk KX G ?z_T_kMOST_PIECE; (case z_T_kMOST_PIECE => k_is)))
      (case T_kMOST_DAY => (refine' Rc.int_mk KX G ?z_T_kMOST_DAY; (case z_T_kMOST_DAY => k_is)))
      (case T_kMOST_MONEY => (refine' Rc.int_mk KX G ?z_T_kMOST_MONEY; (case z_T_kMOST_MONEY => k_is)))
      (case T_tNUMBERS => (refine' Rc.ref_mk KX G ?z_T_tNUMBERS; (case z_T_tNUMBERS => k_is)))
      (case T_tROWS => (refine' Rc.ref_mk KX G ?z_T_tROWS; (case z_T_tROWS => k_is)))
      (case T_qN => (refine' Rc.tup_mk ?z1_T_qN ?z2_T_qN ?z3_T_qN ?z4_T_qN ?z5_T_qN; (case z1_T_qN => k_is); (case z2_T_qN => exact rfl); (case z3_T_qN => exact rfl); (case z4_T_qN => decide); (case z5_T_qN => ((repeat (refine .cons ⟨_, rfl⟩ ?_)); exact .nil))))
      (case T_qR => (refine' Rc.tup_mk ?z1_T_qR ?z2_T_qR ?z3_T_qR ?z4_T_qR ?z5_T_qR; (case z1_T_qR => k_is); (case z2_T_qR => exact rfl); (case z3_T_qR => exact rfl); (case z4_T_qR => decide); (case z5_T_qR => ((repeat (refine .cons ⟨_, rfl⟩ ?_)); exact .nil))))
      (case T_clY => (refine' ⟨?z1_T_clY, ?z2_T_clY, ?z3_T_clY, ?z4_T_clY⟩ <;> k_is))
      (case T_clP => (refine' ⟨?z1_T_clP, ?z2_T_clP, ?z3_T_clP, ?z4_T_clP⟩ <;> k_is))
      (case T_clB => (refine' ⟨?z1_T_clB, ?z2_T_clB, ?z3_T_clB, ?z4_T_clB⟩ <;> k_is))
      (case T_clH => (refine' ⟨?z1_T_clH, ?z2_T_clH, ?z3_T_clH, ?z4_T_clH⟩ <;> k_is))
      (case T_yw => (show PySem.W.findIn _ _ _ = _; k_is))
      (case T_yr => (show PySem.W.findIn _ _ _ = _; k_is))
      (case T_ys => (show PySem.W.findIn _ _ _ = _; k_is))
      (case T_yt => (show PySem.W.findIn _ _ _ = _; k_is))
      (case T_yf => (show PySem.W.findIn _ _ _ = _; k_is))
      (case T_pd => (show PySem.W.findIn _ _ _ = _; k_is))
      (case T_ps => (show PySem.W.findIn _ _ _ = _; k_is))
      (case T_pl => (show PySem.W.findIn _ _ _ = _; k_is))
      (case T_pp => (show PySem.W.findIn _ _ _ = _; k_is))
      (case T_pr => (show PySem.W.findIn _ _ _ = _; k_is))
      (case T_bc => (show PySem.W.findIn _ _ _ = _; k_is))
      (case T_bm => (show PySem.W.findIn _ _ _ = _; k_is))
      (case T_bt => (show PySem.W.findIn _ _ _ = _; k_is))
      (case T_hp => (show PySem.W.findIn _ _ _ = _; k_is))
    (case f_mak_Play => refine' Rc.make_mk Rc.bd_Play_init KX G ?aC_f_mak_Play ?m_f_mak_Play ?kc_f_mak_Play ?a_f_mak_Play ?i_f_mak_Play ?l_f_mak_Play ?c_f_mak_Play; (case aC_f_mak_Play => k_is); (case m_f_mak_Play => k_is); (case kc_f_mak_Play => k_is); (case a_f_mak_Play => k_is); (case i_f_mak_Play => k_is); (case l_f_mak_Play => k_is); (case c_f_mak_Play => k_is))
    (case f_mak_Holder => refine' Rc.make_mk Rc.bd_Holder_init KX G ?aC_f_mak_Holder ?m_f_mak_Holder ?kc_f_mak_Holder ?a_f_mak_Holder ?i_f_mak_Holder ?l_f_mak_Holder ?c_f_mak_Holder; (case aC_f_mak_Holder => k_is); (case m_f_mak_Holder => k_is); (case kc_f_mak_Holder => k_is); (case a_f_mak_Holder => k_is); (case i_f_mak_Holder => k_is); (case l_f_mak_Holder => k_is); (case c_f_mak_Holder => k_is))
    (case f_met_hold => refine' Rc.meth_mk Rc.bd_Holder_hold ?a_f_met_hold ?i_f_met_hold ?l_f_met_hold ?c_f_met_hold ?k_f_met_hold; (case a_f_met_hold => k_is); (case i_f_met_hold => k_is); (case l_f_met_hold => k_is); (case c_f_met_hold => k_is); (case k_f_met_hold => k_is))
    (case f_cal_begins => refine' Rc.def_mk Rc.bd_begins KX G ?a_f_cal_begins ?l_f_cal_begins ?c_f_cal_begins ?k_f_cal_begins; (case a_f_cal_begins => k_is); (case l_f_cal_begins => k_is); (case c_f_cal_begins => k_is); (case k_f_cal_begins => k_is))
    (case f_cal_are_rising => refine' Rc.def_mk Rc.bd_are_rising KX G ?a_f_cal_are_rising ?l_f_cal_are_rising ?c_f_cal_are_rising ?k_f_cal_are_rising; (case a_f_cal_are_rising => k_is); (case l_f_cal_are_rising => k_is); (case c_f_cal_are_rising => k_is); (case k_f_cal_are_rising => k_is))
    (case f_met_put_scene => refine' Rc.meth_mk Rc.bd_Play_put_scene ?a_f_met_put_scene ?i_f_met_put_scene ?l_f_met_put_scene ?c_f_met_put_scene ?k_f_met_put_scene; (case a_f_met_put_scene => k_is); (case i_f_met_put_scene => k_is); (case l_f_met_put_scene => k_is); (case c_f_met_put_scene => k_is); (case k_f_met_put_scene => k_is))
    (case f_cal_scene => refine' Rc.def_mk Rc.bd_scene KX G ?a_f_cal_scene ?l_f_cal_scene ?c_f_cal_scene ?k_f_cal_scene; (case a_f_cal_scene => k_is); (case l_f_cal_scene => k_is); (case c_f_cal_scene => k_is); (case k_f_cal_scene => k_is))
    (case f_mak_Player => refine' Rc.make_mk Rc.bd_Player_init KX G ?aC_f_mak_Player ?m_f_mak_Player ?kc_f_mak_Player ?a_f_mak_Player ?i_f_mak_Player ?l_f_mak_Player ?c_f_mak_Player; (case aC_f_mak_Player => k_is); (case m_f_mak_Player => k_is); (case kc_f_mak_Player => k_is); (case a_f_mak_Player => k_is); (case i_f_mak_Player => k_is); (case l_f_mak_Player => k_is); (case c_f_mak_Player => k_is))
    (case f_met_put_player => refine' Rc.meth_mk Rc.bd_Play_put_player ?a_f_met_put_player ?i_f_met_put_player ?l_f_met_put_player ?c_f_met_put_player ?k_f_met_put_player; (case a_f_met_put_player => k_is); (case i_f_met_put_player => k_is); (case l_f_met_put_player => k_is); (case c_f_met_put_player => k_is); (case k_f_met_put_player => k_is))
    (case f_cal_player => refine' Rc.def_mk Rc.bd_player KX G ?a_f_cal_player ?l_f_cal_player ?c_f_cal_player ?k_f_cal_player; (case a_f_cal_player => k_is); (case l_f_cal_player => k_is); (case c_f_cal_player => k_is); (case k_f_cal_player => k_is))
    (case f_met_put_piece => refine' Rc.meth_mk Rc.bd_Play_put_piece ?a_f_met_put_piece ?i_f_met_put_piece ?l_f_met_put_piece ?c_f_met_put_piece ?k_f_met_put_piece; (case a_f_met_put_piece => k_is); (case i_f_met_put_piece => k_is); (case l_f_met_put_piece => k_is); (case c_f_met_put_piece => k_is); (case k_f_met_put_piece => k_is))
    (case f_cal_piece => refine' Rc.def_mk Rc.bd_piece KX G ?a_f_cal_piece ?l_f_cal_piece ?c_f_cal_piece ?k_f_cal_piece; (case a_f_cal_piece => k_is); (case l_f_cal_piece => k_is); (case c_f_cal_piece => k_is); (case k_f_cal_piece => k_is))
    (case f_met_put_pair => refine' Rc.meth_mk Rc.bd_Play_put_pair ?a_f_met_put_pair ?i_f_met_put_pair ?l_f_met_put_pair ?c_f_met_put_pair ?k_f_met_put_pair; (case a_f_met_put_pair => k_is); (case i_f_met_put_pair => k_is); (case l_f_met_put_pair => k_is); (case c_f_met_put_pair => k_is); (case k_f_met_put_pair => k_is))
    (case f_cal_ahead => refine' Rc.def_mk Rc.bd_ahead KX G ?a_f_cal_ahead ?l_f_cal_ahead ?c_f_cal_ahead ?k_f_cal_ahead; (case a_f_cal_ahead => k_is); (case l_f_cal_ahead => k_is); (case c_f_cal_ahead => k_is); (case k_f_cal_ahead => k_is))
    (case f_mak_Best => refine' Rc.make_mk Rc.bd_Best_init KX G ?aC_f_mak_Best ?m_f_mak_Best ?kc_f_mak_Best ?a_f_mak_Best ?i_f_mak_Best ?l_f_mak_Best ?c_f_mak_Best; (case aC_f_mak_Best => k_is); (case m_f_mak_Best => k_is); (case kc_f_mak_Best => k_is); (case a_f_mak_Best => k_is); (case i_f_mak_Best => k_is); (case l_f_mak_Best => k_is); (case c_f_mak_Best => k_is))
    (case f_cal_orders => refine' Rc.def_mk Rc.bd_orders KX G ?a_f_cal_orders ?l_f_cal_orders ?c_f_cal_orders ?k_f_cal_orders; (case a_f_cal_orders => k_is); (case l_f_cal_orders => k_is); (case c_f_cal_orders => k_is); (case k_f_cal_orders => k_is))
    (case f_cal_castings => refine' Rc.def_mk Rc.bd_castings KX G ?a_f_cal_castings ?l_f_cal_castings ?c_f_cal_castings ?k_f_cal_castings; (case a_f_cal_castings => k_is); (case l_f_cal_castings => k_is); (case c_f_cal_castings => k_is); (case k_f_cal_castings => k_is))
    (case f_met_can_play => refine' Rc.meth_mk Rc.bd_Player_can_play ?a_f_met_can_play ?i_f_met_can_play ?l_f_met_can_play ?c_f_met_can_play ?k_f_met_can_play; (case a_f_met_can_play => k_is); (case i_f_met_can_play => k_is); (case l_f_met_can_play => k_is); (case c_f_met_can_play => k_is); (case k_f_met_can_play => k_is))
    (case f_cal_wrong_casting => refine' Rc.def_mk Rc.bd_wrong_casting KX G ?a_f_cal_wrong_casting ?l_f_cal_wrong_casting ?c_f_cal_wrong_casting ?k_f_cal_wrong_casting; (case a_f_cal_wrong_casting => k_is); (case l_f_cal_wrong_casting => k_is); (case c_f_cal_wrong_casting => k_is); (case k_f_cal_wrong_casting => k_is))
    (case f_cal_right_castings => refine' Rc.def_mk Rc.bd_right_castings KX G ?a_f_cal_right_castings ?l_f_cal_right_castings ?c_f_cal_right_castings ?k_f_cal_right_castings; (case a_f_cal_right_castings => k_is); (case l_f_cal_right_castings => k_is); (case c_f_cal_right_castings => k_is); (case k_f_cal_right_castings => k_is))
    (case f_cal_in_piece => refine' Rc.def_mk Rc.bd_in_piece KX G ?a_f_cal_in_piece ?l_f_cal_in_piece ?c_f_cal_in_piece ?k_f_cal_in_piece; (case a_f_cal_in_piece => k_is); (case l_f_cal_in_piece => k_is); (case c_f_cal_in_piece => k_is); (case k_f_cal_in_piece => k_is))
    (case f_cal_stay => refine' Rc.def_mk Rc.bd_stay KX G ?a_f_cal_stay ?l_f_cal_stay ?c_f_cal_stay ?k_f_cal_stay; (case a_f_cal_stay => k_is); (case l_f_cal_stay => k_is); (case c_f_cal_stay => k_is); (case k_f_cal_stay => k_is))
    (case f_cal_stays => refine' Rc.def_mk Rc.bd_stays KX G ?a_f_cal_stays ?l_f_cal_stays ?c_f_cal_stays ?k_f_cal_stays; (case a_f_cal_stays => k_is); (case l_f_cal_stays => k_is); (case c_f_cal_stays => k_is); (case k_f_cal_stays => k_is))
    (case f_cal_wrong_order => refine' Rc.def_mk Rc.bd_wrong_order KX G ?a_f_cal_wrong_order ?l_f_cal_wrong_order ?c_f_cal_wrong_order ?k_f_cal_wrong_order; (case a_f_cal_wrong_order => k_is); (case l_f_cal_wrong_order => k_is); (case c_f_cal_wrong_order => k_is); (case k_f_cal_wrong_order => k_is))
    (case f_cal_order_cost => refine' Rc.def_mk Rc.bd_order_cost KX G ?a_f_cal_order_cost ?l_f_cal_order_cost ?c_f_cal_order_cost ?k_f_cal_order_cost; (case a_f_cal_order_cost => k_is); (case l_f_cal_order_cost => k_is); (case c_f_cal_order_cost => k_is); (case k_f_cal_order_cost => k_is))
    (case f_met_put => refine' Rc.meth_mk Rc.bd_Best_put ?a_f_met_put ?i_f_met_put ?l_f_met_put ?c_f_met_put ?k_f_met_put; (case a_f_met_put => k_is); (case i_f_met_put => k_is); (case l_f_met_put => k_is); (case c_f_met_put => k_is); (case k_f_met_put => k_is))
    (case f_cal_best_order => refine' Rc.def_mk Rc.bd_best_order KX G ?a_f_cal_best_order ?l_f_cal_best_order ?c_f_cal_best_order ?k_f_cal_best_order; (case a_f_cal_best_order => k_is); (case l_f_cal_best_order => k_is); (case c_f_cal_best_order => k_is); (case k_f_cal_best_order => k_is))
    (case f_met_fee => refine' Rc.meth_mk Rc.bd_Player_fee ?a_f_met_fee ?i_f_met_fee ?l_f_met_fee ?c_f_met_fee ?k_f_met_fee; (case a_f_met_fee => k_is); (case i_f_met_fee => k_is); (case l_f_met_fee => k_is); (case c_f_met_fee => k_is); (case k_f_met_fee => k_is))
    (case f_cal_casting_cost => refine' Rc.def_mk Rc.bd_casting_cost KX G ?a_f_cal_casting_cost ?l_f_cal_casting_cost ?c_f_cal_casting_cost ?k_f_cal_casting_cost; (case a_f_cal_casting_cost => k_is); (case l_f_cal_casting_cost => k_is); (case c_f_cal_casting_cost => k_is); (case k_f_cal_casting_cost => k_is))
    (case f_cal_best_plan => refine' Rc.def_mk Rc.bd_best_plan KX G ?a_f_cal_best_plan ?l_f_cal_best_plan ?c_f_cal_best_plan ?k_f_cal_best_plan; (case a_f_cal_best_plan => k_is); (case l_f_cal_best_plan => k_is); (case c_f_cal_best_plan => k_is); (case k_f_cal_best_plan => k_is))
    (case f_met_between => refine' Rc.meth_mk Rc.bd_Play_between ?a_f_met_between ?i_f_met_between ?l_f_met_between ?c_f_met_between ?k_f_met_between; (case a_f_met_between => k_is); (case i_f_met_between => k_is); (case l_f_met_between => k_is); (case c_f_met_between => k_is); (case k_f_met_between => k_is))
    (case f_cal_is_too_soon => refine' Rc.def_mk Rc.bd_is_too_soon KX G ?a_f_cal_is_too_soon ?l_f_cal_is_too_soon ?c_f_cal_is_too_soon ?k_f_cal_is_too_soon; (case a_f_cal_is_too_soon => k_is); (case l_f_cal_is_too_soon => k_is); (case c_f_cal_is_too_soon => k_is); (case k_f_cal_is_too_soon => k_is))
    (case f_cal_clash => refine' Rc.def_mk Rc.bd_clash KX G ?a_f_cal_clash ?l_f_cal_clash ?c_f_cal_clash ?k_f_cal_clash; (case a_f_cal_clash => k_is); (case l_f_cal_clash => k_is); (case c_f_cal_clash => k_is); (case k_f_cal_clash => k_is))
    (case f_cal_clashing => refine' Rc.def_mk Rc.bd_clashing KX G ?a_f_cal_clashing ?l_f_cal_clashing ?c_f_cal_clashing ?k_f_cal_clashing; (case a_f_cal_clashing => k_is); (case l_f_cal_clashing => k_is); (case c_f_cal_clashing => k_is); (case k_f_cal_clashing => k_is))
    (case f_cal_listed => refine' Rc.def_mk Rc.bd_listed KX G ?a_f_cal_listed ?l_f_cal_listed ?c_f_cal_listed ?k_f_cal_listed; (case a_f_cal_listed => k_is); (case l_f_cal_listed => k_is); (case c_f_cal_listed => k_is); (case k_f_cal_listed => k_is))
    (case f_cal_best => refine' Rc.def_mk Rc.bd_best KX G ?a_f_cal_best ?l_f_cal_best ?c_f_cal_best ?k_f_cal_best; (case a_f_cal_best => k_is); (case l_f_cal_best => k_is); (case c_f_cal_best => k_is); (case k_f_cal_best => k_is))
    (case f_cal_best_casting => refine' Rc.def_mk Rc.bd_best_casting KX G ?a_f_cal_best_casting ?l_f_cal_best_casting ?c_f_cal_best_casting ?k_f_cal_best_casting; (case a_f_cal_best_casting => k_is); (case l_f_cal_best_casting => k_is); (case c_f_cal_best_casting => k_is); (case k_f_cal_best_casting => k_is))
    (case f_cal_apart => refine' Rc.def_mk Rc.bd_apart KX G ?a_f_cal_apart ?l_f_cal_apart ?c_f_cal_apart ?k_f_cal_apart; (case a_f_cal_apart => k_is); (case l_f_cal_apart => k_is); (case c_f_cal_apart => k_is); (case k_f_cal_apart => k_is))
    (case f_cal_is_casting => refine' Rc.def_mk Rc.bd_is_casting KX G ?a_f_cal_is_casting ?l_f_cal_is_casting ?c_f_cal_is_casting ?k_f_cal_is_casting; (case a_f_cal_is_casting => k_is); (case l_f_cal_is_casting => k_is); (case c_f_cal_is_casting => k_is); (case k_f_cal_is_casting => k_is))
    (case f_cal_check => refine' Rc.def_mk Rc.bd_check KX G ?a_f_cal_check ?l_f_cal_check ?c_f_cal_check ?k_f_cal_check; (case a_f_cal_check => k_is); (case l_f_cal_check => k_is); (case c_f_cal_check => k_is); (case k_f_cal_check => k_is))
    (case f_cal_order => refine' Rc.def_mk Rc.bd_order KX G ?a_f_cal_order ?l_f_cal_order ?c_f_cal_order ?k_f_cal_order; (case a_f_cal_order => k_is); (case l_f_cal_order => k_is); (case c_f_cal_order => k_is); (case k_f_cal_order => k_is))
    (case f_cal_asked => refine' Rc.def_mk Rc.bd_asked KX G ?a_f_cal_asked ?l_f_cal_asked ?c_f_cal_asked ?k_f_cal_asked; (case a_f_cal_asked => k_is); (case l_f_cal_asked => k_is); (case c_f_cal_asked => k_is); (case k_f_cal_asked => k_is))
    (case f_cal_answer => refine' Rc.def_mk Rc.bd_answer KX G ?a_f_cal_answer ?l_f_cal_answer ?c_f_cal_answer ?k_f_cal_answer; (case a_f_cal_answer => k_is); (case l_f_cal_answer => k_is); (case c_f_cal_answer => k_is); (case k_f_cal_answer => k_is))
    (case a0 => k_is); (case l0 => k_is); (case c0 => k_is)
  case S =>
    intro K H xs a hO hwi hask hx
    cases hx with
    | cons h1 h2 =>
      cases h2
      cases h1 with
      | lst hs ha =>
        have e := L2.ints_dw a.1 _ ha
        subst e
        have q : ((Codec.inLen 0 2000 a.1 && a.1.all (Codec.inInt 0 4294967295)) && true) = true := hwi
        rw [Bool.and_eq_true, Bool.and_eq_true] at q
        exact ⟨_, a.1, rfl, hs, hask, (Codec.inNat_iff.mp q.1.1).2, fun p H' hp => .lst (L2.SqL.of hp) (L2.dw_ints _)⟩
#print axioms PySem.Challenge.cw_rolecasting_s01_answers_holds
