import PyProof.Rows.All
import Wide.All
import OpenK.AllK
import Wide.FinOn
import PyProof.EqAt
import PyProof.EqKinds
import PyProof.TupleCall
import Open.SpecLaws
import KE.OsGo
import HandS.ForSpec
import HandS.Comp
import HandS.Conv
import HandS.NoneIn
import HandS.Flt
import HandS.ExcInit
import HandS.ExcField
import HandS.Zip
import PySem.Challenge.RW_poolreferee_s01_answers
set_option linter.all false
namespace Pr
/-! ### 1. The mirror: the program over whole numbers, a total function a def -/
structure R where
  game : Int
  table : List Int
  turn : Int
  phase : Int
  hand : Bool
  group : Int
  fa : Int
  fb : Int
  breaker : Int
  push : Bool
structure S where
  first : Int
  cushions : Int
  lost : Bool
  called : Int
  push : Bool
  potted : List Int
structure G where
  game : Int
  racks : Int
  turns : Bool
  wa : Int
  wb : Int
  rack : R
def b2z (b : Bool) : Int := if b = true then 1 else 0
def groupOf (b : Int) : Int := if b = 8 then 0 else if b < 8 then 1 else 2
def fullT (game : Int) : List Int := (List.range (if game = 8 then 15 else 9)).map fun (k : Nat) => 1 + (k : Int)
def R.new (game breaker : Int) : R := ⟨game, fullT game, breaker, 0, true, 0, 0, 0, breaker, false⟩
def R.groupFor (r : R) (side : Int) : Int := if r.group = 0 ∨ side = 0 then r.group else 3 - r.group
def R.takeGroup (r : R) (side g : Int) : R := { r with group := if side = 0 then g else 3 - g }
def R.pot (r : R) (p : List Int) : R := { r with table := r.table.filter fun b => !p.contains b }
def ins (b : Int) (l : List Int) : List Int := l.filter (fun x => decide (x < b)) ++ (b :: l.filter fun x => decide (b < x))
def R.comeBack (r : R) (b : Int) : R := if r.table.contains b = true then r else { r with table := ins b r.table }
def R.playBy (r : R) (side : Int) (hand : Bool) : R := { r with turn := side, hand := hand }
def R.chooseBy (r : R) (side : Int) (push : Bool) : R := { r with phase := 3, turn := side, hand := false, push := push }
def R.withPhase (r : R) (p : Int) : R := { r with phase := p }
def R.isOpen (r : R) : Bool := decide (r.group = 0)
def R.some8 (r : R) : List Int := if r.group = 0 then r.table.filter (fun b => !decide (b = 8)) else r.table.filter fun b => decide (groupOf b = r.groupFor r.turn)
def R.right8 (r : R) : List Int := if r.phase = 0 then r.table else if r.some8 = [] then [8] else r.some8
def R.right (r : R) : List Int := if r.game = 8 then r.right8 else r.table.take 1
def S.weak (x : S) : Bool := decide (x.potted = []) && decide (x.cushions < 4)
def R.plainFoul (r : R) (x : S) : Bool := if (x.lost || !r.right.contains x.first) = true then true else decide (x.potted = []) && decide (x.cushions = 0)
def R.breakShot (r : R) (x : S) : R :=
  if r.plainFoul x = true then (((r.pot x.potted).comeBack 8).withPhase 2).playBy (1 - r.turn) true
  else if x.weak = true then (((r.pot x.potted).comeBack 8).withPhase 2).chooseBy (1 - r.turn) false
  else (((r.pot x.potted).comeBack 8).withPhase 2).playBy (if x.potted = [] then 1 - r.turn else r.turn) false
def R.winner8 (r : R) (x : S) (f : Bool) : Int := if f = false ∧ r.right = [8] ∧ x.called = 8 then r.turn else 1 - r.turn
def R.took (r : R) (x : S) : R := if x.potted.contains x.called = true ∧ r.group = 0 then r.takeGroup r.turn (groupOf x.called) else r
def R.goOn (r : R) (x : S) : R :=
  (r.took x).playBy (if x.potted.contains x.called = true ∧ groupOf x.called = (r.took x).groupFor r.turn then r.turn else 1 - r.turn) false
def R.playShot (r : R) (x : S) : R × Option Int :=
  if x.potted.contains 8 = true then (r, some (r.winner8 x (r.plainFoul x)))
  else if r.plainFoul x = true then ((r.pot x.potted).playBy (1 - r.turn) true, none)
  else ((r.pot x.potted).goOn x, none)
def R.eight (r : R) (x : S) : R × Option Int := if r.phase = 0 then (r.breakShot x, none) else r.playShot x
def R.foul9 (r : R) (x : S) : Bool := if x.push = true then x.lost else r.plainFoul x || (decide (r.phase = 0) && x.weak)
def R.fouls (r : R) (side : Int) : Int := if side = 0 then r.fa else r.fb
def R.setF (r : R) (side v : Int) : R := if side = 0 then { r with fa := v } else { r with fb := v }
def R.behind (r : R) : Int := if r.phase = 0 then 1 else 2
def R.fouled (r : R) : R := ((r.comeBack 9).setF r.turn (r.fouls r.turn + 1)).playBy (1 - r.turn) true
def R.foulWin (r : R) : Option Int := if r.fouls r.turn + 1 = 3 then some (1 - r.turn) else none
def R.pushed (r : R) : R := (r.comeBack 9).chooseBy (1 - r.turn) true
def R.good (r : R) (x : S) : R × Option Int :=
  if x.potted.contains 9 = true then (r.setF r.turn 0, some r.turn)
  else ((r.setF r.turn 0).playBy (if x.potted = [] then 1 - r.turn else r.turn) false, none)
def R.nine (r : R) (x : S) : R × Option Int :=
  if r.foul9 x = true then (((r.pot x.potted).withPhase r.behind).fouled, ((r.pot x.potted).withPhase r.behind).foulWin) else if x.push = true then (((r.pot x.potted).withPhase r.behind).pushed, none) else ((r.pot x.potted).withPhase r.behind).good x
def R.shot (r : R) (game : Int) (x : S) : R × Option Int := if game = 8 then r.eight x else r.nine x
def R.isFoul (r : R) (game : Int) (x : S) : Bool := if game = 8 then r.plainFoul x else r.foul9 x
/-! a race -/
def G.over (g : G) : Bool := decide ((if g.wb > g.wa then g.wb else g.wa) = g.racks)
def G.addWon (g : G) (side : Int) : G := if side = 0 then { g with wa := g.wa + 1 } else { g with wb := g.wb + 1 }
def G.rackWon (g : G) (side : Int) : G :=
  if (g.addWon side).over = true then g.addWon side else { g.addWon side with rack := R.new g.game (if g.turns = true then 1 - g.rack.breaker else side) }
def G.stands (g : G) : List Int := if g.over = true then [g.wa, g.wb] else [g.wa, g.wb, g.rack.turn, g.rack.phase, b2z g.rack.hand, (g.rack.table.length : Int)]
def G.withRack (g : G) (r : R) : G := { g with rack := r }
/-! the calls: what's refused, what's answered -/
def bits (l : List Int) : Bool := l.all fun z => decide (0 ≤ z) && decide (z ≤ 1)
def beginRef (k n t w : Int) : Bool := !((decide (k = 8) || decide (k = 9)) && ((decide (1 ≤ n) && decide (n ≤ 30)) && bits [t, w]))
def G.begin0 (k n t w : Int) : G := ⟨k, n, decide (t = 1), 0, 0, R.new k w⟩
def going : Option G → Bool
  | none => false
  | some g => !g.over
def isThere (t : List Int) (l : List Int) : Bool := (l.filter fun b => !decide (b = 0)).all fun b => t.contains b
def fits (f c o b p : Int) (l : List Int) : Bool :=
  (decide (f ≤ 15) && (decide (c ≤ 15) && decide (b ≤ 15))) && ((decide (0 ≤ f) && (decide (0 ≤ c) && decide (0 ≤ b))) && (bits [o, p] && l.all fun z => decide (1 ≤ z) && decide (z ≤ 15)))
def shotRef (d : Option G) (f c o b p : Int) (l : List Int) : Option Int :=
  if fits f c o b p l = false then some (-1)
  else match d with
    | none => some (-2)
    | some g =>
      if g.over = true then some (-2)
      else if g.rack.phase = 3 then some (-3)
      else if isThere g.rack.table (f :: b :: l) = false then some (-4)
      else if ¬ l.Nodup then some (-4)
      else if ¬ (p = 0 ∨ g.rack.game = 9 ∧ g.rack.phase = 1) then some (-5)
      else if ¬ (f ≠ 0 ∨ l = [] ∧ c = 0) then some (-5)
      else none
def G.shot (g : G) (x : S) : G × List Int :=
  match (g.rack.shot g.game x).2 with
  | none => (g.withRack (g.rack.shot g.game x).1, b2z (g.rack.isFoul g.game x) :: (g.withRack (g.rack.shot g.game x).1).stands)
  | some w => ((g.withRack (g.rack.shot g.game x).1).rackWon w, (2 + w) :: ((g.withRack (g.rack.shot g.game x).1).rackWon w).stands)
def chooseRef (d : Option G) (n : Int) : Option Int :=
  if ¬ (0 ≤ n ∧ n ≤ 1) then some (-1)
  else match d with
    | none => some (-2)
    | some g => if g.over = true then some (-2) else if g.rack.phase = 3 then none else some (-3)
def R.chosen (r : R) (n : Int) : R :=
  if n = 1 ∧ r.push = false then R.new r.game r.turn else ({ r with phase := 2, push := false }).playBy (if n = 0 then r.turn else 1 - r.turn) false
def G.choose (g : G) (n : Int) : G × List Int := (g.withRack (g.rack.chosen n), n :: (g.withRack (g.rack.chosen n)).stands)
def nowOf : Option G → List Int
  | none => [0, 0, 0]
  | some g => if g.over = true then 0 :: g.stands else 1 :: (g.stands ++ [g.rack.group, g.rack.fa, g.rack.fb, g.rack.breaker, b2z g.rack.push])
def beginM (d : Option G) (k n t w : Int) : Option G × List Int := if beginRef k n t w = true then (d, [-1]) else (some (G.begin0 k n t w), [0])
def shotM (d : Option G) (f c o b p : Int) (l : List Int) : Option G × List Int := match shotRef d f c o b p l with
  | some e => (d, [e])
  | none => match d with
    | none => (d, [])
    | some g => (some (g.shot ⟨f, c, decide (o = 1), b, decide (p = 1), l⟩).1, (g.shot ⟨f, c, decide (o = 1), b, decide (p = 1), l⟩).2)
def chooseM (d : Option G) (n : Int) : Option G × List Int := match chooseRef d n with
  | some e => (d, [e])
  | none => match d with
    | none => (d, [])
    | some g => (some (g.choose n).1, (g.choose n).2)
def onM (d : Option G) : List Int := match d with
  | none => [-2]
  | some g => if g.over = true then [-2] else (g.rack.right.length : Int) :: g.rack.right
def tableM (d : Option G) : List Int := match d with
  | none => [-2]
  | some g => if g.over = true then [-2] else (g.rack.table.length : Int) :: g.rack.table
/-- a call: its number, its whole numbers, its list -/
def stepM (d : Option G) (c : List (List Int)) : Option G × List Int := match c with
  | [[1, k, n, t, w]] => beginM d k n t w
  | [[2, f, c, o, b, p], l] => shotM d f c o b p l
  | [[3, n]] => chooseM d n
  | [[4]] => (d, onM d)
  | [[5]] => (d, nowOf d)
  | [[6]] => (d, tableM d)
  | _ => (d, [])
end Pr
namespace Pr
/-! ### 2. The mirror agrees with the specification -/
abbrev wz : List Nat → List Int := Kg78.whole
theorem wz_filter (p : Int → Bool) : ∀ l : List Nat, (wz l).filter p = wz (l.filter fun n => p (n : Int))
  | [] => rfl
  | a :: l => by
    have ih := wz_filter p l
    show List.filter p ((a : Int) :: wz l) = _
    rw [List.filter_cons, List.filter_cons, ih]
    split <;> rfl
theorem wz_mem {l : List Nat} {n : Nat} : (n : Int) ∈ wz l ↔ n ∈ l := by
  unfold wz Kg78.whole
  rw [List.mem_map]
  constructor
  · rintro ⟨a, h, e⟩
    have : a = n := by omega
    exact this ▸ h
  · intro h
    exact ⟨n, h, rfl⟩
theorem wz_contains (l : List Nat) (n : Nat) : (wz l).contains (n : Int) = l.contains n := by
  rw [Bool.eq_iff_iff, List.contains_iff_mem, List.contains_iff_mem]
  exact wz_mem
theorem wz_inj : ∀ {l m : List Nat}, wz l = wz m → l = m
  | [], [], _ => rfl
  | [], _ :: _, h => nomatch h
  | _ :: _, [], h => nomatch h
  | a :: l, b :: m, h => by
    obtain ⟨h1, h2⟩ := List.cons.inj h
    have h3 : (a : Int) = (b : Int) := h1
    have e : a = b := by omega
    rw [e, wz_inj h2]
theorem wz_nil {l : List Nat} : wz l = [] ↔ l = [] := by
  cases l with
  | nil => exact ⟨fun _ => rfl, fun _ => rfl⟩
  | cons a l => exact ⟨(nomatch ·), (nomatch ·)⟩
theorem wz_len (l : List Nat) : (wz l).length = l.length := List.length_map ..
theorem group_cast (n : Nat) : groupOf (n : Int) = (Kg78.groupOf n : Nat) := by
  unfold groupOf Kg78.groupOf
  by_cases h : n < 8
  · rw [if_neg (by omega), if_pos (by omega), if_pos h] <;> rfl
  · by_cases h8 : n = 8
    · rw [if_pos (by omega), if_neg h, if_pos h8] <;> rfl
    · rw [if_neg (by omega), if_neg (by omega), if_neg h, if_neg h8] <;> rfl
theorem group_eight {n : Nat} : Kg78.groupOf n = 0 ↔ n = 8 := by
  unfold Kg78.groupOf
  split
  · omega
  · split <;> omega
theorem group_le (n : Nat) : Kg78.groupOf n ≤ 2 := by
  unfold Kg78.groupOf
  split
  · omega
  · split <;> omega

/-- the last ball, that stays on the table -/
def lastB (sort : Nat) : Nat := if sort = 8 then 8 else 9
/-- what is always so of a rack -/
structure Wf (sort : Nat) (pu : Bool) (r : Kg78.Rack) : Prop where
  up : r.balls.Pairwise (· < ·)
  rng : ∀ b ∈ r.balls, 1 ≤ b ∧ b ≤ 15
  last : lastB sort ∈ r.balls
  nine : sort = 9 → ∀ b ∈ r.balls, b ≤ 9
  who : r.who ≤ 1
  ph : r.phase ≤ 3
  ph1 : sort = 8 → r.phase ≠ 1
  hand : r.phase = 3 → r.hand = false
  pu3 : r.phase ≠ 3 → pu = false
  pu8 : sort = 8 → pu = false
  grp : r.group ≤ 2
  fa : r.foulsA ≤ 2
  fb : r.foulsB ≤ 2
/-- the mirror's rack is the specification's -/
structure RelR (sort broke : Nat) (pu : Bool) (r : Kg78.Rack) (m : R) : Prop where
  game : m.game = (sort : Nat)
  table : m.table = wz r.balls
  turn : m.turn = (r.who : Nat)
  phase : m.phase = (r.phase : Nat)
  hand : m.hand = r.hand
  group : m.group = (r.group : Nat)
  fa : m.fa = (r.foulsA : Nat)
  fb : m.fb = (r.foulsB : Nat)
  breaker : m.breaker = (broke : Nat)
  push : m.push = pu
structure RelG (s : Kg78.State) (g : G) : Prop where
  sort : s.sort = 8 ∨ s.sort = 9
  game : g.game = (s.sort : Nat)
  to : g.racks = (s.to : Nat)
  pos : 1 ≤ s.to
  turns : g.turns = s.turns
  a : g.wa = (s.a : Nat)
  b : g.wb = (s.b : Nat)
  broke : s.broke ≤ 1
  rack : match s.rack with
    | none => g.over = true
    | some r => s.a < s.to ∧ s.b < s.to ∧ RelR s.sort s.broke s.push r g.rack ∧ Wf s.sort s.push r
def Rel (s : Kg78.State) : Option G → Prop
  | none => s.rack = none ∧ s.a = 0 ∧ s.b = 0
  | some g => RelG s g

/-! sorted lists -/
theorem ins_filter {b : Int} {p : Int → Bool} : ∀ {l : List Int}, l.Pairwise (· < ·) → b ∈ l → ins b (l.filter fun x => p x && !decide (x = b)) = l.filter fun x => p x || decide (x = b)
  | [], _, h => by cases h
  | a :: l, hp, h => by
    have hp2 := List.pairwise_cons.mp hp
    by_cases e : a = b
    · subst e
      have e1 : (a :: l).filter (fun x => p x && !decide (x = a)) = l.filter p := by
        rw [List.filter_cons, if_neg (by simp)]
        apply List.filter_congr
        intro x hx
        have := hp2.1 x hx
        rw [(decide_eq_false (by omega))]
        simp
      have e2 : (a :: l).filter (fun x => p x || decide (x = a)) = a :: l.filter p := by
        rw [List.filter_cons, if_pos (by simp)]
        congr 1
        apply List.filter_congr
        intro x hx
        have := hp2.1 x hx
        rw [(decide_eq_false (by omega))]
        simp
      rw [e1, e2]
      unfold ins
      have e3 : (l.filter p).filter (fun x => decide (x < a)) = [] := by
        rw [List.filter_eq_nil_iff]
        intro x hx
        have := hp2.1 x (List.mem_filter.mp hx).1
        simp
        omega
      have e4 : (l.filter p).filter (fun x => decide (a < x)) = l.filter p := by
        rw [List.filter_eq_self]
        intro x hx
        have := hp2.1 x (List.mem_filter.mp hx).1
        simpa using this
      rw [e3, e4] <;> rfl
    · have hb : b ∈ l := by
        rcases (List.mem_cons.mp h) with z | z
        · exact absurd z.symm e
        · exact z
      have lt := hp2.1 b hb
      have ih := ins_filter (p := p) hp2.2 hb
      rw [List.filter_cons]
      rw [List.filter_cons]
      have q : (p a || decide (a = b)) = p a := by rw [decide_eq_false e, Bool.or_false]
      have q2 : (p a && !decide (a = b)) = p a := by rw [decide_eq_false e]; simp
      rw [q, q2]
      by_cases pa : p a = true
      · rw [if_pos pa, if_pos pa, ← ih]
        unfold ins
        rw [List.filter_cons, if_pos (by simpa using lt), List.filter_cons, if_neg (by simp; omega)] <;> rfl
      · rw [if_neg pa, if_neg pa, ih]
/-- come_back behind pot -/
theorem back_pot {b : Int} {l p : List Int} (hp : l.Pairwise (· < ·)) (hb : b ∈ l) (m : R) (e : m.table = l) : ((m.pot p).comeBack b) = { m with table := l.filter fun x => !p.contains x || decide (x = b) } := by
  subst e
  unfold R.comeBack R.pot
  dsimp only
  by_cases h : p.contains b = true
  · rw [if_neg]
    · congr 1
      rw [← ins_filter hp hb]
      congr 1
      apply List.filter_congr
      intro x hx
      by_cases e : x = b
      · subst e
        rw [h]
        simp
      · rw [decide_eq_false e]
        simp
    · intro c
      have c2 := (List.mem_filter.mp (List.contains_iff_mem.mp c)).2
      rw [h] at c2
      cases c2
  · have h' : p.contains b = false := by simpa using h
    rw [if_pos]
    · congr 1
      apply List.filter_congr
      intro x hx
      by_cases e : x = b
      · subst e
        rw [h']
        simp
      · rw [decide_eq_false e]
        simp
    · exact List.contains_iff_mem.mpr (List.mem_filter.mpr ⟨hb, by rw [h']; rfl⟩)

/-! what may be hit -/
theorem lowest_head : ∀ (l : List Nat) (a : Nat), a ≠ 0 → (∀ x ∈ l, a < x) → l.foldl (fun m b => if m = 0 ∨ b < m then b else m) a = a
  | [], _, _, _ => rfl
  | x :: l, a, h0, h => by
    have hx := h x List.mem_cons_self
    rw [List.foldl_cons, if_neg (by omega)]
    exact lowest_head l a h0 fun y hy => h y (List.mem_cons_of_mem _ hy)
theorem only_in : ∀ {l : List Nat} {a : Nat}, l.Pairwise (· < ·) → a ∈ l → l.filter (fun b => b == a) = [a]
  | [], _, _, h => by cases h
  | x :: l, a, hp, h => by
    have hp2 := List.pairwise_cons.mp hp
    by_cases e : x = a
    · subst e
      rw [List.filter_cons, if_pos (by simp)]
      congr 1
      rw [List.filter_eq_nil_iff]
      intro y hy
      have := hp2.1 y hy
      simp
      omega
    · rw [List.filter_cons, (if_neg (by simpa using e))]
      rcases (List.mem_cons.mp h) with z | z
      · exact absurd z.symm e
      · exact only_in hp2.2 z
theorem mine_eq {m : R} {r : Kg78.Rack} (hg : m.group = (r.group : Nat)) (ht : m.turn = (r.who : Nat)) (h2 : r.group ≤ 2) : m.groupFor m.turn = (r.mine : Nat) := by
  unfold R.groupFor Kg78.Rack.mine
  rw [hg, ht]
  by_cases g : r.group = 0
  · rw [if_pos (Or.inl (by omega)), if_pos g, g]
  · rw [if_neg g]
    by_cases w : r.who = 0
    · rw [if_pos (Or.inr (by omega)), if_pos w]
    · rw [if_neg (by omega), if_neg w]
      omega
theorem mine_zero {r : Kg78.Rack} (h2 : r.group ≤ 2) : r.mine = 0 ↔ r.group = 0 := by
  unfold Kg78.Rack.mine
  split
  · omega
  · split <;> omega
variable {sort broke : Nat} {pu : Bool} {r : Kg78.Rack} {m : R}
theorem right_may (hs : sort = 8 ∨ sort = 9) (E : RelR sort broke pu r m) (W : Wf sort pu r) : m.right = wz (r.may sort) := by
  have nz : ∀ b ∈ r.balls, b ≠ 0 := fun b hb => by have := W.rng b hb; omega
  unfold R.right Kg78.Rack.may
  rcases hs with rfl | rfl
  · rw [if_pos (show m.game = 8 from E.game)]
    have h8 : (8 : Nat) ∈ r.balls := W.last
    unfold R.right8
    by_cases p0 : r.phase = 0
    · rw [if_pos (by rw [E.phase, p0]; rfl), E.table]
      congr 1
      symm
      rw [List.filter_eq_self]
      intro b hb
      unfold Kg78.Rack.right
      rw [if_neg (nz b hb), if_neg (by decide), if_pos p0]
    · rw [if_neg (by rw [E.phase]; omega)]
      have eg := mine_eq E.group E.turn W.grp
      by_cases g0 : r.group = 0
      · have s8 : m.some8 = wz (r.balls.filter fun b => b != 8) := by
          unfold R.some8
          rw [if_pos (by rw [E.group, g0]; rfl), E.table, wz_filter]
          congr 1
          apply List.filter_congr
          intro b hb
          rw [Bool.eq_iff_iff]
          simp
          omega
        have m0 : r.mine = 0 := (mine_zero W.grp).mpr g0
        rw [s8]
        by_cases o : r.onEight = true
        · have o2 := o
          unfold Kg78.Rack.onEight at o2
          rw [if_pos m0] at o2
          have e0 : (r.balls.filter fun b => b != 8) = [] := by
            rw [List.filter_eq_nil_iff]
            intro b hb
            have := List.all_eq_true.mp o2 b hb
            simpa using this
          rw [e0, if_pos (show wz [] = [] from rfl)]
          have e1 : (r.balls.filter fun b => r.right 8 b) = [8] := by
            rw [← only_in W.up h8]
            apply List.filter_congr
            intro b hb
            unfold Kg78.Rack.right
            rw [if_neg (nz b hb), if_neg (by decide), if_neg p0, if_pos o]
          rw [e1]
          rfl
        · have o2 := o
          unfold Kg78.Rack.onEight at o2
          rw [if_pos m0] at o2
          have e0 : ¬ wz (r.balls.filter fun b => b != 8) = [] := by
            rw [wz_nil, List.filter_eq_nil_iff]
            intro z
            apply o2
            rw [List.all_eq_true]
            intro b hb
            have := z b hb
            simpa using this
          rw [if_neg e0]
          congr 1
          apply List.filter_congr
          intro b hb
          unfold Kg78.Rack.right
          rw [if_neg (nz b hb), if_neg (by decide), if_neg p0, if_neg o, if_pos g0]
      · have m0 : ¬ r.mine = 0 := fun z => g0 ((mine_zero W.grp).mp z)
        have s8 : m.some8 = wz (r.balls.filter fun b => Kg78.groupOf b == r.mine) := by
          unfold R.some8
          rw [if_neg (by rw [E.group]; omega), E.table, wz_filter, eg]
          congr 1
          apply List.filter_congr
          intro b hb
          rw [group_cast, Bool.eq_iff_iff]
          simp
          omega
        rw [s8]
        by_cases o : r.onEight = true
        · have o2 := o
          unfold Kg78.Rack.onEight at o2
          rw [if_neg m0] at o2
          have e0 : (r.balls.filter fun b => Kg78.groupOf b == r.mine) = [] := by
            rw [List.filter_eq_nil_iff]
            intro b hb z
            have : (r.balls.any fun b => Kg78.groupOf b == r.mine) = true := List.any_eq_true.mpr ⟨b, hb, z⟩
            rw [this] at o2
            cases o2
          rw [e0, if_pos (show wz [] = [] from rfl)]
          have e1 : (r.balls.filter fun b => r.right 8 b) = [8] := by
            rw [← only_in W.up h8]
            apply List.filter_congr
            intro b hb
            unfold Kg78.Rack.right
            rw [if_neg (nz b hb), if_neg (by decide), if_neg p0, if_pos o]
          rw [e1]
          rfl
        · have o2 := o
          unfold Kg78.Rack.onEight at o2
          rw [if_neg m0] at o2
          have e0 : ¬ wz (r.balls.filter fun b => Kg78.groupOf b == r.mine) = [] := by
            rw [wz_nil, List.filter_eq_nil_iff]
            intro z
            apply o2
            have : (r.balls.any fun b => Kg78.groupOf b == r.mine) = false := by
              rw [List.any_eq_false]
              exact z
            rw [this]
            rfl
          rw [if_neg e0]
          congr 1
          apply List.filter_congr
          intro b hb
          unfold Kg78.Rack.right
          rw [if_neg (nz b hb), if_neg (by decide), if_neg p0, if_neg o, if_neg g0]
  · rw [if_neg (show ¬ m.game = 8 by rw [E.game]; decide), E.table]
    obtain ⟨bl, hbl⟩ : ∃ bl, bl = r.balls := ⟨_, rfl⟩
    have up := W.up
    have hl := W.last
    cases e : r.balls with
    | nil =>
      rw [e] at hl
      cases hl
    | cons a l =>
      rw [e] at up nz
      have up2 := List.pairwise_cons.mp up
      have a0 := nz a List.mem_cons_self
      have lo : Kg78.lowest r.balls = a := by
        rw [e]
        unfold Kg78.lowest
        rw [List.foldl_cons, if_pos (Or.inl rfl)]
        exact lowest_head l a a0 up2.1
      have e1 : ((a :: l).filter fun b => r.right 9 b) = [a] := by
        rw [← only_in up List.mem_cons_self]
        apply List.filter_congr
        intro b hb
        unfold Kg78.Rack.right
        rw [if_neg (nz b hb), if_pos rfl, lo]
      rw [e1]
      rfl
theorem may_has {first : Nat} (W : Wf sort pu r) (h : first = 0 ∨ first ∈ r.balls) : (r.may sort).contains first = r.right sort first := by
  unfold Kg78.Rack.may
  rcases h with rfl | h
  · rw [show r.right sort 0 = false from rfl]
    rw [Bool.eq_false_iff]
    intro z
    have := (List.mem_filter.mp (List.contains_iff_mem.mp z)).1
    have := W.rng 0 this
    omega
  · rw [Bool.eq_iff_iff, List.contains_iff_mem, List.mem_filter]
    exact ⟨fun z => z.2, fun z => ⟨h, z⟩⟩
/-- a shot's two forms -/
structure RelS (x : Kg78.Shot) (push : Bool) (y : S) : Prop where
  first : y.first = (x.first : Nat)
  cushions : y.cushions = (x.cushions : Nat)
  lost : y.lost = x.lost
  call : y.called = (x.call : Nat)
  push : y.push = push
  potted : y.potted = wz x.potted
variable {x : Kg78.Shot} {push : Bool} {y : S}
theorem foul_eq (hs : sort = 8 ∨ sort = 9) (E : RelR sort broke pu r m) (W : Wf sort pu r) (X : RelS x push y) (hf : x.first = 0 ∨ x.first ∈ r.balls) : m.plainFoul y = r.foul sort x := by
  unfold R.plainFoul Kg78.Rack.foul
  rw [right_may hs E W, X.first, wz_contains, may_has W hf, X.lost, X.potted, X.cushions]
  cases x.lost with
  | true => rfl
  | false =>
    cases r.right sort x.first with
    | false => rfl
    | true =>
      show (decide (wz x.potted = []) && decide ((x.cushions : Int) = 0)) = (x.potted.isEmpty && x.cushions == 0)
      rw [Bool.eq_iff_iff]
      simp only [Bool.and_eq_true, decide_eq_true_eq, wz_nil, List.isEmpty_iff, beq_iff_eq]
      exact and_congr_right fun _ => by omega
theorem weak_eq (X : RelS x push y) : y.weak = (x.potted.isEmpty && decide (x.cushions < Kg78.BREAK)) := by
  unfold S.weak
  rw [X.potted, X.cushions]
  rw [Bool.eq_iff_iff]
  simp only [Bool.and_eq_true, decide_eq_true_eq, wz_nil, List.isEmpty_iff]
  have : Kg78.BREAK = 4 := rfl
  exact and_congr_right fun _ => by omega
end Pr
namespace Pr
variable {sort broke : Nat} {pu : Bool} {r : Kg78.Rack} {m : R} {x : Kg78.Shot} {push : Bool} {y : S}
def OutOk (sort broke : Nat) (pu : Bool) (res : Nat ⊕ Kg78.Rack) (out : R × Option Int) : Prop := match res with
  | .inl w => out.2 = some (w : Int) ∧ w ≤ 1 ∧ out.1.breaker = (broke : Nat)
  | .inr q => out.2 = none ∧ RelR sort broke pu q out.1 ∧ Wf sort pu q
theorem without_wz (l p : List Nat) : (wz l).filter (fun b => !(wz p).contains b) = wz (Kg78.without l p) := by
  rw [wz_filter]
  congr 1
  unfold Kg78.without
  apply List.filter_congr
  intro b hb
  rw [wz_contains]
/-- all potted but the ball k are off -/
theorem back_wz (l p : List Nat) (k : Nat) : ((wz l).filter fun z => !(wz p).contains z || decide (z = (k : Int))) = wz (Kg78.without l (p.filter fun b => b != k)) := by
  rw [wz_filter]
  congr 1
  unfold Kg78.without
  apply List.filter_congr
  intro b hb
  have e : (p.filter fun b => b != k).contains b = (p.contains b && b != k) := by
    rw [Bool.eq_iff_iff, List.contains_iff_mem, List.mem_filter, Bool.and_eq_true, List.contains_iff_mem]
  have e2 : decide ((b : Int) = (k : Int)) = (b == k) := by
    rw [Bool.eq_iff_iff, decide_eq_true_eq, beq_iff_eq]
    omega
  rw [wz_contains, e, e2]
  show (!p.contains b || b == k) = !(p.contains b && !(b == k))
  cases p.contains b <;> cases (b == k) <;> rfl
theorem wz_up {l : List Nat} (h : l.Pairwise (· < ·)) : (wz l).Pairwise (· < ·) := by
  unfold wz Kg78.whole
  rw [List.pairwise_map]
  exact h.imp fun z => by omega
theorem without_up {l p : List Nat} (h : l.Pairwise (· < ·)) : (Kg78.without l p).Pairwise (· < ·) := h.filter _
theorem without_mem {l p : List Nat} {b : Nat} : b ∈ Kg78.without l p ↔ b ∈ l ∧ b ∉ p := by
  unfold Kg78.without
  rw [List.mem_filter]
  simp
/-- the rack with fewer balls, played on -/
theorem Wf.go {p : List Nat} {who phase group fa fb : Nat} {hand pu2 : Bool} (W : Wf sort pu r) (h : lastB sort ∉ p) (h1 : who ≤ 1) (h2 : phase ≤ 3) (h3 : sort = 8 → phase ≠ 1) (h4 : phase = 3 → hand = false) (h5 : phase ≠ 3 → pu2 = false)
    (h6 : sort = 8 → pu2 = false) (h7 : group ≤ 2) (h8 : fa ≤ 2) (h9 : fb ≤ 2) : Wf sort pu2 ⟨Kg78.without r.balls p, who, phase, hand, group, fa, fb⟩ :=
  { up := without_up W.up, rng := fun b hb => W.rng b (without_mem.mp hb).1, last := without_mem.mpr ⟨W.last, h⟩, nine := fun e b hb => W.nine e b (without_mem.mp hb).1,
    who := h1, ph := h2, ph1 := h3, hand := h4, pu3 := h5, pu8 := h6, grp := h7, fa := h8, fb := h9 }
theorem back_table (E : RelR sort broke pu r m) (W : Wf sort pu r) (X : RelS x push y) :
    (m.pot y.potted).comeBack (lastB sort : Nat) = { m with table := wz (Kg78.without r.balls (x.potted.filter fun b => b != lastB sort)) } := by
  rw [X.potted, back_pot (l := wz r.balls) (wz_up W.up) (wz_mem.mpr W.last) m E.table, back_wz]
theorem pot_table (E : RelR sort broke pu r m) (X : RelS x push y) : (m.pot y.potted) = { m with table := wz (Kg78.without r.balls x.potted) } := by
  unfold R.pot
  rw [X.potted, E.table, without_wz]
theorem isEmpty_wz {l : List Nat} : wz l = [] ↔ l.isEmpty = true := by rw [wz_nil, List.isEmpty_iff]
theorem not_self (k : Nat) (p : List Nat) : k ∉ p.filter fun b => b != k := fun h => by
  have := (List.mem_filter.mp h).2
  simp at this
theorem break_ok (E : RelR 8 broke pu r m) (W : Wf 8 pu r) (X : RelS x push y) (hf : x.first = 0 ∨ x.first ∈ r.balls) (p0 : r.phase = 0) : OutOk 8 broke false (r.eight x) (m.eight y) := by
  have ef := foul_eq (Or.inl rfl) E W X hf
  have ew := weak_eq X
  have hpu : pu = false := W.pu8 rfl
  subst hpu
  have em := E.push
  have pm : m.phase = 0 := by rw [E.phase, p0]; rfl
  have eb : (m.pot y.potted).comeBack 8 = _ := back_table E W X
  have n8 : lastB 8 ∉ x.potted.filter fun b => b != 8 := not_self 8 _
  have l8 : lastB 8 = 8 := rfl
  have hw : (1 : Int) - (r.who : Nat) = ((1 - r.who : Nat) : Int) := by have := W.who; omega
  have w1 : 1 - r.who ≤ 1 := by omega
  rw [l8] at eb
  unfold Kg78.Rack.eight R.eight
  dsimp only
  rw [if_pos p0, if_pos pm]
  unfold R.breakShot
  rw [eb, ef, ew, E.turn]
  by_cases f : r.foul 8 x = true
  · rw [if_pos f, if_pos f]
    exact ⟨rfl, ⟨E.game, rfl, hw, rfl, rfl, E.group, E.fa, E.fb, E.breaker, em⟩, W.go n8 w1 (by decide) (fun _ => by decide) (fun z => by cases z) (fun _ => rfl) (fun _ => rfl) W.grp W.fa W.fb⟩
  · rw [if_neg f, if_neg f]
    by_cases w : x.potted.isEmpty = true ∧ x.cushions < Kg78.BREAK
    · rw [if_pos w, if_pos (show (x.potted.isEmpty && decide (x.cushions < Kg78.BREAK)) = true by rw [w.1, decide_eq_true w.2]; rfl)]
      exact ⟨rfl, ⟨E.game, rfl, hw, rfl, rfl, E.group, E.fa, E.fb, E.breaker, rfl⟩, W.go n8 w1 (by decide) (fun _ => by decide) (fun _ => rfl) (fun _ => rfl) (fun _ => rfl) W.grp W.fa W.fb⟩
    · rw [if_neg w, if_neg (show ¬ (x.potted.isEmpty && decide (x.cushions < Kg78.BREAK)) = true by
        intro z
        rw [Bool.and_eq_true, decide_eq_true_eq] at z
        exact w z)]
      by_cases e0 : x.potted.isEmpty = true
      · have e1 : (x.potted.filter fun b => b != 8).isEmpty = true := by
          rw [List.isEmpty_iff] at e0
          rw [e0]
          rfl
        rw [if_pos e1, if_pos e0, X.potted, if_pos (isEmpty_wz.mpr e0)]
        exact ⟨rfl, ⟨E.game, rfl, hw, rfl, rfl, E.group, E.fa, E.fb, E.breaker, em⟩, W.go n8 w1 (by decide) (fun _ => by decide) (fun z => by cases z) (fun _ => rfl) (fun _ => rfl) W.grp W.fa W.fb⟩
      · rw [if_neg e0, ite_self, X.potted, if_neg (fun z => e0 (isEmpty_wz.mp z))]
        exact ⟨rfl, ⟨E.game, rfl, rfl, rfl, rfl, E.group, E.fa, E.fb, E.breaker, em⟩, W.go n8 W.who (by decide) (fun _ => by decide) (fun z => by cases z) (fun _ => rfl) (fun _ => rfl) W.grp W.fa W.fb⟩
theorem right_eight (E : RelR 8 broke pu r m) (W : Wf 8 pu r) (p0 : ¬ r.phase = 0) : (m.right = [8]) ↔ r.onEight = true := by
  rw [right_may (Or.inl rfl) E W]
  have h8 : (8 : Nat) ∈ r.balls := W.last
  have nz : ∀ b ∈ r.balls, b ≠ 0 := fun b hb => by have := W.rng b hb; omega
  constructor
  · intro z
    by_cases o : r.onEight = true
    · exact o
    · have z2 : r.may 8 = [8] := wz_inj (l := r.may 8) (m := [8]) z
      have z3 : (8 : Nat) ∈ r.may 8 := by rw [z2]; exact List.mem_cons_self
      have z4 := (List.mem_filter.mp z3).2
      unfold Kg78.Rack.right at z4
      rw [if_neg (by decide), if_neg (by decide), if_neg p0, if_neg o] at z4
      by_cases g0 : r.group = 0
      · rw [if_pos g0] at z4
        cases z4
      · rw [if_neg g0] at z4
        have m0 : ¬ r.mine = 0 := fun z => g0 ((mine_zero W.grp).mp z)
        have : Kg78.groupOf 8 = r.mine := by simpa using z4
        exact absurd this.symm m0
  · intro o
    have e1 : (r.balls.filter fun b => r.right 8 b) = [8] := by
      rw [← only_in W.up h8]
      apply List.filter_congr
      intro b hb
      unfold Kg78.Rack.right
      rw [if_neg (nz b hb), if_neg (by decide), if_neg p0, if_pos o]
    unfold Kg78.Rack.may
    rw [e1]
    rfl
theorem play_ok (E : RelR 8 broke pu r m) (W : Wf 8 pu r) (X : RelS x push y) (hf : x.first = 0 ∨ x.first ∈ r.balls) (hp : ∀ b ∈ x.potted, b ∈ r.balls) (h3 : r.phase ≠ 3) (p0 : ¬ r.phase = 0) : OutOk 8 broke false (r.eight x) (m.eight y) := by
  have ef := foul_eq (Or.inl rfl) E W X hf
  have hpu : pu = false := W.pu8 rfl
  subst hpu
  have em := E.push
  have ph2 : r.phase = 2 := by
    have a1 := W.ph
    have a2 := W.ph1 rfl
    omega
  have pm : ¬ m.phase = 0 := by rw [E.phase]; omega
  have pm2 : m.phase = (2 : Nat) := by rw [E.phase, ph2]
  have hw : (1 : Int) - (r.who : Nat) = ((1 - r.who : Nat) : Int) := by have := W.who; omega
  have hw2 : (1 : Int) - m.turn = ((1 - r.who : Nat) : Int) := by rw [E.turn]; exact hw
  have w1 : 1 - r.who ≤ 1 := by omega
  have c8 : y.potted.contains 8 = x.potted.contains 8 := by
    rw [X.potted]
    exact wz_contains x.potted 8
  unfold Kg78.Rack.eight R.eight
  dsimp only
  rw [if_neg p0, if_neg pm]
  unfold R.playShot
  rw [c8, ef]
  by_cases k8 : x.potted.contains 8 = true
  · rw [if_pos k8, if_pos k8]
    unfold R.winner8
    rw [X.call, E.turn]
    have er := right_eight E W p0
    by_cases c : r.foul 8 x = false ∧ r.onEight = true ∧ x.call = 8
    · rw [if_pos c, if_pos (show r.foul 8 x = false ∧ m.right = [8] ∧ (x.call : Int) = 8 from ⟨c.1, er.mpr c.2.1, by omega⟩)]
      exact ⟨rfl, W.who, E.breaker⟩
    · rw [if_neg c, if_neg (show ¬ (r.foul 8 x = false ∧ m.right = [8] ∧ (x.call : Int) = 8) from fun z => c ⟨z.1, er.mp z.2.1, by omega⟩)]
      exact ⟨congrArg some hw, w1, E.breaker⟩
  · rw [if_neg k8, if_neg k8]
    have n8 : lastB 8 ∉ x.potted := fun z => k8 (List.contains_iff_mem.mpr z)
    rw [pot_table E X]
    by_cases f : r.foul 8 x = true
    · rw [if_pos f, if_pos f]
      exact ⟨rfl, ⟨E.game, rfl, hw2, pm2, rfl, E.group, E.fa, E.fb, E.breaker, em⟩, W.go n8 w1 (by decide) (fun _ => by decide) (fun z => by cases z) (fun _ => rfl) (fun _ => rfl) W.grp W.fa W.fb⟩
    · rw [if_neg f, if_neg f]
      have cg : y.potted.contains y.called = x.potted.contains x.call := by rw [X.potted, X.call, wz_contains]
      have cz : x.potted.contains x.call = true → x.call ≠ 0 := fun z e => by
        have h := hp _ (List.contains_iff_mem.mp z)
        have := W.rng _ h
        omega
      have good : (x.call != 0 && x.potted.contains x.call) = x.potted.contains x.call := by
        cases h : x.potted.contains x.call with
        | false => simp
        | true => simp [cz h]
      have eg := mine_eq E.group E.turn W.grp
      have gl := group_le x.call
      rw [good]
      unfold R.goOn R.took
      dsimp only
      rw [cg, X.call, group_cast]
      by_cases c : x.potted.contains x.call = true
      · have g8 : Kg78.groupOf x.call ≠ 0 := fun z => by
          have e8 := group_eight.mp z
          rw [e8] at c
          exact k8 c
        by_cases g0 : r.group = 0
        · have gm : m.group = 0 := by rw [E.group, g0]; rfl
          rw [if_pos (show x.potted.contains x.call = true ∧ m.group = 0 from ⟨c, gm⟩), if_pos (show r.group = 0 ∧ x.potted.contains x.call = true from ⟨g0, c⟩), if_pos (show x.potted.contains x.call = true ∧ (r.group = 0 ∨ Kg78.groupOf x.call = r.mine) from ⟨c, Or.inl g0⟩)]
          have eG : (if m.turn = 0 then ((Kg78.groupOf x.call : Nat) : Int) else 3 - ((Kg78.groupOf x.call : Nat) : Int)) = ((if r.who = 0 then Kg78.groupOf x.call else 3 - Kg78.groupOf x.call : Nat) : Int) := by
            rw [E.turn]
            by_cases w0 : r.who = 0
            · rw [if_pos (show ((r.who : Nat) : Int) = 0 by omega), if_pos w0]
            · rw [if_neg (show ¬ ((r.who : Nat) : Int) = 0 by omega), if_neg w0]
              omega
          have gf : ((Kg78.groupOf x.call : Nat) : Int) = R.groupFor { m with table := wz (Kg78.without r.balls x.potted), group := if m.turn = 0 then ((Kg78.groupOf x.call : Nat) : Int) else 3 - ((Kg78.groupOf x.call : Nat) : Int) } m.turn := by
            unfold R.groupFor
            dsimp only
            by_cases w0 : m.turn = 0
            · rw [if_pos w0, if_pos (Or.inr w0)]
            · rw [if_neg w0, if_neg (by omega)]
              omega
          unfold R.takeGroup
          dsimp only
          rw [if_pos (And.intro c gf)]
          refine ⟨rfl, ⟨E.game, rfl, E.turn, pm2, rfl, eG, E.fa, E.fb, E.breaker, em⟩, W.go n8 W.who (by decide) (fun _ => by decide) (fun _ => rfl) (fun _ => rfl) (fun _ => rfl) ?_ W.fa W.fb⟩
          split <;> omega
        · have gm : ¬ m.group = 0 := by rw [E.group]; omega
          rw [if_neg (show ¬ (x.potted.contains x.call = true ∧ m.group = 0) from fun z => gm z.2), if_neg (show ¬ (r.group = 0 ∧ x.potted.contains x.call = true) from fun z => g0 z.1)]
          have egf : R.groupFor { m with table := wz (Kg78.without r.balls x.potted) } m.turn = (r.mine : Nat) := eg
          rw [egf]
          by_cases q : Kg78.groupOf x.call = r.mine
          · rw [if_pos (show x.potted.contains x.call = true ∧ (r.group = 0 ∨ Kg78.groupOf x.call = r.mine) from ⟨c, Or.inr q⟩), if_pos (show x.potted.contains x.call = true ∧ ((Kg78.groupOf x.call : Nat) : Int) = (r.mine : Nat) from ⟨c, by omega⟩)]
            exact ⟨rfl, ⟨E.game, rfl, E.turn, pm2, rfl, E.group, E.fa, E.fb, E.breaker, em⟩, W.go n8 W.who (by decide) (fun _ => by decide) (fun _ => rfl) (fun _ => rfl) (fun _ => rfl) W.grp W.fa W.fb⟩
          · rw [if_neg (show ¬ (x.potted.contains x.call = true ∧ (r.group = 0 ∨ Kg78.groupOf x.call = r.mine)) from fun z => z.2.elim g0 q), if_neg (show ¬ (x.potted.contains x.call = true ∧ ((Kg78.groupOf x.call : Nat) : Int) = (r.mine : Nat)) from fun z => q (by omega))]
            exact ⟨rfl, ⟨E.game, rfl, hw2, pm2, rfl, E.group, E.fa, E.fb, E.breaker, em⟩, W.go n8 w1 (by decide) (fun _ => by decide) (fun z => by cases z) (fun _ => rfl) (fun _ => rfl) W.grp W.fa W.fb⟩
      · rw [if_neg (show ¬ (x.potted.contains x.call = true ∧ m.group = 0) from fun z => c z.1), if_neg (show ¬ (r.group = 0 ∧ x.potted.contains x.call = true) from fun z => c z.2), if_neg (show ¬ (x.potted.contains x.call = true ∧ (r.group = 0 ∨ Kg78.groupOf x.call = r.mine)) from fun z => c z.1), if_neg (fun z => c z.1)]
        exact ⟨rfl, ⟨E.game, rfl, hw2, pm2, rfl, E.group, E.fa, E.fb, E.breaker, em⟩, W.go n8 w1 (by decide) (fun _ => by decide) (fun z => by cases z) (fun _ => rfl) (fun _ => rfl) W.grp W.fa W.fb⟩
theorem eight_ok (E : RelR 8 broke pu r m) (W : Wf 8 pu r) (X : RelS x push y) (hf : x.first = 0 ∨ x.first ∈ r.balls) (hp : ∀ b ∈ x.potted, b ∈ r.balls) (h3 : r.phase ≠ 3) : OutOk 8 broke false (r.eight x) (m.eight y) := by
  by_cases p0 : r.phase = 0
  · exact break_ok E W X hf p0
  · exact play_ok E W X hf hp h3 p0
end Pr
namespace Pr
variable {sort broke : Nat} {pu : Bool} {r : Kg78.Rack} {m : R} {x : Kg78.Shot} {push : Bool} {y : S}
theorem fouls_eq (E : RelR sort broke pu r m) : m.fouls m.turn = (r.fouls r.who : Nat) := by
  unfold R.fouls Kg78.Rack.fouls
  rw [E.turn]
  by_cases w : r.who = 0
  · rw [if_pos (show ((r.who : Nat) : Int) = 0 by omega), if_pos w, E.fa]
  · rw [if_neg (show ¬ ((r.who : Nat) : Int) = 0 by omega), if_neg w, E.fb]
theorem fouls_le (W : Wf sort pu r) : r.fouls r.who ≤ 2 := by
  unfold Kg78.Rack.fouls
  have := W.fa
  have := W.fb
  split <;> omega
theorem filter_keep {p : List Nat} {k : Nat} {back : Bool} (h : p.contains k = true → back = true) : (p.filter fun b => !(back && b == k)) = p.filter fun b => b != k := by
  apply List.filter_congr
  intro b hb
  cases back with
  | true => rfl
  | false =>
    have hk : ¬ k ∈ p := fun z => by
      have := h (List.contains_iff_mem.mpr z)
      cases this
    have : b ≠ k := fun e => hk (e ▸ hb)
    simp [this]
theorem filter_all {p : List Nat} {k : Nat} (h : p.contains k = false) : (p.filter fun b => b != k) = p := by
  rw [List.filter_eq_self]
  intro b hb
  have : b ≠ k := fun e => by
    subst e
    rw [List.contains_iff_mem.mpr hb] at h
    cases h
  simpa using this
theorem setF_breaker (m : R) (s v : Int) : (m.setF s v).breaker = m.breaker := by
  unfold R.setF
  split <;> rfl
theorem nine_ok (E : RelR 9 broke pu r m) (W : Wf 9 pu r) (X : RelS x push y) (hf : x.first = 0 ∨ x.first ∈ r.balls) (h3 : r.phase ≠ 3) (hpp : push = true → r.phase = 1) :
    OutOk 9 broke (push && (match r.nine x push with | .inl _ => false | .inr q => q.phase == 3)) (r.nine x push) (m.nine y) ∧
    m.foul9 y = (if push = true then x.lost else r.foul 9 x || (r.phase == 0 && (x.potted.isEmpty && decide (x.cushions < Kg78.BREAK)))) := by
  have ef := foul_eq (Or.inr rfl) E W X hf
  have ew := weak_eq X
  have hpu : pu = false := W.pu3 h3
  subst hpu
  have em := E.push
  have hw : (1 : Int) - (r.who : Nat) = ((1 - r.who : Nat) : Int) := by have := W.who; omega
  have hw2 : (1 : Int) - m.turn = ((1 - r.who : Nat) : Int) := by rw [E.turn]; exact hw
  have w1 : 1 - r.who ≤ 1 := by omega
  have pz : decide (m.phase = 0) = (r.phase == 0) := by
    rw [Bool.eq_iff_iff, decide_eq_true_eq, beq_iff_eq, E.phase]
    omega
  have c9 : y.potted.contains 9 = x.potted.contains 9 := by
    rw [X.potted]
    exact wz_contains x.potted 9
  have eF : m.foul9 y = (if push = true then x.lost else r.foul 9 x || (r.phase == 0 && (x.potted.isEmpty && decide (x.cushions < Kg78.BREAK)))) := by
    unfold R.foul9
    rw [X.push, X.lost, ef, ew, pz]
  refine ⟨?_, eF⟩
  have n9 : ∀ p : List Nat, lastB 9 ∉ p.filter fun b => b != 9 := fun p => not_self 9 p
  have eb : (m.pot y.potted).comeBack 9 = _ := back_table E W X
  rw [show lastB 9 = 9 from rfl] at eb
  obtain ⟨pn, ebh, pn1, pn2⟩ : ∃ pn : Nat, m.behind = (pn : Nat) ∧ (r.phase = 0 → pn = 1) ∧ (r.phase ≠ 0 → pn = 2) := by
    unfold R.behind
    by_cases p0 : r.phase = 0
    · exact ⟨1, by rw [if_pos (show m.phase = 0 by rw [E.phase, p0]; rfl)]; rfl, fun _ => rfl, fun z => absurd p0 z⟩
    · exact ⟨2, by rw [if_neg (show ¬ m.phase = 0 by rw [E.phase]; omega)]; rfl, fun z => absurd z p0, fun _ => rfl⟩
  have pnl : pn ≤ 2 := by omega
  have epn : (if r.phase = 0 then 1 else 2) = pn := by
    by_cases p0 : r.phase = 0
    · rw [if_pos p0, pn1 p0]
    · rw [if_neg p0, pn2 p0]
  unfold Kg78.Rack.nine R.nine
  dsimp only
  rw [eF, ebh]
  obtain ⟨f, hfd⟩ : ∃ f, f = (if push = true then x.lost else r.foul 9 x || (r.phase == 0 && (x.potted.isEmpty && decide (x.cushions < Kg78.BREAK)))) := ⟨_, rfl⟩
  rw [← hfd]
  have fe := fouls_eq E
  have fl := fouls_le W
  by_cases k : x.potted.contains 9 = true ∧ (f || push) = false
  · obtain ⟨k1, k2⟩ := k
    rw [if_pos (show x.potted.contains 9 = true ∧ (f || push) = false from ⟨k1, k2⟩)]
    rw [Bool.or_eq_false_iff] at k2
    obtain ⟨f0, q0⟩ := k2
    rw [if_neg (show ¬ f = true by rw [f0]; decide), X.push, if_neg (show ¬ push = true by rw [q0]; decide)]
    unfold R.good
    rw [c9, if_pos k1]
    refine ⟨congrArg some E.turn, W.who, ?_⟩
    exact (setF_breaker _ _ _).trans E.breaker
  · rw [if_neg k]
    have kb : x.potted.contains 9 = true → (f || push) = true := fun z => by
      cases h : f || push with
      | true => rfl
      | false => exact absurd ⟨z, h⟩ k
    rw [filter_keep kb]
    -- the table behind come_back
    have back : ((m.pot y.potted).withPhase (pn : Int)).comeBack 9 = { m with table := wz (Kg78.without r.balls (x.potted.filter fun b => b != 9)), phase := (pn : Int) } := by
      have e2 : ((m.pot y.potted).withPhase (pn : Int)).comeBack 9 = ((m.pot y.potted).comeBack 9).withPhase (pn : Int) := by
        unfold R.comeBack R.withPhase
        dsimp only
        split <;> rfl
      rw [e2, eb]
      rfl
    by_cases ft : f = true
    · rw [if_pos ft, if_pos ft]
      unfold R.fouled R.foulWin
      rw [back]
      have fe2 : R.fouls ((m.pot y.potted).withPhase (pn : Int)) m.turn = (r.fouls r.who : Nat) := by
        rw [← fe]
        rfl
      have tn : (R.turn ((m.pot y.potted).withPhase (pn : Int))) = m.turn := rfl
      rw [tn, fe2]
      by_cases two : 2 ≤ r.fouls r.who
      · rw [if_pos two, if_pos (show ((r.fouls r.who : Nat) : Int) + 1 = 3 by omega)]
        refine ⟨congrArg some hw2, w1, ?_⟩
        exact (setF_breaker _ _ _).trans E.breaker
      · rw [if_neg two, if_neg (show ¬ ((r.fouls r.who : Nat) : Int) + 1 = 3 by omega)]
        have hh : (push && (if r.phase = 0 then { Kg78.Rack.passes (Kg78.Rack.setFouls { r with balls := Kg78.without r.balls (x.potted.filter fun b => b != 9) } r.who (r.fouls r.who + 1)) true with phase := 1 } else Kg78.Rack.passes (Kg78.Rack.setFouls { r with balls := Kg78.without r.balls (x.potted.filter fun b => b != 9) } r.who (r.fouls r.who + 1)) true).phase == 3) = false := by
          split
          · exact Bool.and_false _
          · exact Bool.and_false _
        dsimp only
        rw [hh]
        unfold R.setF Kg78.Rack.setFouls Kg78.Rack.passes R.playBy
        rw [E.turn, hw]
        by_cases w0 : r.who = 0
        · have w0' : ((r.who : Nat) : Int) = 0 := by omega
          have fA : r.fouls r.who = r.foulsA := by unfold Kg78.Rack.fouls; rw [if_pos w0]
          rw [if_pos w0', if_pos w0]
          rw [fA] at two ⊢
          by_cases p0 : r.phase = 0
          · rw [if_pos p0, pn1 p0]
            exact ⟨rfl, ⟨E.game, rfl, rfl, rfl, rfl, E.group, by rfl, E.fb, E.breaker, em⟩, W.go (n9 _) w1 (by decide) (fun z => by cases z) (fun z => by cases z) (fun _ => rfl) (fun _ => rfl) W.grp (show r.foulsA + 1 ≤ 2 by omega) W.fb⟩
          · rw [if_neg p0, pn2 p0]
            exact ⟨rfl, ⟨E.game, rfl, rfl, rfl, rfl, E.group, by rfl, E.fb, E.breaker, em⟩, W.go (n9 _) w1 (by decide) (fun z => by cases z) (fun z => by cases z) (fun _ => rfl) (fun _ => rfl) W.grp (show r.foulsA + 1 ≤ 2 by omega) W.fb⟩
        · have w0' : ¬ ((r.who : Nat) : Int) = 0 := by omega
          have fB : r.fouls r.who = r.foulsB := by unfold Kg78.Rack.fouls; rw [if_neg w0]
          rw [if_neg w0', if_neg w0]
          rw [fB] at two ⊢
          by_cases p0 : r.phase = 0
          · rw [if_pos p0, pn1 p0]
            exact ⟨rfl, ⟨E.game, rfl, rfl, rfl, rfl, E.group, E.fa, by rfl, E.breaker, em⟩, W.go (n9 _) w1 (by decide) (fun z => by cases z) (fun z => by cases z) (fun _ => rfl) (fun _ => rfl) W.grp W.fa (show r.foulsB + 1 ≤ 2 by omega)⟩
          · rw [if_neg p0, pn2 p0]
            exact ⟨rfl, ⟨E.game, rfl, rfl, rfl, rfl, E.group, E.fa, by rfl, E.breaker, em⟩, W.go (n9 _) w1 (by decide) (fun z => by cases z) (fun z => by cases z) (fun _ => rfl) (fun _ => rfl) W.grp W.fa (show r.foulsB + 1 ≤ 2 by omega)⟩
    · rw [if_neg ft, if_neg ft, X.push]
      by_cases q : push = true
      · subst q
        rw [if_pos rfl, if_pos rfl]
        unfold R.pushed
        rw [back]
        have tn : (R.turn ((m.pot y.potted).withPhase (pn : Int))) = m.turn := rfl
        rw [tn]
        exact ⟨rfl, ⟨E.game, rfl, hw2, rfl, rfl, E.group, E.fa, E.fb, E.breaker, rfl⟩, W.go (n9 _) w1 (by decide) (fun z => by cases z) (fun _ => rfl) (fun z => absurd rfl z) (fun z => by cases z) W.grp W.fa W.fb⟩
      · have q' : push = false := by simpa using q
        subst q'
        rw [if_neg q, if_neg q]
        have c0 : x.potted.contains 9 = false := by
          cases h : x.potted.contains 9 with
          | false => rfl
          | true =>
            have := kb h
            rw [Bool.or_false] at this
            exact absurd this ft
        rw [filter_all c0]
        have n9' : lastB 9 ∉ x.potted := fun z => by
          have z2 : (9 : Nat) ∈ x.potted := z
          rw [List.contains_iff_mem.mpr z2] at c0
          cases c0
        unfold R.good
        rw [c9, if_neg (show ¬ x.potted.contains 9 = true by rw [c0]; decide), pot_table E X]
        show OutOk 9 broke false _ (((R.setF { m with table := wz (Kg78.without r.balls x.potted), phase := (pn : Int) } m.turn 0).playBy (if y.potted = [] then 1 - m.turn else m.turn) false), none)
        rw [E.turn, hw, epn]
        unfold Kg78.Rack.setFouls Kg78.Rack.passes R.setF R.playBy
        by_cases w0 : r.who = 0
        · have w0' : ((r.who : Nat) : Int) = 0 := by omega
          rw [if_pos w0', if_pos w0]
          dsimp only
          by_cases e0 : x.potted.isEmpty = true
          · rw [if_pos e0, X.potted, if_pos (isEmpty_wz.mpr e0)]
            refine ⟨rfl, ⟨E.game, rfl, rfl, rfl, rfl, E.group, rfl, E.fb, E.breaker, em⟩, W.go n9' w1 (by omega) (fun z => by cases z) (fun z => by omega) (fun _ => rfl) (fun _ => rfl) W.grp (by omega) W.fb⟩
          · rw [if_neg e0, X.potted, if_neg (fun z => e0 (isEmpty_wz.mp z))]
            refine ⟨rfl, ⟨E.game, rfl, rfl, rfl, rfl, E.group, rfl, E.fb, E.breaker, em⟩, W.go n9' W.who (by omega) (fun z => by cases z) (fun _ => rfl) (fun _ => rfl) (fun _ => rfl) W.grp (by omega) W.fb⟩
        · have w0' : ¬ ((r.who : Nat) : Int) = 0 := by omega
          rw [if_neg w0', if_neg w0]
          dsimp only
          by_cases e0 : x.potted.isEmpty = true
          · rw [if_pos e0, X.potted, if_pos (isEmpty_wz.mpr e0)]
            refine ⟨rfl, ⟨E.game, rfl, rfl, rfl, rfl, E.group, E.fa, rfl, E.breaker, em⟩, W.go n9' w1 (by omega) (fun z => by cases z) (fun z => by omega) (fun _ => rfl) (fun _ => rfl) W.grp W.fa (by omega)⟩
          · rw [if_neg e0, X.potted, if_neg (fun z => e0 (isEmpty_wz.mp z))]
            refine ⟨rfl, ⟨E.game, rfl, rfl, rfl, rfl, E.group, E.fa, rfl, E.breaker, em⟩, W.go n9' W.who (by omega) (fun z => by cases z) (fun _ => rfl) (fun _ => rfl) (fun _ => rfl) W.grp W.fa (by omega)⟩
end Pr
namespace Pr
/-! the calls -/
theorem full8_up : (Kg78.full 8).Pairwise (· < ·) := by decide
theorem full9_up : (Kg78.full 9).Pairwise (· < ·) := by decide
theorem full8_rng : ∀ b ∈ Kg78.full 8, 1 ≤ b ∧ b ≤ 15 := by decide
theorem full9_rng : ∀ b ∈ Kg78.full 9, 1 ≤ b ∧ b ≤ 15 := by decide
theorem full8_last : lastB 8 ∈ Kg78.full 8 := by decide
theorem full9_last : lastB 9 ∈ Kg78.full 9 := by decide
theorem full9_nine : ∀ b ∈ Kg78.full 9, b ≤ 9 := by decide
theorem fresh_ok {sort who : Nat} (hs : sort = 8 ∨ sort = 9) (hw : who ≤ 1) : RelR sort who false (Kg78.fresh sort who) (R.new (sort : Nat) (who : Nat)) ∧ Wf sort false (Kg78.fresh sort who) := by
  rcases hs with rfl | rfl
  · exact ⟨⟨rfl, rfl, rfl, rfl, rfl, rfl, rfl, rfl, rfl, rfl⟩, { up := full8_up, rng := full8_rng, last := full8_last, nine := fun z => (nomatch z), who := hw, ph := Nat.zero_le _, ph1 := fun _ z => (nomatch z), hand := fun z => (nomatch z), pu3 := fun _ => rfl, pu8 := fun _ => rfl, grp := Nat.zero_le _, fa := Nat.zero_le _, fb := Nat.zero_le _ }⟩
  · exact ⟨⟨rfl, rfl, rfl, rfl, rfl, rfl, rfl, rfl, rfl, rfl⟩, { up := full9_up, rng := full9_rng, last := full9_last, nine := fun _ => full9_nine, who := hw, ph := Nat.zero_le _, ph1 := fun z => (nomatch z), hand := fun z => (nomatch z), pu3 := fun _ => rfl, pu8 := fun _ => rfl, grp := Nat.zero_le _, fa := Nat.zero_le _, fb := Nat.zero_le _ }⟩
theorem over_iff {g : G} {a b t : Nat} (h1 : g.wa = (a : Int)) (h2 : g.wb = (b : Int)) (h3 : g.racks = (t : Int)) : g.over = decide ((if b > a then b else a) = t) := by
  unfold G.over
  rw [h1, h2, h3, Bool.eq_iff_iff, decide_eq_true_eq, decide_eq_true_eq]
  by_cases c : b > a
  · rw [if_pos c, if_pos (show (b : Int) > (a : Int) by omega)]
    omega
  · rw [if_neg c, if_neg (show ¬ (b : Int) > (a : Int) by omega)]
    omega
theorem not_over {s : Kg78.State} {g : G} {r : Kg78.Rack} (h : RelG s g) (e : s.rack = some r) : g.over = false ∧ s.a < s.to ∧ s.b < s.to ∧ RelR s.sort s.broke s.push r g.rack ∧ Wf s.sort s.push r := by
  have hr := h.rack
  rw [e] at hr
  obtain ⟨a, b, c, d⟩ := hr
  refine ⟨?_, a, b, c, d⟩
  rw [over_iff h.a h.b h.to]
  apply decide_eq_false
  split <;> omega
theorem is_over {s : Kg78.State} {g : G} (h : RelG s g) (e : s.rack = none) : g.over = true := by
  have hr := h.rack
  rw [e] at hr
  exact hr
theorem told_ok {s : Kg78.State} {g : G} (h : RelG s g) : Kg78.told s = g.stands := by
  unfold Kg78.told G.stands
  cases e : s.rack with
  | none =>
    rw [is_over h e, h.a, h.b] <;> rfl
  | some r =>
    obtain ⟨ho, _, _, E, W⟩ := not_over h e
    rw [ho, if_neg (by decide), h.a, h.b, E.turn, E.phase, E.hand, E.table, wz_len]
    show Kg78.whole [s.a, s.b] ++ Kg78.whole [r.who, r.phase, Kg78.truth r.hand, r.balls.length] = _
    cases r.hand <;> rfl
theorem state_rack {s : Kg78.State} {g : G} {q r : Kg78.Rack} {m : R} {broke : Nat} {pu : Bool} (h : RelG s g) (e : s.rack = some r) (hb : broke ≤ 1) (E : RelR s.sort broke pu q m) (W : Wf s.sort pu q) : RelG { s with rack := some q, push := pu, broke := broke } (g.withRack m) := by
  obtain ⟨_, ha, hb2, _, _⟩ := not_over h e
  exact { sort := h.sort, game := h.game, to := h.to, pos := h.pos, turns := h.turns, a := h.a, b := h.b, broke := hb, rack := ⟨ha, hb2, E, W⟩ }
theorem wins_ok {s : Kg78.State} {g : G} {r : Kg78.Rack} {w : Nat} {m : R} (h : RelG s g) (e : s.rack = some r) (hw : w ≤ 1) (hb : m.breaker = (s.broke : Nat)) : RelG (s.wins w) ((g.withRack m).rackWon (w : Nat)) := by
  obtain ⟨_, ha, hb2, _, _⟩ := not_over h e
  have hbr := h.broke
  unfold Kg78.State.wins G.rackWon
  dsimp only
  have nb : ∀ x : Nat, x ≤ 1 → (1 : Int) - (x : Nat) = ((1 - x : Nat) : Int) := fun x hx => by omega
  by_cases w0 : w = 0
  · subst w0
    rw [if_pos rfl]
    have e1 : (g.withRack m).addWon ((0 : Nat) : Int) = { g.withRack m with wa := g.wa + 1 } := if_pos rfl
    rw [e1]
    have ov : G.over { g.withRack m with wa := g.wa + 1 } = decide ((if s.b > s.a + 1 then s.b else s.a + 1) = s.to) := over_iff (g := { g.withRack m with wa := g.wa + 1 }) (a := s.a + 1) (b := s.b) (t := s.to) (by show g.wa + 1 = _; rw [h.a]; omega) h.b h.to
    have sc : Kg78.State.score { s with a := s.a + 1 } 0 = s.a + 1 := rfl
    rw [sc]
    by_cases t : s.to ≤ s.a + 1
    · have ov1 : G.over { g.withRack m with wa := g.wa + 1 } = true := by
        rw [ov]
        apply decide_eq_true
        split <;> omega
      rw [if_pos t, if_pos ov1]
      exact { sort := h.sort, game := h.game, to := h.to, pos := h.pos, turns := h.turns, a := by show g.wa + 1 = ((s.a + 1 : Nat) : Int); rw [h.a]; omega, b := h.b, broke := hbr, rack := ov1 }
    · have ov1 : ¬ G.over { g.withRack m with wa := g.wa + 1 } = true := by
        rw [ov, decide_eq_true_eq]
        split <;> omega
      rw [if_neg t, if_neg ov1]
      have en : (if (g.withRack m).turns = true then 1 - (g.withRack m).rack.breaker else ((0 : Nat) : Int)) = ((if s.turns = true then 1 - s.broke else 0 : Nat) : Int) := by
        show (if g.turns = true then 1 - m.breaker else ((0 : Nat) : Int)) = _
        rw [h.turns, hb, nb _ hbr]
        split <;> rfl
      rw [en]
      have hn : (if s.turns = true then 1 - s.broke else 0) ≤ 1 := by split <;> omega
      have gm : (g.withRack m).game = (s.sort : Nat) := h.game
      rw [gm]
      have F := fresh_ok h.sort hn
      exact { sort := h.sort, game := rfl, to := h.to, pos := h.pos, turns := h.turns, a := by show g.wa + 1 = ((s.a + 1 : Nat) : Int); rw [h.a]; omega, b := h.b, broke := hn, rack := ⟨by show s.a + 1 < s.to; omega, hb2, F.1, F.2⟩ }
  · have w1 : w = 1 := by omega
    subst w1
    rw [if_neg w0]
    have e1 : (g.withRack m).addWon ((1 : Nat) : Int) = { g.withRack m with wb := g.wb + 1 } := if_neg (by decide)
    rw [e1]
    have ov : G.over { g.withRack m with wb := g.wb + 1 } = decide ((if s.b + 1 > s.a then s.b + 1 else s.a) = s.to) := over_iff (g := { g.withRack m with wb := g.wb + 1 }) (a := s.a) (b := s.b + 1) (t := s.to) h.a (by show g.wb + 1 = _; rw [h.b]; omega) h.to
    have sc : Kg78.State.score { s with b := s.b + 1 } 1 = s.b + 1 := rfl
    rw [sc]
    by_cases t : s.to ≤ s.b + 1
    · have ov1 : G.over { g.withRack m with wb := g.wb + 1 } = true := by
        rw [ov]
        apply decide_eq_true
        split <;> omega
      rw [if_pos t, if_pos ov1]
      exact { sort := h.sort, game := h.game, to := h.to, pos := h.pos, turns := h.turns, a := h.a, b := by show g.wb + 1 = ((s.b + 1 : Nat) : Int); rw [h.b]; omega, broke := hbr, rack := ov1 }
    · have ov1 : ¬ G.over { g.withRack m with wb := g.wb + 1 } = true := by
        rw [ov, decide_eq_true_eq]
        split <;> omega
      rw [if_neg t, if_neg ov1]
      have en : (if (g.withRack m).turns = true then 1 - (g.withRack m).rack.breaker else ((1 : Nat) : Int)) = ((if s.turns = true then 1 - s.broke else 1 : Nat) : Int) := by
        show (if g.turns = true then 1 - m.breaker else ((1 : Nat) : Int)) = _
        rw [h.turns, hb, nb _ hbr]
        split <;> rfl
      rw [en]
      have hn : (if s.turns = true then 1 - s.broke else 1) ≤ 1 := by split <;> omega
      have gm : (g.withRack m).game = (s.sort : Nat) := h.game
      rw [gm]
      have F := fresh_ok h.sort hn
      exact { sort := h.sort, game := rfl, to := h.to, pos := h.pos, turns := h.turns, a := h.a, b := by show g.wb + 1 = ((s.b + 1 : Nat) : Int); rw [h.b]; omega, broke := hn, rack := ⟨ha, by show s.b + 1 < s.to; omega, F.1, F.2⟩ }
theorem begin_ok {s : Kg78.State} {d : Option G} (h : Rel s d) (k n t w : Int) : Rel (Kg78Neutral.step s [[1, k, n, t, w]]).1 (stepM d [[1, k, n, t, w]]).1 ∧ (Kg78Neutral.step s [[1, k, n, t, w]]).2 = (stepM d [[1, k, n, t, w]]).2 := by
  have e1 : Kg78Neutral.step s [[1, k, n, t, w]] = ((Kg78.spec s (.begin_ k n t w)).1, (Kg78.spec s (.begin_ k n t w)).2.value :: (Kg78.spec s (.begin_ k n t w)).2.out) := rfl
  have e2 : stepM d [[1, k, n, t, w]] = if beginRef k n t w = true then (d, [-1]) else (some (G.begin0 k n t w), [0]) := rfl
  rw [e1, e2]
  have er : beginRef k n t w = !(Kg78.within k 8 9 && (Kg78.within n 1 30 && (Kg78.within t 0 1 && Kg78.within w 0 1))) := by
    unfold beginRef bits Kg78.within
    congr 1
    rw [Bool.eq_iff_iff]
    simp only [Bool.and_eq_true, Bool.or_eq_true, decide_eq_true_eq, List.all_cons, List.all_nil, Bool.and_true]
    omega
  show Rel (if _ then _ else _ : Kg78.State × Kg78.Ans).1 _ ∧ (if _ then _ else _ : Kg78.State × Kg78.Ans).2.value :: (if _ then _ else _ : Kg78.State × Kg78.Ans).2.out = _
  rw [er]
  cases c : (Kg78.within k 8 9 && (Kg78.within n 1 30 && (Kg78.within t 0 1 && Kg78.within w 0 1))) with
  | false =>
    rw [if_pos rfl, if_pos (show (!false) = true from rfl)]
    exact ⟨h, rfl⟩
  | true =>
    rw [if_neg (by decide), if_neg (by decide)]
    refine ⟨?_, rfl⟩
    unfold Kg78.within at c
    simp only [Bool.and_eq_true, decide_eq_true_eq] at c
    obtain ⟨⟨k1, k2⟩, ⟨n1, n2⟩, ⟨t1, t2⟩, ⟨w1, w2⟩⟩ := c
    have hs : k.toNat = 8 ∨ k.toNat = 9 := by omega
    have hw : w.toNat ≤ 1 := by omega
    have F := fresh_ok hs hw
    have ek : ((k.toNat : Nat) : Int) = k := by omega
    have ew : ((w.toNat : Nat) : Int) = w := by omega
    rw [ek, ew] at F
    exact { sort := hs, game := ek.symm, to := by show n = ((n.toNat : Nat) : Int); omega, pos := by show 1 ≤ n.toNat; omega, turns := by show decide (t = 1) = (t == 1); rw [Bool.eq_iff_iff]; simp, a := rfl, b := rfl, broke := hw, rack := ⟨by show 0 < n.toNat; omega, by show 0 < n.toNat; omega, F.1, F.2⟩ }
end Pr
namespace Pr
theorem toNat_id {z : Int} (h : 0 ≤ z) : ((z.toNat : Nat) : Int) = z := by omega
theorem wz_toNat : ∀ {l : List Int}, (∀ z ∈ l, 0 ≤ z) → wz (l.map Int.toNat) = l
  | [], _ => rfl
  | a :: l, h => by
    show ((a.toNat : Nat) : Int) :: wz (l.map Int.toNat) = a :: l
    rw [toNat_id (h a List.mem_cons_self), wz_toNat fun z hz => h z (List.mem_cons_of_mem _ hz)]
theorem fits_eq (f c o b p : Int) (l : List Int) : fits f c o b p l = (Kg78.within f 0 15 && (Kg78.within c 0 15 && (Kg78.within o 0 1 && (Kg78.within b 0 15 && (Kg78.within p 0 1 && l.all (fun z => Kg78.within z 1 15)))))) := by
  unfold fits bits Kg78.within
  rw [Bool.eq_iff_iff]
  simp only [Bool.and_eq_true, Bool.or_eq_true, decide_eq_true_eq, List.all_cons, List.all_nil, Bool.and_true]
  constructor
  · rintro ⟨⟨a1, a2, a3⟩, ⟨a4, a5, a6⟩, ⟨⟨a7, a8⟩, a9, a10⟩, a11⟩
    exact ⟨⟨a4, a1⟩, ⟨a5, a2⟩, ⟨a7, a8⟩, ⟨a6, a3⟩, ⟨a9, a10⟩, a11⟩
  · rintro ⟨⟨a4, a1⟩, ⟨a5, a2⟩, ⟨a7, a8⟩, ⟨a6, a3⟩, ⟨a9, a10⟩, a11⟩
    exact ⟨⟨a1, a2, a3⟩, ⟨a4, a5, a6⟩, ⟨⟨a7, a8⟩, a9, a10⟩, a11⟩
theorem there_one {t : List Nat} {z : Int} (h : 0 ≤ z) : (wz t).contains z = t.contains z.toNat := by
  rw [← wz_contains, toNat_id h]
/-- what is refused by -4 -/
theorem there_iff {t : List Nat} {f b : Int} {l : List Int} (hf : 0 ≤ f) (hb : 0 ≤ b) (hl : ∀ z ∈ l, 1 ≤ z) :
    (isThere (wz t) (f :: b :: l) = false ∨ ¬ l.Nodup) ↔ ((f ≠ 0 ∧ t.contains f.toNat = false) ∨ (l.all fun z => t.contains z.toNat) = false ∨ l.Nodup = false ∨ (b ≠ 0 ∧ t.contains b.toNat = false)) := by
  have el : (l.filter fun z => !decide (z = 0)) = l := by
    rw [List.filter_eq_self]
    intro z hz
    have := hl z hz
    rw [(decide_eq_false (by omega))]
    rfl
  have ea : (l.all fun z => (wz t).contains z) = l.all fun z => t.contains z.toNat := by
    rw [Bool.eq_iff_iff, (List.all_eq_true), List.all_eq_true]
    constructor
    · intro h z hz
      rw [← there_one (by have := hl z hz; omega)]
      exact h z hz
    · intro h z hz
      rw [there_one (by have := hl z hz; omega)]
      exact h z hz
  have e : isThere (wz t) (f :: b :: l) = ((decide (f = 0) || t.contains f.toNat) && ((decide (b = 0) || t.contains b.toNat) && l.all fun z => t.contains z.toNat)) := by
    unfold isThere
    rw [List.filter_cons, List.filter_cons, el]
    by_cases f0 : f = 0
    · by_cases b0 : b = 0
      · rw [decide_eq_true f0, decide_eq_true b0]
        exact ea
      · rw [decide_eq_true f0, decide_eq_false b0]
        show List.all (b :: l) _ = _
        rw [List.all_cons, ea, there_one hb]
        rfl
    · by_cases b0 : b = 0
      · rw [decide_eq_false f0, decide_eq_true b0]
        show List.all (f :: l) _ = _
        rw [List.all_cons, ea, there_one hf]
        rfl
      · rw [decide_eq_false f0, decide_eq_false b0]
        show List.all (f :: b :: l) _ = _
        rw [List.all_cons, List.all_cons, ea, there_one hf, there_one hb]
        rfl
  have en : (l.Nodup = false) ↔ ¬ l.Nodup := by simp
  rw [e, en]
  simp only [Bool.and_eq_false_iff, Bool.or_eq_false_iff, decide_eq_false_iff_not]
  constructor
  · rintro ((h | h | h) | h)
    · exact Or.inl h
    · exact Or.inr (Or.inr (Or.inr h))
    · exact Or.inr (Or.inl h)
    · exact Or.inr (Or.inr (Or.inl h))
  · rintro (h | h | h | h)
    · exact Or.inl (Or.inl h)
    · exact Or.inl (Or.inr (Or.inr h))
    · exact Or.inr h
    · exact Or.inl (Or.inr (Or.inl h))
theorem shot_rel {s : Kg78.State} {g : G} {r : Kg78.Rack} {x : Kg78.Shot} {push : Bool} {y : S} (h : RelG s g) (e : s.rack = some r) (X : RelS x push y) (hf : x.first = 0 ∨ x.first ∈ r.balls) (hp : ∀ b ∈ x.potted, b ∈ r.balls) (h3 : r.phase ≠ 3)
    (hpp : push = true → s.sort = 9 ∧ r.phase = 1) :
    OutOk s.sort s.broke (push && (match (if s.sort = 8 then r.eight x else r.nine x push) with | .inl _ => false | .inr q => q.phase == 3)) (if s.sort = 8 then r.eight x else r.nine x push) (g.rack.shot g.game y) ∧
    g.rack.isFoul g.game y = (if push = true then x.lost else if s.sort = 8 then r.foul 8 x else r.foul 9 x || (r.phase == 0 && (x.potted.isEmpty && decide (x.cushions < Kg78.BREAK)))) := by
  obtain ⟨_, _, _, E, W⟩ := not_over h e
  unfold R.shot R.isFoul
  rw [h.game]
  rcases h.sort with hs | hs
  · have np : push = false := by
      cases q : push with
      | false => rfl
      | true => have := (hpp q).1; omega
    subst np
    rw [hs] at E W ⊢
    rw [if_pos (show ((8 : Nat) : Int) = 8 from rfl), if_pos (show ((8 : Nat) : Int) = 8 from rfl), if_pos (show 8 = 8 from rfl), if_pos (show 8 = 8 from rfl)]
    exact ⟨eight_ok E W X hf hp h3, foul_eq (Or.inl rfl) E W X hf⟩
  · rw [hs] at E W ⊢
    rw [if_neg (show ¬ ((9 : Nat) : Int) = 8 by decide), if_neg (show ¬ ((9 : Nat) : Int) = 8 by decide), if_neg (show ¬ 9 = 8 by decide), if_neg (show ¬ 9 = 8 by decide)]
    exact nine_ok E W X hf h3 fun q => (hpp q).2
theorem shot_out {s : Kg78.State} {g : G} {r : Kg78.Rack} {x : Kg78.Shot} {push : Bool} {y : S} (h : RelG s g) (e : s.rack = some r) (X : RelS x push y) (hf : x.first = 0 ∨ x.first ∈ r.balls) (hp : ∀ b ∈ x.potted, b ∈ r.balls) (h3 : r.phase ≠ 3)
    (hpp : push = true → s.sort = 9 ∧ r.phase = 1) (f : Bool) (ef : f = (if push = true then x.lost else if s.sort = 8 then r.foul 8 x else r.foul 9 x || (r.phase == 0 && (x.potted.isEmpty && decide (x.cushions < Kg78.BREAK)))))
    (Z : Kg78.State × Kg78.Ans) (eZ : Z = match (if s.sort = 8 then r.eight x else r.nine x push) with
        | .inl w => let t := s.wins w; (t, ⟨2 + (w : Int), Kg78.told t⟩)
        | .inr q => let t := { s with rack := some q, push := push && q.phase == 3 }; (t, ⟨(Kg78.truth f : Nat), Kg78.told t⟩)) :
    RelG Z.1 (g.shot y).1 ∧ Z.2.value :: Z.2.out = (g.shot y).2 := by
  obtain ⟨ho, eF⟩ := shot_rel h e X hf hp h3 hpp
  rw [← ef] at eF
  unfold G.shot
  rw [eF]
  cases c : (if s.sort = 8 then r.eight x else r.nine x push) with
  | inl w =>
    rw [c] at ho eZ
    obtain ⟨o1, o2, o3⟩ := ho
    subst eZ
    rw [o1]
    have R1 := wins_ok h e o2 o3
    exact ⟨R1, congrArg _ (told_ok R1)⟩
  | inr q =>
    rw [c] at ho eZ
    obtain ⟨o1, o2, o3⟩ := ho
    subst eZ
    rw [o1]
    have R1 := state_rack h e h.broke o2 o3
    refine ⟨R1, ?_⟩
    show ((Kg78.truth f : Nat) : Int) :: _ = b2z f :: _
    rw [← told_ok R1]
    cases f <;> rfl
theorem shot_ok {s : Kg78.State} {d : Option G} (h : Rel s d) (f c o b p : Int) (l : List Int) : Rel (Kg78Neutral.step s [[2, f, c, o, b, p], l]).1 (stepM d [[2, f, c, o, b, p], l]).1 ∧ (Kg78Neutral.step s [[2, f, c, o, b, p], l]).2 = (stepM d [[2, f, c, o, b, p], l]).2 := by
  have e1 : Kg78Neutral.step s [[2, f, c, o, b, p], l] = ((Kg78.spec s (.shot f c o b p l)).1, (Kg78.spec s (.shot f c o b p l)).2.value :: (Kg78.spec s (.shot f c o b p l)).2.out) := rfl
  have e2 : stepM d [[2, f, c, o, b, p], l] = shotM d f c o b p l := rfl
  rw [e1, e2]
  obtain ⟨Z, hZ⟩ : ∃ Z, Z = Kg78.spec s (.shot f c o b p l) := ⟨_, rfl⟩
  rw [← hZ]
  unfold Kg78.spec at hZ
  dsimp only at hZ
  rw [← fits_eq] at hZ
  unfold shotM shotRef
  cases hfit : fits f c o b p l with
  | false =>
    rw [hfit, if_pos rfl] at hZ
    rw [if_pos rfl]
    subst hZ
    exact ⟨h, rfl⟩
  | true =>
    rw [hfit, if_neg (by decide)] at hZ
    rw [if_neg (by decide)]
    have hfit2 := hfit
    rw [fits_eq] at hfit2
    unfold Kg78.within at hfit2
    simp only [Bool.and_eq_true, decide_eq_true_eq, List.all_eq_true] at hfit2
    obtain ⟨⟨f1, f2⟩, ⟨c1, c2⟩, ⟨o1, o2⟩, ⟨b1, b2⟩, ⟨p1, p2⟩, hl⟩ := hfit2
    unfold Kg78.onRack at hZ
    cases d with
    | none =>
      obtain ⟨h1, h2, h3⟩ := h
      rw [h1] at hZ
      subst hZ
      exact ⟨⟨h1, h2, h3⟩, rfl⟩
    | some g =>
      have hg : RelG s g := h
      cases e : s.rack with
      | none =>
        rw [e] at hZ
        dsimp only
        rw [is_over hg e, if_pos rfl]
        subst hZ
        exact ⟨h, rfl⟩
      | some r =>
        rw [e] at hZ
        dsimp only at hZ ⊢
        obtain ⟨ov, ha, hb, E, W⟩ := not_over hg e
        rw [ov, if_neg (by decide)]
        by_cases p3 : r.phase = 3
        · rw [if_pos p3] at hZ
          rw [if_pos (show g.rack.phase = 3 by rw [E.phase, p3]; rfl)]
          subst hZ
          exact ⟨h, rfl⟩
        · rw [if_neg p3] at hZ
          rw [if_neg (show ¬ g.rack.phase = 3 by rw [E.phase]; omega), E.table]
          have ti := there_iff (t := r.balls) f1 b1 (fun z hz => (hl z hz).1)
          by_cases t4 : (f ≠ 0 ∧ r.balls.contains f.toNat = false) ∨ (l.all fun z => r.balls.contains z.toNat) = false ∨ l.Nodup = false ∨ (b ≠ 0 ∧ r.balls.contains b.toNat = false)
          · rw [if_pos t4] at hZ
            subst hZ
            rcases ti.mpr t4 with q | q
            · rw [if_pos q]
              exact ⟨h, rfl⟩
            · by_cases q2 : isThere (wz r.balls) (f :: b :: l) = false
              · rw [if_pos q2]
                exact ⟨h, rfl⟩
              · rw [if_neg q2, if_pos q]
                exact ⟨h, rfl⟩
          · rw [if_neg t4] at hZ
            have nt := fun z => t4 (ti.mp z)
            rw [if_neg (fun z => nt (Or.inl z)), if_neg (show ¬ ¬ l.Nodup from fun z => nt (Or.inr z)), E.game, E.phase]
            have hf : f.toNat = 0 ∨ f.toNat ∈ r.balls := by
              by_cases f0 : f = 0
              · left
                omega
              · right
                by_cases q : r.balls.contains f.toNat = true
                · exact List.contains_iff_mem.mp q
                · exact absurd (Or.inl ⟨f0, by simpa using q⟩) t4
            have hp : ∀ z ∈ l.map Int.toNat, z ∈ r.balls := by
              intro z hz
              obtain ⟨w, hw, rfl⟩ := List.mem_map.mp hz
              by_cases q : (l.all fun z => r.balls.contains z.toNat) = true
              · exact List.contains_iff_mem.mp (List.all_eq_true.mp q w hw)
              · exact absurd (Or.inr (Or.inl (by simpa using q))) t4
            by_cases t5 : (p = 1 ∧ (s.sort = 8 ∨ r.phase ≠ 1)) ∨ (f = 0 ∧ (l ≠ [] ∨ c ≠ 0))
            · rw [if_pos t5] at hZ
              subst hZ
              rcases t5 with q | q
              · rw [if_pos (show ¬ (p = 0 ∨ ((s.sort : Nat) : Int) = 9 ∧ ((r.phase : Nat) : Int) = 1) by omega)]
                exact ⟨h, rfl⟩
              · by_cases q2 : ¬ (p = 0 ∨ ((s.sort : Nat) : Int) = 9 ∧ ((r.phase : Nat) : Int) = 1)
                · rw [if_pos q2]
                  exact ⟨h, rfl⟩
                · rw [if_neg q2, if_pos (show ¬ (f ≠ 0 ∨ l = [] ∧ c = 0) by
                    rintro (z | z)
                    · exact z q.1
                    · exact q.2.elim (fun u => u z.1) (fun u => u z.2))]
                  exact ⟨h, rfl⟩
            · rw [if_neg t5] at hZ
              have hs := hg.sort
              rw [if_neg (show ¬ ¬ (p = 0 ∨ ((s.sort : Nat) : Int) = 9 ∧ ((r.phase : Nat) : Int) = 1) by
                intro z
                apply t5
                left
                omega), if_neg (show ¬ ¬ (f ≠ 0 ∨ l = [] ∧ c = 0) by
                intro z
                apply t5
                right
                have f0 : f = 0 := by
                  by_cases q : f = 0
                  · exact q
                  · exact absurd (Or.inl q) z
                refine ⟨f0, ?_⟩
                by_cases l0 : l = []
                · right
                  intro c0
                  exact z (Or.inr ⟨l0, c0⟩)
                · exact Or.inl l0)]
              have bo : ∀ {z : Int}, decide (z = 1) = (z == 1) := fun {z} => by
                rw [Bool.eq_iff_iff, decide_eq_true_eq, beq_iff_eq]
              have X : RelS ⟨f.toNat, l.map Int.toNat, c.toNat, o == 1, b.toNat⟩ (p == 1) ⟨f, c, decide (o = 1), b, decide (p = 1), l⟩ :=
                ⟨(toNat_id f1).symm, (toNat_id c1).symm, bo, (toNat_id b1).symm, bo, (wz_toNat fun z hz => by have := (hl z hz).1; omega).symm⟩
              have hpp : (p == 1) = true → s.sort = 9 ∧ r.phase = 1 := by
                intro z
                have p1' : p = 1 := by simpa using z
                constructor
                · rcases hs with q | q
                  · exact absurd (Or.inl ⟨p1', Or.inl q⟩) t5
                  · exact q
                · by_cases q : r.phase = 1
                  · exact q
                  · exact absurd (Or.inl ⟨p1', Or.inr q⟩) t5
              have ifp : ∀ {α : Type} (u v : α), (if p = 1 then u else v) = if (p == 1) = true then u else v := fun u v => by
                by_cases q : p = 1
                · rw [if_pos q, if_pos (by simpa using q)]
                · rw [if_neg q, if_neg (by simpa using q)]
              rw [ifp] at hZ
              exact shot_out hg e X hf hp p3 hpp _ rfl Z hZ
end Pr
namespace Pr
theorem choose_ok {s : Kg78.State} {d : Option G} (h : Rel s d) (n : Int) : Rel (Kg78Neutral.step s [[3, n]]).1 (stepM d [[3, n]]).1 ∧ (Kg78Neutral.step s [[3, n]]).2 = (stepM d [[3, n]]).2 := by
  have e1 : Kg78Neutral.step s [[3, n]] = ((Kg78.spec s (.choose n)).1, (Kg78.spec s (.choose n)).2.value :: (Kg78.spec s (.choose n)).2.out) := rfl
  have e2 : stepM d [[3, n]] = chooseM d n := rfl
  rw [e1, e2]
  obtain ⟨Z, hZ⟩ : ∃ Z, Z = Kg78.spec s (.choose n) := ⟨_, rfl⟩
  rw [← hZ]
  unfold Kg78.spec at hZ
  dsimp only at hZ
  unfold chooseM chooseRef
  by_cases c : 0 ≤ n ∧ n ≤ 1
  · have c2 : ¬ Kg78.within n 0 1 = false := by
      unfold Kg78.within
      rw [decide_eq_true c.1, decide_eq_true c.2]
      decide
    rw [if_neg c2] at hZ
    rw [if_neg (show ¬ ¬ (0 ≤ n ∧ n ≤ 1) from fun z => z c)]
    unfold Kg78.onRack at hZ
    cases d with
    | none =>
      obtain ⟨h1, h2, h3⟩ := h
      rw [h1] at hZ
      subst hZ
      exact ⟨⟨h1, h2, h3⟩, rfl⟩
    | some g =>
      have hg : RelG s g := h
      cases e : s.rack with
      | none =>
        rw [e] at hZ
        dsimp only
        rw [is_over hg e, if_pos rfl]
        subst hZ
        exact ⟨h, rfl⟩
      | some r =>
        rw [e] at hZ
        dsimp only at hZ ⊢
        obtain ⟨ov, ha, hb, E, W⟩ := not_over hg e
        rw [ov, if_neg (by decide)]
        by_cases p3 : r.phase = 3
        · rw [if_neg (show ¬ r.phase ≠ 3 from fun z => z p3)] at hZ
          rw [if_pos (show g.rack.phase = 3 by rw [E.phase, p3]; rfl)]
          have whoz : (1 : Int) - (r.who : Nat) = ((1 - r.who : Nat) : Int) := by have := W.who; omega
          have hh := W.hand p3
          have key : ∀ (S1 : Kg78.State), RelG S1 (g.withRack (g.rack.chosen n)) → Z = (S1, ⟨n, Kg78.told S1⟩) → Rel Z.1 (some (g.choose n).1) ∧ Z.2.value :: Z.2.out = (g.choose n).2 := fun S1 R1 eZ => by
            subst eZ
            exact ⟨R1, congrArg _ (told_ok R1)⟩
          cases hpu : s.push with
          | true =>
            rw [hpu, if_pos rfl] at hZ
            refine key _ ?_ hZ
            rw [hpu] at E W
            unfold R.chosen
            rw [if_neg (show ¬ (n = 1 ∧ g.rack.push = false) by rw [E.push]; exact fun z => by cases z.2)]
            refine state_rack (broke := s.broke) (pu := false) hg e hg.broke ⟨E.game, E.table, ?_, rfl, hh.symm, E.group, E.fa, E.fb, E.breaker, rfl⟩ ?_
            · show (if n = 0 then g.rack.turn else 1 - g.rack.turn) = ((if n = 0 then r.who else 1 - r.who : Nat) : Int)
              rw [E.turn, whoz]
              split <;> rfl
            · exact { W with who := by show (if n = 0 then r.who else 1 - r.who) ≤ 1; have := W.who; split <;> omega, ph := by show 2 ≤ 3; omega, ph1 := fun _ => by show 2 ≠ 1; omega, hand := fun z => hh, pu3 := fun _ => rfl, pu8 := fun _ => rfl }
          | false =>
            rw [hpu, if_neg (by decide)] at hZ
            rw [hpu] at E W
            by_cases n0 : n = 0
            · rw [if_pos n0] at hZ
              refine key _ ?_ hZ
              unfold R.chosen
              rw [if_neg (show ¬ (n = 1 ∧ g.rack.push = false) by omega), if_pos n0]
              have R1 := state_rack (broke := s.broke) (pu := false) (q := { r with phase := 2 }) (m := R.playBy { g.rack with phase := 2, push := false } g.rack.turn false) hg e hg.broke ⟨E.game, E.table, E.turn, rfl, hh.symm, E.group, E.fa, E.fb, E.breaker, rfl⟩
                { W with ph := by show 2 ≤ 3; omega, ph1 := fun _ => by show 2 ≠ 1; omega, hand := fun z => hh, pu3 := fun _ => rfl }
              exact R1
            · rw [if_neg n0] at hZ
              refine key _ ?_ hZ
              unfold R.chosen
              rw [if_pos (show n = 1 ∧ g.rack.push = false from ⟨by omega, E.push⟩), E.game, E.turn]
              have F := fresh_ok hg.sort W.who
              have R1 := state_rack (broke := r.who) (pu := false) hg e W.who F.1 F.2
              exact R1
        · rw [if_pos p3] at hZ
          rw [if_neg (show ¬ g.rack.phase = 3 by rw [E.phase]; omega)]
          subst hZ
          exact ⟨h, rfl⟩
  · have c2 : Kg78.within n 0 1 = false := by
      unfold Kg78.within
      rw [Bool.eq_false_iff]
      intro z
      rw [Bool.and_eq_true, decide_eq_true_eq, (decide_eq_true_eq)] at z
      exact c z
    rw [if_pos c2] at hZ
    rw [if_pos c]
    subst hZ
    exact ⟨h, rfl⟩
theorem on_ok {s : Kg78.State} {d : Option G} (h : Rel s d) : Rel (Kg78Neutral.step s [[4]]).1 (stepM d [[4]]).1 ∧ (Kg78Neutral.step s [[4]]).2 = (stepM d [[4]]).2 := by
  have e1 : Kg78Neutral.step s [[4]] = ((Kg78.spec s .on).1, (Kg78.spec s .on).2.value :: (Kg78.spec s .on).2.out) := rfl
  have e2 : stepM d [[4]] = (d, onM d) := rfl
  rw [e1, e2]
  obtain ⟨Z, hZ⟩ : ∃ Z, Z = Kg78.spec s .on := ⟨_, rfl⟩
  rw [← hZ]
  unfold Kg78.spec Kg78.onRack at hZ
  dsimp only at hZ
  unfold onM
  cases d with
  | none =>
    obtain ⟨h1, h2, h3⟩ := h
    rw [h1] at hZ
    subst hZ
    exact ⟨⟨h1, h2, h3⟩, rfl⟩
  | some g =>
    have hg : RelG s g := h
    cases e : s.rack with
    | none =>
      rw [e] at hZ
      dsimp only
      rw [is_over hg e, if_pos rfl]
      subst hZ
      exact ⟨h, rfl⟩
    | some r =>
      rw [e] at hZ
      dsimp only at hZ ⊢
      obtain ⟨ov, ha, hb, E, W⟩ := not_over hg e
      rw [ov, if_neg (by decide), right_may hg.sort E W, wz_len]
      subst hZ
      exact ⟨h, rfl⟩
theorem table_ok {s : Kg78.State} {d : Option G} (h : Rel s d) : Rel (Kg78Neutral.step s [[6]]).1 (stepM d [[6]]).1 ∧ (Kg78Neutral.step s [[6]]).2 = (stepM d [[6]]).2 := by
  have e1 : Kg78Neutral.step s [[6]] = ((Kg78.spec s .table).1, (Kg78.spec s .table).2.value :: (Kg78.spec s .table).2.out) := rfl
  have e2 : stepM d [[6]] = (d, tableM d) := rfl
  rw [e1, e2]
  obtain ⟨Z, hZ⟩ : ∃ Z, Z = Kg78.spec s .table := ⟨_, rfl⟩
  rw [← hZ]
  unfold Kg78.spec Kg78.onRack at hZ
  dsimp only at hZ
  unfold tableM
  cases d with
  | none =>
    obtain ⟨h1, h2, h3⟩ := h
    rw [h1] at hZ
    subst hZ
    exact ⟨⟨h1, h2, h3⟩, rfl⟩
  | some g =>
    have hg : RelG s g := h
    cases e : s.rack with
    | none =>
      rw [e] at hZ
      dsimp only
      rw [is_over hg e, if_pos rfl]
      subst hZ
      exact ⟨h, rfl⟩
    | some r =>
      rw [e] at hZ
      dsimp only at hZ ⊢
      obtain ⟨ov, ha, hb, E, W⟩ := not_over hg e
      rw [ov, if_neg (by decide), E.table, wz_len]
      subst hZ
      exact ⟨h, rfl⟩
theorem now_ok {s : Kg78.State} {d : Option G} (h : Rel s d) : Rel (Kg78Neutral.step s [[5]]).1 (stepM d [[5]]).1 ∧ (Kg78Neutral.step s [[5]]).2 = (stepM d [[5]]).2 := by
  have e1 : Kg78Neutral.step s [[5]] = (s, ((Kg78.truth s.rack.isSome : Nat) : Int) :: (Kg78.told s ++ (match s.rack with
    | some r => Kg78.whole [r.group, r.foulsA, r.foulsB, s.broke, Kg78.truth s.push]
    | none => []))) := rfl
  have e2 : stepM d [[5]] = (d, nowOf d) := rfl
  rw [e1, e2]
  refine ⟨h, ?_⟩
  unfold nowOf
  cases d with
  | none =>
    obtain ⟨h1, h2, h3⟩ := h
    unfold Kg78.told
    rw [h1, h2, h3] <;> rfl
  | some g =>
    have hg : RelG s g := h
    dsimp only
    rw [told_ok hg]
    cases e : s.rack with
    | none =>
      rw [is_over hg e, if_pos rfl]
      show (0 : Int) :: (g.stands ++ []) = _
      rw [List.append_nil]
    | some r =>
      obtain ⟨ov, ha, hb, E, W⟩ := not_over hg e
      rw [ov, if_neg (by decide), E.group, E.fa, E.fb, E.breaker, E.push]
      show (1 : Int) :: (g.stands ++ Kg78.whole [r.group, r.foulsA, r.foulsB, s.broke, Kg78.truth s.push]) = _
      cases s.push <;> rfl
/-- **A call**: the mirror does what the specification does -/
theorem step_ok {s : Kg78.State} {d : Option G} (h : Rel s d) {c : List (List Int)} (hc : Kg78Neutral.asked1 c = true) : Rel (Kg78Neutral.step s c).1 (stepM d c).1 ∧ (Kg78Neutral.step s c).2 = (stepM d c).2 := by
  unfold Kg78Neutral.asked1 at hc
  split at hc
  · exact begin_ok h ..
  · exact shot_ok h ..
  · exact choose_ok h ..
  · exact on_ok h
  · exact now_ok h
  · exact table_ok h
  · cases hc
theorem start_ok : Rel Kg78Neutral.start none := ⟨rfl, rfl, rfl⟩
def playM : Option G → List (List (List Int)) → List (List Int)
  | _, [] => []
  | d, c :: r => (stepM d c).2 :: playM (stepM d c).1 r
theorem play_eq : ∀ (cs : List (List (List Int))) {s : Kg78.State} {d : Option G}, Rel s d → (∀ c ∈ cs, Kg78Neutral.asked1 c = true) → PyFlat.played Kg78Neutral.step s cs = playM d cs
  | [], _, _, _, _ => rfl
  | c :: r, s, d, h, hc => by
    have hs := step_ok h (hc c List.mem_cons_self)
    unfold PyFlat.played playM
    rw [hs.2, play_eq r hs.1 fun c h => hc c (List.mem_cons_of_mem _ h)]
end Pr
set_option Elab.async false
set_option maxRecDepth 100000
set_option maxHeartbeats 5000000
namespace Pr
open PySem PySem.Spec PyProof.Rows L2

/-! ### 3. Objects: their fields, look-ups, stores -/
theorem lk_here {k : Str} {v : V} {r : List (Str × V)} : List.lookup k ((k, v) :: r) = some v := by
  have e : (k == k) = true := beq_self_eq_true k
  simp only [List.lookup, e]
theorem lk_past {k g : Str} {v : V} {r : List (Str × V)} (h : (k == g) = false) : List.lookup k ((g, v) :: r) = List.lookup k r := by
  simp only [List.lookup, h]
theorem put_here {f : Str} {v x : V} {r : List (Str × V)} : putF f v ((f, x) :: r) = (f, v) :: r := if_pos rfl
theorem put_past {f g : Str} {v x : V} {r : List (Str × V)} (h : ¬ g = f) : putF f v ((g, x) :: r) = (g, x) :: putF f v r := if_neg h

def rkF (m : R) (pt pf : Addr) : List (Str × V) := [("game", .int m.game), ("table", .ref pt), ("turn", .int m.turn), ("phase", .int m.phase), ("in_hand", .bl m.hand), ("first_group", .int m.group), ("fouls", .ref pf), ("breaker", .int m.breaker), ("is_of_push", .bl m.push)]
theorem rk_game (m : R) (pt pf : Addr) : (rkF m pt pf).lookup ("game" : Str) = some (.int m.game) := lk_here
theorem rk_table (m : R) (pt pf : Addr) : (rkF m pt pf).lookup ("table" : Str) = some (.ref pt) := (lk_past (by decide +kernel)).trans (lk_here)
theorem rk_turn (m : R) (pt pf : Addr) : (rkF m pt pf).lookup ("turn" : Str) = some (.int m.turn) := (lk_past (by decide +kernel)).trans ((lk_past (by decide +kernel)).trans (lk_here))
theorem rk_phase (m : R) (pt pf : Addr) : (rkF m pt pf).lookup ("phase" : Str) = some (.int m.phase) := (lk_past (by decide +kernel)).trans ((lk_past (by decide +kernel)).trans ((lk_past (by decide +kernel)).trans (lk_here)))
theorem rk_in_hand (m : R) (pt pf : Addr) : (rkF m pt pf).lookup ("in_hand" : Str) = some (.bl m.hand) := (lk_past (by decide +kernel)).trans ((lk_past (by decide +kernel)).trans ((lk_past (by decide +kernel)).trans ((lk_past (by decide +kernel)).trans (lk_here))))
theorem rk_first_group (m : R) (pt pf : Addr) : (rkF m pt pf).lookup ("first_group" : Str) = some (.int m.group) := (lk_past (by decide +kernel)).trans ((lk_past (by decide +kernel)).trans ((lk_past (by decide +kernel)).trans ((lk_past (by decide +kernel)).trans ((lk_past (by decide +kernel)).trans (lk_here)))))
theorem rk_fouls (m : R) (pt pf : Addr) : (rkF m pt pf).lookup ("fouls" : Str) = some (.ref pf) := (lk_past (by decide +kernel)).trans ((lk_past (by decide +kernel)).trans ((lk_past (by decide +kernel)).trans ((lk_past (by decide +kernel)).trans ((lk_past (by decide +kernel)).trans ((lk_past (by decide +kernel)).trans (lk_here))))))
theorem rk_breaker (m : R) (pt pf : Addr) : (rkF m pt pf).lookup ("breaker" : Str) = some (.int m.breaker) := (lk_past (by decide +kernel)).trans ((lk_past (by decide +kernel)).trans ((lk_past (by decide +kernel)).trans ((lk_past (by decide +kernel)).trans ((lk_past (by decide +kernel)).trans ((lk_past (by decide +kernel)).trans ((lk_past (by decide +kernel)).trans (lk_here)))))))
theorem rk_is_of_push (m : R) (pt pf : Addr) : (rkF m pt pf).lookup ("is_of_push" : Str) = some (.bl m.push) := (lk_past (by decide +kernel)).trans ((lk_past (by decide +kernel)).trans ((lk_past (by decide +kernel)).trans ((lk_past (by decide +kernel)).trans ((lk_past (by decide +kernel)).trans ((lk_past (by decide +kernel)).trans ((lk_past (by decide +kernel)).trans ((lk_past (by decide +kernel)).trans (lk_here))))))))
theorem rk_no_group_for (m : R) (pt pf : Addr) : (rkF m pt pf).lookup ("group_for" : Str) = none := (lk_past (by decide +kernel)).trans ((lk_past (by decide +kernel)).trans ((lk_past (by decide +kernel)).trans ((lk_past (by decide +kernel)).trans ((lk_past (by decide +kernel)).trans ((lk_past (by decide +kernel)).trans ((lk_past (by decide +kernel)).trans ((lk_past (by decide +kernel)).trans ((lk_past (by decide +kernel)).trans (rfl)))))))))
theorem rk_no_take_group (m : R) (pt pf : Addr) : (rkF m pt pf).lookup ("take_group" : Str) = none := (lk_past (by decide +kernel)).trans ((lk_past (by decide +kernel)).trans ((lk_past (by decide +kernel)).trans ((lk_past (by decide +kernel)).trans ((lk_past (by decide +kernel)).trans ((lk_past (by decide +kernel)).trans ((lk_past (by decide +kernel)).trans ((lk_past (by decide +kernel)).trans ((lk_past (by decide +kernel)).trans (rfl)))))))))
theorem rk_no_pot (m : R) (pt pf : Addr) : (rkF m pt pf).lookup ("pot" : Str) = none := (lk_past (by decide +kernel)).trans ((lk_past (by decide +kernel)).trans ((lk_past (by decide +kernel)).trans ((lk_past (by decide +kernel)).trans ((lk_past (by decide +kernel)).trans ((lk_past (by decide +kernel)).trans ((lk_past (by decide +kernel)).trans ((lk_past (by decide +kernel)).trans ((lk_past (by decide +kernel)).trans (rfl)))))))))
theorem rk_no_come_back (m : R) (pt pf : Addr) : (rkF m pt pf).lookup ("come_back" : Str) = none := (lk_past (by decide +kernel)).trans ((lk_past (by decide +kernel)).trans ((lk_past (by decide +kernel)).trans ((lk_past (by decide +kernel)).trans ((lk_past (by decide +kernel)).trans ((lk_past (by decide +kernel)).trans ((lk_past (by decide +kernel)).trans ((lk_past (by decide +kernel)).trans ((lk_past (by decide +kernel)).trans (rfl)))))))))
theorem rk_no_play_by (m : R) (pt pf : Addr) : (rkF m pt pf).lookup ("play_by" : Str) = none := (lk_past (by decide +kernel)).trans ((lk_past (by decide +kernel)).trans ((lk_past (by decide +kernel)).trans ((lk_past (by decide +kernel)).trans ((lk_past (by decide +kernel)).trans ((lk_past (by decide +kernel)).trans ((lk_past (by decide +kernel)).trans ((lk_past (by decide +kernel)).trans ((lk_past (by decide +kernel)).trans (rfl)))))))))
theorem rk_no_choose_by (m : R) (pt pf : Addr) : (rkF m pt pf).lookup ("choose_by" : Str) = none := (lk_past (by decide +kernel)).trans ((lk_past (by decide +kernel)).trans ((lk_past (by decide +kernel)).trans ((lk_past (by decide +kernel)).trans ((lk_past (by decide +kernel)).trans ((lk_past (by decide +kernel)).trans ((lk_past (by decide +kernel)).trans ((lk_past (by decide +kernel)).trans ((lk_past (by decide +kernel)).trans (rfl)))))))))
theorem rk_no_is_open (m : R) (pt pf : Addr) : (rkF m pt pf).lookup ("is_open" : Str) = none := (lk_past (by decide +kernel)).trans ((lk_past (by decide +kernel)).trans ((lk_past (by decide +kernel)).trans ((lk_past (by decide +kernel)).trans ((lk_past (by decide +kernel)).trans ((lk_past (by decide +kernel)).trans ((lk_past (by decide +kernel)).trans ((lk_past (by decide +kernel)).trans ((lk_past (by decide +kernel)).trans (rfl)))))))))
theorem rk_len (m : R) (pt pf : Addr) : (rkF m pt pf).length = 9 := rfl
def shF (x : S) (pp : Addr) : List (Str × V) := [("first", .int x.first), ("cushions", .int x.cushions), ("is_lost", .bl x.lost), ("called", .int x.called), ("is_push", .bl x.push), ("potted", .ref pp)]
theorem sh_first (x : S) (pp : Addr) : (shF x pp).lookup ("first" : Str) = some (.int x.first) := lk_here
theorem sh_cushions (x : S) (pp : Addr) : (shF x pp).lookup ("cushions" : Str) = some (.int x.cushions) := (lk_past (by decide +kernel)).trans (lk_here)
theorem sh_is_lost (x : S) (pp : Addr) : (shF x pp).lookup ("is_lost" : Str) = some (.bl x.lost) := (lk_past (by decide +kernel)).trans ((lk_past (by decide +kernel)).trans (lk_here))
theorem sh_called (x : S) (pp : Addr) : (shF x pp).lookup ("called" : Str) = some (.int x.called) := (lk_past (by decide +kernel)).trans ((lk_past (by decide +kernel)).trans ((lk_past (by decide +kernel)).trans (lk_here)))
theorem sh_is_push (x : S) (pp : Addr) : (shF x pp).lookup ("is_push" : Str) = some (.bl x.push) := (lk_past (by decide +kernel)).trans ((lk_past (by decide +kernel)).trans ((lk_past (by decide +kernel)).trans ((lk_past (by decide +kernel)).trans (lk_here))))
theorem sh_potted (x : S) (pp : Addr) : (shF x pp).lookup ("potted" : Str) = some (.ref pp) := (lk_past (by decide +kernel)).trans ((lk_past (by decide +kernel)).trans ((lk_past (by decide +kernel)).trans ((lk_past (by decide +kernel)).trans ((lk_past (by decide +kernel)).trans (lk_here)))))
theorem sh_no_is_weak (x : S) (pp : Addr) : (shF x pp).lookup ("is_weak" : Str) = none := (lk_past (by decide +kernel)).trans ((lk_past (by decide +kernel)).trans ((lk_past (by decide +kernel)).trans ((lk_past (by decide +kernel)).trans ((lk_past (by decide +kernel)).trans ((lk_past (by decide +kernel)).trans (rfl))))))
theorem sh_len (x : S) (pp : Addr) : (shF x pp).length = 6 := rfl
def raF (g : G) (pw r : Addr) : List (Str × V) := [("game", .int g.game), ("racks", .int g.racks), ("by_turns", .bl g.turns), ("won", .ref pw), ("rack", .ref r)]
theorem ra_game (g : G) (pw r : Addr) : (raF g pw r).lookup ("game" : Str) = some (.int g.game) := lk_here
theorem ra_racks (g : G) (pw r : Addr) : (raF g pw r).lookup ("racks" : Str) = some (.int g.racks) := (lk_past (by decide +kernel)).trans (lk_here)
theorem ra_by_turns (g : G) (pw r : Addr) : (raF g pw r).lookup ("by_turns" : Str) = some (.bl g.turns) := (lk_past (by decide +kernel)).trans ((lk_past (by decide +kernel)).trans (lk_here))
theorem ra_won (g : G) (pw r : Addr) : (raF g pw r).lookup ("won" : Str) = some (.ref pw) := (lk_past (by decide +kernel)).trans ((lk_past (by decide +kernel)).trans ((lk_past (by decide +kernel)).trans (lk_here)))
theorem ra_rack (g : G) (pw r : Addr) : (raF g pw r).lookup ("rack" : Str) = some (.ref r) := (lk_past (by decide +kernel)).trans ((lk_past (by decide +kernel)).trans ((lk_past (by decide +kernel)).trans ((lk_past (by decide +kernel)).trans (lk_here))))
theorem ra_no_is_over (g : G) (pw r : Addr) : (raF g pw r).lookup ("is_over" : Str) = none := (lk_past (by decide +kernel)).trans ((lk_past (by decide +kernel)).trans ((lk_past (by decide +kernel)).trans ((lk_past (by decide +kernel)).trans ((lk_past (by decide +kernel)).trans (rfl)))))
theorem ra_no_rack_won (g : G) (pw r : Addr) : (raF g pw r).lookup ("rack_won" : Str) = none := (lk_past (by decide +kernel)).trans ((lk_past (by decide +kernel)).trans ((lk_past (by decide +kernel)).trans ((lk_past (by decide +kernel)).trans ((lk_past (by decide +kernel)).trans (rfl)))))
theorem ra_no_stands (g : G) (pw r : Addr) : (raF g pw r).lookup ("stands" : Str) = none := (lk_past (by decide +kernel)).trans ((lk_past (by decide +kernel)).trans ((lk_past (by decide +kernel)).trans ((lk_past (by decide +kernel)).trans ((lk_past (by decide +kernel)).trans (rfl)))))
theorem ra_len (g : G) (pw r : Addr) : (raF g pw r).length = 5 := rfl
def dkF (v : V) : List (Str × V) := [("race", v)]
theorem dk_race (v : V) : (dkF v).lookup ("race" : Str) = some (v) := lk_here
theorem dk_no_begin (v : V) : (dkF v).lookup ("begin" : Str) = none := (lk_past (by decide +kernel)).trans (rfl)
theorem dk_no_going (v : V) : (dkF v).lookup ("going" : Str) = none := (lk_past (by decide +kernel)).trans (rfl)
theorem dk_no_want_shot (v : V) : (dkF v).lookup ("want_shot" : Str) = none := (lk_past (by decide +kernel)).trans (rfl)
theorem dk_no_shot (v : V) : (dkF v).lookup ("shot" : Str) = none := (lk_past (by decide +kernel)).trans (rfl)
theorem dk_no_choose (v : V) : (dkF v).lookup ("choose" : Str) = none := (lk_past (by decide +kernel)).trans (rfl)
theorem dk_no_on (v : V) : (dkF v).lookup ("on" : Str) = none := (lk_past (by decide +kernel)).trans (rfl)
theorem dk_no_now (v : V) : (dkF v).lookup ("now" : Str) = none := (lk_past (by decide +kernel)).trans (rfl)
theorem dk_no_table_now (v : V) : (dkF v).lookup ("table_now" : Str) = none := (lk_past (by decide +kernel)).trans (rfl)
theorem dk_len (v : V) : (dkF v).length = 1 := rfl
theorem rk_put_table (m : R) (pt pf : Addr) (q : Addr) (l : List Int) : putF "table" (.ref q) (rkF m pt pf) = rkF { m with table := l } q pf := (put_past (by decide +kernel)).trans (congrArg (List.cons _) (put_here))
theorem rk_put_turn (m : R) (pt pf : Addr) (z : Int) : putF "turn" (.int z) (rkF m pt pf) = rkF { m with turn := z } pt pf := (put_past (by decide +kernel)).trans (congrArg (List.cons _) ((put_past (by decide +kernel)).trans (congrArg (List.cons _) (put_here))))
theorem rk_put_phase (m : R) (pt pf : Addr) (z : Int) : putF "phase" (.int z) (rkF m pt pf) = rkF { m with phase := z } pt pf := (put_past (by decide +kernel)).trans (congrArg (List.cons _) ((put_past (by decide +kernel)).trans (congrArg (List.cons _) ((put_past (by decide +kernel)).trans (congrArg (List.cons _) (put_here))))))
theorem rk_put_in_hand (m : R) (pt pf : Addr) (z : Bool) : putF "in_hand" (.bl z) (rkF m pt pf) = rkF { m with hand := z } pt pf := (put_past (by decide +kernel)).trans (congrArg (List.cons _) ((put_past (by decide +kernel)).trans (congrArg (List.cons _) ((put_past (by decide +kernel)).trans (congrArg (List.cons _) ((put_past (by decide +kernel)).trans (congrArg (List.cons _) (put_here))))))))
theorem rk_put_first_group (m : R) (pt pf : Addr) (z : Int) : putF "first_group" (.int z) (rkF m pt pf) = rkF { m with group := z } pt pf := (put_past (by decide +kernel)).trans (congrArg (List.cons _) ((put_past (by decide +kernel)).trans (congrArg (List.cons _) ((put_past (by decide +kernel)).trans (congrArg (List.cons _) ((put_past (by decide +kernel)).trans (congrArg (List.cons _) ((put_past (by decide +kernel)).trans (congrArg (List.cons _) (put_here))))))))))
theorem rk_put_is_of_push (m : R) (pt pf : Addr) (z : Bool) : putF "is_of_push" (.bl z) (rkF m pt pf) = rkF { m with push := z } pt pf := (put_past (by decide +kernel)).trans (congrArg (List.cons _) ((put_past (by decide +kernel)).trans (congrArg (List.cons _) ((put_past (by decide +kernel)).trans (congrArg (List.cons _) ((put_past (by decide +kernel)).trans (congrArg (List.cons _) ((put_past (by decide +kernel)).trans (congrArg (List.cons _) ((put_past (by decide +kernel)).trans (congrArg (List.cons _) ((put_past (by decide +kernel)).trans (congrArg (List.cons _) ((put_past (by decide +kernel)).trans (congrArg (List.cons _) (put_here))))))))))))))))
theorem ra_put_rack (g : G) (pw r : Addr) (q : Addr) (y : R) : putF "rack" (.ref q) (raF g pw r) = raF (g.withRack y) pw q := (put_past (by decide +kernel)).trans (congrArg (List.cons _) ((put_past (by decide +kernel)).trans (congrArg (List.cons _) ((put_past (by decide +kernel)).trans (congrArg (List.cons _) ((put_past (by decide +kernel)).trans (congrArg (List.cons _) (put_here))))))))
theorem dk_put_race (v : V) (u : V) : putF "race" (u) (dkF v) = dkF u := put_here
theorem rk_build (m : R) (pt pf : Addr) : putF "is_of_push" (.bl m.push) (putF "breaker" (.int m.breaker) (putF "fouls" (.ref pf) (putF "first_group" (.int m.group) (putF "in_hand" (.bl m.hand) (putF "phase" (.int m.phase) (putF "turn" (.int m.turn) (putF "table" (.ref pt) (putF "game" (.int m.game) ([]))))))))) = rkF m pt pf := by
  have e0 : putF "game" (.int m.game) ([] : List (Str × V)) = ([("game", .int m.game)] : List (Str × V)) := rfl
  have e1 : putF "table" (.ref pt) ([("game", .int m.game)] : List (Str × V)) = ([("game", .int m.game), ("table", .ref pt)] : List (Str × V)) := (put_past (by decide +kernel)).trans (congrArg (List.cons _) (rfl))
  have e2 : putF "turn" (.int m.turn) ([("game", .int m.game), ("table", .ref pt)] : List (Str × V)) = ([("game", .int m.game), ("table", .ref pt), ("turn", .int m.turn)] : List (Str × V)) := (put_past (by decide +kernel)).trans (congrArg (List.cons _) ((put_past (by decide +kernel)).trans (congrArg (List.cons _) (rfl))))
  have e3 : putF "phase" (.int m.phase) ([("game", .int m.game), ("table", .ref pt), ("turn", .int m.turn)] : List (Str × V)) = ([("game", .int m.game), ("table", .ref pt), ("turn", .int m.turn), ("phase", .int m.phase)] : List (Str × V)) := (put_past (by decide +kernel)).trans (congrArg (List.cons _) ((put_past (by decide +kernel)).trans (congrArg (List.cons _) ((put_past (by decide +kernel)).trans (congrArg (List.cons _) (rfl))))))
  have e4 : putF "in_hand" (.bl m.hand) ([("game", .int m.game), ("table", .ref pt), ("turn", .int m.turn), ("phase", .int m.phase)] : List (Str × V)) = ([("game", .int m.game), ("table", .ref pt), ("turn", .int m.turn), ("phase", .int m.phase), ("in_hand", .bl m.hand)] : List (Str × V)) := (put_past (by decide +kernel)).trans (congrArg (List.cons _) ((put_past (by decide +kernel)).trans (congrArg (List.cons _) ((put_past (by decide +kernel)).trans (congrArg (List.cons _) ((put_past (by decide +kernel)).trans (congrArg (List.cons _) (rfl))))))))
  have e5 : putF "first_group" (.int m.group) ([("game", .int m.game), ("table", .ref pt), ("turn", .int m.turn), ("phase", .int m.phase), ("in_hand", .bl m.hand)] : List (Str × V)) = ([("game", .int m.game), ("table", .ref pt), ("turn", .int m.turn), ("phase", .int m.phase), ("in_hand", .bl m.hand), ("first_group", .int m.group)] : List (Str × V)) := (put_past (by decide +kernel)).trans (congrArg (List.cons _) ((put_past (by decide +kernel)).trans (congrArg (List.cons _) ((put_past (by decide +kernel)).trans (congrArg (List.cons _) ((put_past (by decide +kernel)).trans (congrArg (List.cons _) ((put_past (by decide +kernel)).trans (congrArg (List.cons _) (rfl))))))))))
  have e6 : putF "fouls" (.ref pf) ([("game", .int m.game), ("table", .ref pt), ("turn", .int m.turn), ("phase", .int m.phase), ("in_hand", .bl m.hand), ("first_group", .int m.group)] : List (Str × V)) = ([("game", .int m.game), ("table", .ref pt), ("turn", .int m.turn), ("phase", .int m.phase), ("in_hand", .bl m.hand), ("first_group", .int m.group), ("fouls", .ref pf)] : List (Str × V)) := (put_past (by decide +kernel)).trans (congrArg (List.cons _) ((put_past (by decide +kernel)).trans (congrArg (List.cons _) ((put_past (by decide +kernel)).trans (congrArg (List.cons _) ((put_past (by decide +kernel)).trans (congrArg (List.cons _) ((put_past (by decide +kernel)).trans (congrArg (List.cons _) ((put_past (by decide +kernel)).trans (congrArg (List.cons _) (rfl))))))))))))
  have e7 : putF "breaker" (.int m.breaker) ([("game", .int m.game), ("table", .ref pt), ("turn", .int m.turn), ("phase", .int m.phase), ("in_hand", .bl m.hand), ("first_group", .int m.group), ("fouls", .ref pf)] : List (Str × V)) = ([("game", .int m.game), ("table", .ref pt), ("turn", .int m.turn), ("phase", .int m.phase), ("in_hand", .bl m.hand), ("first_group", .int m.group), ("fouls", .ref pf), ("breaker", .int m.breaker)] : List (Str × V)) := (put_past (by decide +kernel)).trans (congrArg (List.cons _) ((put_past (by decide +kernel)).trans (congrArg (List.cons _) ((put_past (by decide +kernel)).trans (congrArg (List.cons _) ((put_past (by decide +kernel)).trans (congrArg (List.cons _) ((put_past (by decide +kernel)).trans (congrArg (List.cons _) ((put_past (by decide +kernel)).trans (congrArg (List.cons _) ((put_past (by decide +kernel)).trans (congrArg (List.cons _) (rfl))))))))))))))
  have e8 : putF "is_of_push" (.bl m.push) ([("game", .int m.game), ("table", .ref pt), ("turn", .int m.turn), ("phase", .int m.phase), ("in_hand", .bl m.hand), ("first_group", .int m.group), ("fouls", .ref pf), ("breaker", .int m.breaker)] : List (Str × V)) = ([("game", .int m.game), ("table", .ref pt), ("turn", .int m.turn), ("phase", .int m.phase), ("in_hand", .bl m.hand), ("first_group", .int m.group), ("fouls", .ref pf), ("breaker", .int m.breaker), ("is_of_push", .bl m.push)] : List (Str × V)) := (put_past (by decide +kernel)).trans (congrArg (List.cons _) ((put_past (by decide +kernel)).trans (congrArg (List.cons _) ((put_past (by decide +kernel)).trans (congrArg (List.cons _) ((put_past (by decide +kernel)).trans (congrArg (List.cons _) ((put_past (by decide +kernel)).trans (congrArg (List.cons _) ((put_past (by decide +kernel)).trans (congrArg (List.cons _) ((put_past (by decide +kernel)).trans (congrArg (List.cons _) ((put_past (by decide +kernel)).trans (congrArg (List.cons _) (rfl))))))))))))))))
  rw [e0, e1, e2, e3, e4, e5, e6, e7, e8]
  rfl
theorem sh_build (x : S) (pp : Addr) : putF "potted" (.ref pp) (putF "is_push" (.bl x.push) (putF "called" (.int x.called) (putF "is_lost" (.bl x.lost) (putF "cushions" (.int x.cushions) (putF "first" (.int x.first) ([])))))) = shF x pp := by
  have e0 : putF "first" (.int x.first) ([] : List (Str × V)) = ([("first", .int x.first)] : List (Str × V)) := rfl
  have e1 : putF "cushions" (.int x.cushions) ([("first", .int x.first)] : List (Str × V)) = ([("first", .int x.first), ("cushions", .int x.cushions)] : List (Str × V)) := (put_past (by decide +kernel)).trans (congrArg (List.cons _) (rfl))
  have e2 : putF "is_lost" (.bl x.lost) ([("first", .int x.first), ("cushions", .int x.cushions)] : List (Str × V)) = ([("first", .int x.first), ("cushions", .int x.cushions), ("is_lost", .bl x.lost)] : List (Str × V)) := (put_past (by decide +kernel)).trans (congrArg (List.cons _) ((put_past (by decide +kernel)).trans (congrArg (List.cons _) (rfl))))
  have e3 : putF "called" (.int x.called) ([("first", .int x.first), ("cushions", .int x.cushions), ("is_lost", .bl x.lost)] : List (Str × V)) = ([("first", .int x.first), ("cushions", .int x.cushions), ("is_lost", .bl x.lost), ("called", .int x.called)] : List (Str × V)) := (put_past (by decide +kernel)).trans (congrArg (List.cons _) ((put_past (by decide +kernel)).trans (congrArg (List.cons _) ((put_past (by decide +kernel)).trans (congrArg (List.cons _) (rfl))))))
  have e4 : putF "is_push" (.bl x.push) ([("first", .int x.first), ("cushions", .int x.cushions), ("is_lost", .bl x.lost), ("called", .int x.called)] : List (Str × V)) = ([("first", .int x.first), ("cushions", .int x.cushions), ("is_lost", .bl x.lost), ("called", .int x.called), ("is_push", .bl x.push)] : List (Str × V)) := (put_past (by decide +kernel)).trans (congrArg (List.cons _) ((put_past (by decide +kernel)).trans (congrArg (List.cons _) ((put_past (by decide +kernel)).trans (congrArg (List.cons _) ((put_past (by decide +kernel)).trans (congrArg (List.cons _) (rfl))))))))
  have e5 : putF "potted" (.ref pp) ([("first", .int x.first), ("cushions", .int x.cushions), ("is_lost", .bl x.lost), ("called", .int x.called), ("is_push", .bl x.push)] : List (Str × V)) = ([("first", .int x.first), ("cushions", .int x.cushions), ("is_lost", .bl x.lost), ("called", .int x.called), ("is_push", .bl x.push), ("potted", .ref pp)] : List (Str × V)) := (put_past (by decide +kernel)).trans (congrArg (List.cons _) ((put_past (by decide +kernel)).trans (congrArg (List.cons _) ((put_past (by decide +kernel)).trans (congrArg (List.cons _) ((put_past (by decide +kernel)).trans (congrArg (List.cons _) ((put_past (by decide +kernel)).trans (congrArg (List.cons _) (rfl))))))))))
  rw [e0, e1, e2, e3, e4, e5]
  rfl
theorem ra_build (g : G) (pw r : Addr) : putF "rack" (.ref r) (putF "won" (.ref pw) (putF "by_turns" (.bl g.turns) (putF "racks" (.int g.racks) (putF "game" (.int g.game) ([]))))) = raF g pw r := by
  have e0 : putF "game" (.int g.game) ([] : List (Str × V)) = ([("game", .int g.game)] : List (Str × V)) := rfl
  have e1 : putF "racks" (.int g.racks) ([("game", .int g.game)] : List (Str × V)) = ([("game", .int g.game), ("racks", .int g.racks)] : List (Str × V)) := (put_past (by decide +kernel)).trans (congrArg (List.cons _) (rfl))
  have e2 : putF "by_turns" (.bl g.turns) ([("game", .int g.game), ("racks", .int g.racks)] : List (Str × V)) = ([("game", .int g.game), ("racks", .int g.racks), ("by_turns", .bl g.turns)] : List (Str × V)) := (put_past (by decide +kernel)).trans (congrArg (List.cons _) ((put_past (by decide +kernel)).trans (congrArg (List.cons _) (rfl))))
  have e3 : putF "won" (.ref pw) ([("game", .int g.game), ("racks", .int g.racks), ("by_turns", .bl g.turns)] : List (Str × V)) = ([("game", .int g.game), ("racks", .int g.racks), ("by_turns", .bl g.turns), ("won", .ref pw)] : List (Str × V)) := (put_past (by decide +kernel)).trans (congrArg (List.cons _) ((put_past (by decide +kernel)).trans (congrArg (List.cons _) ((put_past (by decide +kernel)).trans (congrArg (List.cons _) (rfl))))))
  have e4 : putF "rack" (.ref r) ([("game", .int g.game), ("racks", .int g.racks), ("by_turns", .bl g.turns), ("won", .ref pw)] : List (Str × V)) = ([("game", .int g.game), ("racks", .int g.racks), ("by_turns", .bl g.turns), ("won", .ref pw), ("rack", .ref r)] : List (Str × V)) := (put_past (by decide +kernel)).trans (congrArg (List.cons _) ((put_past (by decide +kernel)).trans (congrArg (List.cons _) ((put_past (by decide +kernel)).trans (congrArg (List.cons _) ((put_past (by decide +kernel)).trans (congrArg (List.cons _) (rfl))))))))
  rw [e0, e1, e2, e3, e4]
  rfl
theorem dk_build (v : V) : putF "race" (v) ([]) = dkF v := by
  have e0 : putF "race" (v) ([] : List (Str × V)) = ([("race", v)] : List (Str × V)) := rfl
  rw [e0]
  rfl
/-! ### 4. Heaps -/
/-- all that was tracked is as it was, but what stands at the addresses of S -/
def Kept (S : List Addr) (H H' : Hp) : Prop := ∀ b o, H b = some o → b ∉ S → H' b = some o
theorem Kept.refl (S : List Addr) (H : Hp) : Kept S H H := fun _ _ e _ => e
theorem Kept.trans {S : List Addr} {H H1 H2 : Hp} (a : Kept S H H1) (b : Kept S H1 H2) : Kept S H H2 := fun c o e n => b c o (a c o e n) n
theorem Kept.mono {S T : List Addr} {H H' : Hp} (a : Kept S H H') (h : ∀ b ∈ S, b ∈ T) : Kept T H H' := fun c o e n => a c o e fun z => n (h c z)
theorem Kept.of_same {S : List Addr} {H H' : Hp} (a : Same H H') : Kept S H H' := fun c o e _ => a c o e
theorem Kept.upd {S : List Addr} {H H' : Hp} {a : Addr} {o : HO} (k : Kept S H H') (h : a ∈ S) : Kept S H (upd H' a o) := fun c u e n => by
  rw [upd_ne (fun z => n (by rw [z]; exact h))]
  exact k c u e n
theorem Kept.new {S : List Addr} {H H' : Hp} {a : Addr} {o : HO} (k : Kept S H H') (h : H a = none) : Kept S H (L2.upd H' a o) := fun c u e n => by
  rw [upd_ne (ne_of_none e h)]
  exact k c u e n
theorem Same.new {H H' : Hp} {a : Addr} {o : HO} (k : Same H H') (h : H a = none) : Same H (L2.upd H' a o) := fun c u e => by
  rw [upd_ne (ne_of_none e h)]
  exact k c u e
theorem Same.new1 {H : Hp} {a : Addr} {o : HO} (h : H a = none) : Same H (L2.upd H a o) := Same.new (Same.refl H) h
theorem Kept.none {S : List Addr} {H H' : Hp} {a : Addr} (k : Kept S H H') (n : a ∉ S) (h : H' a = Option.none) : H a = Option.none := by
  cases e : H a with
  | none => rfl
  | some o =>
    rw [k a o e n] at h
    cases h
theorem lst_ins {xs : List V} {C dx : Addr} {fs : List (Str × V)} : HO.lst xs ≠ HO.ins C dx fs := fun z => by cases z
theorem ins_lst {xs : List V} {C dx : Addr} {fs : List (Str × V)} : HO.ins C dx fs ≠ HO.lst xs := fun z => by cases z
theorem ins_ins {C dx C' dx' : Addr} {fs fs' : List (Str × V)} (h : fs.length ≠ fs'.length) : HO.ins C dx fs ≠ HO.ins C' dx' fs' := fun z => by
  injection z with _ _ e
  exact h (congrArg List.length e)

def R.withPush (r : R) (p : Bool) : R := { r with push := p }
/-! addresses of the classes -/
structure Ad where
  cS : Addr
  cR : Addr
  cA : Addr
  cD : Addr
  cF : Addr
abbrev zs (l : List Int) : List V := l.map V.int
/-- what is always so of a rack -/
structure ROk (m : R) : Prop where
  up : m.table.Pairwise (· < ·)
  rng : ∀ b ∈ m.table, 1 ≤ b ∧ b ≤ 15
  t0 : 0 ≤ m.turn
  t1 : m.turn ≤ 1
  b0 : 0 ≤ m.breaker
  b1 : m.breaker ≤ 1
theorem up_len : ∀ {l : List Int} {lo hi : Int}, l.Pairwise (· < ·) → (∀ b ∈ l, lo ≤ b ∧ b ≤ hi) → lo ≤ hi + 1 → (l.length : Int) ≤ hi + 1 - lo
  | [], lo, hi, _, _, h => by
    show (0 : Int) ≤ _
    omega
  | a :: l, lo, hi, hp, hr, h => by
    have hp2 := List.pairwise_cons.mp hp
    have ha := hr a List.mem_cons_self
    have ih := up_len (l := l) (lo := a + 1) (hi := hi) hp2.2 (fun b hb => ⟨by have := hp2.1 b hb; omega, (hr b (List.mem_cons_of_mem _ hb)).2⟩) (by omega)
    rw [List.length_cons]
    omega
theorem ROk.len {m : R} (h : ROk m) : m.table.length ≤ 15 := by
  have := up_len h.up h.rng (by omega)
  omega
theorem small {n : Nat} (h : n ≤ 1000) : n ≤ sizeLine := by
  rw [sizeLine_eq]
  omega
theorem smallL {n : Nat} (h : n ≤ 1000) : n < sizeLine := by
  rw [sizeLine_eq]
  omega
/-- a rack at r, its fouls' list at pf -/
structure RkAt (A : Ad) (H : Hp) (r pf : Addr) (m : R) : Prop where
  ex : ∃ dx pt, H r = some (.ins A.cR dx (rkF m pt pf)) ∧ H pt = some (.lst (zs m.table)) ∧ pt ≠ pf
  fou : H pf = some (.lst [.int m.fa, .int m.fb])
  ok : ROk m
theorem RkAt.kept {A : Ad} {H H' : Hp} {r pf : Addr} {m : R} {T : List Addr} (h : RkAt A H r pf m) (k : Kept T H H') (hr : r ∉ T) (hp : pf ∉ T) (ht : ∀ b ∈ T, ∀ xs, H b = some (.lst xs) → b = pf) : RkAt A H' r pf m := by
  obtain ⟨dx, pt, e1, e2, n⟩ := h.ex
  exact ⟨⟨dx, pt, k _ _ e1 hr, k _ _ e2 fun z => n (ht _ z _ e2), n⟩, k _ _ h.fou hp, h.ok⟩
theorem RkAt.same {A : Ad} {H H' : Hp} {r pf : Addr} {m : R} (h : RkAt A H r pf m) (k : Same H H') : RkAt A H' r pf m := by
  obtain ⟨dx, pt, e1, e2, n⟩ := h.ex
  exact ⟨⟨dx, pt, k _ _ e1, k _ _ e2, n⟩, k _ _ h.fou, h.ok⟩
/-- a field of the rack is stored; its list of balls and that of fouls stay -/
theorem RkAt.put {A : Ad} {H : Hp} {r pf pt dx : Addr} {m m' : R} (hr : H r = some (.ins A.cR dx (rkF m pt pf))) (ht : H pt = some (.lst (zs m.table))) (hf : H pf = some (.lst [.int m.fa, .int m.fb])) (n : pt ≠ pf)
    (e1 : m'.table = m.table) (e2 : m'.fa = m.fa) (e3 : m'.fb = m.fb) (ok : ROk m') : RkAt A (upd H r (.ins A.cR dx (rkF m' pt pf))) r pf m' := by
  refine ⟨⟨dx, pt, upd_same, ?_, n⟩, ?_, ok⟩
  · rw [upd_ne (ne_of ht hr lst_ins), e1]
    exact ht
  · rw [upd_ne (ne_of hf hr lst_ins), e2, e3]
    exact hf
/-- the list of balls is another one, new -/
theorem RkAt.put2 {A : Ad} {H : Hp} {r pf pt q dx : Addr} {m m' : R} (hr : H r = some (.ins A.cR dx (rkF m pt pf))) (hq : H q = some (.lst (zs m'.table))) (hf : H pf = some (.lst [.int m.fa, .int m.fb])) (n : q ≠ pf)
    (e2 : m'.fa = m.fa) (e3 : m'.fb = m.fb) (ok : ROk m') : RkAt A (upd H r (.ins A.cR dx (rkF m' q pf))) r pf m' := by
  refine ⟨⟨dx, q, upd_same, ?_, n⟩, ?_, ok⟩
  · rw [upd_ne (ne_of hq hr lst_ins)]
    exact hq
  · rw [upd_ne (ne_of hf hr lst_ins), e2, e3]
    exact hf
/-- a shot at s that none of T touches -/
def ShAt (A : Ad) (H : Hp) (T : List Addr) (s : Addr) (x : S) : Prop := s ∉ T ∧ ∃ dx pp, pp ∉ T ∧ H s = some (.ins A.cS dx (shF x pp)) ∧ H pp = some (.lst (zs x.potted)) ∧ x.potted.length ≤ 16
theorem ShAt.kept {A : Ad} {H H' : Hp} {T : List Addr} {s : Addr} {x : S} (h : ShAt A H T s x) (k : Kept T H H') : ShAt A H' T s x := by
  obtain ⟨n, dx, pp, n2, e1, e2, l⟩ := h
  exact ⟨n, dx, pp, n2, k _ _ e1 n, k _ _ e2 n2, l⟩
theorem ShAt.same {A : Ad} {H H' : Hp} {T : List Addr} {s : Addr} {x : S} (h : ShAt A H T s x) (k : Same H H') : ShAt A H' T s x := h.kept (Kept.of_same k)
/-- a race at a: its won at pw, its rack at r (there while it goes on) -/
structure RaAt (A : Ad) (H : Hp) (a pw r pf : Addr) (g : G) : Prop where
  ex : ∃ dx, H a = some (.ins A.cA dx (raF g pw r))
  won : H pw = some (.lst [.int g.wa, .int g.wb])
  n1 : pw ≠ pf
  n2 : a ≠ r
  n3 : a ≠ pf
  n4 : pw ≠ r
  n5 : a ≠ pw
  rack : g.over = false → RkAt A H r pf g.rack
  trk : H r ≠ none ∧ H pf ≠ none
theorem RkAt.trk {A : Ad} {H : Hp} {r pf : Addr} {m : R} (h : RkAt A H r pf m) : H r ≠ none ∧ H pf ≠ none := by
  obtain ⟨dx, pt, e1, e2, n⟩ := h.ex
  exact ⟨by (rw [e1]; exact fun z => by cases z), by (rw [h.fou]; exact fun z => by cases z)⟩
theorem ne_same {H H' : Hp} (k : Same H H') {b : Addr} (h : H b ≠ none) : H' b ≠ none := fun e => h (k.free e)
theorem ne_kept {H H' : Hp} {T : List Addr} (k : Kept T H H') {b : Addr} (n : b ∉ T) (h : H b ≠ none) : H' b ≠ none := fun e => h (k.none n e)
theorem ne_upd {H : Hp} {q b : Addr} {o : HO} (h : H b ≠ none) : upd H q o b ≠ none := by
  by_cases e : b = q
  · rw [e, upd_same]
    exact fun z => by cases z
  · rw [upd_ne e]
    exact h
theorem RaAt.same {A : Ad} {H H' : Hp} {a pw r pf : Addr} {g : G} (h : RaAt A H a pw r pf g) (k : Same H H') : RaAt A H' a pw r pf g := by
  obtain ⟨dx, e⟩ := h.ex
  exact ⟨⟨dx, k _ _ e⟩, k _ _ h.won, h.n1, h.n2, h.n3, h.n4, h.n5, fun o => (h.rack o).same k, ne_same k h.trk.1, ne_same k h.trk.2⟩
/-- the desk at d; all that its calls may change stands at fp -/
def DkAt (A : Ad) (H : Hp) (d : Addr) (fp : List Addr) : Option G → Prop
  | none => (∃ dx, H d = some (.ins A.cD dx (dkF .non))) ∧ fp = [d]
  | some g => ∃ dx a pw r pf, H d = some (.ins A.cD dx (dkF (.ref a))) ∧ RaAt A H a pw r pf g ∧ fp = [d, a, pw, r, pf] ∧ d ≠ a ∧ d ≠ pw ∧ d ≠ r ∧ d ≠ pf
theorem DkAt.same {A : Ad} {H H' : Hp} {d : Addr} {fp : List Addr} {x : Option G} (h : DkAt A H d fp x) (k : Same H H') : DkAt A H' d fp x := by
  cases x with
  | none =>
    obtain ⟨⟨dx, e⟩, f⟩ := h
    exact ⟨⟨dx, k _ _ e⟩, f⟩
  | some g =>
    obtain ⟨dx, a, pw, r, pf, e, ra, rest⟩ := h
    exact ⟨dx, a, pw, r, pf, k _ _ e, ra.same k, rest⟩
theorem DkAt.at_d {A : Ad} {H : Hp} {d : Addr} {fp : List Addr} {x : Option G} (h : DkAt A H d fp x) : ∃ dx u, H d = some (.ins A.cD dx (dkF u)) ∧ d ∈ fp := by
  cases x with
  | none =>
    obtain ⟨⟨dx, e⟩, f⟩ := h
    exact ⟨dx, _, e, by rw [f]; exact List.mem_cons_self⟩
  | some g =>
    obtain ⟨dx, a, pw, r, pf, e, ra, f, _⟩ := h
    exact ⟨dx, _, e, by rw [f]; exact List.mem_cons_self⟩
theorem RaAt.kept {A : Ad} {H H' : Hp} {a pw r pf : Addr} {g : G} {T : List Addr} (h : RaAt A H a pw r pf g) (k : Kept T H H') (h1 : a ∉ T) (h2 : pw ∉ T) (h3 : r ∉ T) (h4 : pf ∉ T) (ht : ∀ b ∈ T, ∀ xs, H b = some (.lst xs) → b = pf) : RaAt A H' a pw r pf g := by
  obtain ⟨dx, e⟩ := h.ex
  exact ⟨⟨dx, k _ _ e h1⟩, k _ _ h.won h2, h.n1, h.n2, h.n3, h.n4, h.n5, fun o => (h.rack o).kept k h3 h4 ht, ne_kept k h3 h.trk.1, ne_kept k h4 h.trk.2⟩
theorem DkAt.store {A : Ad} {H : Hp} {d dx a pw r pf : Addr} {u : V} {g : G} (hd : H d = some (.ins A.cD dx (dkF u))) (R : RaAt A H a pw r pf g) (n1 : d ≠ a) (n2 : d ≠ pw) (n3 : d ≠ r) (n4 : d ≠ pf) :
    DkAt A (upd H d (.ins A.cD dx (dkF (.ref a)))) d [d, a, pw, r, pf] (some g) :=
  ⟨dx, a, pw, r, pf, upd_same, R.kept (T := [d]) ((Kept.refl _ _).upd List.mem_cons_self) (by simpa using Ne.symm n1) (by simpa using Ne.symm n2) (by simpa using Ne.symm n3) (by simpa using Ne.symm n4) (fun b hb xs e => by
    have eb : b = d := by simpa using hb
    rw [eb, hd] at e
    cases e), rfl, n1, n2, n3, n4⟩
/-- a refusal: the error's own dict holds its number -/
def Ref (A : Ad) (H : Hp) (k : Int) (E : XK) : Prop := ∀ (d : Addr) (H' : Hp), Same H H' → H' d = some (.xd [(("refusal" : Str), V.int k)]) → E (.ref A.cF) (some d) H'
theorem Ref.same {A : Ad} {H H' : Hp} {k : Int} {E : XK} (h : Ref A H k E) (s : Same H H') : Ref A H' k E := fun d H2 s2 e => h d H2 (s.trans s2) e
/-- what a call of the desk comes to -/
def After (A : Ad) (H : Hp) (d : Addr) (fp : List Addr) (ref : Option Int) (x : Option G) (out : List Int) (Q : VK) (E : XK) : Prop :=
  (∀ k, ref = some k → Ref A H k E) ∧
  (ref = none → ∀ (H' : Hp) (fp' : List Addr) (p : Addr), DkAt A H' d fp' x → Kept fp H H' → (∀ b ∈ fp', b ∈ fp ∨ H b = none) → (p ∉ fp → H p = none) → H' p = some (.lst (zs out)) → Q (.ref p) H')

theorem upd_over {H : Hp} {q b : Addr} {o1 o2 u : HO} (hq : H q = some o1) (h : H b = some u) (n : o1 ≠ u) : upd H q o2 b = some u := by
  rw [upd_ne (fun e => by
    rw [e, hq] at h
    exact n (Option.some.inj h))]
  exact h
theorem RkAt.over {A : Ad} {H : Hp} {r pf q : Addr} {m : R} {o1 o2 : HO} (h : RkAt A H r pf m) (hq : H q = some o1) (n1 : ∀ xs, o1 ≠ .lst xs) (n2 : ∀ C dx fs, o1 ≠ .ins C dx fs) : RkAt A (upd H q o2) r pf m := by
  obtain ⟨dx, pt, e1, e2, n⟩ := h.ex
  exact ⟨⟨dx, pt, upd_over hq e1 (n2 _ _ _), upd_over hq e2 (n1 _), n⟩, upd_over hq h.fou (n1 _), h.ok⟩
theorem RaAt.over {A : Ad} {H : Hp} {a pw r pf q : Addr} {g : G} {o1 o2 : HO} (h : RaAt A H a pw r pf g) (hq : H q = some o1) (n1 : ∀ xs, o1 ≠ .lst xs) (n2 : ∀ C dx fs, o1 ≠ .ins C dx fs) : RaAt A (upd H q o2) a pw r pf g := by
  obtain ⟨dx, e⟩ := h.ex
  exact ⟨⟨dx, upd_over hq e (n2 _ _ _)⟩, upd_over hq h.won (n1 _), h.n1, h.n2, h.n3, h.n4, h.n5, fun o => (h.rack o).over hq n1 n2, ne_upd h.trk.1, ne_upd h.trk.2⟩
/-- what stands at q is none of the desk's: it may be another thing -/
theorem DkAt.over {A : Ad} {H : Hp} {d q : Addr} {fp : List Addr} {x : Option G} {o1 o2 : HO} (h : DkAt A H d fp x) (hq : H q = some o1) (n1 : ∀ xs, o1 ≠ .lst xs) (n2 : ∀ C dx fs, o1 ≠ .ins C dx fs) : DkAt A (upd H q o2) d fp x := by
  cases x with
  | none =>
    obtain ⟨⟨dx, e⟩, f⟩ := h
    exact ⟨⟨dx, upd_over hq e (n2 _ _ _)⟩, f⟩
  | some g =>
    obtain ⟨dx, a, pw, r, pf, e, ra, rest⟩ := h
    exact ⟨dx, a, pw, r, pf, upd_over hq e (n2 _ _ _), ra.over hq n1 n2, rest⟩
theorem DkAt.tracked {A : Ad} {H : Hp} {d q : Addr} {fp : List Addr} {x : Option G} {o : HO} (h : DkAt A (upd H q o) d fp x) (nq : q ∉ fp) : ∀ {b : Addr}, b ∈ fp → H b ≠ none := fun {b} hb e => by
  have ne : b ≠ q := fun z => nq (z ▸ hb)
  have hn : upd H q o b = none := by
    rw [upd_ne ne]
    exact e
  cases x with
  | none =>
    obtain ⟨⟨dx, e1⟩, f⟩ := h
    have eb : b = d := by
      rw [f] at hb
      simpa using hb
    rw [eb, e1] at hn
    cases hn
  | some g =>
    obtain ⟨dx, a, pw, r, pf, e1, ra, f, _⟩ := h
    obtain ⟨dxa, e2⟩ := ra.ex
    have e3 := ra.won
    rw [f] at hb
    rcases (List.mem_cons.mp hb) with z | hb
    · rw [z, e1] at hn
      cases hn
    rcases (List.mem_cons.mp hb) with z | hb
    · rw [z, e2] at hn
      cases hn
    rcases (List.mem_cons.mp hb) with z | hb
    · rw [z, e3] at hn
      cases hn
    rcases (List.mem_cons.mp hb) with z | hb
    · rw [z] at hn
      exact ra.trk.1 hn
    · have z : b = pf := by simpa using hb
      rw [z] at hn
      exact ra.trk.2 hn
theorem Same.under {H H' : Hp} {q : Addr} {o : HO} (s : Same H H') : Same (upd H q o) (upd H' q o) := fun b u hb => by
  by_cases e : b = q
  · rw [e, upd_same] at hb ⊢
    exact hb
  · rw [upd_ne e] at hb ⊢
    exact s _ _ hb
/-! ### 5. Calls by name, short -/
section
/-- a def of the module that keeps its promise; a method; a class made -/
structure CalE (P : Program) (w : World) (K : PySem.W.Frag) (mg : Str → Option Value) (base : Heap) (CX : CXT) (k : Nat) (x : Str) (sp : Sp) : Prop where
  ex : ∃ (f : Addr) (fd : FuncData) (ps : List Str), FnOk P w K mg base CX k f fd ps sp ∧ mg x = some (.ref f) ∧ PySem.W.keepIn K (.ref f) = true ∧ Binds K fd ps []
structure MetE (P : Program) (w : World) (K : PySem.W.Frag) (mg : Str → Option Value) (base : Heap) (CX : CXT) (k : Nat) (C : Addr) (m : Str) (sp : Sp) : Prop where
  ex : ∃ (f : Addr) (fd : FuncData) (ps : List Str), Cls K C ∧ Meth K C m f ∧ FnOk P w K mg base CX k f fd ps sp ∧ Binds K fd ps []
structure MakE (P : Program) (w : World) (K : PySem.W.Frag) (mg : Str → Option Value) (base : Heap) (CX : CXT) (k : Nat) (x : Str) (C : Addr) (sp : Sp) : Prop where
  ex : ∃ (f : Addr) (fd : FuncData) (ps : List Str), PySem.W.keepIn K (.ref C) = true ∧ Mk K C f ∧ FnOk P w K mg base CX k f fd ps sp ∧ mg x = some (.ref C) ∧ Binds K fd ps []
/-- the first argument stands plain and none behind it is starred; the name is an ordinary one -/
structure Plain1 (X : Cx) (e : Expr) (es : List Expr) (pos : Pos) : Prop where
  st : starEach (e :: es) X.env = (false, eval e X.env) :: starEach es X.env
  nn : (backTo pos (starEach es X.env)).any (·.1) = false
abbrev Nd (x : Str) : Prop := (x == ("__debug__" : Str)) = false
/-- how a method's call is read -/
abbrev MRead (X : Cx) (pl : Sem Bool) (o : Expr) (m : Str) (apos : Pos) (es : List Expr) (pos : Pos) : Prop := eval (.Call (.Attribute o m apos) es [] pos) X.env =
  (do let ov ← eval o X.env; standAt apos.atName; let (f, first) ← holding [ov] (getMethod ov m pl); callWith pos f first (backTo pos (starEach es X.env)) (backToKw pos (keywordEach [] X.env)))
variable {X : Cx} {CX : CXT} {k j : Nat} {C : Addr} {x m : Str} {sp : Sp} {E : XK} {p pos apos : Pos} {e o : Expr} {es : List Expr} {ta : TE} {t : TA}
theorem pe_cE (c : CalE X.prog X.w X.K X.mg X.base CX k x sp) (hr : Room j X.A) (hk : k ≤ j) (hg : Gl X x) (hx : Passes CX X E) (ha : PA X (e :: es) t) (n : Nd x := by decide) (l : Plain1 X e es pos := by exact ⟨rfl, rfl⟩) :
    PE X (.Call (.Name x p) (e :: es) [] pos) (tCall sp [] E t) := by
  obtain ⟨f, fd, ps, F, hm, kp, b⟩ := c.ex
  exact pe_call F (hr.mono hk) hg hm kp b .nil hx ha n l.st l.nn
theorem pe_cS {E : L2.St → XK} (c : CalE X.prog X.w X.K X.mg X.base CX k x sp) (hr : Room j X.A) (hk : k ≤ j) (hg : Gl X x) (hx : ∀ σ, PassesAt CX X σ (E σ)) (ha : PA X (e :: es) t) (n : Nd x := by decide) (l : Plain1 X e es pos := by exact ⟨rfl, rfl⟩) : PE X (.Call (.Name x p) (e :: es) [] pos) (tCallS sp E t) := by
  obtain ⟨f, fd, ps, F, hm, kp, b⟩ := c.ex
  exact pe_callS F (hr.mono hk) hg hm kp b hx ha n l.st l.nn
theorem pe_mkE (c : MakE X.prog X.w X.K X.mg X.base CX k x C sp) (hr : Room j X.A) (hk : k + 1 ≤ j) (hg : Gl X x) (hx : Passes CX X E) (ha : PA X (e :: es) t) (n : Nd x := by decide) (l : Plain1 X e es pos := by exact ⟨rfl, rfl⟩) :
    PE X (.Call (.Name x p) (e :: es) [] pos) (tMake C sp [] E t) := by
  obtain ⟨f, fd, ps, _, M, F, hm, b⟩ := c.ex
  exact pe_make M F (hr.mono hk) hg hm b .nil hx ha n l.st l.nn
theorem pe_mkE0 (c : MakE X.prog X.w X.K X.mg X.base CX k x C sp) (hr : Room j X.A) (hk : k + 1 ≤ j) (hg : Gl X x) (hx : Passes CX X E) (n : Nd x := by decide) : PE X (.Call (.Name x p) [] [] pos) (tMake C sp [] E tNil) := by
  obtain ⟨f, fd, ps, _, M, F, hm, b⟩ := c.ex
  exact pe_make0 M F (hr.mono hk) hg hm b .nil hx n
theorem pe_mtE {pl : Sem Bool} (c : MetE X.prog X.w X.K X.mg X.base CX k C m sp) (hr : Room j X.A) (hk : k ≤ j) (hx : Passes CX X E) (he : PE X o ta) (ha : PA X (e :: es) t) (l : Plain1 X e es pos := by exact ⟨rfl, rfl⟩) (r : MRead X pl o m apos (e :: es) pos := by rfl) :
    PE X (.Call (.Attribute o m apos) (e :: es) [] pos) (tMeth C m sp [] E ta t) := by
  obtain ⟨f, fd, ps, hc, hm, F, b⟩ := c.ex
  exact pe_meth (pl := pl) he hc hm F (hr.mono hk) b .nil hx ha l.st l.nn r
theorem pe_mtE0 {pl : Sem Bool} (c : MetE X.prog X.w X.K X.mg X.base CX k C m sp) (hr : Room j X.A) (hk : k ≤ j) (hx : Passes CX X E) (he : PE X o ta) (r : MRead X pl o m apos [] pos := by rfl) : PE X (.Call (.Attribute o m apos) [] [] pos) (tMeth C m sp [] E ta tNil) := by
  obtain ⟨f, fd, ps, hc, hm, F, b⟩ := c.ex
  exact pe_meth0 (pl := pl) he hc hm F (hr.mono hk) b .nil hx r
end
/-- an if whose test is known -/
theorem if_true_of {c : Bool} {A B : Prop} (hc : c = true) (h : A) : if c = true then A else B := by
  rw [if_pos hc]
  exact h
theorem if_false_of {c : Bool} {A B : Prop} (hc : c = false) (h : B) : if c = true then A else B := by
  rw [hc, if_neg Bool.false_ne_true]
  exact h
theorem ifq {c : Bool} {Q : V → Hp → Prop} {a b : V} {H : Hp} (h : Q (if c = true then a else b) H) : if c = true then Q a H else Q b H := by
  cases c with
  | true => exact h
  | false => exact h
/-- by either way -/
theorem if_both {c : Bool} {A B : Prop} (h1 : c = true → A) (h2 : c = false → B) : if c = true then A else B := by
  cases c with
  | true => exact if_true_of rfl (h1 rfl)
  | false => exact if_false_of rfl (h2 rfl)
theorem inV_int : ∀ (l : List Int) (z : Int), inV (.int z) (zs l) = l.contains z
  | [], _ => rfl
  | a :: l, z => by
    have ih := inV_int l z
    unfold inV at ih ⊢
    show (eqV (.int a) (.int z) || (zs l).any fun y => eqV y (.int z)) = _
    rw [ih, List.contains_cons]
    show (a == z || _) = (z == a || _)
    congr 1
    rw [Bool.eq_iff_iff, beq_iff_eq, (beq_iff_eq)]
    exact eq_comm
theorem flat_zs : ∀ l : List Int, (zs l).all flatV = true
  | [] => rfl
  | a :: l => flat_zs l
theorem zs_len (l : List Int) : (zs l).length = l.length := List.length_map ..
theorem zs_get {l : List Int} {i : Nat} {y : V} (h : (zs l)[i]? = some y) : ∃ z, l[i]? = some z ∧ y = V.int z := by
  rw [List.getElem?_map] at h
  cases e : l[i]? with
  | none =>
    rw [e] at h
    cases h
  | some z =>
    rw [e] at h
    exact ⟨z, rfl, (Option.some.inj h).symm⟩
theorem zs_snoc (l : List Int) (z : Int) : zs l ++ [V.int z] = zs (l ++ [z]) := by
  unfold zs
  rw [List.map_append]
  rfl
theorem take_snoc {α : Type} : ∀ {l : List α} {i : Nat} {x : α}, l[i]? = some x → l.take (i + 1) = l.take i ++ [x]
  | [], i, x, h => by simp at h
  | a :: l, 0, x, h => by
    have e : a = x := Option.some.inj h
    subst e
    rfl
  | a :: l, i + 1, x, h => by
    have ih := take_snoc (l := l) (i := i) (x := x) h
    show a :: l.take (i + 1) = a :: l.take i ++ [x]
    rw [ih]
    rfl
theorem take_filter_pos {l : List Int} {p : Int → Bool} {i : Nat} {z : Int} (h : l[i]? = some z) (c : p z = true) : (l.take (i + 1)).filter p = (l.take i).filter p ++ [z] := by
  rw [take_snoc h, List.filter_append, List.filter_cons, if_pos c]
  rfl
theorem take_filter_neg {l : List Int} {p : Int → Bool} {i : Nat} {z : Int} (h : l[i]? = some z) (c : p z = false) : (l.take (i + 1)).filter p = (l.take i).filter p := by
  rw [take_snoc h, List.filter_append, List.filter_cons, if_neg (by rw [c]; decide)]
  exact List.append_nil _
theorem filt_len (l : List Int) (i : Nat) (p : Int → Bool) : (zs ((l.take i).filter p)).length ≤ l.length := by
  rw [zs_len]
  exact Nat.le_trans (List.length_filter_le _ _) (by rw [List.length_take]; omega)
theorem Same.mut {H H' : Hp} {a : Addr} {o : HO} (k : Same H H') (h : H a = none) : Same H (L2.upd H' a o) := Same.new k h
theorem eqv_all : ∀ l m : List Int, PyData.eqvAll (l.map PyData.int) (m.map PyData.int) = decide (l = m)
  | [], [] => by simp [PyData.eqvAll]
  | [], _ :: _ => by simp [PyData.eqvAll]
  | _ :: _, [] => by simp [PyData.eqvAll]
  | a :: l, b :: m => by
    have ih := eqv_all l m
    rw [List.map_cons, List.map_cons, PyData.eqvAll, ih, PyData.eqv]
    by_cases h1 : a = b <;> by_cases h2 : l = m <;> simp [h1, h2]
theorem eqv_ints (l m : List Int) : PyData.eqv (PyData.list (l.map PyData.int)) (PyData.list (m.map PyData.int)) = decide (l = m) := by
  rw [PyData.eqv]
  exact eqv_all l m
theorem eqv_nil (l : List Int) : PyData.eqv (PyData.list (l.map PyData.int)) (PyData.list []) = decide (l = []) := eqv_ints l []
theorem can_ints : ∀ l : List Int, PyData.canLayAll0 (l.map PyData.int) = true
  | [] => by simp [List.map_nil, PyData.canLayAll0]
  | a :: l => by
    rw [List.map_cons, PyData.canLayAll0, can_ints l, PyData.canLay0]
    rfl
theorem dep_ints : ∀ l : List Int, PyData.depthAll (l.map PyData.int) = 0
  | [] => by simp [List.map_nil, PyData.depthAll]
  | a :: l => by
    rw [List.map_cons, PyData.depthAll, dep_ints l, PyData.depth]
    rfl
theorem shaped_ints (l : List Int) : SeqAt.shaped (PyData.list (l.map PyData.int)) = true := by
  unfold SeqAt.shaped
  rw [PyData.canLay0, PyData.depth, can_ints, dep_ints]
  rfl
theorem beq_eq_true {i j : Int} : ((i == j) = true) = (i = j) := by simp
theorem beq_eq_false {i j : Int} : ((i == j) = false) = (¬ i = j) := by simp
theorem rg_full (game : Int) : rgV 1 (1 + (if decide (V.int game = V.int 8) = true then 15 else 9)) = zs (fullT game) := by
  unfold fullT rgV zs
  rw [dec_int, List.map_map]
  by_cases c : game = 8
  · rw [if_pos (by simp [c]), if_pos c]
    rfl
  · rw [if_neg (by simp [c]), if_neg c]
    rfl
theorem full_up (game : Int) : (fullT game).Pairwise (· < ·) := by
  unfold fullT
  by_cases c : game = 8
  · rw [if_pos c]
    decide
  · rw [if_neg c]
    decide
theorem full_rng (game : Int) : ∀ b ∈ fullT game, 1 ≤ b ∧ b ≤ 15 := by
  unfold fullT
  by_cases c : game = 8
  · rw [if_pos c]
    decide
  · rw [if_neg c]
    decide
theorem mem_ins {b z : Int} {l : List Int} (nb : b ∉ l) : z ∈ ins b l ↔ z = b ∨ z ∈ l := by
  unfold ins
  rw [List.mem_append, List.mem_cons, List.mem_filter, List.mem_filter, decide_eq_true_eq, decide_eq_true_eq]
  constructor
  · rintro (h | h | h)
    · exact Or.inr h.1
    · exact Or.inl h
    · exact Or.inr h.1
  · rintro (h | h)
    · exact Or.inr (Or.inl h)
    · by_cases c : z < b
      · exact Or.inl ⟨h, c⟩
      · have : z ≠ b := fun e => nb (e ▸ h)
        exact Or.inr (Or.inr ⟨h, by omega⟩)
theorem ins_up {b : Int} {l : List Int} (h : l.Pairwise (· < ·)) : (ins b l).Pairwise (· < ·) := by
  unfold ins
  rw [List.pairwise_append, List.pairwise_cons]
  refine ⟨h.filter _, ⟨fun a ha => ?_, h.filter _⟩, fun a ha c hc => ?_⟩
  · exact of_decide_eq_true (List.mem_filter.mp ha).2
  · have h1 := of_decide_eq_true (List.mem_filter.mp ha).2
    rcases (List.mem_cons.mp hc) with e | hc
    · rw [e]
      exact h1
    · have h2 := of_decide_eq_true (List.mem_filter.mp hc).2
      omega
theorem ins_perm {b : Int} {l : List Int} (nb : b ∉ l) (h : l.Pairwise (· < ·)) : (ins b l).Perm (l ++ [b]) := by
  rw [List.perm_ext_iff_of_nodup]
  · intro z
    rw [mem_ins nb, List.mem_append, List.mem_singleton]
    exact or_comm
  · exact (ins_up h).imp fun z => by omega
  · rw [List.nodup_append]
    refine ⟨h.imp fun z => by omega, List.nodup_cons.mpr ⟨by simp, List.nodup_nil⟩, ?_⟩
    intro a ha c hc e
    have hc2 : c = b := by simpa using hc
    exact nb (hc2 ▸ e ▸ ha)
theorem ins_sorted {b : Int} {l l' : List Int} (h : l.Pairwise (· < ·)) (nb : b ∉ l) (h1 : l'.Perm (l ++ [b])) (h2 : l'.Pairwise (· ≤ ·)) : l' = ins b l :=
  List.Perm.eq_of_pairwise (fun x y _ _ p q => Int.le_antisymm p q) h2 ((ins_up h).imp fun z => by omega) (h1.trans (ins_perm nb h).symm)
theorem ROk.ins {m : R} {b : Int} (ok : ROk m) (hb : 1 ≤ b ∧ b ≤ 15) (nb : b ∉ m.table) : ROk { m with table := Pr.ins b m.table } :=
  ⟨ins_up ok.up, fun z hz => ((mem_ins nb).mp hz).elim (fun e => e ▸ hb) (ok.rng z), ok.t0, ok.t1, ok.b0, ok.b1⟩
theorem beq_dec (i j : Int) : (i == j) = decide (i = j) := by
  rw [Bool.eq_iff_iff, beq_iff_eq, (decide_eq_true_eq)]
theorem cut_one (l : List Int) : cutV (zs l) none (some 1) = zs (l.take 1) := by
  cases l with
  | nil => rfl
  | cons a l =>
    unfold cutV
    have e : HT.sIx (zs (a :: l)).length 0 none = 0 := rfl
    rw [e]
    have e2 : HT.sIx (zs (a :: l)).length (zs (a :: l)).length (some 1) = 1 := by
      unfold HT.sIx
      rw [zs_len, List.length_cons]
      simp
    rw [e2]
    rfl
theorem back_turn (m : R) (l : List Int) : (((m.pot l).comeBack 8).withPhase 2).turn = m.turn := by
  unfold R.comeBack R.withPhase
  dsimp only
  split <;> rfl
theorem back_same_turn (m : R) (b : Int) : (m.comeBack b).turn = m.turn := by
  unfold R.comeBack
  split <;> rfl
theorem back_same_fa (m : R) (b : Int) : (m.comeBack b).fa = m.fa := by
  unfold R.comeBack
  split <;> rfl
theorem back_same_fb (m : R) (b : Int) : (m.comeBack b).fb = m.fb := by
  unfold R.comeBack
  split <;> rfl
theorem fou_at {a b t : Int} (h0 : 0 ≤ t) (h1 : t ≤ 1) : atI [V.int a, V.int b] t = some (V.int (if t = 0 then a else b)) := by
  have h : t = 0 ∨ t = 1 := by omega
  rcases h with rfl | rfl
  · rfl
  · rfl
theorem fou_ix {a b : V} {t : Int} (h0 : 0 ≤ t) (h1 : t ≤ 1) : ixN [a, b].length t = some t.toNat := by
  have h : t = 0 ∨ t = 1 := by omega
  rcases h with rfl | rfl
  · rfl
  · rfl
theorem setF_at (m : R) (t v : Int) : (if t = 0 then (m.setF t v).fa else (m.setF t v).fb) = v := by
  unfold R.setF
  by_cases c : t = 0
  · rw [if_pos c, if_pos c]
  · rw [if_neg c, if_neg c]
theorem RkAt.setF {A : Ad} {H : Hp} {r pf : Addr} {m : R} {t v : Int} (K : RkAt A H r pf m) (h0 : 0 ≤ t) (h1 : t ≤ 1) : RkAt A (upd H pf (.lst ([V.int m.fa, V.int m.fb].set t.toNat (.int v)))) r pf (m.setF t v) := by
  obtain ⟨⟨dx, pt, hr, ht, n⟩, hf, ok⟩ := K
  have h : t = 0 ∨ t = 1 := by omega
  rcases h with rfl | rfl
  · refine ⟨⟨dx, pt, ?_, ?_, n⟩, upd_same, ⟨ok.up, ok.rng, ok.t0, ok.t1, ok.b0, ok.b1⟩⟩
    · rw [upd_ne (ne_of hr hf ins_lst)]
      exact hr
    · rw [upd_ne n]
      exact ht
  · refine ⟨⟨dx, pt, ?_, ?_, n⟩, upd_same, ⟨ok.up, ok.rng, ok.t0, ok.t1, ok.b0, ok.b1⟩⟩
    · rw [upd_ne (ne_of hr hf ins_lst)]
      exact hr
    · rw [upd_ne n]
      exact ht
theorem addWon_F (g : G) (side : Int) (pw r : Addr) : raF (g.addWon side) pw r = raF g pw r := by
  unfold G.addWon
  split <;> rfl
theorem addWon_rack (g : G) (side : Int) : (g.addWon side).rack = g.rack := by
  unfold G.addWon
  split <;> rfl
theorem addWon_set (g : G) {side : Int} (h0 : 0 ≤ side) (h1 : side ≤ 1) : [V.int g.wa, V.int g.wb].set side.toNat (.int ((if side = 0 then g.wa else g.wb) + 1)) = [V.int (g.addWon side).wa, V.int (g.addWon side).wb] := by
  have h : side = 0 ∨ side = 1 := by omega
  rcases h with rfl | rfl
  · rfl
  · rfl
theorem in89 (z : Int) : inV (V.int z) [V.int 8, V.int 9] = (decide (z = 8) || decide (z = 9)) := by
  show inV (V.int z) (zs [8, 9]) = _
  rw [inV_int, Bool.eq_iff_iff, List.contains_iff_mem, Bool.or_eq_true, decide_eq_true_eq, decide_eq_true_eq]
  simp
theorem bits_two {t w : Int} (h : bits [t, w] = true) : 0 ≤ w ∧ w ≤ 1 := by
  unfold bits at h
  simp only [List.all_cons, List.all_nil, Bool.and_eq_true, decide_eq_true_eq] at h
  exact ⟨h.2.1.1, h.2.1.2⟩
def mx3 (a b c : Int) : Int := if (if a < b then b else a) < c then c else (if a < b then b else a)
def mn3 (a b c : Int) : Int := if c < (if b < a then b else a) then c else (if b < a then b else a)
theorem nu_max3 (a b c : Int) : nuMax3 (.int a) (.int b) (.int c) = some (.int (mx3 a b c)) := by
  unfold nuMax3 mx3
  have e : nuMax2 (.int a) (.int b) = some (.int (if a < b then b else a)) := by
    show some (if decide (a < b) = true then V.int b else V.int a) = _
    by_cases h : a < b
    · rw [(if_pos (by simpa using h)), if_pos h]
    · rw [(if_neg (by simpa using h)), if_neg h]
  rw [e]
  show some (if decide ((if a < b then b else a) < c) = true then V.int c else V.int (if a < b then b else a)) = _
  by_cases h : (if a < b then b else a) < c
  · rw [(if_pos (by simpa using h)), if_pos h]
  · rw [(if_neg (by simpa using h)), if_neg h]
theorem nu_min3 (a b c : Int) : nuMin3 (.int a) (.int b) (.int c) = some (.int (mn3 a b c)) := by
  unfold nuMin3 mn3
  have e : nuMin2 (.int a) (.int b) = some (.int (if b < a then b else a)) := by
    show some (if decide (b < a) = true then V.int b else V.int a) = _
    by_cases h : b < a
    · rw [(if_pos (by simpa using h)), if_pos h]
    · rw [(if_neg (by simpa using h)), if_neg h]
  rw [e]
  show some (if decide (c < (if b < a then b else a)) = true then V.int c else V.int (if b < a then b else a)) = _
  by_cases h : c < (if b < a then b else a)
  · rw [(if_pos (by simpa using h)), if_pos h]
  · rw [(if_neg (by simpa using h)), if_neg h]
theorem mx3_le (a b c : Int) : decide (mx3 a b c ≤ 15) = (decide (a ≤ 15) && (decide (b ≤ 15) && decide (c ≤ 15))) := by
  rw [Bool.eq_iff_iff]
  simp only [decide_eq_true_eq, Bool.and_eq_true]
  unfold mx3
  constructor
  · intro h
    refine ⟨?_, ?_, ?_⟩ <;> (split at h <;> split at h <;> omega)
  · intro h
    split <;> split <;> omega
theorem mn3_ge (a b c : Int) : decide (0 ≤ mn3 a b c) = (decide (0 ≤ a) && (decide (0 ≤ b) && decide (0 ≤ c))) := by
  rw [Bool.eq_iff_iff]
  simp only [decide_eq_true_eq, Bool.and_eq_true]
  unfold mn3
  constructor
  · intro h
    refine ⟨?_, ?_, ?_⟩ <;> (split at h <;> split at h <;> omega)
  · intro h
    split <;> split <;> omega
theorem tail3 {z d a pw r pf : Addr} (h : z ∈ [r, pf]) : z ∈ [d, a, pw, r, pf] := List.mem_cons_of_mem _ (List.mem_cons_of_mem _ (List.mem_cons_of_mem _ h))
theorem right_len {m : R} (ok : ROk m) : m.right.length ≤ 15 := by
  have h := ok.len
  unfold R.right
  split
  · unfold R.right8
    split
    · exact h
    · split
      · show 1 ≤ 15
        decide
      · unfold R.some8
        split
        · exact Nat.le_trans (List.length_filter_le _ _) h
        · exact Nat.le_trans (List.length_filter_le _ _) h
  · rw [List.length_take]
    omega
theorem stands_len (g : G) : g.stands.length ≤ 6 := by
  unfold G.stands
  split
  · show 2 ≤ 6
    decide
  · show 6 ≤ 6
    decide
theorem shotRef_some {x : Option G} {f c o b p : Int} {l : List Int} (h : shotRef x f c o b p l = none) : ∃ g, x = some g ∧ g.over = false := by
  unfold shotRef at h
  by_cases hf : fits f c o b p l = false
  · rw [if_pos hf] at h
    cases h
  · rw [if_neg hf] at h
    cases x with
    | none => cases h
    | some g =>
      refine ⟨g, rfl, ?_⟩
      dsimp only at h
      cases e : g.over with
      | false => rfl
      | true =>
        rw [e, if_pos rfl] at h
        cases h
theorem shot_win {m : R} {game : Int} {x : S} {w : Int} (ok : ROk m) (h : (m.shot game x).2 = some w) : 0 ≤ w ∧ w ≤ 1 := by
  have h0 := ok.t0
  have h1 := ok.t1
  unfold R.shot at h
  by_cases hg : game = 8
  · rw [if_pos hg] at h
    unfold R.eight at h
    by_cases hp : m.phase = 0
    · rw [if_pos hp] at h
      cases h
    · rw [if_neg hp] at h
      unfold R.playShot at h
      by_cases c8 : x.potted.contains 8 = true
      · rw [if_pos c8] at h
        have e : m.winner8 x (m.plainFoul x) = w := Option.some.inj h
        unfold R.winner8 at e
        split at e <;> omega
      · rw [if_neg c8] at h
        split at h <;> cases h
  · rw [if_neg hg] at h
    unfold R.nine at h
    by_cases f9 : m.foul9 x = true
    · rw [if_pos f9] at h
      unfold R.foulWin at h
      by_cases c : ((m.pot x.potted).withPhase m.behind).fouls ((m.pot x.potted).withPhase m.behind).turn + 1 = 3
      · dsimp only at h
        rw [if_pos c] at h
        have e : (1 : Int) - m.turn = w := Option.some.inj h
        omega
      · dsimp only at h
        rw [if_neg c] at h
        cases h
    · rw [if_neg f9] at h
      by_cases pu : x.push = true
      · rw [if_pos pu] at h
        cases h
      · rw [if_neg pu] at h
        unfold R.good at h
        by_cases c9 : x.potted.contains 9 = true
        · rw [if_pos c9] at h
          have e : m.turn = w := Option.some.inj h
          omega
        · rw [if_neg c9] at h
          cases h
/-- lists of whole numbers as data -/
theorem dp_ints {K : PySem.W.Frag} {H : Hp} : ∀ l : List Int, DpAll K H (zs l) (l.map PyData.int)
  | [] => .nil
  | a :: l => .cons (.int a) (dp_ints l)
end Pr
namespace Pr
open PySem PySem.Spec PyProof.Rows L2
/-! ### 6. What the top has written -/
def topS (i : Nat) : Stmt := PySem.Challenge.pw_poolreferee_s01_answers.main.body.getD i (.Pass ⟨0, 0, 0, 0⟩)
def Con0 (mg : Str → Option Value) (x : Str) (v : V) : Prop := ∃ u, mg x = some u ∧ RelV v u
def NumsAt (K : PySem.W.Frag) (mg : Str → Option Value) : Prop := ∃ a : Addr, mg "NUMBERS" = some (.ref a) ∧ ∀ H : Hp, SqT K H a (zs [0, 4, 5, 1, 0, 0, 0])
structure Txt (K : PySem.W.Frag) (mg : Str → Option Value) (A : Ad) : Prop where
  clS : Cls K A.cS
  clR : Cls K A.cR
  clA : Cls K A.cA
  clD : Cls K A.cD
  nS_first : NoAttr K A.cS "first"
  nS_cushions : NoAttr K A.cS "cushions"
  nS_is_lost : NoAttr K A.cS "is_lost"
  nS_called : NoAttr K A.cS "called"
  nS_is_push : NoAttr K A.cS "is_push"
  nS_potted : NoAttr K A.cS "potted"
  nR_game : NoAttr K A.cR "game"
  nR_table : NoAttr K A.cR "table"
  nR_turn : NoAttr K A.cR "turn"
  nR_phase : NoAttr K A.cR "phase"
  nR_in_hand : NoAttr K A.cR "in_hand"
  nR_first_group : NoAttr K A.cR "first_group"
  nR_fouls : NoAttr K A.cR "fouls"
  nR_breaker : NoAttr K A.cR "breaker"
  nR_is_of_push : NoAttr K A.cR "is_of_push"
  nA_game : NoAttr K A.cA "game"
  nA_racks : NoAttr K A.cA "racks"
  nA_by_turns : NoAttr K A.cA "by_turns"
  nA_won : NoAttr K A.cA "won"
  nA_rack : NoAttr K A.cA "rack"
  nD_race : NoAttr K A.cD "race"
  c_BAD : Con0 mg "BAD" (.int (-1))
  c_BEHIND : Con0 mg "BEHIND" (.int (1))
  c_BREAK : Con0 mg "BREAK" (.int (0))
  c_CHOICE : Con0 mg "CHOICE" (.int (3))
  c_EIGHT : Con0 mg "EIGHT" (.int (8))
  c_EIGHT_BALL : Con0 mg "EIGHT_BALL" (.int (8))
  c_ENOUGH_CUSHIONS : Con0 mg "ENOUGH_CUSHIONS" (.int (4))
  c_HIGH : Con0 mg "HIGH" (.int (2))
  c_LOW : Con0 mg "LOW" (.int (1))
  c_MOST_BALL : Con0 mg "MOST_BALL" (.int (15))
  c_MOST_FOULS : Con0 mg "MOST_FOULS" (.int (3))
  c_MOST_RACKS : Con0 mg "MOST_RACKS" (.int (30))
  c_NINE : Con0 mg "NINE" (.int (9))
  c_NINE_BALL : Con0 mg "NINE_BALL" (.int (9))
  c_NOT_LET : Con0 mg "NOT_LET" (.int (-5))
  c_NOT_NOW : Con0 mg "NOT_NOW" (.int (-3))
  c_NOT_THERE : Con0 mg "NOT_THERE" (.int (-4))
  c_NO_GROUP : Con0 mg "NO_GROUP" (.int (0))
  c_NO_RACE : Con0 mg "NO_RACE" (.int (-2))
  c_PLAY : Con0 mg "PLAY" (.int (2))
  c_SHOT : Con0 mg "SHOT" (.int (2))
  nums : NumsAt K mg
  b_len : mg "len" = none
  b_max : mg "max" = none
  b_min : mg "min" = none
  b_all : mg "all" = none
  b_sorted : mg "sorted" = none
  b_int : mg "int" = none
  b_list : mg "list" = none
  b_range : mg "range" = none
  b_set : mg "set" = none
  b_ValueError : mg "ValueError" = none
  gF : mg "Refused" = some (.ref A.cF)
  oeF : OexC K A.cF
  xfF : XfC K A.cF
  noRef : PySem.W.findIn K (.ref A.cF) "refusal" = some none
  exF : PySem.W.exmOne K (.ref A.cF) (.ref A.cF) = some true
  vV : PySem.W.findCls K (.type "ValueError") (.type "type") "__init__" = some (.val (.builtin "ValueError.__init__"))
theorem pe_gcE {X : Cx} {x : Str} {v : V} {pos : Pos} (hg : Gl X x) (h : Con0 X.mg x v) (hd : (x == ("__debug__" : Str)) = false := by decide) : PE X (.Name x pos) (tC v) := by
  obtain ⟨u, hm, r⟩ := h
  exact pe_glob hg hm r hd
theorem op_inK {X : Cx} {K : PySem.W.Frag} (h : X.K = K) : OpR X (compareOp .In) (rIn K false) := by
  subst h
  exact op_in_seq
theorem op_notInK {X : Cx} {K : PySem.W.Frag} (h : X.K = K) : OpR X (compareOp .NotIn) (rIn K true) := by
  subst h
  exact op_notIn_seq
theorem pe_fldK {X : Cx} {K : PySem.W.Frag} {e : Expr} {f : Str} {pos : Pos} {ta : TE} (h : X.K = K) (he : PE X e ta) (hb : attributeBase e f X.env (eval e X.env) = eval e X.env) : PE X (.Attribute e f pos) (tFld K ta f) := by
  subst h
  exact pe_fld he hb
/-! len(set(xs)), doubles and all -/
theorem firstMet_full (f : Nat → Int) : ∀ i, (PyProof.Rows.firstMet f i).length = i → PyProof.Rows.firstMet f i = (List.range i).map f ∧ ((List.range i).map f).Nodup
  | 0, _ => ⟨rfl, List.nodup_nil⟩
  | i + 1, h => by
    rw [PyProof.Rows.firstMet_succ] at h ⊢
    have hl := PyProof.Rows.firstMet_length_le f i
    unfold PyProof.Rows.step_dedup at h ⊢
    cases c : (PyProof.Rows.firstMet f i).any (· == f i) with
    | true =>
      rw [c, if_pos rfl] at h
      omega
    | false =>
      rw [c, if_neg (by decide), List.length_append, List.length_singleton] at h
      have ih := firstMet_full f i (by omega)
      rw [if_neg (by decide), List.range_succ, List.map_append, ← ih.1]
      refine ⟨rfl, ?_⟩
      rw [List.nodup_append]
      refine ⟨ih.1 ▸ ih.2, List.nodup_cons.mpr ⟨by simp, List.nodup_nil⟩, ?_⟩
      intro a ha b hb e
      have hb2 : b = f i := by simpa using hb
      have : (PyProof.Rows.firstMet f i).any (· == f i) = true := List.any_eq_true.mpr ⟨a, ha, by rw [e, hb2]; simp⟩
      rw [c] at this
      cases this
theorem range_getD : ∀ l : List Int, (List.range l.length).map (fun i => l.getD i 0) = l := fun l => by
  apply List.ext_getElem
  · rw [List.length_map]
    exact List.length_range
  · intro i h1 h2
    rw [List.getElem_map, List.getElem_range]
    rw [List.getD_eq_getElem?_getD, List.getElem?_eq_getElem h2]
    rfl
def setLen (l : List Int) : Nat := (PyProof.Rows.firstMet (fun i => l.getD i 0) l.length).length
theorem setLen_iff (l : List Int) : setLen l = l.length ↔ l.Nodup := by
  unfold setLen
  constructor
  · intro h
    have q := (firstMet_full (fun i => l.getD i 0) l.length h).2
    rw [range_getD] at q
    exact q
  · intro h
    rw [RZ.firstMet_nodup h l.length (Nat.le_refl _), List.take_length]
def tLenSetD (K : PySem.W.Frag) (ta : TE) : TE := fun σ H Q => ta σ H fun x H1 => ∃ (l : Addr) (ns : List Int), x = .ref l ∧ SqL K H1 l (zs ns) ∧ ns.length ≤ 4000 ∧ Q (.int (setLen ns : Nat)) H1
/-- len(set(xs)) of whole numbers: how many there are, doubles once -/
theorem pe_lenSetD {X : Cx} {a : Expr} {ta : TE} {p p2 q pos : Pos} (hg : Gl X "len") (hm : X.mg "len" = none) (hg2 : Gl X "set") (hm2 : X.mg "set" = none) (ha : PE X a ta) (hc : X.calm = true := by rfl)
    (na : starEach [a] X.env = (false, eval a X.env) :: starEach [] X.env := by rfl) : PE X (.Call (.Name "len" p) [.Call (.Name "set" p2) [a] [] q] [] pos) (tLenSetD X.K ta) := by
  constructor
  intro pins s σ H Q I h
  have inner := ha.run pins s σ H _ I h
  refine Call_ (ld_blt I hg hm boot_len (callWith_builtin1 (args_cons (Call_ (ld_blt I hg2 hm2 boot_set (callWith_type1 (args_cons (thn inner fun v s1 z => args_nil ?_) na) na rfl))) rfl) rfl rfl))
  obtain ⟨_, H1, I1, rel, l, ns, rfl, sq, most, fin⟩ := z
  cases rel
  obtain ⟨us, vals, isL, _⟩ := I1.list sq
  have size : us.toArray.size = ns.length := by
    have := vals.length
    simp only [List.length_map] at this
    simp [this]
  have few := PyProof.Rows.firstMet_length_le (fun i => ns.getD i 0) ns.length
  refine call_set_list (I1.ok.hd hc) isL.isList (by simpa using RZ.intsAre_vals vals) (by rw [size]; unfold scanBound; omega) fun h' tk made kp => args_nil ?_
  rw [size] at made
  obtain ⟨o, es, ep, t, at1, ex1, dat, _, _, _, fnd, num⟩ := made
  have I2 : Inv X pins σ H1 { s1 with heap := h', toks := tk } := I1.kept (fun b o there => kp b o (Heap.lt_size there) there)
  have answer : RelV (.int (setLen ns : Nat)) (.int (es.size : Nat) (tk + 1)) := ⟨_, by rw [num] <;> rfl⟩
  exact call_len_set at1 ex1 dat fnd (by rw [num] <;> omega) ⟨_, H1, I2.tok _, answer, fin⟩

/-! ### 7. The promises -/
/-- a call of the desk -/
inductive Cl where
  | beg (k n t w : Int)
  | sho (f c o b p : Int) (l : List Int)
  | cho (n : Int)
  | onn
  | now
  | tbn
def Cl.num : Cl → Int
  | .beg .. => 1
  | .sho .. => 2
  | .cho _ => 3
  | .onn => 4
  | .now => 5
  | .tbn => 6
def Cl.ns : Cl → List Int
  | .beg k n t w => [k, n, t, w]
  | .sho f c o b p _ => [f, c, o, b, p]
  | .cho n => [n]
  | _ => []
def Cl.row : Cl → List Int
  | .sho _ _ _ _ _ l => l
  | _ => []
def Cl.raw : Cl → List (List Int)
  | .beg k n t w => [[1, k, n, t, w]]
  | .sho f c o b p l => [[2, f, c, o, b, p], l]
  | .cho n => [[3, n]]
  | .onn => [[4]]
  | .now => [[5]]
  | .tbn => [[6]]
def shotX (x : Option G) (f c o b p : Int) (l : List Int) : Option G := x.map fun g => (g.shot ⟨f, c, decide (o = 1), b, decide (p = 1), l⟩).1
def shotO (x : Option G) (f c o b p : Int) (l : List Int) : List Int := match x with
  | none => []
  | some g => (g.shot ⟨f, c, decide (o = 1), b, decide (p = 1), l⟩).2
def choX (x : Option G) (n : Int) : Option G := x.map fun g => (g.choose n).1
def choO (x : Option G) (n : Int) : List Int := match x with
  | none => []
  | some g => (g.choose n).2
def goRef (x : Option G) : Option Int := if going x = true then none else some (-2)
def begRef (k n t w : Int) : Option Int := if beginRef k n t w = true then some (-1) else none
def Cl.ref (x : Option G) : Cl → Option Int
  | .beg k n t w => begRef k n t w
  | .sho f c o b p l => shotRef x f c o b p l
  | .cho n => chooseRef x n
  | .onn => goRef x
  | .now => none
  | .tbn => goRef x
def Cl.nxt (x : Option G) : Cl → Option G
  | .beg k n t w => some (G.begin0 k n t w)
  | .sho f c o b p l => shotX x f c o b p l
  | .cho n => choX x n
  | _ => x
def Cl.out (x : Option G) : Cl → List Int
  | .beg _ _ _ _ => [0]
  | .sho f c o b p l => shotO x f c o b p l
  | .cho n => choO x n
  | .onn => onM x
  | .now => nowOf x
  | .tbn => tableM x
theorem step_cl (x : Option G) (c : Cl) : stepM x c.raw = match c.ref x with
    | some e => (x, [e])
    | none => (c.nxt x, c.out x) := by
  cases c with
  | beg k n t w =>
    show beginM x k n t w = _
    unfold beginM Cl.ref begRef Cl.nxt Cl.out
    dsimp only
    by_cases h : beginRef k n t w = true
    · rw [if_pos h, if_pos h]
    · rw [if_neg h, if_neg h]
  | sho f c o b p l =>
    show shotM x f c o b p l = _
    unfold shotM Cl.ref Cl.nxt Cl.out shotX shotO
    dsimp only
    cases shotRef x f c o b p l with
    | some e => rfl
    | none => cases x <;> rfl
  | cho n =>
    show chooseM x n = _
    unfold chooseM Cl.ref Cl.nxt Cl.out choX choO
    dsimp only
    cases chooseRef x n with
    | some e => rfl
    | none => cases x <;> rfl
  | onn =>
    show (x, onM x) = _
    unfold Cl.ref goRef Cl.nxt Cl.out onM
    cases x with
    | none => rfl
    | some g =>
      by_cases h : g.over = true
      · have hg : ¬ going (some g) = true := by
          show ¬ (!g.over) = true
          rw [h]
          decide
        dsimp only
        rw [if_pos h, if_neg hg]
      · have h2 : g.over = false := by simpa using h
        have hg : going (some g) = true := by
          show (!g.over) = true
          rw [h2]
          rfl
        dsimp only
        rw [if_neg h, if_pos hg]
  | now => rfl
  | tbn =>
    show (x, tableM x) = _
    unfold Cl.ref goRef Cl.nxt Cl.out tableM
    cases x with
    | none => rfl
    | some g =>
      by_cases h : g.over = true
      · have hg : ¬ going (some g) = true := by
          show ¬ (!g.over) = true
          rw [h]
          decide
        dsimp only
        rw [if_pos h, if_neg hg]
      · have h2 : g.over = false := by simpa using h
        have hg : going (some g) = true := by
          show (!g.over) = true
          rw [h2]
          rfl
        dsimp only
        rw [if_neg h, if_pos hg]
def ov : Option Int → V
  | none => .non
  | some w => .int w
def sp_shI (A : Ad) : Sp := fun vs H Q _ => ∃ (p dx : Addr) (x : S) (pp : Addr), vs = [.ref p, .int x.first, .int x.cushions, .bl x.lost, .int x.called, .bl x.push, .ref pp] ∧ H p = some (.ins A.cS dx []) ∧
  ∀ H', H' p = some (.ins A.cS dx (shF x pp)) → Kept [p] H H' → Q .non H'
def sp_weak (A : Ad) : Sp := fun vs H Q _ => ∃ (s : Addr) (T : List Addr) (x : S), vs = [.ref s] ∧ ShAt A H T s x ∧ ∀ H', Same H H' → Q (.bl x.weak) H'
def sp_gof (A : Ad) : Sp := fun vs H Q _ => ∃ b : Int, vs = [.int b] ∧ Q (.int (groupOf b)) H
def sp_rkI (A : Ad) : Sp := fun vs H Q _ => ∃ (p dx : Addr) (game br : Int), vs = [.ref p, .int game, .int br] ∧ H p = some (.ins A.cR dx []) ∧ (0 ≤ br ∧ br ≤ 1) ∧
  ∀ H' pf, RkAt A H' p pf (R.new game br) → H pf = none → Kept [p] H H' → Q .non H'
def sp_gfor (A : Ad) : Sp := fun vs H Q _ => ∃ (r pf : Addr) (m : R) (side : Int), vs = [.ref r, .int side] ∧ RkAt A H r pf m ∧ Q (.int (m.groupFor side)) H
def sp_tkg (A : Ad) : Sp := fun vs H Q _ => ∃ (r pf : Addr) (m : R) (side g : Int), vs = [.ref r, .int side, .int g] ∧ RkAt A H r pf m ∧ ∀ H', RkAt A H' r pf (m.takeGroup side g) → Kept [r, pf] H H' → Q .non H'
def sp_pot (A : Ad) : Sp := fun vs H Q _ => ∃ (r pf : Addr) (m : R) (pp : Addr) (l : List Int), vs = [.ref r, .ref pp] ∧ RkAt A H r pf m ∧ H pp = some (.lst (zs l)) ∧ ∀ H', RkAt A H' r pf (m.pot l) → Kept [r, pf] H H' → Q .non H'
def sp_cmb (A : Ad) : Sp := fun vs H Q _ => ∃ (r pf : Addr) (m : R) (b : Int), vs = [.ref r, .int b] ∧ RkAt A H r pf m ∧ (1 ≤ b ∧ b ≤ 15) ∧ ∀ H', RkAt A H' r pf (m.comeBack b) → Kept [r, pf] H H' → Q .non H'
def sp_pby (A : Ad) : Sp := fun vs H Q _ => ∃ (r pf : Addr) (m : R) (side : Int) (hand : Bool), vs = [.ref r, .int side, .bl hand] ∧ RkAt A H r pf m ∧ (0 ≤ side ∧ side ≤ 1) ∧ ∀ H', RkAt A H' r pf (m.playBy side hand) → Kept [r, pf] H H' → Q .non H'
def sp_cby (A : Ad) : Sp := fun vs H Q _ => ∃ (r pf : Addr) (m : R) (side : Int) (pu : Bool), vs = [.ref r, .int side, .bl pu] ∧ RkAt A H r pf m ∧ (0 ≤ side ∧ side ≤ 1) ∧ ∀ H', RkAt A H' r pf (m.chooseBy side pu) → Kept [r, pf] H H' → Q .non H'
def sp_iso (A : Ad) : Sp := fun vs H Q _ => ∃ (r pf : Addr) (m : R), vs = [.ref r] ∧ RkAt A H r pf m ∧ Q (.bl m.isOpen) H
def sp_r8 (A : Ad) : Sp := fun vs H Q _ => ∃ (r pf : Addr) (m : R), vs = [.ref r] ∧ RkAt A H r pf m ∧ ∀ H' p, Same H H' → H' p = some (.lst (zs m.right8)) → Q (.ref p) H'
def sp_rb (A : Ad) : Sp := fun vs H Q _ => ∃ (r pf : Addr) (m : R), vs = [.ref r] ∧ RkAt A H r pf m ∧ ∀ H' p, Same H H' → H' p = some (.lst (zs m.right)) → Q (.ref p) H'
def sp_ipf (A : Ad) : Sp := fun vs H Q _ => ∃ (r pf : Addr) (m : R) (s : Addr) (T : List Addr) (x : S), vs = [.ref r, .ref s] ∧ RkAt A H r pf m ∧ ShAt A H T s x ∧ ∀ H', Same H H' → Q (.bl (m.plainFoul x)) H'
def sp_brk (A : Ad) : Sp := fun vs H Q _ => ∃ (r pf : Addr) (m : R) (s : Addr) (x : S), vs = [.ref r, .ref s] ∧ RkAt A H r pf m ∧ ShAt A H [r, pf] s x ∧
  ∀ H' p, RkAt A H' r pf (m.breakShot x) → Kept [r, pf] H H' → H' p = some (.tup [.bl (m.plainFoul x), .non]) → Q (.ref p) H'
def sp_w8 (A : Ad) : Sp := fun vs H Q _ => ∃ (r pf : Addr) (m : R) (s : Addr) (T : List Addr) (x : S) (f : Bool), vs = [.ref r, .ref s, .bl f] ∧ RkAt A H r pf m ∧ ShAt A H T s x ∧ ∀ H', Same H H' → Q (.int (m.winner8 x f)) H'
def sp_gon (A : Ad) : Sp := fun vs H Q _ => ∃ (r pf : Addr) (m : R) (s : Addr) (x : S), vs = [.ref r, .ref s] ∧ RkAt A H r pf m ∧ ShAt A H [r, pf] s x ∧ ∀ H', RkAt A H' r pf (m.goOn x) → Kept [r, pf] H H' → Q .non H'
def sp_pls (A : Ad) : Sp := fun vs H Q _ => ∃ (r pf : Addr) (m : R) (s : Addr) (x : S), vs = [.ref r, .ref s] ∧ RkAt A H r pf m ∧ ShAt A H [r, pf] s x ∧
  ∀ H' p, RkAt A H' r pf (m.playShot x).1 → Kept [r, pf] H H' → H' p = some (.tup [.bl (m.plainFoul x), ov (m.playShot x).2]) → Q (.ref p) H'
def sp_e8 (A : Ad) : Sp := fun vs H Q _ => ∃ (r pf : Addr) (m : R) (s : Addr) (x : S), vs = [.ref r, .ref s] ∧ RkAt A H r pf m ∧ ShAt A H [r, pf] s x ∧
  ∀ H' p, RkAt A H' r pf (m.eight x).1 → Kept [r, pf] H H' → H' p = some (.tup [.bl (m.plainFoul x), ov (m.eight x).2]) → Q (.ref p) H'
def sp_f9 (A : Ad) : Sp := fun vs H Q _ => ∃ (r pf : Addr) (m : R) (s : Addr) (T : List Addr) (x : S), vs = [.ref r, .ref s] ∧ RkAt A H r pf m ∧ ShAt A H T s x ∧ ∀ H', Same H H' → Q (.bl (m.foul9 x)) H'
def sp_phb (A : Ad) : Sp := fun vs H Q _ => ∃ (r pf : Addr) (m : R), vs = [.ref r] ∧ RkAt A H r pf m ∧ Q (.int m.behind) H
def sp_fou (A : Ad) : Sp := fun vs H Q _ => ∃ (r pf : Addr) (m : R), vs = [.ref r] ∧ RkAt A H r pf m ∧ ∀ H', RkAt A H' r pf m.fouled → Kept [r, pf] H H' → Q (ov m.foulWin) H'
def sp_psh (A : Ad) : Sp := fun vs H Q _ => ∃ (r pf : Addr) (m : R), vs = [.ref r] ∧ RkAt A H r pf m ∧ ∀ H', RkAt A H' r pf m.pushed → Kept [r, pf] H H' → Q .non H'
def sp_goo (A : Ad) : Sp := fun vs H Q _ => ∃ (r pf : Addr) (m : R) (s : Addr) (x : S), vs = [.ref r, .ref s] ∧ RkAt A H r pf m ∧ ShAt A H [r, pf] s x ∧ ∀ H', RkAt A H' r pf (m.good x).1 → Kept [r, pf] H H' → Q (ov (m.good x).2) H'
def sp_n9 (A : Ad) : Sp := fun vs H Q _ => ∃ (r pf : Addr) (m : R) (s : Addr) (x : S), vs = [.ref r, .ref s] ∧ RkAt A H r pf m ∧ ShAt A H [r, pf] s x ∧
  ∀ H' p, RkAt A H' r pf (m.nine x).1 → Kept [r, pf] H H' → H' p = some (.tup [.bl (m.foul9 x), ov (m.nine x).2]) → Q (.ref p) H'
def sp_rfI (A : Ad) : Sp := fun vs H Q _ => ∃ (a : Addr) (k : Int), vs = [.ref a, .int k] ∧ H a = some (exo a A.cF none) ∧
  ∀ d, H d = none → d ≠ a → Q .non (upd (upd H d (exd d [(("refusal" : Str), V.int k)])) a (exo a A.cF (some d)))
def sp_wan (A : Ad) : Sp := fun vs H Q E => ∃ (b : Bool) (k : Int), vs = [.bl b, .int k] ∧ (b = true → Q .non H) ∧ (b = false → Ref A H k E)
def sp_bit (A : Ad) : Sp := fun vs H Q _ => ∃ (p : Addr) (l : List Int), vs = [.ref p] ∧ H p = some (.lst (zs l)) ∧ l.length ≤ 16 ∧ ∀ H', Same H H' → Q (.bl (bits l)) H'
def sp_raI (A : Ad) : Sp := fun vs H Q _ => ∃ (p dx : Addr) (game racks : Int) (turns : Bool) (br : Int), vs = [.ref p, .int game, .int racks, .bl turns, .int br] ∧ H p = some (.ins A.cA dx []) ∧ (0 ≤ br ∧ br ≤ 1) ∧
  ∀ H' pw r pf, RaAt A H' p pw r pf ⟨game, racks, turns, 0, 0, R.new game br⟩ → Kept [p] H H' → H pw = none → H r = none → H pf = none → Q .non H'
def sp_ovr (A : Ad) : Sp := fun vs H Q _ => ∃ (a pw r : Addr) (g : G), vs = [.ref a] ∧ (∃ dx, H a = some (.ins A.cA dx (raF g pw r))) ∧ H pw = some (.lst [.int g.wa, .int g.wb]) ∧ Q (.bl g.over) H
def sp_rwn (A : Ad) : Sp := fun vs H Q _ => ∃ (a pw r pf : Addr) (g : G) (side : Int), vs = [.ref a, .int side] ∧ RaAt A H a pw r pf g ∧ RkAt A H r pf g.rack ∧ (0 ≤ side ∧ side ≤ 1) ∧
  ∀ H' r' pf', RaAt A H' a pw r' pf' (g.rackWon side) → Kept [a, pw] H H' → ((r' = r ∧ pf' = pf) ∨ (H r' = none ∧ H pf' = none)) → Q .non H'
def sp_sta (A : Ad) : Sp := fun vs H Q _ => ∃ (a pw r pf : Addr) (g : G), vs = [.ref a] ∧ RaAt A H a pw r pf g ∧ ∀ H' p, Same H H' → H p = none → H' p = some (.lst (zs g.stands)) → Q (.ref p) H'
def sp_dkI (A : Ad) : Sp := fun vs H Q _ => ∃ (p dx : Addr), vs = [.ref p] ∧ H p = some (.ins A.cD dx []) ∧ ∀ H', H' p = some (.ins A.cD dx (dkF .non)) → Kept [p] H H' → Q .non H'
def sp_beg (A : Ad) : Sp := fun vs H Q E => ∃ (d : Addr) (fp : List Addr) (x : Option G) (k n t w : Int), vs = [.ref d, .int k, .int n, .int t, .int w] ∧ DkAt A H d fp x ∧ After A H d fp (begRef k n t w) (some (G.begin0 k n t w)) [0] Q E
def sp_goi (A : Ad) : Sp := fun vs H Q E => ∃ (d : Addr) (fp : List Addr) (x : Option G), vs = [.ref d] ∧ DkAt A H d fp x ∧ (going x = false → Ref A H (-2) E) ∧
  ∀ g a pw r pf, x = some g → g.over = false → fp = [d, a, pw, r, pf] → RaAt A H a pw r pf g → Q (.ref r) H
def sp_wsh (A : Ad) : Sp := fun vs H Q E => ∃ (d : Addr) (fp : List Addr) (x : Option G) (pn pp : Addr) (f c o b p : Int) (l : List Int), vs = [.ref d, .ref pn, .ref pp] ∧ DkAt A H d fp x ∧ H pn = some (.lst (zs [f, c, o, b, p])) ∧ H pp = some (.lst (zs l)) ∧ l.length ≤ 16 ∧
  (∀ k, shotRef x f c o b p l = some k → Ref A H k E) ∧ (shotRef x f c o b p l = none → ∀ H', Same H H' → Q .non H')
def sp_sho (A : Ad) : Sp := fun vs H Q E => ∃ (d : Addr) (fp : List Addr) (x : Option G) (pn pp : Addr) (f c o b p : Int) (l : List Int), vs = [.ref d, .ref pn, .ref pp] ∧ DkAt A H d fp x ∧ H pn = some (.lst (zs [f, c, o, b, p])) ∧ H pp = some (.lst (zs l)) ∧ l.length ≤ 16 ∧ pp ∉ fp ∧
  After A H d fp (shotRef x f c o b p l) (shotX x f c o b p l) (shotO x f c o b p l) Q E
def sp_cho (A : Ad) : Sp := fun vs H Q E => ∃ (d : Addr) (fp : List Addr) (x : Option G) (n : Int), vs = [.ref d, .int n] ∧ DkAt A H d fp x ∧ After A H d fp (chooseRef x n) (choX x n) (choO x n) Q E
def sp_onn (A : Ad) : Sp := fun vs H Q E => ∃ (d : Addr) (fp : List Addr) (x : Option G), vs = [.ref d] ∧ DkAt A H d fp x ∧ After A H d fp (goRef x) x (onM x) Q E
def sp_now (A : Ad) : Sp := fun vs H Q E => ∃ (d : Addr) (fp : List Addr) (x : Option G), vs = [.ref d] ∧ DkAt A H d fp x ∧ After A H d fp none x (nowOf x) Q E
def sp_tbn (A : Ad) : Sp := fun vs H Q E => ∃ (d : Addr) (fp : List Addr) (x : Option G), vs = [.ref d] ∧ DkAt A H d fp x ∧ After A H d fp (goRef x) x (tableM x) Q E
def sp_cal (A : Ad) : Sp := fun vs H Q E => ∃ (d : Addr) (fp : List Addr) (x : Option G) (c : Cl) (pn pp : Addr), vs = [.ref d, .int c.num, .ref pn, .ref pp] ∧ DkAt A H d fp x ∧ H pn = some (.lst (zs c.ns)) ∧ H pp = some (.lst (zs c.row)) ∧ c.row.length ≤ 16 ∧ pp ∉ fp ∧
  After A H d fp (c.ref x) (c.nxt x) (c.out x) Q E
def sp_an1 (A : Ad) : Sp := fun vs H Q _ => ∃ (d : Addr) (fp : List Addr) (x : Option G) (c : Cl) (pn pp : Addr), vs = [.ref d, .int c.num, .ref pn, .ref pp] ∧ DkAt A H d fp x ∧ H pn = some (.lst (zs c.ns)) ∧ H pp = some (.lst (zs c.row)) ∧ c.row.length ≤ 16 ∧ pp ∉ fp ∧
  ∀ (H' : Hp) (fp' : List Addr) (p : Addr), DkAt A H' d fp' (stepM x c.raw).1 → Kept fp H H' → (∀ b ∈ fp', b ∈ fp ∨ H b = none) → (p ∉ fp → H p = none) → H' p = some (.lst (zs (stepM x c.raw).2)) → Q (.ref p) H'
def sp_ans (K : PySem.W.Frag) : Sp := fun vs H Q _ => ∃ (a : Addr) (l : List Int), vs = [.ref a] ∧ SqL K H a (zs l) ∧ l.length ≤ 5800 ∧ PyKg78.answers_asked l = true ∧ ∀ H' p, H' p = some (.lst (zs (PyKg78.answers l))) → Q (.ref p) H'
/-- the error's class, made by its own __init__ -/
structure RfE (P : Program) (w : World) (K : PySem.W.Frag) (mg : Str → Option Value) (base : Heap) (k : Nat) (sp : Sp) (A : Ad) : Prop where
  ex : ∃ (fI : Addr) (fd : FuncData) (ps : List Str), FnOk P w K mg base CX0 k fI fd ps sp ∧ Binds K fd ps [] ∧ PySem.W.findIn K (.ref A.cF) "__init__" = some (some (.ref fI)) ∧ PySem.W.typeIn K (.ref fI) = some (.type "function")
theorem pmk_oexE {X : Cx} {k j : Nat} {x : Str} {A : Ad} {sp : Sp} {p pos : Pos} {e : Expr} {es : List Expr} {ta : TA} (c : RfE X.prog X.w X.K X.mg X.base k sp A) (hr : Room j X.A) (hk : k + 1 ≤ j) (T : OexC X.K A.cF) (hm : X.mg x = some (.ref A.cF)) (hg : Gl X x) (ha : PA X (e :: es) ta)
    (n : Nd x := by decide) (l : Plain1 X e es pos := by exact ⟨rfl, rfl⟩) : PMk X (.Call (.Name x p) (e :: es) [] pos) (tMkO A.cF sp [] ta) := by
  obtain ⟨fI, fd, ps, F, b, iC, tI⟩ := c.ex
  exact pmk_oex T iC tI F (hr.mono hk) b .nil pass0 hg hm ha n l.st l.nn
end Pr
namespace Pr
open PySem PySem.Spec PyProof.Rows L2
/-! ### 8. The calls in one list -/
def Cl.isSho : Cl → Bool
  | .sho .. => true
  | _ => false
/-- how many numbers a call takes in the list -/
def Cl.size (c : Cl) : Nat := 1 + c.ns.length + (if c.isSho = true then 1 + c.row.length else 0)
theorem Cl.size_pos (c : Cl) : 0 < c.size := by
  unfold Cl.size
  omega
/-- the call stands in the list at i -/
structure Here (l : List Int) (i : Nat) (c : Cl) : Prop where
  num : l[i]? = some c.num
  ns : (l.drop (i + 1)).take c.ns.length = c.ns
  cnt : c.isSho = true → l[i + 6]? = some (c.row.length : Int)
  row : c.isSho = true → (l.drop (i + 7)).take c.row.length = c.row
  le : i + c.size ≤ l.length
theorem take_all {α : Type} {n : Nat} {r : List α} (h : ¬ r.length < n) : (r.take n).length = n := by
  rw [List.length_take]
  omega
theorem whole_id (c : List (List Int)) : PyKg78.whole c = c := by
  unfold PyKg78.whole
  split <;> rfl
theorem whole_map (cs : List (List (List Int))) : cs.map PyKg78.whole = cs := by
  induction cs with
  | nil => rfl
  | cons c r ih => rw [List.map_cons, whole_id, ih]
theorem five {l : List Int} (h : l.length = 5) : ∃ a b c d e, l = [a, b, c, d, e] := by
  match l, h with
  | [a, b, c, d, e], _ => exact ⟨a, b, c, d, e, rfl⟩
theorem four {l : List Int} (h : l.length = 4) : ∃ a b c d, l = [a, b, c, d] := by
  match l, h with
  | [a, b, c, d], _ => exact ⟨a, b, c, d, rfl⟩
theorem one {l : List Int} (h : l.length = 1) : ∃ a, l = [a] := by
  match l, h with
  | [a], _ => exact ⟨a, rfl⟩
/-- one call, read -/
theorem call_read {p : Int} {r t : List Int} {c0 : List (List Int)} (h : PyFlat.call PyKg78.shape (p :: r) = some (c0, t)) :
    ∃ c : Cl, c0 = c.raw ∧ p = c.num ∧ r.take c.ns.length = c.ns ∧ c.ns.length ≤ r.length ∧ (c.isSho = false → t = r.drop c.ns.length) ∧
      (c.isSho = true → r[5]? = some (c.row.length : Int) ∧ (r.drop 6).take c.row.length = c.row ∧ 6 + c.row.length ≤ r.length ∧ t = r.drop (6 + c.row.length)) := by
  unfold PyFlat.call at h
  dsimp only at h
  unfold PyKg78.shape at h
  by_cases p1 : p = 1
  · rw [if_pos p1] at h
    dsimp only at h
    by_cases hl : r.length < 4
    · rw [if_pos hl] at h
      cases h
    · rw [if_neg hl] at h
      obtain ⟨e1, e2⟩ := Prod.mk.inj (Option.some.inj h)
      obtain ⟨a, b, c, d, e4⟩ := four (take_all hl)
      refine ⟨.beg a b c d, ?_, p1, e4, by show 4 ≤ r.length; omega, fun _ => e2.symm, fun z => (nomatch z)⟩
      rw [← e1, e4, p1]
      rfl
  rw [if_neg p1] at h
  by_cases p2 : p = 2
  · rw [if_pos p2] at h
    dsimp only at h
    by_cases hl : r.length < 5
    · rw [if_pos hl] at h
      cases h
    · rw [if_neg hl] at h
      obtain ⟨a, b, c, d, e, e5⟩ := five (take_all hl)
      cases hr : r.drop 5 with
      | nil =>
        rw [hr] at h
        cases h
      | cons n rest =>
        rw [hr] at h
        unfold PyFlat.rows PyFlat.row at h
        dsimp only at h
        by_cases hn : 0 ≤ n ∧ n.toNat ≤ rest.length
        · rw [if_pos hn] at h
          dsimp only at h
          unfold PyFlat.rows at h
          dsimp only at h
          obtain ⟨e1, e2⟩ := Prod.mk.inj (Option.some.inj h)
          have lr : (rest.take n.toNat).length = n.toNat := by
            rw [List.length_take]
            omega
          have d6 : r.drop 6 = rest := by
            have : r.drop (5 + 1) = (r.drop 5).drop 1 := by rw [List.drop_drop]
            rw [this, hr]
            rfl
          have l5 : r.length = 5 + (rest.length + 1) := by
            have := congrArg List.length hr
            rw [List.length_drop, List.length_cons] at this
            omega
          refine ⟨.sho a b c d e (rest.take n.toNat), ?_, p2, e5, by show 5 ≤ r.length; omega, fun z => (nomatch z), fun _ => ⟨?_, ?_, ?_, ?_⟩⟩
          · rw [← e1, e5, p2]
            rfl
          · have g : r[5]? = (r.drop 5)[0]? := by rw [List.getElem?_drop]
            rw [g, hr]
            show some n = some ((rest.take n.toNat).length : Int)
            rw [lr]
            congr 1
            omega
          · show (r.drop 6).take (rest.take n.toNat).length = rest.take n.toNat
            rw [d6, lr]
          · show 6 + (rest.take n.toNat).length ≤ r.length
            rw [lr]
            omega
          · show t = r.drop (6 + (rest.take n.toNat).length)
            rw [lr, ← List.drop_drop, d6]
            exact e2.symm
        · rw [if_neg hn] at h
          cases h
  rw [if_neg p2] at h
  by_cases p3 : p = 3
  · rw [if_pos p3] at h
    dsimp only at h
    by_cases hl : r.length < 1
    · rw [if_pos hl] at h
      cases h
    · rw [if_neg hl] at h
      obtain ⟨e1, e2⟩ := Prod.mk.inj (Option.some.inj h)
      obtain ⟨a, e4⟩ := one (take_all hl)
      refine ⟨.cho a, ?_, p3, e4, by show 1 ≤ r.length; omega, fun _ => e2.symm, fun z => (nomatch z)⟩
      rw [← e1, e4, p3]
      rfl
  rw [if_neg p3] at h
  by_cases p4 : p = 4
  · rw [if_pos p4] at h
    dsimp only at h
    rw [if_neg (by omega)] at h
    obtain ⟨e1, e2⟩ := Prod.mk.inj (Option.some.inj h)
    refine ⟨.onn, ?_, p4, rfl, Nat.zero_le _, fun _ => e2.symm, fun z => (nomatch z)⟩
    rw [← e1, p4]
    rfl
  rw [if_neg p4] at h
  by_cases p5 : p = 5
  · rw [if_pos p5] at h
    dsimp only at h
    rw [if_neg (by omega)] at h
    obtain ⟨e1, e2⟩ := Prod.mk.inj (Option.some.inj h)
    refine ⟨.now, ?_, p5, rfl, Nat.zero_le _, fun _ => e2.symm, fun z => (nomatch z)⟩
    rw [← e1, p5]
    rfl
  rw [if_neg p5] at h
  by_cases p6 : p = 6
  · rw [if_pos p6] at h
    dsimp only at h
    rw [if_neg (by omega)] at h
    obtain ⟨e1, e2⟩ := Prod.mk.inj (Option.some.inj h)
    refine ⟨.tbn, ?_, p6, rfl, Nat.zero_le _, fun _ => e2.symm, fun z => (nomatch z)⟩
    rw [← e1, p6]
    rfl
  rw [if_neg p6] at h
  cases h
/-- the first call of the rest -/
theorem calls_read {l : List Int} {i f : Nat} {cs : List (List (List Int))} (hi : i < l.length) (h : PyFlat.calls PyKg78.shape f (l.drop i) = some cs) :
    ∃ (c : Cl) (cs' : List (List (List Int))) (f' : Nat), cs = c.raw :: cs' ∧ Here l i c ∧ PyFlat.calls PyKg78.shape f' (l.drop (i + c.size)) = some cs' := by
  cases hd : l.drop i with
  | nil =>
    have := congrArg List.length hd
    rw [List.length_drop, List.length_nil] at this
    omega
  | cons p r =>
    rw [hd] at h
    cases f with
    | zero => cases h
    | succ f =>
      unfold PyFlat.calls at h
      cases hc : PyFlat.call PyKg78.shape (p :: r) with
      | none =>
        rw [hc] at h
        cases h
      | some ct =>
        obtain ⟨c0, t⟩ := ct
        rw [hc] at h
        dsimp only at h
        cases ht : PyFlat.calls PyKg78.shape f t with
        | none =>
          rw [ht] at h
          cases h
        | some cs' =>
          rw [ht] at h
          have ecs : c0 :: cs' = cs := Option.some.inj h
          obtain ⟨c, e0, ep, ens, ele, et, es⟩ := call_read hc
          have dr : l.drop (i + 1) = r := by
            rw [← List.drop_drop, hd]
            rfl
          have gi : l[i]? = some p := by
            have : (l.drop i)[0]? = l[i + 0]? := List.getElem?_drop
            rw [hd] at this
            exact this.symm
          have ll : l.length = i + (r.length + 1) := by
            have := congrArg List.length hd
            rw [List.length_drop, List.length_cons] at this
            omega
          refine ⟨c, cs', f, by rw [← ecs, e0], ⟨by rw [gi, ep], by rw [dr]; exact ens, fun z => ?_, fun z => ?_, ?_⟩, ?_⟩
          · obtain ⟨e1, _⟩ := es z
            have : (l.drop (i + 1))[5]? = l[i + 1 + 5]? := List.getElem?_drop
            rw [dr, e1] at this
            exact this.symm
          · obtain ⟨_, e2, _⟩ := es z
            have : l.drop (i + 7) = r.drop 6 := by
              rw [← dr, List.drop_drop]
            rw [this]
            exact e2
          · unfold Cl.size
            cases z : c.isSho with
            | false =>
              rw [if_neg (by decide)]
              omega
            | true =>
              obtain ⟨_, _, e3, _⟩ := es z
              rw [if_pos rfl]
              have n5 : c.ns.length = 5 := by
                cases c <;> first | rfl | cases z
              omega
          · have et2 : l.drop (i + c.size) = t := by
              unfold Cl.size
              cases z : c.isSho with
              | false =>
                rw [if_neg (by decide), et z, ← dr, List.drop_drop]
                congr 1
                omega
              | true =>
                obtain ⟨_, _, _, e4⟩ := es z
                have n5 : c.ns.length = 5 := by
                  cases c <;> first | rfl | cases z
                rw [if_pos rfl, e4, ← dr, List.drop_drop]
                congr 1
                omega
            rw [et2]
            exact ht
theorem calls_end {f : Nat} {cs : List (List (List Int))} (h : PyFlat.calls PyKg78.shape f [] = some cs) : cs = [] := by
  cases f with
  | zero => exact (Option.some.inj h).symm
  | succ f => exact (Option.some.inj h).symm
/-- what was asked of the list -/
theorem asked_read {l : List Int} (h : PyKg78.answers_asked l = true) : ∃ raw, PyFlat.calls PyKg78.shape l.length l = some raw ∧ (∀ c ∈ raw, Kg78Neutral.asked1 c = true) ∧ PyKg78.answers l = PyFlat.told (playM none raw) ∧ (PyKg78.answers l).length ≤ 10000000 := by
  unfold PyKg78.answers_asked at h
  cases e : PyFlat.calls PyKg78.shape l.length l with
  | none =>
    rw [e] at h
    cases h
  | some raw =>
    rw [e] at h
    rw [Bool.and_eq_true, Bool.and_eq_true, Bool.and_eq_true, Bool.and_eq_true] at h
    obtain ⟨⟨⟨⟨h1, h2⟩, h3⟩, h4⟩, h5⟩ := h
    rw [whole_map] at h4
    unfold Kg78Neutral.asked at h4
    rw [Bool.and_eq_true] at h4
    have ha : ∀ c ∈ raw, Kg78Neutral.asked1 c = true := fun c hc => List.all_eq_true.mp h4.1 c hc
    refine ⟨raw, rfl, ha, ?_, of_decide_eq_true h5⟩
    unfold PyKg78.answers PyKg78.calls
    rw [e]
    dsimp only
    rw [whole_map, play_eq raw start_ok ha]
theorem row_le {c : Cl} (h : Kg78Neutral.asked1 c.raw = true) : c.row.length ≤ 16 := by
  cases c with
  | sho f o b p q l =>
    have z : (Kg78Neutral.whole32 f && (Kg78Neutral.whole32 o && (Kg78Neutral.whole32 b && (Kg78Neutral.whole32 p && (Kg78Neutral.whole32 q && Kg78Neutral.row l 16))))) = true := h
    simp only [Bool.and_eq_true] at z
    obtain ⟨_, _, _, _, _, z6⟩ := z
    unfold Kg78Neutral.row at z6
    rw [Bool.and_eq_true] at z6
    exact of_decide_eq_true z6.2
  | _ => exact Nat.zero_le _
theorem told_cons (a : List Int) (r : List (List Int)) : PyFlat.told (a :: r) = (a.length : Int) :: (a ++ PyFlat.told r) := by
  unfold PyFlat.told
  rw [List.flatMap_cons]
  rfl
theorem cut_mid {l : List Int} {lo hi : Nat} (h1 : lo ≤ hi) (h2 : hi ≤ l.length) {a b : Int} (ea : a = (lo : Int)) (eb : b = (hi : Int)) : cutV (zs l) (some a) (some b) = zs ((l.drop lo).take (hi - lo)) := by
  subst ea eb
  unfold cutV
  rw [HT.sIx_nat, HT.sIx_nat, zs_len, Nat.min_eq_left (show lo ≤ l.length by omega), Nat.min_eq_left h2]
  unfold zs
  rw [← List.map_drop, ← List.map_take]
theorem at_nat {l : List Int} {i : Nat} {a z : Int} (h : l[i]? = some z) (ea : a = (i : Int)) : atI (zs l) a = some (V.int z) := by
  subst ea
  refine atI_nat ?_
  rw [List.getElem?_map, h]
  rfl
theorem num_at (c : Cl) : atI (zs [0, 4, 5, 1, 0, 0, 0]) c.num = some (V.int (c.ns.length : Nat)) := by
  cases c <;> rfl
end Pr
namespace Pr
open PySem PySem.Spec PyProof.Rows L2
section
variable {P : Program} {w : World} {K : PySem.W.Frag} {mg : Str → Option Value} {base : Heap} {A : Ad}
/-! Shot.__init__ -/
abbrev s_shI : Stmt := inClass (topS 14) 0
theorem sc_shI : FnScope ["self", "first", "cushions", "is_lost", "called", "is_push", "potted"] ["self", "first", "cushions", "is_lost", "called", "is_push", "potted"] (defScope s_shI) := ⟨rfl, rfl, rfl, by decide +kernel, rfl, by decide +kernel, by decide +kernel⟩
set_option maxHeartbeats 8000000 in
theorem ok_shI {f : Addr} {fd : FuncData} (F : Fun K "__init__" "Shot.__init__" s_shI f fd) (T : Txt K mg A) : FnOk P w K mg base CX0 1 f fd ["self", "first", "cushions", "is_lost", "called", "is_push", "potted"] (sp_shI A) := by
  refine F.ok sc_shI (fun vs H Q E h => ?_) (fun cdv A0 outer s H vs Q E hRm h => ?_)
  · obtain ⟨_, _, _, _, rfl, _⟩ := h
    rfl
  · obtain ⟨p, dx, x, pp, rfl, hp, k⟩ := h
    refine ⟨_, (pss_cons (ps_fld (pv 0) (pv 1) rfl)
        (pss_cons (ps_fld (pv 0) (pv 2) rfl)
        (pss_cons (ps_fld (pv 0) (pv 3) rfl)
        (pss_cons (ps_fld (pv 0) (pv 4) rfl)
        (pss_cons (ps_fld (pv 0) (pv 5) rfl)
        (pss_one (ps_fld (pv 0) (pv 6) rfl))))))), ?_⟩
    refine ⟨_, rfl, _, rfl, _, _, _, _, rfl, hp, T.clS, T.nS_first, (by show 0 < 1000; decide), ?_⟩
    refine ⟨_, rfl, _, rfl, _, _, _, _, rfl, upd_same, T.clS, T.nS_cushions, (by show 1 < 1000; decide), ?_⟩
    refine ⟨_, rfl, _, rfl, _, _, _, _, rfl, upd_same, T.clS, T.nS_is_lost, (by show 2 < 1000; decide), ?_⟩
    refine ⟨_, rfl, _, rfl, _, _, _, _, rfl, upd_same, T.clS, T.nS_called, (by show 3 < 1000; decide), ?_⟩
    refine ⟨_, rfl, _, rfl, _, _, _, _, rfl, upd_same, T.clS, T.nS_is_push, (by show 4 < 1000; decide), ?_⟩
    refine ⟨_, rfl, _, rfl, _, _, _, _, rfl, upd_same, T.clS, T.nS_potted, (by show 5 < 1000; decide), ?_⟩
    exact k _ (upd_same.trans (congrArg (fun q => some (HO.ins A.cS dx q)) (sh_build x pp))) (((((((Kept.refl _ _).upd List.mem_cons_self).upd List.mem_cons_self).upd List.mem_cons_self).upd List.mem_cons_self).upd List.mem_cons_self).upd List.mem_cons_self)
end
end Pr
namespace Pr
open PySem PySem.Spec PyProof.Rows L2
section
variable {P : Program} {w : World} {K : PySem.W.Frag} {mg : Str → Option Value} {base : Heap} {A : Ad}
/-! Shot.is_weak -/
abbrev s_weak : Stmt := inClass (topS 14) 1
theorem sc_weak : FnScope ["self"] ["self"] (defScope s_weak) := ⟨rfl, rfl, rfl, by decide +kernel, rfl, by decide +kernel, by decide +kernel⟩
set_option maxHeartbeats 8000000 in
theorem ok_weak {f : Addr} {fd : FuncData} (F : Fun K "is_weak" "Shot.is_weak" s_weak f fd) (T : Txt K mg A) : FnOk P w K mg base CX0 1 f fd ["self"] (sp_weak A) := by
  refine F.ok sc_weak (fun vs H Q E h => ?_) (fun cdv A0 outer s H vs Q E hRm h => ?_)
  · obtain ⟨_, _, _, rfl, _⟩ := h
    rfl
  · obtain ⟨s0, T0, x, rfl, ⟨ns, dx, pp, npp, hs, hpp, hl⟩, k⟩ := h
    refine ⟨_, (pss_one (ps_ret (pe_and (pe_cmpR (op_eqD hRm.units) (pe_fld (pv 0) rfl) (pe_lst pa_nil) (nomark _)) (pe_one (pe_cmpR op_lt (pe_fld (pv 0) rfl) (pe_gcE rfl T.c_ENOUGH_CUSHIONS) (nomark _)))))), ?_⟩
    have e1 : PyData.eqv (PyData.list (x.potted.map PyData.int)) (PyData.list []) = decide (x.potted = []) := eqv_nil _
    refine ⟨_, rfl, _, _, _, _, _, rfl, hs, T.clS, T.nS_potted, sh_potted _ _, (by show 0 ≤ sizeLine; exact Nat.zero_le _), fun q hq => ?_⟩
    have s1 : Same H (upd H q (.lst [])) := Same.new1 hq
    refine ⟨_, _, Dp.lst (SqL.of (s1 _ _ hpp)) (dp_ints _), Dp.lst (SqL.of upd_same) .nil, shaped_ints _, rfl, _, rfl, ?_⟩
    rw [e1]
    refine if_both (fun c => ?_) (fun c => ?_)
    · refine ⟨_, rfl, _, _, _, _, _, rfl, (s1 _ _ hs), T.clS, T.nS_cushions, sh_cushions _ _, _, _, rfl, rfl, ?_⟩
      have q2 := k _ s1
      unfold S.weak at q2
      rw [c] at q2
      exact q2
    · have q2 := k _ s1
      unfold S.weak at q2
      rw [c] at q2
      exact q2
end
end Pr
namespace Pr
open PySem PySem.Spec PyProof.Rows L2
section
variable {P : Program} {w : World} {K : PySem.W.Frag} {mg : Str → Option Value} {base : Heap} {A : Ad}
/-! group_of -/
abbrev s_gof : Stmt := topS 15
theorem sc_gof : FnScope ["ball"] ["ball"] (defScope s_gof) := ⟨rfl, rfl, rfl, by decide +kernel, rfl, by decide +kernel, by decide +kernel⟩
set_option maxHeartbeats 8000000 in
theorem ok_gof {f : Addr} {fd : FuncData} (F : Fun K "group_of" "group_of" s_gof f fd) (T : Txt K mg A) : FnOk P w K mg base CX0 1 f fd ["ball"] (sp_gof A) := by
  refine F.ok sc_gof (fun vs H Q E h => ?_) (fun cdv A0 outer s H vs Q E hRm h => ?_)
  · obtain ⟨_, rfl, _⟩ := h
    rfl
  · obtain ⟨b, rfl, k⟩ := h
    refine ⟨_, (pss_cons (ps_if (pt_cmpR op_eq (pv 0) (pe_gcE rfl T.c_EIGHT) (nomark _)) (pss_one (ps_ret (pe_gcE rfl T.c_NO_GROUP))) pss_nil)
        (pss_one (ps_ret (pe_ifExp (pt_cmpR op_lt (pv 0) (pe_gcE rfl T.c_EIGHT) (nomark _)) (pe_gcE rfl T.c_LOW) (pe_gcE rfl T.c_HIGH))))), ?_⟩
    refine ⟨_, rfl, rfl, _, rfl, if_both (fun c => ?_) (fun c => ?_)⟩
    · have e : groupOf b = 0 := if_pos (V.int.inj (of_decide_eq_true c))
      rw [e] at k
      exact k
    · have n8 : ¬ b = 8 := fun z => of_decide_eq_false c (congrArg V.int z)
      refine ⟨_, rfl, _, _, rfl, rfl, _, rfl, if_both (fun c2 => ?_) (fun c2 => ?_)⟩
      · have e : groupOf b = 1 := by
          unfold groupOf
          rw [if_neg n8, if_pos (of_decide_eq_true c2)]
        rw [e] at k
        exact k
      · have e : groupOf b = 2 := by
          unfold groupOf
          rw [if_neg n8, if_neg (of_decide_eq_false c2)]
        rw [e] at k
        exact k
end
end Pr
namespace Pr
open PySem PySem.Spec PyProof.Rows L2
section
variable {P : Program} {w : World} {K : PySem.W.Frag} {mg : Str → Option Value} {base : Heap} {A : Ad}
/-! Rack.__init__ -/
abbrev s_rkI : Stmt := inClass (topS 16) 0
theorem sc_rkI : FnScope ["self", "game", "breaker"] ["self", "game", "breaker"] (defScope s_rkI) := ⟨rfl, rfl, rfl, by decide +kernel, rfl, by decide +kernel, by decide +kernel⟩
set_option maxHeartbeats 8000000 in
theorem ok_rkI {f : Addr} {fd : FuncData} (F : Fun K "__init__" "Rack.__init__" s_rkI f fd) (T : Txt K mg A) : FnOk P w K mg base CX0 1 f fd ["self", "game", "breaker"] (sp_rkI A) := by
  refine F.ok sc_rkI (fun vs H Q E h => ?_) (fun cdv A0 outer s H vs Q E hRm h => ?_)
  · obtain ⟨_, _, _, _, rfl, _⟩ := h
    rfl
  · obtain ⟨p, dx, game, br, rfl, hp, hb, k⟩ := h
    refine ⟨_, (pss_cons (ps_fld (pv 0) (pv 1) rfl)
        (pss_cons (ps_fld (pv 0) (pe_listRg rfl rfl T.b_list (prg_2 rfl T.b_range pe_int (pe_op op_add pe_int (pe_ifExp (pt_cmpR op_eq (pv 1) (pe_gcE rfl T.c_EIGHT_BALL) (nomark _)) (pe_gcE rfl T.c_MOST_BALL) (pe_gcE rfl T.c_NINE))))) rfl)
        (pss_cons (ps_fld (pv 0) (pv 2) rfl)
        (pss_cons (ps_fld (pv 0) (pe_gcE rfl T.c_BREAK) rfl)
        (pss_cons (ps_fld (pv 0) pe_bl rfl)
        (pss_cons (ps_fld (pv 0) (pe_gcE rfl T.c_NO_GROUP) rfl)
        (pss_cons (ps_fld (pv 0) (pe_lst (pa_cons pe_int (pa_cons pe_int pa_nil))) rfl)
        (pss_cons (ps_fld (pv 0) (pv 2) rfl)
        (pss_one (ps_fld (pv 0) pe_bl rfl)))))))))), ?_⟩
    by_cases cg : game = 8
    · refine ⟨_, rfl, _, rfl, _, _, _, _, rfl, hp, T.clR, T.nR_game, (by show 0 < 1000; decide), ?_⟩
      refine ⟨_, rfl, rfl, _, rfl, if_true_of (decide_eq_true (congrArg V.int cg)) ?_⟩
      refine ⟨_, _, rfl, rfl, _, _, rfl, rfl, RgOk.of_le (by decide) (by decide) (by decide) (by decide), fun pt hpt => ?_⟩
      have ept : rgV 1 (1 + 15) = zs (fullT game) := by
        unfold fullT
        rw [if_pos cg]
        rfl
      rw [ept]
      have npt : pt ≠ p := fun e => by rw [e, upd_same] at hpt; cases hpt
      have hpt0 : H pt = none := by rw [upd_ne npt] at hpt; exact hpt
      refine ⟨_, rfl, _, _, _, _, rfl, ((upd_ne (Ne.symm npt)).trans upd_same), T.clR, T.nR_table, (by show 1 < 1000; decide), ?_⟩
      refine ⟨_, rfl, _, rfl, _, _, _, _, rfl, upd_same, T.clR, T.nR_turn, (by show 2 < 1000; decide), ?_⟩
      refine ⟨_, rfl, _, _, _, _, rfl, upd_same, T.clR, T.nR_phase, (by show 3 < 1000; decide), ?_⟩
      refine ⟨_, rfl, _, _, _, _, rfl, upd_same, T.clR, T.nR_in_hand, (by show 4 < 1000; decide), ?_⟩
      refine ⟨_, rfl, _, _, _, _, rfl, upd_same, T.clR, T.nR_first_group, (by show 5 < 1000; decide), ?_⟩
      refine ⟨(by show 2 ≤ sizeLine; decide), fun pf hpf => ?_⟩
      rw [upd_upd, upd_upd, upd_upd, upd_upd] at hpf
      have npf : pf ≠ p := fun e => by rw [e, upd_same] at hpf; cases hpf
      have npf2 : pf ≠ pt := fun e => by rw [e, upd_ne npt, upd_same] at hpf; cases hpf
      have hpf0 : H pf = none := by rw [upd_ne npf, upd_ne npf2, upd_ne npf] at hpf; exact hpf
      refine ⟨_, rfl, _, _, _, _, rfl, ((upd_ne (Ne.symm npf)).trans upd_same), T.clR, T.nR_fouls, (by show 6 < 1000; decide), ?_⟩
      refine ⟨_, rfl, _, rfl, _, _, _, _, rfl, upd_same, T.clR, T.nR_breaker, (by show 7 < 1000; decide), ?_⟩
      refine ⟨_, rfl, _, _, _, _, rfl, upd_same, T.clR, T.nR_is_of_push, (by show 8 < 1000; decide), ?_⟩
      refine k _ pf ⟨⟨dx, pt, upd_same.trans (congrArg (fun q => some (HO.ins A.cR dx q)) (rk_build (R.new game br) pt pf)), ?_, Ne.symm npf2⟩, ?_, ⟨full_up game, full_rng game, hb.1, hb.2, hb.1, hb.2⟩⟩ hpf0 ?_
      · simp only [upd_ne npt, upd_ne (Ne.symm npf2)]
        exact upd_same
      · simp only [upd_ne npf]
        exact upd_same
      · have b0 : Kept [p] H H := Kept.refl _ _
        exact ((((((((((b0.upd List.mem_cons_self).new hpt0).upd List.mem_cons_self).upd List.mem_cons_self).upd List.mem_cons_self).upd List.mem_cons_self).upd List.mem_cons_self).new hpf0).upd List.mem_cons_self).upd List.mem_cons_self).upd List.mem_cons_self
    · refine ⟨_, rfl, _, rfl, _, _, _, _, rfl, hp, T.clR, T.nR_game, (by show 0 < 1000; decide), ?_⟩
      refine ⟨_, rfl, rfl, _, rfl, if_false_of (decide_eq_false fun z => cg (V.int.inj z)) ?_⟩
      refine ⟨_, _, rfl, rfl, _, _, rfl, rfl, RgOk.of_le (by decide) (by decide) (by decide) (by decide), fun pt hpt => ?_⟩
      have ept : rgV 1 (1 + 9) = zs (fullT game) := by
        unfold fullT
        rw [if_neg cg]
        rfl
      rw [ept]
      have npt : pt ≠ p := fun e => by rw [e, upd_same] at hpt; cases hpt
      have hpt0 : H pt = none := by rw [upd_ne npt] at hpt; exact hpt
      refine ⟨_, rfl, _, _, _, _, rfl, ((upd_ne (Ne.symm npt)).trans upd_same), T.clR, T.nR_table, (by show 1 < 1000; decide), ?_⟩
      refine ⟨_, rfl, _, rfl, _, _, _, _, rfl, upd_same, T.clR, T.nR_turn, (by show 2 < 1000; decide), ?_⟩
      refine ⟨_, rfl, _, _, _, _, rfl, upd_same, T.clR, T.nR_phase, (by show 3 < 1000; decide), ?_⟩
      refine ⟨_, rfl, _, _, _, _, rfl, upd_same, T.clR, T.nR_in_hand, (by show 4 < 1000; decide), ?_⟩
      refine ⟨_, rfl, _, _, _, _, rfl, upd_same, T.clR, T.nR_first_group, (by show 5 < 1000; decide), ?_⟩
      refine ⟨(by show 2 ≤ sizeLine; decide), fun pf hpf => ?_⟩
      rw [upd_upd, upd_upd, upd_upd, upd_upd] at hpf
      have npf : pf ≠ p := fun e => by rw [e, upd_same] at hpf; cases hpf
      have npf2 : pf ≠ pt := fun e => by rw [e, upd_ne npt, upd_same] at hpf; cases hpf
      have hpf0 : H pf = none := by rw [upd_ne npf, upd_ne npf2, upd_ne npf] at hpf; exact hpf
      refine ⟨_, rfl, _, _, _, _, rfl, ((upd_ne (Ne.symm npf)).trans upd_same), T.clR, T.nR_fouls, (by show 6 < 1000; decide), ?_⟩
      refine ⟨_, rfl, _, rfl, _, _, _, _, rfl, upd_same, T.clR, T.nR_breaker, (by show 7 < 1000; decide), ?_⟩
      refine ⟨_, rfl, _, _, _, _, rfl, upd_same, T.clR, T.nR_is_of_push, (by show 8 < 1000; decide), ?_⟩
      refine k _ pf ⟨⟨dx, pt, upd_same.trans (congrArg (fun q => some (HO.ins A.cR dx q)) (rk_build (R.new game br) pt pf)), ?_, Ne.symm npf2⟩, ?_, ⟨full_up game, full_rng game, hb.1, hb.2, hb.1, hb.2⟩⟩ hpf0 ?_
      · simp only [upd_ne npt, upd_ne (Ne.symm npf2)]
        exact upd_same
      · simp only [upd_ne npf]
        exact upd_same
      · have b0 : Kept [p] H H := Kept.refl _ _
        exact ((((((((((b0.upd List.mem_cons_self).new hpt0).upd List.mem_cons_self).upd List.mem_cons_self).upd List.mem_cons_self).upd List.mem_cons_self).upd List.mem_cons_self).new hpf0).upd List.mem_cons_self).upd List.mem_cons_self).upd List.mem_cons_self
end
end Pr
namespace Pr
open PySem PySem.Spec PyProof.Rows L2
section
variable {P : Program} {w : World} {K : PySem.W.Frag} {mg : Str → Option Value} {base : Heap} {A : Ad}
/-! Rack.group_for -/
abbrev s_gfor : Stmt := inClass (topS 16) 1
theorem sc_gfor : FnScope ["self", "side"] ["self", "side"] (defScope s_gfor) := ⟨rfl, rfl, rfl, by decide +kernel, rfl, by decide +kernel, by decide +kernel⟩
set_option maxHeartbeats 8000000 in
theorem ok_gfor {f : Addr} {fd : FuncData} (F : Fun K "group_for" "Rack.group_for" s_gfor f fd) (T : Txt K mg A) : FnOk P w K mg base CX0 1 f fd ["self", "side"] (sp_gfor A) := by
  refine F.ok sc_gfor (fun vs H Q E h => ?_) (fun cdv A0 outer s H vs Q E hRm h => ?_)
  · obtain ⟨_, _, _, _, rfl, _⟩ := h
    rfl
  · obtain ⟨r, pf, m, side, rfl, K0, k⟩ := h
    obtain ⟨⟨dx, pt, hr, ht, npt⟩, hf, ok⟩ := K0
    refine ⟨_, (pss_cons (ps_if (PW.pt (pw_or (pt_cmpR op_eq (pe_fld (pv 0) rfl) (pe_gcE rfl T.c_NO_GROUP) (nomark _)) (pw_or1 (pt_cmpR op_eq (pv 1) pe_int (nomark _))))) (pss_one (ps_ret (pe_fld (pv 0) rfl))) pss_nil)
        (pss_one (ps_ret (pe_op op_sub (pe_op op_add (pe_gcE rfl T.c_LOW) (pe_gcE rfl T.c_HIGH)) (pe_fld (pv 0) rfl))))), ?_⟩
    have key : ∀ {b : Bool}, b = (decide (m.group = 0) || decide (side = 0)) → (if b = true then m.group else 3 - m.group) = m.groupFor side := fun {b} e => by
      subst e
      unfold R.groupFor
      by_cases c : m.group = 0 ∨ side = 0
      · rw [if_pos c, if_pos (by rcases c with c | c <;> simp [c])]
      · rw [if_neg c, if_neg (by simpa using c)]
    refine ⟨_, rfl, _, _, _, _, _, rfl, hr, T.clR, T.nR_first_group, rk_first_group _ _ _, rfl, _, rfl, if_both (fun c => ?_) (fun c => ?_)⟩
    · refine if_true_of rfl ⟨_, rfl, _, _, _, _, _, rfl, hr, T.clR, T.nR_first_group, rk_first_group _ _ _, ?_⟩
      rw [← key (b := true) (by rw [dec_int, beq_eq_true] at c; simp [c])] at k
      exact k
    · refine ⟨_, rfl, rfl, _, rfl, if_both (fun c2 => ?_) (fun c2 => ?_)⟩
      · refine ⟨_, rfl, _, _, _, _, _, rfl, hr, T.clR, T.nR_first_group, rk_first_group _ _ _, ?_⟩
        rw [← key (b := true) (by rw [dec_int, beq_eq_true] at c2; simp [c2])] at k
        exact k
      · refine ⟨_, _, rfl, rfl, _, rfl, _, _, _, _, _, rfl, hr, T.clR, T.nR_first_group, rk_first_group _ _ _, _, _, rfl, rfl, ?_⟩
        rw [← key (b := false) (by rw [dec_int, beq_eq_false] at c c2; simp [c, c2])] at k
        exact k
end
end Pr
namespace Pr
open PySem PySem.Spec PyProof.Rows L2
section
variable {P : Program} {w : World} {K : PySem.W.Frag} {mg : Str → Option Value} {base : Heap} {A : Ad}
/-! Rack.take_group -/
abbrev s_tkg : Stmt := inClass (topS 16) 2
theorem sc_tkg : FnScope ["self", "side", "group"] ["self", "side", "group"] (defScope s_tkg) := ⟨rfl, rfl, rfl, by decide +kernel, rfl, by decide +kernel, by decide +kernel⟩
set_option maxHeartbeats 8000000 in
theorem ok_tkg {f : Addr} {fd : FuncData} (F : Fun K "take_group" "Rack.take_group" s_tkg f fd) (T : Txt K mg A) : FnOk P w K mg base CX0 1 f fd ["self", "side", "group"] (sp_tkg A) := by
  refine F.ok sc_tkg (fun vs H Q E h => ?_) (fun cdv A0 outer s H vs Q E hRm h => ?_)
  · obtain ⟨_, _, _, _, _, rfl, _⟩ := h
    rfl
  · obtain ⟨r, pf, m, side, g, rfl, K0, k⟩ := h
    obtain ⟨⟨dx, pt, hr, ht, npt⟩, hf, ok⟩ := K0
    refine ⟨_, (pss_one (ps_fld (pv 0) (pe_ifExp (pt_cmpR op_eq (pv 1) pe_int (nomark _)) (pv 2) (pe_op op_sub (pe_op op_add (pe_gcE rfl T.c_LOW) (pe_gcE rfl T.c_HIGH)) (pv 2))) rfl)), ?_⟩
    refine ⟨_, rfl, rfl, _, rfl, if_both (fun c => ?_) (fun c => ?_)⟩
    · have e : ({ m with group := g } : R) = m.takeGroup side g := by
        unfold R.takeGroup
        rw [if_pos (V.int.inj (of_decide_eq_true c))]
      refine ⟨_, rfl, _, rfl, _, _, _, _, rfl, hr, T.clR, T.nR_first_group, (by show 9 < 1000; decide), ?_⟩
      rw [rk_put_first_group, e]
      exact k _ (RkAt.put (m' := m.takeGroup side g) hr ht hf npt rfl rfl rfl ⟨ok.up, ok.rng, ok.t0, ok.t1, ok.b0, ok.b1⟩) ((Kept.refl _ _).upd List.mem_cons_self)
    · have e : ({ m with group := (1 : Int) + 2 - g } : R) = m.takeGroup side g := by
        unfold R.takeGroup
        rw [if_neg fun z => of_decide_eq_false c (congrArg V.int z)]
        rfl
      refine ⟨_, _, rfl, rfl, _, rfl, _, _, rfl, rfl, _, rfl, _, _, _, _, rfl, hr, T.clR, T.nR_first_group, (by show 9 < 1000; decide), ?_⟩
      rw [rk_put_first_group, e]
      exact k _ (RkAt.put (m' := m.takeGroup side g) hr ht hf npt rfl rfl rfl ⟨ok.up, ok.rng, ok.t0, ok.t1, ok.b0, ok.b1⟩) ((Kept.refl _ _).upd List.mem_cons_self)
end
end Pr
namespace Pr
open PySem PySem.Spec PyProof.Rows L2
section
variable {P : Program} {w : World} {K : PySem.W.Frag} {mg : Str → Option Value} {base : Heap} {A : Ad}
/-! Rack.pot -/
abbrev s_pot : Stmt := inClass (topS 16) 3
theorem sc_pot : FnScope ["self", "potted", "ball"] ["self", "potted"] (defScope s_pot) := ⟨rfl, rfl, rfl, by decide +kernel, rfl, by decide +kernel, by decide +kernel⟩
set_option maxHeartbeats 8000000 in
theorem ok_pot {f : Addr} {fd : FuncData} (F : Fun K "pot" "Rack.pot" s_pot f fd) (T : Txt K mg A) : FnOk P w K mg base CX0 1 f fd ["self", "potted"] (sp_pot A) := by
  refine F.ok sc_pot (fun vs H Q E h => ?_) (fun cdv A0 outer s H vs Q E hRm h => ?_)
  · obtain ⟨_, _, _, _, _, rfl, _⟩ := h
    rfl
  · obtain ⟨r, pf, m, pp, l, rfl, K0, hpp, k⟩ := h
    obtain ⟨⟨dx, pt, hr, ht, npt⟩, hf, ok⟩ := K0
    refine ⟨_, (pss_one (ps_fld (pv 0) (pe_lc (own := [("ball", 2)]) (g := gName 2) rfl sc_pot.nd (pi_list (pe_fld (pv 0) rfl)) (blkOk_by (own := [("ball", 2)]) (N := ["self", "potted", "ball"]) (sc := defScope s_pot) (by decide +kernel)) (fun _ _ _ _ _ => pg_name (i := 2) sc_pot.nd rfl (Or.inl rfl)) (fun _ _ _ _ _ => pts_one (pt_cmpR (op_notInK (K := K) rfl) (pv 2) (pv 1) (by rfl))) (fun _ _ _ _ _ => (pv 2))) rfl)), ?_⟩
    refine ⟨_, rfl, _, _, _, _, _, rfl, hr, T.clR, T.nR_table, rk_table _ _ _, _, rfl, ⟨_, SqL.of ht⟩, fun D hD => lc_list (K := K) (a := pt) (xs := zs m.table) (fun i H' => Same H H' ∧ H' D = some (.lst (zs ((m.table.take i).filter fun b => !l.contains b))))
      ⟨Same.new1 hD, upd_same⟩ (fun i H' _ ⟨s1, _⟩ => SqL.of (s1 _ _ ht)) ?_ ?_⟩
    · rintro i y H' hi ⟨s1, hd⟩
      obtain ⟨z, hz, rfl⟩ := zs_get hi
      have hDp : D ≠ pp := fun e => by rw [e, hpp] at hD; cases hD
      refine ⟨rfl, _, rfl, _, rfl, _, _, rfl, Or.inl (SqL.of (s1 _ _ hpp)), rfl, flat_zs _, _, rfl, if_both (fun c => ?_) (fun c => ?_)⟩
      · refine ⟨_, rfl, _, hd, smallL (Nat.le_trans (filt_len _ _ _) (Nat.le_trans ok.len (by decide))), Same.mut s1 hD, ?_⟩
        rw [upd_same, take_filter_pos hz (by rw [← inV_int]; exact c), zs_snoc]
      · refine ⟨s1, ?_⟩
        rw [take_filter_neg hz (by rw [← inV_int]; exact c)]
        exact hd
    · rintro H' ⟨s1, hd⟩
      rw [zs_len, List.take_length] at hd
      have nDf : D ≠ pf := fun e => by rw [e, hf] at hD; cases hD
      refine ⟨_, rfl, _, _, _, _, rfl, (s1 _ _ hr), T.clR, T.nR_table, (by show 9 < 1000; decide), ?_⟩
      rw [rk_put_table _ _ _ _ (m.pot l).table]
      exact k _ (RkAt.put2 (m := m) (m' := m.pot l) (s1 _ _ hr) hd (s1 _ _ hf) nDf rfl rfl ⟨ok.up.filter _, fun b hb => ok.rng b (List.mem_filter.mp hb).1, ok.t0, ok.t1, ok.b0, ok.b1⟩) ((Kept.of_same s1).upd List.mem_cons_self)
end
end Pr
namespace Pr
open PySem PySem.Spec PyProof.Rows L2
section
variable {P : Program} {w : World} {K : PySem.W.Frag} {mg : Str → Option Value} {base : Heap} {A : Ad}
/-! Rack.come_back -/
abbrev s_cmb : Stmt := inClass (topS 16) 4
theorem sc_cmb : FnScope ["self", "ball"] ["self", "ball"] (defScope s_cmb) := ⟨rfl, rfl, rfl, by decide +kernel, rfl, by decide +kernel, by decide +kernel⟩
set_option maxHeartbeats 8000000 in
theorem ok_cmb {f : Addr} {fd : FuncData} (F : Fun K "come_back" "Rack.come_back" s_cmb f fd) (T : Txt K mg A) : FnOk P w K mg base CX0 1 f fd ["self", "ball"] (sp_cmb A) := by
  refine F.ok sc_cmb (fun vs H Q E h => ?_) (fun cdv A0 outer s H vs Q E hRm h => ?_)
  · obtain ⟨_, _, _, _, rfl, _⟩ := h
    rfl
  · obtain ⟨r, pf, m, b, rfl, K0, hb, k⟩ := h
    obtain ⟨⟨dx, pt, hr, ht, npt⟩, hf, ok⟩ := K0
    refine ⟨_, (pss_one (ps_if (pt_cmpR op_notIn_seq (pv 1) (pe_fld (pv 0) rfl) (by rfl)) (pss_one (ps_fld (pv 0) (pe_callB cr_sorted rfl T.b_sorted (by decide +kernel) (pa_cons (pe_op op_cat (pe_fld (pv 0) rfl) (pe_lst (pa_cons (pv 1) pa_nil))) pa_nil)) rfl)) pss_nil)), ?_⟩
    refine ⟨_, rfl, _, rfl, _, _, _, _, _, rfl, hr, T.clR, T.nR_table, rk_table _ _ _, _, _, rfl, Or.inl (SqL.of ht), rfl, flat_zs _, _, rfl, ?_⟩
    refine if_both (fun c => ?_) (fun c => ?_)
    · have c2 : ¬ m.table.contains b = true := by
        rw [inV_int] at c
        intro z
        rw [z] at c
        cases c
      have e : m.comeBack b = { m with table := ins b m.table } := if_neg c2
      refine ⟨_, rfl, _, _, _, _, _, rfl, hr, T.clR, T.nR_table, rk_table _ _ _, _, rfl, (by show 1 ≤ sizeLine; decide), fun q hq => ?_⟩
      have nq : q ≠ pt := fun z => by rw [z, ht] at hq; cases hq
      refine ⟨pt, q, _, _, rfl, rfl, (upd_ne (Ne.symm nq)).trans ht, upd_same, (by rw [zs_len]; show m.table.length + 1 ≤ sizeLine; exact small (by have := ok.len; omega)), fun u hu => ?_⟩
      refine ⟨u, m.table ++ [b], rfl, ?_, ?_, fun l v hl1 hl2 hv => ?_⟩
      · show SqL _ _ _ (zs (m.table ++ [b]))
        rw [← zs_snoc]
        exact SqL.of upd_same
      · rw [List.length_append]
        show m.table.length + 1 < 64
        have := ok.len
        omega
      · have el : l = ins b m.table := ins_sorted ok.up (fun z => c2 (List.contains_iff_mem.mpr z)) hl1 hl2
        subst el
        have s1 : Same H (upd H q (.lst [V.int b])) := Same.new1 hq
        have s2 := Same.new s1 (s1.free hu) (o := .lst (zs m.table ++ [V.int b]))
        have s3 := Same.new s2 (s2.free hv) (o := .lst ((ins b m.table).map V.int))
        have nv : v ≠ pf := fun z => by rw [z, s2 _ _ hf] at hv; cases hv
        refine ⟨_, rfl, _, _, _, _, rfl, (s3 _ _ hr), T.clR, T.nR_table, (by show 9 < 1000; decide), ?_⟩
        rw [rk_put_table _ _ _ _ (ins b m.table)]
        refine k _ ?_ ((Kept.of_same s3).upd List.mem_cons_self)
        rw [e]
        exact RkAt.put2 (m := m) (m' := { m with table := ins b m.table }) (s3 _ _ hr) upd_same (s3 _ _ hf) nv rfl rfl (ROk.ins ok hb (fun z => c2 (List.contains_iff_mem.mpr z)))
    · have c2 : m.table.contains b = true := by
        rw [inV_int] at c
        cases z : m.table.contains b with
        | true => rfl
        | false =>
          rw [z] at c
          cases c
      have e : m.comeBack b = m := if_pos c2
      rw [e] at k
      exact k _ ⟨⟨dx, pt, hr, ht, npt⟩, hf, ok⟩ (Kept.refl _ _)
end
end Pr
namespace Pr
open PySem PySem.Spec PyProof.Rows L2
section
variable {P : Program} {w : World} {K : PySem.W.Frag} {mg : Str → Option Value} {base : Heap} {A : Ad}
/-! Rack.play_by -/
abbrev s_pby : Stmt := inClass (topS 16) 5
theorem sc_pby : FnScope ["self", "side", "in_hand"] ["self", "side", "in_hand"] (defScope s_pby) := ⟨rfl, rfl, rfl, by decide +kernel, rfl, by decide +kernel, by decide +kernel⟩
set_option maxHeartbeats 8000000 in
theorem ok_pby {f : Addr} {fd : FuncData} (F : Fun K "play_by" "Rack.play_by" s_pby f fd) (T : Txt K mg A) : FnOk P w K mg base CX0 1 f fd ["self", "side", "in_hand"] (sp_pby A) := by
  refine F.ok sc_pby (fun vs H Q E h => ?_) (fun cdv A0 outer s H vs Q E hRm h => ?_)
  · obtain ⟨_, _, _, _, _, rfl, _⟩ := h
    rfl
  · obtain ⟨r, pf, m, side, hand, rfl, K0, hs, k⟩ := h
    obtain ⟨⟨dx, pt, hr, ht, npt⟩, hf, ok⟩ := K0
    refine ⟨_, (pss_cons (ps_fld (pv 0) (pv 1) rfl)
        (pss_one (ps_fld (pv 0) (pv 2) rfl))), ?_⟩
    refine ⟨_, rfl, _, rfl, _, _, _, _, rfl, hr, T.clR, T.nR_turn, (by show 9 < 1000; decide), ?_⟩
    refine ⟨_, rfl, _, rfl, _, _, _, _, rfl, upd_same, T.clR, T.nR_in_hand, (by show 9 < 1000; decide), ?_⟩
    rw [rk_put_turn, rk_put_in_hand, upd_upd]
    exact k _ (RkAt.put (m' := m.playBy side hand) hr ht hf npt rfl rfl rfl ⟨ok.up, ok.rng, hs.1, hs.2, ok.b0, ok.b1⟩) ((Kept.refl _ _).upd List.mem_cons_self)
end
end Pr
namespace Pr
open PySem PySem.Spec PyProof.Rows L2
section
variable {P : Program} {w : World} {K : PySem.W.Frag} {mg : Str → Option Value} {base : Heap} {A : Ad}
/-! Rack.choose_by -/
abbrev s_cby : Stmt := inClass (topS 16) 6
theorem sc_cby : FnScope ["self", "side", "is_of_push"] ["self", "side", "is_of_push"] (defScope s_cby) := ⟨rfl, rfl, rfl, by decide +kernel, rfl, by decide +kernel, by decide +kernel⟩
set_option maxHeartbeats 8000000 in
theorem ok_cby {f : Addr} {fd : FuncData} (F : Fun K "choose_by" "Rack.choose_by" s_cby f fd) (T : Txt K mg A) : FnOk P w K mg base CX0 1 f fd ["self", "side", "is_of_push"] (sp_cby A) := by
  refine F.ok sc_cby (fun vs H Q E h => ?_) (fun cdv A0 outer s H vs Q E hRm h => ?_)
  · obtain ⟨_, _, _, _, _, rfl, _⟩ := h
    rfl
  · obtain ⟨r, pf, m, side, pu, rfl, K0, hs, k⟩ := h
    obtain ⟨⟨dx, pt, hr, ht, npt⟩, hf, ok⟩ := K0
    refine ⟨_, (pss_cons (ps_fld (pv 0) (pe_gcE rfl T.c_CHOICE) rfl)
        (pss_cons (ps_fld (pv 0) (pv 1) rfl)
        (pss_cons (ps_fld (pv 0) pe_bl rfl)
        (pss_one (ps_fld (pv 0) (pv 2) rfl))))), ?_⟩
    refine ⟨_, rfl, _, _, _, _, rfl, hr, T.clR, T.nR_phase, (by show 9 < 1000; decide), ?_⟩
    refine ⟨_, rfl, _, rfl, _, _, _, _, rfl, upd_same, T.clR, T.nR_turn, (by show 9 < 1000; decide), ?_⟩
    refine ⟨_, rfl, _, _, _, _, rfl, upd_same, T.clR, T.nR_in_hand, (by show 9 < 1000; decide), ?_⟩
    refine ⟨_, rfl, _, rfl, _, _, _, _, rfl, upd_same, T.clR, T.nR_is_of_push, (by show 9 < 1000; decide), ?_⟩
    rw [rk_put_phase, rk_put_turn, rk_put_in_hand, rk_put_is_of_push, upd_upd, upd_upd, upd_upd]
    exact k _ (RkAt.put (m' := m.chooseBy side pu) hr ht hf npt rfl rfl rfl ⟨ok.up, ok.rng, hs.1, hs.2, ok.b0, ok.b1⟩) ((Kept.refl _ _).upd List.mem_cons_self)
end
end Pr
namespace Pr
open PySem PySem.Spec PyProof.Rows L2
section
variable {P : Program} {w : World} {K : PySem.W.Frag} {mg : Str → Option Value} {base : Heap} {A : Ad}
/-! Rack.is_open -/
abbrev s_iso : Stmt := inClass (topS 16) 7
theorem sc_iso : FnScope ["self"] ["self"] (defScope s_iso) := ⟨rfl, rfl, rfl, by decide +kernel, rfl, by decide +kernel, by decide +kernel⟩
set_option maxHeartbeats 8000000 in
theorem ok_iso {f : Addr} {fd : FuncData} (F : Fun K "is_open" "Rack.is_open" s_iso f fd) (T : Txt K mg A) : FnOk P w K mg base CX0 1 f fd ["self"] (sp_iso A) := by
  refine F.ok sc_iso (fun vs H Q E h => ?_) (fun cdv A0 outer s H vs Q E hRm h => ?_)
  · obtain ⟨_, _, _, rfl, _⟩ := h
    rfl
  · obtain ⟨r, pf, m, rfl, K0, k⟩ := h
    obtain ⟨⟨dx, pt, hr, ht, npt⟩, hf, ok⟩ := K0
    refine ⟨_, (pss_one (ps_ret (pe_cmpR op_eq (pe_fld (pv 0) rfl) (pe_gcE rfl T.c_NO_GROUP) (nomark _)))), ?_⟩
    refine ⟨_, rfl, _, _, _, _, _, rfl, hr, T.clR, T.nR_first_group, rk_first_group _ _ _, rfl, ?_⟩
    have e : decide (V.int m.group = V.int 0) = m.isOpen := by
      unfold R.isOpen
      rw [dec_int]
      rfl
    rw [← e] at k
    exact k
end
end Pr
namespace Pr
open PySem PySem.Spec PyProof.Rows L2
section
variable {P : Program} {w : World} {K : PySem.W.Frag} {mg : Str → Option Value} {base : Heap} {A : Ad}
/-! right_in_eight -/
abbrev s_r8 : Stmt := topS 17
theorem sc_r8 : FnScope ["rack", "own", "some", "ball"] ["rack"] (defScope s_r8) := ⟨rfl, rfl, rfl, by decide +kernel, rfl, by decide +kernel, by decide +kernel⟩
set_option maxHeartbeats 8000000 in
theorem ok_r8 {f : Addr} {fd : FuncData} (F : Fun K "right_in_eight" "right_in_eight" s_r8 f fd) (T : Txt K mg A) (c_iso : MetE P w K mg base CX0 1 A.cR "is_open" (sp_iso A)) (c_gof : CalE P w K mg base CX0 1 "group_of" (sp_gof A)) (c_gfor : MetE P w K mg base CX0 1 A.cR "group_for" (sp_gfor A)) : FnOk P w K mg base CX0 2 f fd ["rack"] (sp_r8 A) := by
  refine F.ok sc_r8 (fun vs H Q E h => ?_) (fun cdv A0 outer s H vs Q E hRm h => ?_)
  · obtain ⟨_, _, _, rfl, _⟩ := h
    rfl
  · obtain ⟨r, pf, m, rfl, K0, k⟩ := h
    have K1 := K0
    obtain ⟨⟨dx, pt, hr, ht, npt⟩, hf, ok⟩ := K1
    refine ⟨_, (pss_cons (ps_if (pt_cmpR op_eq (pe_fld (pv 0) rfl) (pe_gcE rfl T.c_BREAK) (nomark _)) (pss_one (ps_ret (pe_callTy call_list_of rfl T.b_list (by decide +kernel) (pa_cons (pe_fld (pv 0) rfl) pa_nil)))) pss_nil)
        (pss_cons (ps_set (i := 1) sc_r8.nd rfl (Or.inr rfl) (pe_mtE c_gfor hRm (by decide) pass0 (pv 0) (pa_cons (pe_fld (pv 0) rfl) pa_nil)))
        (pss_cons (ps_if (pt_val (pe_mtE0 c_iso hRm (by decide) pass0 (pv 0))) (pss_one (ps_setLc (i := 2) rfl sc_r8.nd rfl rfl (sw_true rfl rfl rfl (by decide +kernel)) (own := [("ball", 3)]) (g := gName 3) (pi_list (pe_fld (pv 0) rfl)) (blkOk_by (own := [("ball", 3)]) (N := ["rack", "own", "some", "ball"]) (sc := defScope s_r8) (by decide +kernel)) (fun _ _ _ _ _ => pg_name (i := 3) sc_r8.nd rfl (Or.inl rfl)) (fun _ _ _ _ _ => pts_one (pt_cmpR op_ne (pv 3) (pe_gcE rfl T.c_EIGHT) (nomark _))) (fun _ _ _ _ _ => (pv 3)))) (pss_one (ps_setLc (i := 2) rfl sc_r8.nd rfl rfl (sw_true rfl rfl rfl (by decide +kernel)) (own := [("ball", 3)]) (g := gName 3) (pi_list (pe_fld (pv 0) rfl)) (blkOk_by (own := [("ball", 3)]) (N := ["rack", "own", "some", "ball"]) (sc := defScope s_r8) (by decide +kernel)) (fun _ _ _ _ _ => pg_name (i := 3) sc_r8.nd rfl (Or.inl rfl)) (fun _ _ _ _ _ => pts_one (pt_cmpR op_eq (pe_cE c_gof hRm (by decide) rfl pass0 (pa_cons (pv 3) pa_nil)) (pv 1) (nomark _))) (fun _ _ _ _ _ => (pv 3)))))
        (pss_one (ps_ret (pe_ifExp (pt_cmpR (op_neD hRm.units) (pv 2) (pe_lst pa_nil) (nomark _)) (pv 2) (pe_lst (pa_cons (pe_gcE rfl T.c_EIGHT) pa_nil)))))))), ?_⟩
    refine ⟨_, rfl, _, _, _, _, _, rfl, hr, T.clR, T.nR_phase, rk_phase _ _ _, rfl, _, rfl, if_both (fun c0 => ?_) (fun c0 => ?_)⟩
    · have hp0 : m.phase = 0 := V.int.inj (of_decide_eq_true c0)
      have e8 : m.right8 = m.table := if_pos hp0
      refine ⟨_, rfl, _, _, _, _, _, rfl, hr, T.clR, T.nR_table, rk_table _ _ _, _, _, rfl, Or.inl (SqL.of ht), fun q hq => ?_⟩
      exact k _ q (Same.new1 hq) (by rw [e8]; exact upd_same)
    have hp0 : ¬ m.phase = 0 := fun z => of_decide_eq_false c0 (congrArg V.int z)
    refine ⟨_, rfl, _, _, _, rfl, hr, rk_no_group_for _ _ _, _, rfl, _, _, _, _, _, rfl, hr, T.clR, T.nR_turn, rk_turn _ _ _, r, pf, m, _, rfl, K0, ?_⟩
    refine ⟨_, rfl, _, _, _, rfl, hr, rk_no_is_open _ _ _, r, pf, m, rfl, K0, _, rfl, if_both (fun co => ?_) (fun co => ?_)⟩
    · have g0 : m.group = 0 := of_decide_eq_true co
      have es : m.some8 = m.table.filter fun b => !decide (b = 8) := if_pos g0
      refine ⟨_, rfl, _, _, _, _, _, rfl, hr, T.clR, T.nR_table, rk_table _ _ _, _, rfl, ⟨_, SqL.of ht⟩, fun D hD => lc_list (K := K) (a := pt) (xs := zs m.table) (fun i H' => Same H H' ∧ H' D = some (.lst (zs ((m.table.take i).filter fun b => !decide (b = 8)))))
        ⟨Same.new1 hD, upd_same⟩ (fun i H' _ ⟨s1, _⟩ => SqL.of (s1 _ _ ht)) ?_ ?_⟩
      · rintro i y H' hi ⟨s1, hd⟩
        obtain ⟨z, hz, rfl⟩ := zs_get hi
        refine ⟨rfl, _, rfl, rfl, _, rfl, ?_⟩
        rw [dec_int, beq_dec]
        refine if_both (fun c => ?_) (fun c => ?_)
        · refine ⟨_, rfl, _, hd, smallL (Nat.le_trans (filt_len _ _ _) (Nat.le_trans ok.len (by decide))), Same.mut s1 hD, ?_⟩
          rw [upd_same, take_filter_pos hz c, zs_snoc]
        · refine ⟨s1, ?_⟩
          rw [take_filter_neg hz c]
          exact hd
      rintro H' ⟨s1, hd⟩
      rw [zs_len, List.take_length, ← es] at hd
      refine ⟨_, rfl, (by show 0 ≤ sizeLine; exact Nat.zero_le _), fun q hq => ?_⟩
      have s2 : Same H (upd H' q (.lst [])) := Same.new s1 (s1.free hq)
      have nD : D ≠ q := by
        rintro rfl
        rw [hd] at hq
        cases hq
      refine ⟨_, _, Dp.lst (SqL.of ((upd_ne nD).trans hd)) (dp_ints _), Dp.lst (SqL.of upd_same) .nil, shaped_ints _, rfl, _, rfl, ?_⟩
      rw [eqv_nil]
      refine if_both (fun c => ?_) (fun c => ?_)
      · have cn : ¬ m.some8 = [] := by simpa using c
        have e8 : m.right8 = m.some8 := by
          unfold R.right8
          rw [if_neg hp0, if_neg cn]
        refine ⟨_, rfl, ?_⟩
        exact k _ D s2 (by rw [e8]; exact (upd_ne nD).trans hd)
      · have cn : m.some8 = [] := by simpa using c
        have e8 : m.right8 = [8] := by
          unfold R.right8
          rw [if_neg hp0, if_pos cn]
        refine ⟨(by show 1 ≤ sizeLine; decide), fun u hu => ?_⟩
        exact k _ u (Same.new s2 (s2.free hu)) (by rw [e8]; exact upd_same)
    · have g0 : ¬ m.group = 0 := of_decide_eq_false co
      have es : m.some8 = m.table.filter fun b => decide (groupOf b = m.groupFor m.turn) := if_neg g0
      refine ⟨_, rfl, _, _, _, _, _, rfl, hr, T.clR, T.nR_table, rk_table _ _ _, _, rfl, ⟨_, SqL.of ht⟩, fun D hD => lc_list (K := K) (a := pt) (xs := zs m.table) (fun i H' => Same H H' ∧ H' D = some (.lst (zs ((m.table.take i).filter fun b => decide (groupOf b = m.groupFor m.turn)))))
        ⟨Same.new1 hD, upd_same⟩ (fun i H' _ ⟨s1, _⟩ => SqL.of (s1 _ _ ht)) ?_ ?_⟩
      · rintro i y H' hi ⟨s1, hd⟩
        obtain ⟨z, hz, rfl⟩ := zs_get hi
        refine ⟨rfl, _, rfl, _, rfl, _, rfl, rfl, _, rfl, ?_⟩
        rw [dec_int, beq_dec]
        refine if_both (fun c => ?_) (fun c => ?_)
        · refine ⟨_, rfl, _, hd, smallL (Nat.le_trans (filt_len _ _ _) (Nat.le_trans ok.len (by decide))), Same.mut s1 hD, ?_⟩
          rw [upd_same, take_filter_pos hz c, zs_snoc]
        · refine ⟨s1, ?_⟩
          rw [take_filter_neg hz c]
          exact hd
      rintro H' ⟨s1, hd⟩
      rw [zs_len, List.take_length, ← es] at hd
      refine ⟨_, rfl, (by show 0 ≤ sizeLine; exact Nat.zero_le _), fun q hq => ?_⟩
      have s2 : Same H (upd H' q (.lst [])) := Same.new s1 (s1.free hq)
      have nD : D ≠ q := by
        rintro rfl
        rw [hd] at hq
        cases hq
      refine ⟨_, _, Dp.lst (SqL.of ((upd_ne nD).trans hd)) (dp_ints _), Dp.lst (SqL.of upd_same) .nil, shaped_ints _, rfl, _, rfl, ?_⟩
      rw [eqv_nil]
      refine if_both (fun c => ?_) (fun c => ?_)
      · have cn : ¬ m.some8 = [] := by simpa using c
        have e8 : m.right8 = m.some8 := by
          unfold R.right8
          rw [if_neg hp0, if_neg cn]
        refine ⟨_, rfl, ?_⟩
        exact k _ D s2 (by rw [e8]; exact (upd_ne nD).trans hd)
      · have cn : m.some8 = [] := by simpa using c
        have e8 : m.right8 = [8] := by
          unfold R.right8
          rw [if_neg hp0, if_pos cn]
        refine ⟨(by show 1 ≤ sizeLine; decide), fun u hu => ?_⟩
        exact k _ u (Same.new s2 (s2.free hu)) (by rw [e8]; exact upd_same)
end
end Pr
namespace Pr
open PySem PySem.Spec PyProof.Rows L2
section
variable {P : Program} {w : World} {K : PySem.W.Frag} {mg : Str → Option Value} {base : Heap} {A : Ad}
/-! right_balls -/
abbrev s_rb : Stmt := topS 18
theorem sc_rb : FnScope ["rack"] ["rack"] (defScope s_rb) := ⟨rfl, rfl, rfl, by decide +kernel, rfl, by decide +kernel, by decide +kernel⟩
set_option maxHeartbeats 8000000 in
theorem ok_rb {f : Addr} {fd : FuncData} (F : Fun K "right_balls" "right_balls" s_rb f fd) (T : Txt K mg A) (c_r8 : CalE P w K mg base CX0 2 "right_in_eight" (sp_r8 A)) : FnOk P w K mg base CX0 3 f fd ["rack"] (sp_rb A) := by
  refine F.ok sc_rb (fun vs H Q E h => ?_) (fun cdv A0 outer s H vs Q E hRm h => ?_)
  · obtain ⟨_, _, _, rfl, _⟩ := h
    rfl
  · obtain ⟨r, pf, m, rfl, K0, k⟩ := h
    have K1 := K0
    obtain ⟨⟨dx, pt, hr, ht, npt⟩, hf, ok⟩ := K1
    refine ⟨_, (pss_cons (ps_if (pt_cmpR op_eq (pe_fld (pv 0) rfl) (pe_gcE rfl T.c_EIGHT_BALL) (nomark _)) (pss_one (ps_ret (pe_cE c_r8 hRm (by decide) rfl pass0 (pa_cons (pv 0) pa_nil)))) pss_nil)
        (pss_one (ps_ret (pe_slice sl_list (pe_fld (pv 0) rfl) po_none (po_some pe_int))))), ?_⟩
    refine ⟨_, rfl, _, _, _, _, _, rfl, hr, T.clR, T.nR_game, rk_game _ _ _, rfl, _, rfl, if_both (fun c0 => ?_) (fun c0 => ?_)⟩
    · have e : m.right = m.right8 := if_pos (V.int.inj (of_decide_eq_true c0))
      refine ⟨_, rfl, r, pf, m, rfl, K0, fun H' p s1 hp => ?_⟩
      exact k H' p s1 (by rw [e]; exact hp)
    · have e : m.right = m.table.take 1 := if_neg fun z => of_decide_eq_false c0 (congrArg V.int z)
      refine ⟨_, rfl, _, _, _, _, _, rfl, hr, T.clR, T.nR_table, rk_table _ _ _, _, rfl, _, _, rfl, SqL.of ht, fun p hp => ?_⟩
      refine k _ p (Same.new1 hp) ?_
      rw [upd_same, e, cut_one]
end
end Pr
namespace Pr
open PySem PySem.Spec PyProof.Rows L2
section
variable {P : Program} {w : World} {K : PySem.W.Frag} {mg : Str → Option Value} {base : Heap} {A : Ad}
/-! is_plain_foul -/
abbrev s_ipf : Stmt := topS 19
theorem sc_ipf : FnScope ["rack", "shot"] ["rack", "shot"] (defScope s_ipf) := ⟨rfl, rfl, rfl, by decide +kernel, rfl, by decide +kernel, by decide +kernel⟩
set_option maxHeartbeats 8000000 in
theorem ok_ipf {f : Addr} {fd : FuncData} (F : Fun K "is_plain_foul" "is_plain_foul" s_ipf f fd) (T : Txt K mg A) (c_rb : CalE P w K mg base CX0 3 "right_balls" (sp_rb A)) : FnOk P w K mg base CX0 4 f fd ["rack", "shot"] (sp_ipf A) := by
  refine F.ok sc_ipf (fun vs H Q E h => ?_) (fun cdv A0 outer s H vs Q E hRm h => ?_)
  · obtain ⟨_, _, _, _, _, _, rfl, _⟩ := h
    rfl
  · obtain ⟨r, pf, m, s0, T0, x, rfl, K0, S0, k⟩ := h
    obtain ⟨⟨dx0, pt0, hr0, ht0, npt0⟩, hf0, ok0⟩ := id K0
    obtain ⟨ns0, ds0, pp0, npp0, hs0, hpp0, hl0⟩ := id S0
    refine ⟨_, (pss_cons (ps_if (PW.pt (pw_or (pt_val (pe_fld (pv 1) rfl)) (pw_or1 (pt_cmpR op_notIn_seq (pe_fld (pv 1) rfl) (pe_cE c_rb hRm (by decide) rfl pass0 (pa_cons (pv 0) pa_nil)) (by rfl))))) (pss_one (ps_ret pe_bl)) pss_nil)
        (pss_one (ps_ret (pe_and (pe_cmpR (op_eqD hRm.units) (pe_fld (pv 1) rfl) (pe_lst pa_nil) (nomark _)) (pe_one (pe_cmpR op_eq (pe_fld (pv 1) rfl) pe_int (nomark _))))))), ?_⟩
    refine ⟨_, rfl, _, _, _, _, _, rfl, hs0, T.clS, T.nS_is_lost, sh_is_lost _ _, _, rfl, if_both (fun c1 => ?_) (fun c1 => ?_)⟩
    · refine if_true_of rfl ?_
      have e : m.plainFoul x = true := by
        unfold R.plainFoul
        rw [if_pos (by rw [c1]; rfl)]
      have q := k _ (Same.refl H)
      rw [e] at q
      exact q
    refine ⟨_, rfl, _, _, _, _, _, rfl, hs0, T.clS, T.nS_first, sh_first _ _, _, rfl, r, pf, m, rfl, K0, fun H1 p s1 hp => ?_⟩
    refine ⟨p, _, rfl, Or.inl (SqL.of hp), rfl, flat_zs _, _, rfl, ?_⟩
    rw [inV_int]
    refine if_both (fun c2 => ?_) (fun c2 => ?_)
    · have e : m.plainFoul x = true := by
        unfold R.plainFoul
        rw [if_pos]
        have c3 : (!m.right.contains x.first) = true := c2
        rw [c3, Bool.or_true]
      have q := k _ s1
      rw [e] at q
      exact q
    have e : m.plainFoul x = (decide (x.potted = []) && decide (x.cushions = 0)) := by
      unfold R.plainFoul
      rw [if_neg]
      have c3 : (!m.right.contains x.first) = false := c2
      rw [c1, c3]
      decide
    rw [e] at k
    refine ⟨_, rfl, _, _, _, _, _, rfl, (s1 _ _ hs0), T.clS, T.nS_potted, sh_potted _ _, (by show 0 ≤ sizeLine; exact Nat.zero_le _), fun q hq => ?_⟩
    have npq : pp0 ≠ q := by
      rintro rfl
      rw [s1 _ _ hpp0] at hq
      cases hq
    have s2 : Same H (upd H1 q (.lst [])) := Same.new s1 (s1.free hq)
    refine ⟨_, _, Dp.lst (SqL.of (s2 _ _ hpp0)) (dp_ints _), Dp.lst (SqL.of upd_same) .nil, shaped_ints _, rfl, _, rfl, ?_⟩
    rw [eqv_nil]
    refine if_both (fun c => ?_) (fun c => ?_)
    · refine ⟨_, rfl, _, _, _, _, _, rfl, (s2 _ _ hs0), T.clS, T.nS_cushions, sh_cushions _ _, rfl, ?_⟩
      rw [dec_int, beq_dec]
      have q2 := k _ s2
      rw [c, Bool.true_and] at q2
      exact q2
    · have q2 := k _ s2
      rw [c, Bool.false_and] at q2
      exact q2
end
end Pr
namespace Pr
open PySem PySem.Spec PyProof.Rows L2
section
variable {P : Program} {w : World} {K : PySem.W.Frag} {mg : Str → Option Value} {base : Heap} {A : Ad}
/-! break_shot -/
abbrev s_brk : Stmt := topS 21
theorem sc_brk : FnScope ["rack", "shot", "is_foul", "other"] ["rack", "shot"] (defScope s_brk) := ⟨rfl, rfl, rfl, by decide +kernel, rfl, by decide +kernel, by decide +kernel⟩
set_option maxHeartbeats 8000000 in
theorem ok_brk {f : Addr} {fd : FuncData} (F : Fun K "break_shot" "break_shot" s_brk f fd) (T : Txt K mg A) (c_pby : MetE P w K mg base CX0 1 A.cR "play_by" (sp_pby A)) (c_weak : MetE P w K mg base CX0 1 A.cS "is_weak" (sp_weak A)) (c_cby : MetE P w K mg base CX0 1 A.cR "choose_by" (sp_cby A)) (c_cmb : MetE P w K mg base CX0 1 A.cR "come_back" (sp_cmb A)) (c_pot : MetE P w K mg base CX0 1 A.cR "pot" (sp_pot A)) (c_ipf : CalE P w K mg base CX0 4 "is_plain_foul" (sp_ipf A)) : FnOk P w K mg base CX0 5 f fd ["rack", "shot"] (sp_brk A) := by
  refine F.ok sc_brk (fun vs H Q E h => ?_) (fun cdv A0 outer s H vs Q E hRm h => ?_)
  · obtain ⟨_, _, _, _, _, rfl, _⟩ := h
    rfl
  · obtain ⟨r, pf, m, s0, x, rfl, K0, S0, k⟩ := h
    refine ⟨_, (pss_cons (ps_set (i := 2) sc_brk.nd rfl (Or.inl rfl) (pe_cE c_ipf hRm (by decide) rfl pass0 (pa_cons (pv 0) (pa_cons (pv 1) pa_nil))))
        (pss_cons (ps_set (i := 3) sc_brk.nd rfl (Or.inl rfl) (pe_op op_sub pe_int (pe_fld (pv 0) rfl)))
        (pss_cons (ps_expr (pe_mtE c_pot hRm (by decide) pass0 (pv 0) (pa_cons (pe_fld (pv 1) rfl) pa_nil)))
        (pss_cons (ps_expr (pe_mtE c_cmb hRm (by decide) pass0 (pv 0) (pa_cons (pe_gcE rfl T.c_EIGHT) pa_nil)))
        (pss_cons (ps_fld (pv 0) (pe_gcE rfl T.c_PLAY) rfl)
        (pss_cons (ps_if (pt_val (pv 2)) (pss_one (ps_expr (pe_mtE c_pby hRm (by decide) pass0 (pv 0) (pa_cons (pv 3) (pa_cons pe_bl pa_nil))))) (pss_one (ps_if (pt_val (pe_mtE0 c_weak hRm (by decide) pass0 (pv 1))) (pss_one (ps_expr (pe_mtE c_cby hRm (by decide) pass0 (pv 0) (pa_cons (pv 3) (pa_cons pe_bl pa_nil))))) (pss_one (ps_expr (pe_mtE c_pby hRm (by decide) pass0 (pv 0) (pa_cons (pe_ifExp (pt_cmpR (op_neD hRm.units) (pe_fld (pv 1) rfl) (pe_lst pa_nil) (nomark _)) (pe_fld (pv 0) rfl) (pv 3)) (pa_cons pe_bl pa_nil))))))))
        (pss_one (ps_ret (pe_tup (pa_cons (pv 2) (pa_cons pe_non pa_nil))))))))))), ?_⟩
    refine ⟨_, rfl, _, rfl, r, pf, m, s0, [r, pf], x, rfl, K0, S0, fun H1 s1 => ?_⟩
    have K1 := K0.same s1
    have S1 := S0.same s1
    obtain ⟨⟨dx1, pt1, hr1, ht1, npt1⟩, hf1, ok1⟩ := id K1
    obtain ⟨ns1, ds1, pp1, npp1, hs1, hpp1, hl1⟩ := id S1
    refine ⟨_, rfl, _, _, _, _, _, rfl, hr1, T.clR, T.nR_turn, rk_turn _ _ _, _, _, rfl, rfl, ?_⟩
    refine ⟨_, rfl, _, _, _, rfl, hr1, rk_no_pot _ _ _, _, rfl, _, _, _, _, _, rfl, hs1, T.clS, T.nS_potted, sh_potted _ _, r, pf, m, pp1, x.potted, rfl, K1, hpp1, fun H2 K2 k2 => ?_⟩
    have S2 := S1.kept k2
    obtain ⟨⟨dx2, pt2, hr2, ht2, npt2⟩, hf2, ok2⟩ := id K2
    refine ⟨_, rfl, _, _, _, rfl, hr2, rk_no_come_back _ _ _, r, pf, _, 8, rfl, K2, ⟨by decide, by decide⟩, fun H3 K3 k3 => ?_⟩
    have S3 := S2.kept k3
    obtain ⟨⟨dx3, pt3, hr3, ht3, npt3⟩, hf3, ok3⟩ := id K3
    refine ⟨_, rfl, _, _, _, _, rfl, hr3, T.clR, T.nR_phase, (by show 9 < 1000; decide), ?_⟩
    rw [rk_put_phase]
    obtain ⟨H4, e4⟩ : ∃ H4, H4 = upd H3 r (.ins A.cR dx3 (rkF { (m.pot x.potted).comeBack 8 with phase := 2 } pt3 pf)) := ⟨_, rfl⟩
    rw [← e4]
    have K4 : RkAt A H4 r pf (((m.pot x.potted).comeBack 8).withPhase 2) := by
      rw [e4]
      exact RkAt.put (m' := ((m.pot x.potted).comeBack 8).withPhase 2) hr3 ht3 hf3 npt3 rfl rfl rfl ⟨ok3.up, ok3.rng, ok3.t0, ok3.t1, ok3.b0, ok3.b1⟩
    have k34 : Kept [r, pf] H3 H4 := by
      rw [e4]
      exact (Kept.refl _ _).upd List.mem_cons_self
    have k04 : Kept [r, pf] H H4 := (((Kept.of_same s1).trans k2).trans k3).trans k34
    have S4 := S3.kept k34
    have tn : (((m.pot x.potted).comeBack 8).withPhase 2).turn = m.turn := back_turn _ _
    obtain ⟨⟨dx4, pt4, hr4, ht4, npt4⟩, hf4, ok4⟩ := id K4
    obtain ⟨ns4, ds4, pp4, npp4, hs4, hpp4, hl4⟩ := id S4
    have o1 : 0 ≤ 1 - m.turn ∧ 1 - m.turn ≤ 1 := by have := ok1.t0; have := ok1.t1; omega
    refine ⟨_, rfl, _, rfl, if_both (fun cf => ?_) (fun cf => ?_)⟩
    · refine ⟨_, rfl, _, _, _, rfl, hr4, rk_no_play_by _ _ _, _, rfl, r, pf, _, _, _, rfl, K4, o1, fun H5 K5 k5 => ?_⟩
      have e : m.breakShot x = (((m.pot x.potted).comeBack 8).withPhase 2).playBy (1 - m.turn) true := if_pos cf
      rw [← e] at K5
      refine ⟨_, rfl, (by show 2 ≤ sizeLine; decide), fun p hp => ?_⟩
      exact k _ p (K5.same (Same.new1 hp)) ((k04.trans k5).trans (Kept.of_same (Same.new1 hp))) upd_same
    refine ⟨_, rfl, _, _, _, rfl, hs4, sh_no_is_weak _ _, s0, [r, pf], x, rfl, S4, fun H5 s5 => ?_⟩
    have K5 := K4.same s5
    have S5 := S4.same s5
    have k05 := k04.trans (Kept.of_same s5)
    obtain ⟨⟨dx5, pt5, hr5, ht5, npt5⟩, hf5, ok5⟩ := id K5
    obtain ⟨ns5, ds5, pp5, npp5, hs5, hpp5, hl5⟩ := id S5
    refine ⟨_, rfl, if_both (fun cw => ?_) (fun cw => ?_)⟩
    · refine ⟨_, rfl, _, _, _, rfl, hr5, rk_no_choose_by _ _ _, _, rfl, r, pf, _, _, _, rfl, K5, o1, fun H6 K6 k6 => ?_⟩
      have e : m.breakShot x = (((m.pot x.potted).comeBack 8).withPhase 2).chooseBy (1 - m.turn) false := by
        unfold R.breakShot
        rw [if_neg (by rw [cf]; decide), if_pos cw]
      rw [← e] at K6
      refine ⟨_, rfl, (by show 2 ≤ sizeLine; decide), fun p hp => ?_⟩
      exact k _ p (K6.same (Same.new1 hp)) ((k05.trans k6).trans (Kept.of_same (Same.new1 hp))) upd_same
    refine ⟨_, rfl, _, _, _, rfl, hr5, rk_no_play_by _ _ _, _, rfl, _, _, _, _, _, rfl, hs5, T.clS, T.nS_potted, sh_potted _ _, (by show 0 ≤ sizeLine; exact Nat.zero_le _), fun q hq => ?_⟩
    have s6 : Same H5 (upd H5 q (.lst [])) := Same.new1 hq
    have K6 := K5.same s6
    have k06 := k05.trans (Kept.of_same s6)
    refine ⟨_, _, Dp.lst (SqL.of (s6 _ _ hpp5)) (dp_ints _), Dp.lst (SqL.of upd_same) .nil, shaped_ints _, rfl, _, rfl, ?_⟩
    rw [eqv_nil]
    have e0 : m.breakShot x = (((m.pot x.potted).comeBack 8).withPhase 2).playBy (if x.potted = [] then 1 - m.turn else m.turn) false := by
      unfold R.breakShot
      rw [if_neg (by rw [cf]; decide), if_neg (by rw [cw]; decide)]
    refine if_both (fun c => ?_) (fun c => ?_)
    · have cn : ¬ x.potted = [] := by simpa using c
      rw [if_neg cn] at e0
      refine ⟨_, rfl, _, _, _, _, _, rfl, (s6 _ _ hr5), T.clR, T.nR_turn, rk_turn _ _ _, r, pf, _, _, _, rfl, K6, ⟨K6.ok.t0, K6.ok.t1⟩, fun H7 K7 k7 => ?_⟩
      rw [tn, ← e0] at K7
      refine ⟨_, rfl, (by show 2 ≤ sizeLine; decide), fun p hp => ?_⟩
      exact k _ p (K7.same (Same.new1 hp)) ((k06.trans k7).trans (Kept.of_same (Same.new1 hp))) upd_same
    · have cn : x.potted = [] := by simpa using c
      rw [if_pos cn] at e0
      refine ⟨_, rfl, r, pf, _, _, _, rfl, K6, o1, fun H7 K7 k7 => ?_⟩
      rw [← e0] at K7
      refine ⟨_, rfl, (by show 2 ≤ sizeLine; decide), fun p hp => ?_⟩
      exact k _ p (K7.same (Same.new1 hp)) ((k06.trans k7).trans (Kept.of_same (Same.new1 hp))) upd_same
end
end Pr
namespace Pr
open PySem PySem.Spec PyProof.Rows L2
section
variable {P : Program} {w : World} {K : PySem.W.Frag} {mg : Str → Option Value} {base : Heap} {A : Ad}
/-! winner_by_eight -/
abbrev s_w8 : Stmt := topS 22
theorem sc_w8 : FnScope ["rack", "shot", "is_foul"] ["rack", "shot", "is_foul"] (defScope s_w8) := ⟨rfl, rfl, rfl, by decide +kernel, rfl, by decide +kernel, by decide +kernel⟩
set_option maxHeartbeats 8000000 in
theorem ok_w8 {f : Addr} {fd : FuncData} (F : Fun K "winner_by_eight" "winner_by_eight" s_w8 f fd) (T : Txt K mg A) (c_rb : CalE P w K mg base CX0 3 "right_balls" (sp_rb A)) : FnOk P w K mg base CX0 4 f fd ["rack", "shot", "is_foul"] (sp_w8 A) := by
  refine F.ok sc_w8 (fun vs H Q E h => ?_) (fun cdv A0 outer s H vs Q E hRm h => ?_)
  · obtain ⟨_, _, _, _, _, _, _, rfl, _⟩ := h
    rfl
  · obtain ⟨r, pf, m, s0, T0, x, f0, rfl, K0, S0, k⟩ := h
    obtain ⟨⟨dx0, pt0, hr0, ht0, npt0⟩, hf0, ok0⟩ := id K0
    obtain ⟨ns0, ds0, pp0, npp0, hs0, hpp0, hl0⟩ := id S0
    refine ⟨_, (pss_cons (ps_if (PW.pt (pw_and (pt_not (pt_val (pv 2))) (pw_and (pt_cmpR (op_eqD hRm.units) (pe_cE c_rb hRm (by decide) rfl pass0 (pa_cons (pv 0) pa_nil)) (pe_lst (pa_cons (pe_gcE rfl T.c_EIGHT) pa_nil)) (nomark _)) (pw_and1 (pt_cmpR op_eq (pe_fld (pv 1) rfl) (pe_gcE rfl T.c_EIGHT) (nomark _)))))) (pss_one (ps_ret (pe_fld (pv 0) rfl))) pss_nil)
        (pss_one (ps_ret (pe_op op_sub pe_int (pe_fld (pv 0) rfl))))), ?_⟩
    refine ⟨_, rfl, _, rfl, if_both (fun c1 => ?_) (fun c1 => if_false_of rfl ?_)⟩
    · have f1 : f0 = false := by simpa using c1
      refine ⟨_, rfl, r, pf, m, rfl, K0, fun H1 p s1 hp => ⟨(by show 1 ≤ sizeLine; decide), fun q hq => ?_⟩⟩
      have npq : p ≠ q := by
        rintro rfl
        rw [hp] at hq
        cases hq
      have s2 : Same H (upd H1 q (.lst [.int 8])) := Same.new s1 (s1.free hq)
      refine ⟨_, _, Dp.lst (SqL.of ((upd_ne npq).trans hp)) (dp_ints _), Dp.lst (SqL.of upd_same) (dp_ints [8]), shaped_ints _, shaped_ints [8], _, rfl, ?_⟩
      rw [eqv_ints]
      refine if_both (fun c2 => ?_) (fun c2 => if_false_of rfl ?_)
      · refine ⟨_, rfl, _, _, _, _, _, rfl, (s2 _ _ hs0), T.clS, T.nS_called, sh_called _ _, rfl, _, rfl, if_both (fun c3 => ?_) (fun c3 => ?_)⟩
        · have e : m.winner8 x f0 = m.turn := if_pos ⟨f1, of_decide_eq_true c2, V.int.inj (of_decide_eq_true c3)⟩
          refine ⟨_, rfl, _, _, _, _, _, rfl, (s2 _ _ hr0), T.clR, T.nR_turn, rk_turn _ _ _, ?_⟩
          have q2 := k _ s2
          rw [e] at q2
          exact q2
        · have e : m.winner8 x f0 = 1 - m.turn := if_neg fun z => of_decide_eq_false c3 (congrArg V.int z.2.2)
          refine ⟨_, rfl, _, _, _, _, _, rfl, (s2 _ _ hr0), T.clR, T.nR_turn, rk_turn _ _ _, _, _, rfl, rfl, ?_⟩
          have q2 := k _ s2
          rw [e] at q2
          exact q2
      · have e : m.winner8 x f0 = 1 - m.turn := if_neg fun z => of_decide_eq_false c2 z.2.1
        refine ⟨_, rfl, _, _, _, _, _, rfl, (s2 _ _ hr0), T.clR, T.nR_turn, rk_turn _ _ _, _, _, rfl, rfl, ?_⟩
        have q2 := k _ s2
        rw [e] at q2
        exact q2
    · have e : m.winner8 x f0 = 1 - m.turn := if_neg fun z => by
        rw [z.1] at c1
        cases c1
      refine ⟨_, rfl, _, _, _, _, _, rfl, hr0, T.clR, T.nR_turn, rk_turn _ _ _, _, _, rfl, rfl, ?_⟩
      have q2 := k _ (Same.refl H)
      rw [e] at q2
      exact q2
end
end Pr
namespace Pr
open PySem PySem.Spec PyProof.Rows L2
section
variable {P : Program} {w : World} {K : PySem.W.Frag} {mg : Str → Option Value} {base : Heap} {A : Ad}
/-! go_on -/
abbrev s_gon : Stmt := topS 23
theorem sc_gon : FnScope ["rack", "shot", "was_open", "plays_on"] ["rack", "shot"] (defScope s_gon) := ⟨rfl, rfl, rfl, by decide +kernel, rfl, by decide +kernel, by decide +kernel⟩
set_option maxHeartbeats 8000000 in
theorem ok_gon {f : Addr} {fd : FuncData} (F : Fun K "go_on" "go_on" s_gon f fd) (T : Txt K mg A) (c_pby : MetE P w K mg base CX0 1 A.cR "play_by" (sp_pby A)) (c_gof : CalE P w K mg base CX0 1 "group_of" (sp_gof A)) (c_gfor : MetE P w K mg base CX0 1 A.cR "group_for" (sp_gfor A)) (c_tkg : MetE P w K mg base CX0 1 A.cR "take_group" (sp_tkg A)) (c_iso : MetE P w K mg base CX0 1 A.cR "is_open" (sp_iso A)) : FnOk P w K mg base CX0 2 f fd ["rack", "shot"] (sp_gon A) := by
  refine F.ok sc_gon (fun vs H Q E h => ?_) (fun cdv A0 outer s H vs Q E hRm h => ?_)
  · obtain ⟨_, _, _, _, _, rfl, _⟩ := h
    rfl
  · obtain ⟨r, pf, m, s0, x, rfl, K0, S0, k⟩ := h
    obtain ⟨⟨dx0, pt0, hr0, ht0, npt0⟩, hf0, ok0⟩ := id K0
    obtain ⟨ns0, ds0, pp0, npp0, hs0, hpp0, hl0⟩ := id S0
    refine ⟨_, (pss_cons (ps_set (i := 2) sc_gon.nd rfl (Or.inl rfl) (pe_mtE0 c_iso hRm (by decide) pass0 (pv 0)))
        (pss_cons (ps_if (PW.pt (pw_and (pt_cmpR op_in_seq (pe_fld (pv 1) rfl) (pe_fld (pv 1) rfl) (by rfl)) (pw_and1 (pt_val (pv 2))))) (pss_one (ps_expr (pe_mtE c_tkg hRm (by decide) pass0 (pv 0) (pa_cons (pe_fld (pv 0) rfl) (pa_cons (pe_cE c_gof hRm (by decide) rfl pass0 (pa_cons (pe_fld (pv 1) rfl) pa_nil)) pa_nil))))) pss_nil)
        (pss_cons (ps_set (i := 3) sc_gon.nd rfl (Or.inl rfl) (pe_and (pe_cmpR op_in_seq (pe_fld (pv 1) rfl) (pe_fld (pv 1) rfl) (by rfl)) (pe_one (pe_cmpR op_eq (pe_cE c_gof hRm (by decide) rfl pass0 (pa_cons (pe_fld (pv 1) rfl) pa_nil)) (pe_mtE c_gfor hRm (by decide) pass0 (pv 0) (pa_cons (pe_fld (pv 0) rfl) pa_nil)) (nomark _)))))
        (pss_one (ps_expr (pe_mtE c_pby hRm (by decide) pass0 (pv 0) (pa_cons (pe_ifExp (pt_val (pv 3)) (pe_fld (pv 0) rfl) (pe_op op_sub pe_int (pe_fld (pv 0) rfl))) (pa_cons pe_bl pa_nil)))))))), ?_⟩
    have et : (m.took x).turn = m.turn := by
      unfold R.took R.takeGroup
      split <;> rfl
    refine ⟨_, rfl, _, _, _, rfl, hr0, rk_no_is_open _ _ _, r, pf, m, rfl, K0, ?_⟩
    refine ⟨_, rfl, _, _, _, _, _, rfl, hs0, T.clS, T.nS_called, sh_called _ _, _, rfl, _, _, _, _, _, rfl, hs0, T.clS, T.nS_potted, sh_potted _ _, pp0, _, rfl, Or.inl (SqL.of hpp0), rfl, flat_zs _, _, rfl, ?_⟩
    rw [inV_int]
    refine if_both (fun c1 => ?_) (fun c1 => if_false_of rfl ?_)
    · have c1' : x.potted.contains x.called = true := c1
      refine ⟨_, rfl, _, rfl, if_both (fun c2 => ?_) (fun c2 => ?_)⟩
      · have g0 : m.group = 0 := of_decide_eq_true c2
        refine ⟨_, rfl, _, _, _, rfl, hr0, rk_no_take_group _ _ _, _, rfl, _, _, _, _, _, rfl, hr0, T.clR, T.nR_turn, rk_turn _ _ _, _, rfl, _, _, _, _, _, rfl, hs0, T.clS, T.nS_called, sh_called _ _, _, rfl, r, pf, m, _, _, rfl, K0, fun H4 K4 k4 => ?_⟩
        have e4 : m.took x = m.takeGroup m.turn (groupOf x.called) := if_pos ⟨c1', g0⟩
        rw [← e4] at K4
        have S4 := S0.kept k4
        obtain ⟨⟨dx4, pt4, hr4, ht4, npt4⟩, hf4, ok4⟩ := id K4
        obtain ⟨ns4, ds4, pp4, npp4, hs4, hpp4, hl4⟩ := id S4
        have b4 : 0 ≤ m.turn ∧ m.turn ≤ 1 := ⟨by have := ok4.t0; rw [et] at this; exact this, by have := ok4.t1; rw [et] at this; exact this⟩
        refine ⟨_, rfl, _, _, _, _, _, rfl, hs4, T.clS, T.nS_called, sh_called _ _, _, rfl, _, _, _, _, _, rfl, hs4, T.clS, T.nS_potted, sh_potted _ _, pp4, _, rfl, Or.inl (SqL.of hpp4), rfl, flat_zs _, _, rfl, ?_⟩
        rw [inV_int]
        refine if_both (fun d1 => ?_) (fun d1 => ?_)
        · have d1' : x.potted.contains x.called = true := d1
          refine ⟨_, rfl, _, _, _, _, _, rfl, hs4, T.clS, T.nS_called, sh_called _ _, _, rfl, _, rfl, _, _, _, rfl, hr4, rk_no_group_for _ _ _, _, rfl, _, _, _, _, _, rfl, hr4, T.clR, T.nR_turn, rk_turn _ _ _, r, pf, _, _, rfl, K4, rfl, ?_⟩
          rw [dec_int, beq_dec]
          refine ⟨_, rfl, _, _, _, rfl, hr4, rk_no_play_by _ _ _, _, rfl, _, rfl, if_both (fun d2 => ?_) (fun d2 => ?_)⟩
          · have d2' : groupOf x.called = (m.took x).groupFor m.turn := by
              have z := of_decide_eq_true d2
              rw [et] at z
              exact z
            refine ⟨_, rfl, _, _, _, _, _, rfl, hr4, T.clR, T.nR_turn, rk_turn _ _ _, r, pf, _, _, _, rfl, K4, ⟨ok4.t0, ok4.t1⟩, fun H5 K5 k5 => ?_⟩
            have e : m.goOn x = (m.took x).playBy (m.took x).turn false := by
              unfold R.goOn
              rw [if_pos ⟨d1', d2'⟩, et]
            rw [← e] at K5
            exact k _ K5 (k4.trans k5)
          · have d2' : ¬ groupOf x.called = (m.took x).groupFor m.turn := by
              have z := of_decide_eq_false d2
              rw [et] at z
              exact z
            refine ⟨_, rfl, _, _, _, _, _, rfl, hr4, T.clR, T.nR_turn, rk_turn _ _ _, _, _, rfl, rfl, r, pf, _, _, _, rfl, K4, (by rw [et]; omega), fun H5 K5 k5 => ?_⟩
            have e : m.goOn x = (m.took x).playBy (1 - (m.took x).turn) false := by
              unfold R.goOn
              rw [if_neg (fun z => d2' z.2), et]
            rw [← e] at K5
            exact k _ K5 (k4.trans k5)
        · have d1' : ¬ x.potted.contains x.called = true := fun z => by
            have d1b : x.potted.contains x.called = false := d1
            rw [z] at d1b
            cases d1b
          refine ⟨_, rfl, _, _, _, rfl, hr4, rk_no_play_by _ _ _, _, rfl, _, rfl, if_false_of rfl ?_⟩
          refine ⟨_, rfl, _, _, _, _, _, rfl, hr4, T.clR, T.nR_turn, rk_turn _ _ _, _, _, rfl, rfl, r, pf, _, _, _, rfl, K4, (by rw [et]; omega), fun H5 K5 k5 => ?_⟩
          have e : m.goOn x = (m.took x).playBy (1 - (m.took x).turn) false := by
            unfold R.goOn
            rw [if_neg (fun z => d1' z.1), et]
          rw [← e] at K5
          exact k _ K5 (k4.trans k5)
      · have g0 : ¬ m.group = 0 := of_decide_eq_false c2
        have e4 : m.took x = m := if_neg fun z => g0 z.2
        have K4 : RkAt A H r pf (m.took x) := by
          rw [e4]
          exact K0
        have S4 := S0
        have k4 : Kept [r, pf] H H := Kept.refl _ _
        obtain ⟨⟨dx4, pt4, hr4, ht4, npt4⟩, hf4, ok4⟩ := id K4
        obtain ⟨ns4, ds4, pp4, npp4, hs4, hpp4, hl4⟩ := id S4
        have b4 : 0 ≤ m.turn ∧ m.turn ≤ 1 := ⟨by have := ok4.t0; rw [et] at this; exact this, by have := ok4.t1; rw [et] at this; exact this⟩
        refine ⟨_, rfl, _, _, _, _, _, rfl, hs4, T.clS, T.nS_called, sh_called _ _, _, rfl, _, _, _, _, _, rfl, hs4, T.clS, T.nS_potted, sh_potted _ _, pp4, _, rfl, Or.inl (SqL.of hpp4), rfl, flat_zs _, _, rfl, ?_⟩
        rw [inV_int]
        refine if_both (fun d1 => ?_) (fun d1 => ?_)
        · have d1' : x.potted.contains x.called = true := d1
          refine ⟨_, rfl, _, _, _, _, _, rfl, hs4, T.clS, T.nS_called, sh_called _ _, _, rfl, _, rfl, _, _, _, rfl, hr4, rk_no_group_for _ _ _, _, rfl, _, _, _, _, _, rfl, hr4, T.clR, T.nR_turn, rk_turn _ _ _, r, pf, _, _, rfl, K4, rfl, ?_⟩
          rw [dec_int, beq_dec]
          refine ⟨_, rfl, _, _, _, rfl, hr4, rk_no_play_by _ _ _, _, rfl, _, rfl, if_both (fun d2 => ?_) (fun d2 => ?_)⟩
          · have d2' : groupOf x.called = (m.took x).groupFor m.turn := by
              have z := of_decide_eq_true d2
              rw [et] at z
              exact z
            refine ⟨_, rfl, _, _, _, _, _, rfl, hr4, T.clR, T.nR_turn, rk_turn _ _ _, r, pf, _, _, _, rfl, K4, ⟨ok4.t0, ok4.t1⟩, fun H5 K5 k5 => ?_⟩
            have e : m.goOn x = (m.took x).playBy (m.took x).turn false := by
              unfold R.goOn
              rw [if_pos ⟨d1', d2'⟩, et]
            rw [← e] at K5
            exact k _ K5 (k4.trans k5)
          · have d2' : ¬ groupOf x.called = (m.took x).groupFor m.turn := by
              have z := of_decide_eq_false d2
              rw [et] at z
              exact z
            refine ⟨_, rfl, _, _, _, _, _, rfl, hr4, T.clR, T.nR_turn, rk_turn _ _ _, _, _, rfl, rfl, r, pf, _, _, _, rfl, K4, (by rw [et]; omega), fun H5 K5 k5 => ?_⟩
            have e : m.goOn x = (m.took x).playBy (1 - (m.took x).turn) false := by
              unfold R.goOn
              rw [if_neg (fun z => d2' z.2), et]
            rw [← e] at K5
            exact k _ K5 (k4.trans k5)
        · have d1' : ¬ x.potted.contains x.called = true := fun z => by
            have d1b : x.potted.contains x.called = false := d1
            rw [z] at d1b
            cases d1b
          refine ⟨_, rfl, _, _, _, rfl, hr4, rk_no_play_by _ _ _, _, rfl, _, rfl, if_false_of rfl ?_⟩
          refine ⟨_, rfl, _, _, _, _, _, rfl, hr4, T.clR, T.nR_turn, rk_turn _ _ _, _, _, rfl, rfl, r, pf, _, _, _, rfl, K4, (by rw [et]; omega), fun H5 K5 k5 => ?_⟩
          have e : m.goOn x = (m.took x).playBy (1 - (m.took x).turn) false := by
            unfold R.goOn
            rw [if_neg (fun z => d1' z.1), et]
          rw [← e] at K5
          exact k _ K5 (k4.trans k5)
    · have c1' : ¬ x.potted.contains x.called = true := fun z => by
        have c1b : x.potted.contains x.called = false := c1
        rw [z] at c1b
        cases c1b
      have e4 : m.took x = m := if_neg fun z => c1' z.1
      have K4 : RkAt A H r pf (m.took x) := by
        rw [e4]
        exact K0
      have S4 := S0
      have k4 : Kept [r, pf] H H := Kept.refl _ _
      obtain ⟨⟨dx4, pt4, hr4, ht4, npt4⟩, hf4, ok4⟩ := id K4
      obtain ⟨ns4, ds4, pp4, npp4, hs4, hpp4, hl4⟩ := id S4
      have b4 : 0 ≤ m.turn ∧ m.turn ≤ 1 := ⟨by have := ok4.t0; rw [et] at this; exact this, by have := ok4.t1; rw [et] at this; exact this⟩
      refine ⟨_, rfl, _, _, _, _, _, rfl, hs4, T.clS, T.nS_called, sh_called _ _, _, rfl, _, _, _, _, _, rfl, hs4, T.clS, T.nS_potted, sh_potted _ _, pp4, _, rfl, Or.inl (SqL.of hpp4), rfl, flat_zs _, _, rfl, ?_⟩
      rw [inV_int]
      refine if_both (fun d1 => ?_) (fun d1 => ?_)
      · have d1' : x.potted.contains x.called = true := d1
        refine ⟨_, rfl, _, _, _, _, _, rfl, hs4, T.clS, T.nS_called, sh_called _ _, _, rfl, _, rfl, _, _, _, rfl, hr4, rk_no_group_for _ _ _, _, rfl, _, _, _, _, _, rfl, hr4, T.clR, T.nR_turn, rk_turn _ _ _, r, pf, _, _, rfl, K4, rfl, ?_⟩
        rw [dec_int, beq_dec]
        refine ⟨_, rfl, _, _, _, rfl, hr4, rk_no_play_by _ _ _, _, rfl, _, rfl, if_both (fun d2 => ?_) (fun d2 => ?_)⟩
        · have d2' : groupOf x.called = (m.took x).groupFor m.turn := by
            have z := of_decide_eq_true d2
            rw [et] at z
            exact z
          refine ⟨_, rfl, _, _, _, _, _, rfl, hr4, T.clR, T.nR_turn, rk_turn _ _ _, r, pf, _, _, _, rfl, K4, ⟨ok4.t0, ok4.t1⟩, fun H5 K5 k5 => ?_⟩
          have e : m.goOn x = (m.took x).playBy (m.took x).turn false := by
            unfold R.goOn
            rw [if_pos ⟨d1', d2'⟩, et]
          rw [← e] at K5
          exact k _ K5 (k4.trans k5)
        · have d2' : ¬ groupOf x.called = (m.took x).groupFor m.turn := by
            have z := of_decide_eq_false d2
            rw [et] at z
            exact z
          refine ⟨_, rfl, _, _, _, _, _, rfl, hr4, T.clR, T.nR_turn, rk_turn _ _ _, _, _, rfl, rfl, r, pf, _, _, _, rfl, K4, (by rw [et]; omega), fun H5 K5 k5 => ?_⟩
          have e : m.goOn x = (m.took x).playBy (1 - (m.took x).turn) false := by
            unfold R.goOn
            rw [if_neg (fun z => d2' z.2), et]
          rw [← e] at K5
          exact k _ K5 (k4.trans k5)
      · have d1' : ¬ x.potted.contains x.called = true := fun z => by
          have d1b : x.potted.contains x.called = false := d1
          rw [z] at d1b
          cases d1b
        refine ⟨_, rfl, _, _, _, rfl, hr4, rk_no_play_by _ _ _, _, rfl, _, rfl, if_false_of rfl ?_⟩
        refine ⟨_, rfl, _, _, _, _, _, rfl, hr4, T.clR, T.nR_turn, rk_turn _ _ _, _, _, rfl, rfl, r, pf, _, _, _, rfl, K4, (by rw [et]; omega), fun H5 K5 k5 => ?_⟩
        have e : m.goOn x = (m.took x).playBy (1 - (m.took x).turn) false := by
          unfold R.goOn
          rw [if_neg (fun z => d1' z.1), et]
        rw [← e] at K5
        exact k _ K5 (k4.trans k5)
end
end Pr
namespace Pr
open PySem PySem.Spec PyProof.Rows L2
section
variable {P : Program} {w : World} {K : PySem.W.Frag} {mg : Str → Option Value} {base : Heap} {A : Ad}
/-! play_shot -/
abbrev s_pls : Stmt := topS 24
theorem sc_pls : FnScope ["rack", "shot", "is_foul"] ["rack", "shot"] (defScope s_pls) := ⟨rfl, rfl, rfl, by decide +kernel, rfl, by decide +kernel, by decide +kernel⟩
set_option maxHeartbeats 8000000 in
theorem ok_pls {f : Addr} {fd : FuncData} (F : Fun K "play_shot" "play_shot" s_pls f fd) (T : Txt K mg A) (c_pby : MetE P w K mg base CX0 1 A.cR "play_by" (sp_pby A)) (c_gon : CalE P w K mg base CX0 2 "go_on" (sp_gon A)) (c_pot : MetE P w K mg base CX0 1 A.cR "pot" (sp_pot A)) (c_w8 : CalE P w K mg base CX0 4 "winner_by_eight" (sp_w8 A)) (c_ipf : CalE P w K mg base CX0 4 "is_plain_foul" (sp_ipf A)) : FnOk P w K mg base CX0 5 f fd ["rack", "shot"] (sp_pls A) := by
  refine F.ok sc_pls (fun vs H Q E h => ?_) (fun cdv A0 outer s H vs Q E hRm h => ?_)
  · obtain ⟨_, _, _, _, _, rfl, _⟩ := h
    rfl
  · obtain ⟨r, pf, m, s0, x, rfl, K0, S0, k⟩ := h
    refine ⟨_, (pss_cons (ps_set (i := 2) sc_pls.nd rfl (Or.inl rfl) (pe_cE c_ipf hRm (by decide) rfl pass0 (pa_cons (pv 0) (pa_cons (pv 1) pa_nil))))
        (pss_cons (ps_if (pt_cmpR op_in_seq (pe_gcE rfl T.c_EIGHT) (pe_fld (pv 1) rfl) (by rfl)) (pss_one (ps_ret (pe_tup (pa_cons (pv 2) (pa_cons (pe_cE c_w8 hRm (by decide) rfl pass0 (pa_cons (pv 0) (pa_cons (pv 1) (pa_cons (pv 2) pa_nil)))) pa_nil))))) pss_nil)
        (pss_cons (ps_expr (pe_mtE c_pot hRm (by decide) pass0 (pv 0) (pa_cons (pe_fld (pv 1) rfl) pa_nil)))
        (pss_cons (ps_if (pt_val (pv 2)) (pss_one (ps_expr (pe_mtE c_pby hRm (by decide) pass0 (pv 0) (pa_cons (pe_op op_sub pe_int (pe_fld (pv 0) rfl)) (pa_cons pe_bl pa_nil))))) (pss_one (ps_expr (pe_cE c_gon hRm (by decide) rfl pass0 (pa_cons (pv 0) (pa_cons (pv 1) pa_nil))))))
        (pss_one (ps_ret (pe_tup (pa_cons (pv 2) (pa_cons pe_non pa_nil))))))))), ?_⟩
    refine ⟨_, rfl, _, rfl, r, pf, m, s0, [r, pf], x, rfl, K0, S0, fun H1 s1 => ?_⟩
    have K1 := K0.same s1
    have S1 := S0.same s1
    obtain ⟨⟨dx1, pt1, hr1, ht1, npt1⟩, hf1, ok1⟩ := id K1
    obtain ⟨ns1, ds1, pp1, npp1, hs1, hpp1, hl1⟩ := id S1
    refine ⟨_, rfl, _, _, _, _, _, rfl, hs1, T.clS, T.nS_potted, sh_potted _ _, pp1, _, rfl, Or.inl (SqL.of hpp1), rfl, flat_zs _, _, rfl, ?_⟩
    rw [inV_int]
    refine if_both (fun c1 => ?_) (fun c1 => ?_)
    · have c1' : x.potted.contains 8 = true := c1
      have e : m.playShot x = (m, some (m.winner8 x (m.plainFoul x))) := if_pos c1'
      rw [e] at k
      refine ⟨_, rfl, _, rfl, _, rfl, _, rfl, r, pf, m, s0, [r, pf], x, _, rfl, K1, S1, fun H2 s2 => ?_⟩
      refine ⟨(by show 2 ≤ sizeLine; decide), fun p hp => ?_⟩
      exact k _ p ((K1.same s2).same (Same.new1 hp)) (Kept.of_same ((s1.trans s2).trans (Same.new1 hp))) upd_same
    have c1' : ¬ x.potted.contains 8 = true := fun z => by
      have c1b : x.potted.contains 8 = false := c1
      rw [z] at c1b
      cases c1b
    refine ⟨_, rfl, _, _, _, rfl, hr1, rk_no_pot _ _ _, _, rfl, _, _, _, _, _, rfl, hs1, T.clS, T.nS_potted, sh_potted _ _, r, pf, m, pp1, x.potted, rfl, K1, hpp1, fun H2 K2 k2 => ?_⟩
    have S2 := S1.kept k2
    obtain ⟨⟨dx2, pt2, hr2, ht2, npt2⟩, hf2, ok2⟩ := id K2
    refine ⟨_, rfl, _, rfl, if_both (fun cf => ?_) (fun cf => ?_)⟩
    · have e : m.playShot x = ((m.pot x.potted).playBy (1 - m.turn) true, none) := by
        unfold R.playShot
        rw [if_neg c1', if_pos cf]
      rw [e] at k
      refine ⟨_, rfl, _, _, _, rfl, hr2, rk_no_play_by _ _ _, _, rfl, _, _, _, _, _, rfl, hr2, T.clR, T.nR_turn, rk_turn _ _ _, _, _, rfl, rfl, r, pf, _, _, _, rfl, K2, (by have := ok1.t0; have := ok1.t1; show 0 ≤ 1 - m.turn ∧ 1 - m.turn ≤ 1; omega), fun H3 K3 k3 => ?_⟩
      refine ⟨_, rfl, (by show 2 ≤ sizeLine; decide), fun p hp => ?_⟩
      exact k _ p (K3.same (Same.new1 hp)) ((((Kept.of_same s1).trans k2).trans k3).trans (Kept.of_same (Same.new1 hp))) upd_same
    · have e : m.playShot x = ((m.pot x.potted).goOn x, none) := by
        unfold R.playShot
        rw [if_neg c1', if_neg (by rw [cf]; decide)]
      rw [e] at k
      refine ⟨_, rfl, _, rfl, r, pf, _, s0, x, rfl, K2, S2, fun H3 K3 k3 => ?_⟩
      refine ⟨_, rfl, (by show 2 ≤ sizeLine; decide), fun p hp => ?_⟩
      exact k _ p (K3.same (Same.new1 hp)) ((((Kept.of_same s1).trans k2).trans k3).trans (Kept.of_same (Same.new1 hp))) upd_same
end
end Pr
namespace Pr
open PySem PySem.Spec PyProof.Rows L2
section
variable {P : Program} {w : World} {K : PySem.W.Frag} {mg : Str → Option Value} {base : Heap} {A : Ad}
/-! eight_shot -/
abbrev s_e8 : Stmt := topS 25
theorem sc_e8 : FnScope ["rack", "shot"] ["rack", "shot"] (defScope s_e8) := ⟨rfl, rfl, rfl, by decide +kernel, rfl, by decide +kernel, by decide +kernel⟩
set_option maxHeartbeats 8000000 in
theorem ok_e8 {f : Addr} {fd : FuncData} (F : Fun K "eight_shot" "eight_shot" s_e8 f fd) (T : Txt K mg A) (c_brk : CalE P w K mg base CX0 5 "break_shot" (sp_brk A)) (c_pls : CalE P w K mg base CX0 5 "play_shot" (sp_pls A)) : FnOk P w K mg base CX0 6 f fd ["rack", "shot"] (sp_e8 A) := by
  refine F.ok sc_e8 (fun vs H Q E h => ?_) (fun cdv A0 outer s H vs Q E hRm h => ?_)
  · obtain ⟨_, _, _, _, _, rfl, _⟩ := h
    rfl
  · obtain ⟨r, pf, m, s0, x, rfl, K0, S0, k⟩ := h
    obtain ⟨⟨dx0, pt0, hr0, ht0, npt0⟩, hf0, ok0⟩ := id K0
    refine ⟨_, (pss_one (ps_ret (pe_ifExp (pt_cmpR op_eq (pe_fld (pv 0) rfl) (pe_gcE rfl T.c_BREAK) (nomark _)) (pe_cE c_brk hRm (by decide) rfl pass0 (pa_cons (pv 0) (pa_cons (pv 1) pa_nil))) (pe_cE c_pls hRm (by decide) rfl pass0 (pa_cons (pv 0) (pa_cons (pv 1) pa_nil)))))), ?_⟩
    refine ⟨_, rfl, _, _, _, _, _, rfl, hr0, T.clR, T.nR_phase, rk_phase _ _ _, rfl, _, rfl, if_both (fun c => ?_) (fun c => ?_)⟩
    · have e : m.eight x = (m.breakShot x, none) := if_pos (V.int.inj (of_decide_eq_true c))
      rw [e] at k
      exact ⟨_, rfl, _, rfl, r, pf, m, s0, x, rfl, K0, S0, k⟩
    · have e : m.eight x = m.playShot x := if_neg fun z => of_decide_eq_false c (congrArg V.int z)
      rw [e] at k
      exact ⟨_, rfl, _, rfl, r, pf, m, s0, x, rfl, K0, S0, k⟩
end
end Pr
namespace Pr
open PySem PySem.Spec PyProof.Rows L2
section
variable {P : Program} {w : World} {K : PySem.W.Frag} {mg : Str → Option Value} {base : Heap} {A : Ad}
/-! is_foul_in_nine -/
abbrev s_f9 : Stmt := topS 28
theorem sc_f9 : FnScope ["rack", "shot"] ["rack", "shot"] (defScope s_f9) := ⟨rfl, rfl, rfl, by decide +kernel, rfl, by decide +kernel, by decide +kernel⟩
set_option maxHeartbeats 8000000 in
theorem ok_f9 {f : Addr} {fd : FuncData} (F : Fun K "is_foul_in_nine" "is_foul_in_nine" s_f9 f fd) (T : Txt K mg A) (c_weak : MetE P w K mg base CX0 1 A.cS "is_weak" (sp_weak A)) (c_ipf : CalE P w K mg base CX0 4 "is_plain_foul" (sp_ipf A)) : FnOk P w K mg base CX0 5 f fd ["rack", "shot"] (sp_f9 A) := by
  refine F.ok sc_f9 (fun vs H Q E h => ?_) (fun cdv A0 outer s H vs Q E hRm h => ?_)
  · obtain ⟨_, _, _, _, _, _, rfl, _⟩ := h
    rfl
  · obtain ⟨r, pf, m, s0, T0, x, rfl, K0, S0, k⟩ := h
    obtain ⟨⟨dx0, pt0, hr0, ht0, npt0⟩, hf0, ok0⟩ := id K0
    obtain ⟨ns0, ds0, pp0, npp0, hs0, hpp0, hl0⟩ := id S0
    refine ⟨_, (pss_cons (ps_if (pt_val (pe_fld (pv 1) rfl)) (pss_one (ps_ret (pe_fld (pv 1) rfl))) pss_nil)
        (pss_one (ps_ret (pe_or (pe_cE c_ipf hRm (by decide) rfl pass0 (pa_cons (pv 0) (pa_cons (pv 1) pa_nil))) (pe_one (pe_and (pe_cmpR op_eq (pe_fld (pv 0) rfl) (pe_gcE rfl T.c_BREAK) (nomark _)) (pe_one (pe_mtE0 c_weak hRm (by decide) pass0 (pv 1))))))))), ?_⟩
    refine ⟨_, rfl, _, _, _, _, _, rfl, hs0, T.clS, T.nS_is_push, sh_is_push _ _, _, rfl, if_both (fun c1 => ?_) (fun c1 => ?_)⟩
    · have e : m.foul9 x = x.lost := if_pos c1
      rw [e] at k
      exact ⟨_, rfl, _, _, _, _, _, rfl, hs0, T.clS, T.nS_is_lost, sh_is_lost _ _, k _ (Same.refl H)⟩
    have e : m.foul9 x = (m.plainFoul x || (decide (m.phase = 0) && x.weak)) := if_neg (by rw [c1]; decide)
    rw [e] at k
    refine ⟨_, rfl, _, rfl, r, pf, m, s0, T0, x, rfl, K0, S0, fun H1 s1 => ⟨_, rfl, if_both (fun c2 => ?_) (fun c2 => ?_)⟩⟩
    · have q2 := k _ s1
      rw [c2, Bool.true_or] at q2
      exact q2
    rw [c2, Bool.false_or] at k
    refine ⟨_, rfl, _, _, _, _, _, rfl, (s1 _ _ hr0), T.clR, T.nR_phase, rk_phase _ _ _, rfl, _, rfl, ?_⟩
    rw [dec_int, beq_dec]
    refine if_both (fun c3 => ?_) (fun c3 => ?_)
    · rw [c3, Bool.true_and] at k
      exact ⟨_, rfl, _, _, _, rfl, (s1 _ _ hs0), sh_no_is_weak _ _, s0, T0, x, rfl, S0.same s1, fun H2 s2 => k _ (s1.trans s2)⟩
    · have q2 := k _ s1
      rw [c3, Bool.false_and] at q2
      exact q2
end
end Pr
namespace Pr
open PySem PySem.Spec PyProof.Rows L2
section
variable {P : Program} {w : World} {K : PySem.W.Frag} {mg : Str → Option Value} {base : Heap} {A : Ad}
/-! phase_behind -/
abbrev s_phb : Stmt := topS 29
theorem sc_phb : FnScope ["rack"] ["rack"] (defScope s_phb) := ⟨rfl, rfl, rfl, by decide +kernel, rfl, by decide +kernel, by decide +kernel⟩
set_option maxHeartbeats 8000000 in
theorem ok_phb {f : Addr} {fd : FuncData} (F : Fun K "phase_behind" "phase_behind" s_phb f fd) (T : Txt K mg A) : FnOk P w K mg base CX0 1 f fd ["rack"] (sp_phb A) := by
  refine F.ok sc_phb (fun vs H Q E h => ?_) (fun cdv A0 outer s H vs Q E hRm h => ?_)
  · obtain ⟨_, _, _, rfl, _⟩ := h
    rfl
  · obtain ⟨r, pf, m, rfl, K0, k⟩ := h
    obtain ⟨⟨dx, pt, hr, ht, npt⟩, hf, ok⟩ := K0
    refine ⟨_, (pss_one (ps_ret (pe_ifExp (pt_cmpR op_eq (pe_fld (pv 0) rfl) (pe_gcE rfl T.c_BREAK) (nomark _)) (pe_gcE rfl T.c_BEHIND) (pe_gcE rfl T.c_PLAY)))), ?_⟩
    refine ⟨_, rfl, _, _, _, _, _, rfl, hr, T.clR, T.nR_phase, rk_phase _ _ _, rfl, _, rfl, if_both (fun c => ?_) (fun c => ?_)⟩
    · have e : m.behind = 1 := if_pos (V.int.inj (of_decide_eq_true c))
      rw [e] at k
      exact k
    · have e : m.behind = 2 := if_neg fun z => of_decide_eq_false c (congrArg V.int z)
      rw [e] at k
      exact k
end
end Pr
namespace Pr
open PySem PySem.Spec PyProof.Rows L2
section
variable {P : Program} {w : World} {K : PySem.W.Frag} {mg : Str → Option Value} {base : Heap} {A : Ad}
/-! foul -/
abbrev s_fou : Stmt := topS 30
theorem sc_fou : FnScope ["rack", "side"] ["rack"] (defScope s_fou) := ⟨rfl, rfl, rfl, by decide +kernel, rfl, by decide +kernel, by decide +kernel⟩
set_option maxHeartbeats 8000000 in
theorem ok_fou {f : Addr} {fd : FuncData} (F : Fun K "foul" "foul" s_fou f fd) (T : Txt K mg A) (c_pby : MetE P w K mg base CX0 1 A.cR "play_by" (sp_pby A)) (c_cmb : MetE P w K mg base CX0 1 A.cR "come_back" (sp_cmb A)) : FnOk P w K mg base CX0 2 f fd ["rack"] (sp_fou A) := by
  refine F.ok sc_fou (fun vs H Q E h => ?_) (fun cdv A0 outer s H vs Q E hRm h => ?_)
  · obtain ⟨_, _, _, rfl, _⟩ := h
    rfl
  · obtain ⟨r, pf, m, rfl, K0, k⟩ := h
    obtain ⟨⟨dx0, pt0, hr0, ht0, npt0⟩, hf0, ok0⟩ := id K0
    refine ⟨_, (pss_cons (ps_set (i := 1) sc_fou.nd rfl (Or.inl rfl) (pe_fld (pv 0) rfl))
        (pss_cons (ps_expr (pe_mtE c_cmb hRm (by decide) pass0 (pv 0) (pa_cons (pe_gcE rfl T.c_NINE) pa_nil)))
        (pss_cons (ps_asg (pe_op op_add (pe_ix ix_list (pe_fld (pv 0) rfl) (pv 1) (fun _ _ => rfl)) pe_int) (pg_sub (pe_fld (pv 0) rfl) (pv 1) set_list))
        (pss_cons (ps_expr (pe_mtE c_pby hRm (by decide) pass0 (pv 0) (pa_cons (pe_op op_sub pe_int (pv 1)) (pa_cons pe_bl pa_nil))))
        (pss_one (ps_ret (pe_ifExp (pt_cmpR op_eq (pe_ix ix_list (pe_fld (pv 0) rfl) (pv 1) (fun _ _ => rfl)) (pe_gcE rfl T.c_MOST_FOULS) (nomark _)) (pe_op op_sub pe_int (pv 1)) pe_non))))))), ?_⟩
    have b01 : 0 ≤ m.turn ∧ m.turn ≤ 1 := ⟨ok0.t0, ok0.t1⟩
    refine ⟨_, rfl, _, _, _, _, _, rfl, hr0, T.clR, T.nR_turn, rk_turn _ _ _, _, rfl, _, _, _, rfl, hr0, rk_no_come_back _ _ _, r, pf, m, 9, rfl, K0, ⟨by decide, by decide⟩, fun H1 K1 k1 => ?_⟩
    obtain ⟨⟨dx1, pt1, hr1, ht1, npt1⟩, hf1, ok1⟩ := id K1
    have ef : (if m.turn = 0 then (m.comeBack 9).fa else (m.comeBack 9).fb) = m.fouls m.turn := by
      unfold R.fouls
      rw [back_same_fa, back_same_fb]
    refine ⟨_, rfl, _, _, _, _, _, rfl, hr1, T.clR, T.nR_fouls, rk_fouls _ _ _, _, rfl, pf, _, _, _, rfl, rfl, SqL.of hf1, fou_at b01.1 b01.2, _, _, rfl, rfl, _, rfl, _, _, _, _, _, rfl, hr1, T.clR, T.nR_fouls, rk_fouls _ _ _, _, rfl, pf, _, _, _, rfl, rfl, hf1, fou_ix b01.1 b01.2, ?_⟩
    have K2 := K1.setF b01.1 b01.2 (v := (if m.turn = 0 then (m.comeBack 9).fa else (m.comeBack 9).fb) + 1)
    have k2 : Kept [r, pf] H1 (upd H1 pf (.lst ([V.int (m.comeBack 9).fa, V.int (m.comeBack 9).fb].set m.turn.toNat (.int ((if m.turn = 0 then (m.comeBack 9).fa else (m.comeBack 9).fb) + 1))))) := (Kept.refl _ _).upd (List.mem_cons_of_mem _ List.mem_cons_self)
    obtain ⟨⟨dx2, pt2, hr2, ht2, npt2⟩, hf2, ok2⟩ := id K2
    refine ⟨_, rfl, _, _, _, rfl, hr2, rk_no_play_by _ _ _, _, rfl, _, _, rfl, rfl, r, pf, _, _, _, rfl, K2, (by omega), fun H3 K3 k3 => ?_⟩
    obtain ⟨⟨dx3, pt3, hr3, ht3, npt3⟩, hf3, ok3⟩ := id K3
    rw [ef] at K3 hf3 hr3
    have eF : ((m.comeBack 9).setF m.turn (m.fouls m.turn + 1)).playBy (1 - m.turn) true = m.fouled := rfl
    have et3 : (if m.turn = 0 then (((m.comeBack 9).setF m.turn (m.fouls m.turn + 1)).playBy (1 - m.turn) true).fa else (((m.comeBack 9).setF m.turn (m.fouls m.turn + 1)).playBy (1 - m.turn) true).fb) = m.fouls m.turn + 1 := setF_at _ _ _
    refine ⟨_, rfl, _, _, _, _, _, rfl, hr3, T.clR, T.nR_fouls, rk_fouls _ _ _, _, rfl, pf, _, _, _, rfl, rfl, SqL.of hf3, fou_at b01.1 b01.2, ?_⟩
    rw [et3]
    refine ⟨rfl, _, rfl, if_both (fun c => ?_) (fun c => ?_)⟩
    · have e : m.foulWin = some (1 - m.turn) := if_pos (V.int.inj (of_decide_eq_true c))
      rw [e] at k
      exact ⟨_, rfl, _, _, rfl, rfl, k _ K3 ((k1.trans k2).trans k3)⟩
    · have e : m.foulWin = none := if_neg fun z => of_decide_eq_false c (congrArg V.int z)
      rw [e] at k
      exact k _ K3 ((k1.trans k2).trans k3)
end
end Pr
namespace Pr
open PySem PySem.Spec PyProof.Rows L2
section
variable {P : Program} {w : World} {K : PySem.W.Frag} {mg : Str → Option Value} {base : Heap} {A : Ad}
/-! push -/
abbrev s_psh : Stmt := topS 31
theorem sc_psh : FnScope ["rack"] ["rack"] (defScope s_psh) := ⟨rfl, rfl, rfl, by decide +kernel, rfl, by decide +kernel, by decide +kernel⟩
set_option maxHeartbeats 8000000 in
theorem ok_psh {f : Addr} {fd : FuncData} (F : Fun K "push" "push" s_psh f fd) (T : Txt K mg A) (c_cby : MetE P w K mg base CX0 1 A.cR "choose_by" (sp_cby A)) (c_cmb : MetE P w K mg base CX0 1 A.cR "come_back" (sp_cmb A)) : FnOk P w K mg base CX0 2 f fd ["rack"] (sp_psh A) := by
  refine F.ok sc_psh (fun vs H Q E h => ?_) (fun cdv A0 outer s H vs Q E hRm h => ?_)
  · obtain ⟨_, _, _, rfl, _⟩ := h
    rfl
  · obtain ⟨r, pf, m, rfl, K0, k⟩ := h
    obtain ⟨⟨dx0, pt0, hr0, ht0, npt0⟩, hf0, ok0⟩ := id K0
    refine ⟨_, (pss_cons (ps_expr (pe_mtE c_cmb hRm (by decide) pass0 (pv 0) (pa_cons (pe_gcE rfl T.c_NINE) pa_nil)))
        (pss_one (ps_expr (pe_mtE c_cby hRm (by decide) pass0 (pv 0) (pa_cons (pe_op op_sub pe_int (pe_fld (pv 0) rfl)) (pa_cons pe_bl pa_nil)))))), ?_⟩
    refine ⟨_, rfl, _, _, _, rfl, hr0, rk_no_come_back _ _ _, r, pf, m, 9, rfl, K0, ⟨by decide, by decide⟩, fun H1 K1 k1 => ?_⟩
    obtain ⟨⟨dx1, pt1, hr1, ht1, npt1⟩, hf1, ok1⟩ := id K1
    have et : (m.comeBack 9).turn = m.turn := back_same_turn m 9
    refine ⟨_, rfl, _, _, _, rfl, hr1, rk_no_choose_by _ _ _, _, rfl, _, _, _, _, _, rfl, hr1, T.clR, T.nR_turn, rk_turn _ _ _, _, _, rfl, rfl, r, pf, _, _, _, rfl, K1, (by rw [et]; have := ok0.t0; have := ok0.t1; omega), fun H2 K2 k2 => ?_⟩
    rw [et] at K2
    exact k _ K2 (k1.trans k2)
end
end Pr
namespace Pr
open PySem PySem.Spec PyProof.Rows L2
section
variable {P : Program} {w : World} {K : PySem.W.Frag} {mg : Str → Option Value} {base : Heap} {A : Ad}
/-! good -/
abbrev s_goo : Stmt := topS 32
theorem sc_goo : FnScope ["rack", "shot", "side"] ["rack", "shot"] (defScope s_goo) := ⟨rfl, rfl, rfl, by decide +kernel, rfl, by decide +kernel, by decide +kernel⟩
set_option maxHeartbeats 8000000 in
theorem ok_goo {f : Addr} {fd : FuncData} (F : Fun K "good" "good" s_goo f fd) (T : Txt K mg A) (c_pby : MetE P w K mg base CX0 1 A.cR "play_by" (sp_pby A)) : FnOk P w K mg base CX0 2 f fd ["rack", "shot"] (sp_goo A) := by
  refine F.ok sc_goo (fun vs H Q E h => ?_) (fun cdv A0 outer s H vs Q E hRm h => ?_)
  · obtain ⟨_, _, _, _, _, rfl, _⟩ := h
    rfl
  · obtain ⟨r, pf, m, s0, x, rfl, K0, S0, k⟩ := h
    obtain ⟨⟨dx0, pt0, hr0, ht0, npt0⟩, hf0, ok0⟩ := id K0
    refine ⟨_, (pss_cons (ps_set (i := 2) sc_goo.nd rfl (Or.inl rfl) (pe_fld (pv 0) rfl))
        (pss_cons (ps_asg pe_int (pg_sub (pe_fld (pv 0) rfl) (pv 2) set_list))
        (pss_cons (ps_if (pt_cmpR op_in_seq (pe_gcE rfl T.c_NINE) (pe_fld (pv 1) rfl) (by rfl)) (pss_one (ps_ret (pv 2))) pss_nil)
        (pss_cons (ps_expr (pe_mtE c_pby hRm (by decide) pass0 (pv 0) (pa_cons (pe_ifExp (pt_cmpR (op_neD hRm.units) (pe_fld (pv 1) rfl) (pe_lst pa_nil) (nomark _)) (pv 2) (pe_op op_sub pe_int (pv 2))) (pa_cons pe_bl pa_nil))))
        (pss_one (ps_ret pe_non)))))), ?_⟩
    have b01 : 0 ≤ m.turn ∧ m.turn ≤ 1 := ⟨ok0.t0, ok0.t1⟩
    refine ⟨_, rfl, _, _, _, _, _, rfl, hr0, T.clR, T.nR_turn, rk_turn _ _ _, _, rfl, _, _, _, _, _, rfl, hr0, T.clR, T.nR_fouls, rk_fouls _ _ _, _, rfl, pf, _, _, _, rfl, rfl, hf0, fou_ix b01.1 b01.2, ?_⟩
    have K1 := K0.setF b01.1 b01.2 (v := 0)
    have k1 : Kept [r, pf] H (upd H pf (.lst ([V.int m.fa, V.int m.fb].set m.turn.toNat (.int 0)))) := (Kept.refl _ _).upd (List.mem_cons_of_mem _ List.mem_cons_self)
    have S1 := S0.kept k1
    obtain ⟨⟨dx1, pt1, hr1, ht1, npt1⟩, hf1, ok1⟩ := id K1
    obtain ⟨ns1, ds1, pp1, npp1, hs1, hpp1, hl1⟩ := id S1
    refine ⟨_, rfl, _, _, _, _, _, rfl, hs1, T.clS, T.nS_potted, sh_potted _ _, pp1, _, rfl, Or.inl (SqL.of hpp1), rfl, flat_zs _, _, rfl, ?_⟩
    rw [inV_int]
    refine if_both (fun c1 => ?_) (fun c1 => ?_)
    · have c1' : x.potted.contains 9 = true := c1
      have e : m.good x = (m.setF m.turn 0, some m.turn) := if_pos c1'
      rw [e] at k
      exact ⟨_, rfl, k _ K1 k1⟩
    have c1' : ¬ x.potted.contains 9 = true := fun z => by
      have c1b : x.potted.contains 9 = false := c1
      rw [z] at c1b
      cases c1b
    have e0 : m.good x = ((m.setF m.turn 0).playBy (if x.potted = [] then 1 - m.turn else m.turn) false, none) := if_neg c1'
    rw [e0] at k
    refine ⟨_, rfl, _, _, _, rfl, hr1, rk_no_play_by _ _ _, _, rfl, _, _, _, _, _, rfl, hs1, T.clS, T.nS_potted, sh_potted _ _, (by show 0 ≤ sizeLine; exact Nat.zero_le _), fun q hq => ?_⟩
    have s2 : Same (upd H pf (.lst ([V.int m.fa, V.int m.fb].set m.turn.toNat (.int 0)))) (upd (upd H pf (.lst ([V.int m.fa, V.int m.fb].set m.turn.toNat (.int 0)))) q (.lst [])) := Same.new1 hq
    have K2 := K1.same s2
    refine ⟨_, _, Dp.lst (SqL.of (s2 _ _ hpp1)) (dp_ints _), Dp.lst (SqL.of upd_same) .nil, shaped_ints _, rfl, _, rfl, ?_⟩
    rw [eqv_nil]
    refine if_both (fun c => ?_) (fun c => ?_)
    · have cn : ¬ x.potted = [] := by simpa using c
      rw [if_neg cn] at k
      exact ⟨_, rfl, r, pf, _, _, _, rfl, K2, b01, fun H3 K3 k3 => k _ K3 ((k1.trans (Kept.of_same s2)).trans k3)⟩
    · have cn : x.potted = [] := by simpa using c
      rw [if_pos cn] at k
      exact ⟨_, rfl, _, _, rfl, rfl, r, pf, _, _, _, rfl, K2, (by omega), fun H3 K3 k3 => k _ K3 ((k1.trans (Kept.of_same s2)).trans k3)⟩
end
end Pr
namespace Pr
open PySem PySem.Spec PyProof.Rows L2
section
variable {P : Program} {w : World} {K : PySem.W.Frag} {mg : Str → Option Value} {base : Heap} {A : Ad}
/-! nine_shot -/
abbrev s_n9 : Stmt := topS 33
theorem sc_n9 : FnScope ["rack", "shot", "is_foul", "winner"] ["rack", "shot"] (defScope s_n9) := ⟨rfl, rfl, rfl, by decide +kernel, rfl, by decide +kernel, by decide +kernel⟩
set_option maxHeartbeats 8000000 in
theorem ok_n9 {f : Addr} {fd : FuncData} (F : Fun K "nine_shot" "nine_shot" s_n9 f fd) (T : Txt K mg A) (c_fou : CalE P w K mg base CX0 2 "foul" (sp_fou A)) (c_psh : CalE P w K mg base CX0 2 "push" (sp_psh A)) (c_goo : CalE P w K mg base CX0 2 "good" (sp_goo A)) (c_phb : CalE P w K mg base CX0 1 "phase_behind" (sp_phb A)) (c_pot : MetE P w K mg base CX0 1 A.cR "pot" (sp_pot A)) (c_f9 : CalE P w K mg base CX0 5 "is_foul_in_nine" (sp_f9 A)) : FnOk P w K mg base CX0 6 f fd ["rack", "shot"] (sp_n9 A) := by
  refine F.ok sc_n9 (fun vs H Q E h => ?_) (fun cdv A0 outer s H vs Q E hRm h => ?_)
  · obtain ⟨_, _, _, _, _, rfl, _⟩ := h
    rfl
  · obtain ⟨r, pf, m, s0, x, rfl, K0, S0, k⟩ := h
    refine ⟨_, (pss_cons (ps_set (i := 2) sc_n9.nd rfl (Or.inl rfl) (pe_cE c_f9 hRm (by decide) rfl pass0 (pa_cons (pv 0) (pa_cons (pv 1) pa_nil))))
        (pss_cons (ps_set (i := 3) sc_n9.nd rfl (Or.inl rfl) pe_non)
        (pss_cons (ps_expr (pe_mtE c_pot hRm (by decide) pass0 (pv 0) (pa_cons (pe_fld (pv 1) rfl) pa_nil)))
        (pss_cons (ps_fld (pv 0) (pe_cE c_phb hRm (by decide) rfl pass0 (pa_cons (pv 0) pa_nil)) rfl)
        (pss_cons (ps_if (pt_val (pv 2)) (pss_one (ps_set (i := 3) sc_n9.nd rfl (Or.inl rfl) (pe_cE c_fou hRm (by decide) rfl pass0 (pa_cons (pv 0) pa_nil)))) (pss_one (ps_if (pt_val (pe_fld (pv 1) rfl)) (pss_one (ps_expr (pe_cE c_psh hRm (by decide) rfl pass0 (pa_cons (pv 0) pa_nil)))) (pss_one (ps_set (i := 3) sc_n9.nd rfl (Or.inl rfl) (pe_cE c_goo hRm (by decide) rfl pass0 (pa_cons (pv 0) (pa_cons (pv 1) pa_nil))))))))
        (pss_one (ps_ret (pe_tup (pa_cons (pv 2) (pa_cons (pv 3) pa_nil)))))))))), ?_⟩
    refine ⟨_, rfl, _, rfl, r, pf, m, s0, [r, pf], x, rfl, K0, S0, fun H1 s1 => ?_⟩
    have K1 := K0.same s1
    have S1 := S0.same s1
    obtain ⟨⟨dx1, pt1, hr1, ht1, npt1⟩, hf1, ok1⟩ := id K1
    obtain ⟨ns1, ds1, pp1, npp1, hs1, hpp1, hl1⟩ := id S1
    refine ⟨_, rfl, _, _, _, rfl, hr1, rk_no_pot _ _ _, _, rfl, _, _, _, _, _, rfl, hs1, T.clS, T.nS_potted, sh_potted _ _, r, pf, m, pp1, x.potted, rfl, K1, hpp1, fun H2 K2 k2 => ?_⟩
    have S2 := S1.kept k2
    obtain ⟨⟨dx2, pt2, hr2, ht2, npt2⟩, hf2, ok2⟩ := id K2
    refine ⟨_, rfl, r, pf, _, rfl, K2, _, rfl, _, _, _, _, rfl, hr2, T.clR, T.nR_phase, (by show 9 < 1000; decide), ?_⟩
    rw [rk_put_phase]
    have eb : (m.pot x.potted).behind = m.behind := rfl
    rw [eb]
    obtain ⟨H3, e3⟩ : ∃ H3, H3 = upd H2 r (.ins A.cR dx2 (rkF { m.pot x.potted with phase := m.behind } pt2 pf)) := ⟨_, rfl⟩
    rw [← e3]
    have K3 : RkAt A H3 r pf ((m.pot x.potted).withPhase m.behind) := by
      rw [e3]
      exact RkAt.put (m' := (m.pot x.potted).withPhase m.behind) hr2 ht2 hf2 npt2 rfl rfl rfl ⟨ok2.up, ok2.rng, ok2.t0, ok2.t1, ok2.b0, ok2.b1⟩
    have k23 : Kept [r, pf] H2 H3 := by
      rw [e3]
      exact (Kept.refl _ _).upd List.mem_cons_self
    have k03 : Kept [r, pf] H H3 := ((Kept.of_same s1).trans k2).trans k23
    have S3 := S2.kept k23
    obtain ⟨⟨dx3, pt3, hr3, ht3, npt3⟩, hf3, ok3⟩ := id K3
    obtain ⟨ns3, ds3, pp3, npp3, hs3, hpp3, hl3⟩ := id S3
    refine ⟨_, rfl, _, rfl, if_both (fun cf => ?_) (fun cf => ?_)⟩
    · have e : m.nine x = (((m.pot x.potted).withPhase m.behind).fouled, ((m.pot x.potted).withPhase m.behind).foulWin) := if_pos cf
      rw [e] at k
      refine ⟨_, rfl, r, pf, _, rfl, K3, fun H4 K4 k4 => ?_⟩
      refine ⟨_, rfl, _, rfl, (by show 2 ≤ sizeLine; decide), fun p hp => ?_⟩
      exact k _ p (K4.same (Same.new1 hp)) ((k03.trans k4).trans (Kept.of_same (Same.new1 hp))) upd_same
    refine ⟨_, rfl, _, _, _, _, _, rfl, hs3, T.clS, T.nS_is_push, sh_is_push _ _, _, rfl, if_both (fun cp => ?_) (fun cp => ?_)⟩
    · have e : m.nine x = (((m.pot x.potted).withPhase m.behind).pushed, none) := by
        unfold R.nine
        rw [if_neg (by rw [cf]; decide), if_pos cp]
      rw [e] at k
      refine ⟨_, rfl, r, pf, _, rfl, K3, fun H4 K4 k4 => ?_⟩
      refine ⟨_, rfl, _, rfl, (by show 2 ≤ sizeLine; decide), fun p hp => ?_⟩
      exact k _ p (K4.same (Same.new1 hp)) ((k03.trans k4).trans (Kept.of_same (Same.new1 hp))) upd_same
    · have e : m.nine x = ((m.pot x.potted).withPhase m.behind).good x := by
        unfold R.nine
        rw [if_neg (by rw [cf]; decide), if_neg (by rw [cp]; decide)]
      rw [e] at k
      refine ⟨_, rfl, _, rfl, r, pf, _, s0, x, rfl, K3, S3, fun H4 K4 k4 => ?_⟩
      refine ⟨_, rfl, _, rfl, (by show 2 ≤ sizeLine; decide), fun p hp => ?_⟩
      exact k _ p (K4.same (Same.new1 hp)) ((k03.trans k4).trans (Kept.of_same (Same.new1 hp))) upd_same
end
end Pr
namespace Pr
open PySem PySem.Spec PyProof.Rows L2
section
variable {P : Program} {w : World} {K : PySem.W.Frag} {mg : Str → Option Value} {base : Heap} {A : Ad}
/-! Refused.__init__ -/
abbrev s_rfI : Stmt := inClass (topS 41) 0
theorem sc_rfI : FnScope ["self", "number"] ["self", "number"] (defScope s_rfI) := ⟨rfl, rfl, rfl, by decide +kernel, rfl, by decide +kernel, by decide +kernel⟩
set_option maxHeartbeats 8000000 in
theorem ok_rfI {f : Addr} {fd : FuncData} (F : Fun K "__init__" "Refused.__init__" s_rfI f fd) (T : Txt K mg A) : FnOk P w K mg base CX0 1 f fd ["self", "number"] (sp_rfI A) := by
  refine F.ok sc_rfI (fun vs H Q E h => ?_) (fun cdv A0 outer s H vs Q E hRm h => ?_)
  · obtain ⟨_, _, rfl, _⟩ := h
    rfl
  · obtain ⟨a, z, rfl, ha, k⟩ := h
    refine ⟨_, (pss_cons (ps_expr (pe_veinit rfl T.b_ValueError T.vV (pa_cons (pv 0) (pa_cons pe_str pa_nil))))
        (pss_one (ps_ost (pv 0) (pv 1)))), ?_⟩
    refine ⟨_, rfl, a, A.cF, [.str "refused"], rfl, (by show 1 ≤ 1000; decide), T.oeF, ha, ?_⟩
    refine ⟨_, rfl, _, rfl, a, A.cF, rfl, T.oeF, T.noRef, Or.inl ⟨ha, fun d hd nd => k d hd nd⟩⟩
end
end Pr
namespace Pr
open PySem PySem.Spec PyProof.Rows L2
section
variable {P : Program} {w : World} {K : PySem.W.Frag} {mg : Str → Option Value} {base : Heap} {A : Ad}
/-! want -/
abbrev s_wan : Stmt := topS 42
theorem sc_wan : FnScope ["is_so", "number"] ["is_so", "number"] (defScope s_wan) := ⟨rfl, rfl, rfl, by decide +kernel, rfl, by decide +kernel, by decide +kernel⟩
set_option maxHeartbeats 8000000 in
theorem ok_wan {f : Addr} {fd : FuncData} (F : Fun K "want" "want" s_wan f fd) (T : Txt K mg A) (c_rfI : RfE P w K mg base 1 (sp_rfI A) A) : FnOk P w K mg base (L2.CX P w) 3 f fd ["is_so", "number"] (sp_wan A) := by
  refine F.okX sc_wan (fun vs H Q E h => ?_) (fun cdv A0 outer s H vs Q E hRm h => ?_)
  · obtain ⟨_, _, rfl, _⟩ := h
    rfl
  · obtain ⟨b, z, rfl, kt, kf⟩ := h
    refine ⟨_, (pss_one (ps_if (pt_not (pt_val (pv 0))) (pss_one (ps_raise rfl (takes_of rfl rfl rfl rfl) (pmk_oexE c_rfI hRm (by decide) T.oeF T.gF rfl (pa_cons (pv 1) pa_nil)))) pss_nil)), ?_⟩
    refine ⟨_, rfl, _, rfl, if_both (fun c => ?_) (fun c => ?_)⟩
    · have b0 : b = false := by simpa using c
      refine ⟨_, rfl, (by show 1 ≤ 1000; decide), fun a ha => ?_⟩
      refine ⟨a, z, rfl, upd_same, fun d hd nd => ?_⟩
      have hd0 : H d = none := by
        rw [upd_ne nd] at hd
        exact hd
      refine ⟨rfl, d, [("refusal", .int z)], upd_same, ?_, hd0, ?_⟩
      · rw [upd_ne nd]
        exact upd_same
      · refine kf b0 d _ (fun u o hu => ?_) upd_same
        have nu : u ≠ d := fun e => by rw [e, hd0] at hu; cases hu
        have nua : u ≠ a := fun e => by rw [e, ha] at hu; cases hu
        rw [upd_ne nu, del_ne nua, upd_ne nua, upd_ne nu, upd_ne nua]
        exact hu
    · have b1 : b = true := by simpa using c
      exact kt b1
end
end Pr
namespace Pr
open PySem PySem.Spec PyProof.Rows L2
section
variable {P : Program} {w : World} {K : PySem.W.Frag} {mg : Str → Option Value} {base : Heap} {A : Ad}
/-! are_bits -/
abbrev s_bit : Stmt := topS 43
theorem sc_bit : FnScope ["numbers", "number"] ["numbers"] (defScope s_bit) := ⟨rfl, rfl, rfl, by decide +kernel, rfl, by decide +kernel, by decide +kernel⟩
set_option maxHeartbeats 8000000 in
theorem ok_bit {f : Addr} {fd : FuncData} (F : Fun K "are_bits" "are_bits" s_bit f fd) (T : Txt K mg A) : FnOk P w K mg base CX0 1 f fd ["numbers"] (sp_bit A) := by
  refine F.ok sc_bit (fun vs H Q E h => ?_) (fun cdv A0 outer s H vs Q E hRm h => ?_)
  · obtain ⟨_, _, rfl, _⟩ := h
    rfl
  · obtain ⟨p, l, rfl, hp, hl, k⟩ := h
    refine ⟨_, (pss_one (ps_ret (pe_callB (cr_all rfl) rfl T.b_all (by decide +kernel) (pa_cons (pe_lc (own := [("number", 1)]) (g := gName 1) rfl sc_bit.nd (pi_list (pv 0)) (blkOk_by (own := [("number", 1)]) (N := ["numbers", "number"]) (sc := defScope s_bit) (by decide +kernel)) (fun _ _ _ _ _ => pg_name (i := 1) sc_bit.nd rfl (Or.inl rfl)) (fun _ _ _ _ _ => pts_nil) (fun _ _ _ _ _ => (pe_chain op_le op_le pe_int (pv 1) pe_int))) pa_nil)))), ?_⟩
    refine ⟨_, rfl, p, rfl, ⟨_, SqL.of hp⟩, fun D hD => lc_list (K := K) (a := p) (xs := zs l) (fun i H' => Same H H' ∧ H' D = some (.lst (((l.take i).map fun z => decide (0 ≤ z) && decide (z ≤ 1)).map V.bl)))
      ⟨Same.new1 hD, upd_same⟩ (fun i H' _ ⟨s1, _⟩ => SqL.of (s1 _ _ hp)) ?_ ?_⟩
    · rintro i y H' hi ⟨s1, hd⟩
      obtain ⟨z, hz, rfl⟩ := zs_get hi
      have fin : ∀ {b : Bool}, b = (decide (0 ≤ z) && decide (z ≤ 1)) → ∃ acc, H' D = some (.lst acc) ∧ acc.length < sizeLine ∧ Same H (upd H' D (.lst (acc ++ [.bl b]))) ∧ (upd H' D (.lst (acc ++ [.bl b]))) D = some (.lst (((l.take (i + 1)).map fun z => decide (0 ≤ z) && decide (z ≤ 1)).map V.bl)) := fun {b} eb => by
        refine ⟨_, hd, ?_, Same.mut s1 hD, ?_⟩
        · rw [List.length_map, List.length_map, List.length_take]
          exact smallL (by omega)
        · rw [upd_same, take_snoc hz, eb, List.map_append, List.map_append]
          rfl
      refine ⟨rfl, _, rfl, _, _, rfl, rfl, _, rfl, if_both (fun c => ?_) (fun c => ?_)⟩
      · refine ⟨_, _, rfl, rfl, fin ?_⟩
        rw [c, Bool.true_and]
      · refine fin ?_
        rw [c, Bool.false_and]
    · rintro H' ⟨s1, hd⟩
      rw [zs_len, List.take_length] at hd
      refine ⟨D, _, rfl, SqL.of hd, ?_⟩
      have e : ((l.map fun z => decide (0 ≤ z) && decide (z ≤ 1)).all id) = bits l := by
        unfold bits
        rw [List.all_map]
        rfl
      rw [e]
      exact k _ s1
end
end Pr
namespace Pr
open PySem PySem.Spec PyProof.Rows L2
section
variable {P : Program} {w : World} {K : PySem.W.Frag} {mg : Str → Option Value} {base : Heap} {A : Ad}
/-! Race.__init__ -/
abbrev s_raI : Stmt := inClass (topS 44) 0
theorem sc_raI : FnScope ["self", "game", "racks", "by_turns", "breaker"] ["self", "game", "racks", "by_turns", "breaker"] (defScope s_raI) := ⟨rfl, rfl, rfl, by decide +kernel, rfl, by decide +kernel, by decide +kernel⟩
set_option maxHeartbeats 8000000 in
theorem ok_raI {f : Addr} {fd : FuncData} (F : Fun K "__init__" "Race.__init__" s_raI f fd) (T : Txt K mg A) (c_rkI : MakE P w K mg base CX0 1 "Rack" A.cR (sp_rkI A)) : FnOk P w K mg base CX0 3 f fd ["self", "game", "racks", "by_turns", "breaker"] (sp_raI A) := by
  refine F.ok sc_raI (fun vs H Q E h => ?_) (fun cdv A0 outer s H vs Q E hRm h => ?_)
  · obtain ⟨_, _, _, _, _, _, rfl, _⟩ := h
    rfl
  · obtain ⟨p, dx, game, racks, turns, br, rfl, hp, hb, k⟩ := h
    refine ⟨_, (pss_cons (ps_fld (pv 0) (pv 1) rfl)
        (pss_cons (ps_fld (pv 0) (pv 2) rfl)
        (pss_cons (ps_fld (pv 0) (pv 3) rfl)
        (pss_cons (ps_fld (pv 0) (pe_lst (pa_cons pe_int (pa_cons pe_int pa_nil))) rfl)
        (pss_one (ps_fld (pv 0) (pe_mkE c_rkI hRm (by decide) rfl pass0 (pa_cons (pv 1) (pa_cons (pv 4) pa_nil))) rfl)))))), ?_⟩
    refine ⟨_, rfl, _, rfl, _, _, _, _, rfl, hp, T.clA, T.nA_game, (by show 0 < 1000; decide), ?_⟩
    refine ⟨_, rfl, _, rfl, _, _, _, _, rfl, upd_same, T.clA, T.nA_racks, (by show 1 < 1000; decide), ?_⟩
    refine ⟨_, rfl, _, rfl, _, _, _, _, rfl, upd_same, T.clA, T.nA_by_turns, (by show 2 < 1000; decide), ?_⟩
    refine ⟨(by show 2 ≤ sizeLine; decide), fun pw hpw => ?_⟩
    rw [upd_upd, upd_upd] at hpw ⊢
    have npw : pw ≠ p := fun e => by rw [e, upd_same] at hpw; cases hpw
    have hpw0 : H pw = none := by rw [upd_ne npw] at hpw; exact hpw
    refine ⟨_, rfl, _, _, _, _, rfl, ((upd_ne (Ne.symm npw)).trans upd_same), T.clA, T.nA_won, (by show 3 < 1000; decide), ?_⟩
    obtain ⟨F4, eF4⟩ : ∃ F4, F4 = putF "won" (.ref pw) (putF "by_turns" (.bl turns) (putF "racks" (.int racks) (putF "game" (.int game) []))) := ⟨_, rfl⟩
    generalize e3 : upd (upd H p (.ins A.cA dx (putF "by_turns" (.bl turns) (putF "racks" (.int racks) (putF "game" (.int game) []))))) pw (.lst [.int 0, .int 0]) = H3
    have k3 : Kept [p] H H3 := by
      rw [← e3]
      exact (((Kept.refl _ _).upd List.mem_cons_self).new hpw0)
    have h3w : H3 pw = some (.lst [.int 0, .int 0]) := by rw [← e3]; exact upd_same
    rw [← eF4]
    generalize e4 : upd H3 p (.ins A.cA dx F4) = H4
    have k4 : Kept [p] H H4 := by
      rw [← e4]
      exact k3.upd List.mem_cons_self
    have h4p : H4 p = some (.ins A.cA dx F4) := by rw [← e4]; exact upd_same
    have h4w : H4 pw = some (.lst [.int 0, .int 0]) := by rw [← e4, upd_ne npw]; exact h3w
    have l4 : F4.length < 1000 := by
      rw [eF4]
      show 4 < 1000
      decide
    refine ⟨_, rfl, _, rfl, fun r rdx hr hrd nrd => ?_⟩
    have nrp : r ≠ p := fun e => by rw [e, h4p] at hr; cases hr
    have nrw : r ≠ pw := fun e => by rw [e, h4w] at hr; cases hr
    have ndp : rdx ≠ p := fun e => by rw [e, h4p] at hrd; cases hrd
    have ndw : rdx ≠ pw := fun e => by rw [e, h4w] at hrd; cases hrd
    have hr0 : H r = none := k4.none (by simpa using nrp) hr
    have hrd0 : H rdx = none := k4.none (by simpa using ndp) hrd
    refine ⟨r, rdx, game, br, rfl, upd_same, hb, fun H5 pf K5 hpf k5 => ⟨rfl, ?_⟩⟩
    have h5p : H5 p = some (.ins A.cA dx F4) := k5 _ _ (by rw [upd_ne (Ne.symm nrp), upd_ne (Ne.symm ndp)]; exact h4p) (by simpa using Ne.symm nrp)
    have h5w : H5 pw = some (.lst [.int 0, .int 0]) := k5 _ _ (by rw [upd_ne (Ne.symm nrw), upd_ne (Ne.symm ndw)]; exact h4w) (by simpa using Ne.symm nrw)
    have npf1 : pf ≠ r := fun e => by rw [e, upd_same] at hpf; cases hpf
    have npf2 : pf ≠ rdx := fun e => by rw [e, upd_ne nrd, upd_same] at hpf; cases hpf
    have hpf4 : H4 pf = none := by
      rw [upd_ne npf1, upd_ne npf2] at hpf
      exact hpf
    have npf3 : pf ≠ p := fun e => by rw [e, h4p] at hpf4; cases hpf4
    have npf4 : pf ≠ pw := fun e => by rw [e, h4w] at hpf4; cases hpf4
    have hpf0 : H pf = none := k4.none (by simpa using npf3) hpf4
    refine ⟨_, rfl, _, _, _, _, rfl, h5p, T.clA, T.nA_rack, l4, ?_⟩
    have eB : putF "rack" (.ref r) F4 = raF ⟨game, racks, turns, 0, 0, R.new game br⟩ pw r := by
      rw [eF4]
      exact ra_build ⟨game, racks, turns, 0, 0, R.new game br⟩ pw r
    rw [eB]
    have K6 : RkAt A (upd H5 p (.ins A.cA dx (raF ⟨game, racks, turns, 0, 0, R.new game br⟩ pw r))) r pf (R.new game br) := K5.kept (T := [p]) ((Kept.refl _ _).upd List.mem_cons_self) (by simpa using nrp) (by simpa using npf3) (fun b hb xs e => by
        have eb : b = p := by simpa using hb
        rw [eb, h5p] at e
        cases e)
    refine k _ pw r pf ⟨⟨dx, upd_same⟩, ?_, Ne.symm npf4, Ne.symm nrp, Ne.symm npf3, Ne.symm nrw, Ne.symm npw, fun _ => K6, K6.trk⟩ ?_ hpw0 hr0 hpf0
    · rw [upd_ne npw]
      exact h5w
    · intro b ob hob nb
      have nbp : b ≠ p := by simpa using nb
      have nbr : b ≠ r := fun e => by rw [e, hr0] at hob; cases hob
      have nbd : b ≠ rdx := fun e => by rw [e, hrd0] at hob; cases hob
      rw [upd_ne nbp]
      exact k5 _ _ (by rw [upd_ne nbr, upd_ne nbd]; exact k4 _ _ hob nb) (by simpa using nbr)
end
end Pr
namespace Pr
open PySem PySem.Spec PyProof.Rows L2
section
variable {P : Program} {w : World} {K : PySem.W.Frag} {mg : Str → Option Value} {base : Heap} {A : Ad}
/-! Race.is_over -/
abbrev s_ovr : Stmt := inClass (topS 44) 1
theorem sc_ovr : FnScope ["self"] ["self"] (defScope s_ovr) := ⟨rfl, rfl, rfl, by decide +kernel, rfl, by decide +kernel, by decide +kernel⟩
set_option maxHeartbeats 8000000 in
theorem ok_ovr {f : Addr} {fd : FuncData} (F : Fun K "is_over" "Race.is_over" s_ovr f fd) (T : Txt K mg A) : FnOk P w K mg base CX0 1 f fd ["self"] (sp_ovr A) := by
  refine F.ok sc_ovr (fun vs H Q E h => ?_) (fun cdv A0 outer s H vs Q E hRm h => ?_)
  · obtain ⟨_, _, _, _, rfl, _⟩ := h
    rfl
  · obtain ⟨a, pw, r, g, rfl, ⟨dxa, ha⟩, hw, k⟩ := h
    refine ⟨_, (pss_one (ps_ret (pe_cmpR op_eq (pe_callB (cr_max rfl) rfl T.b_max (by decide +kernel) (pa_cons (pe_fld (pv 0) rfl) pa_nil)) (pe_fld (pv 0) rfl) (nomark _)))), ?_⟩
    refine ⟨_, rfl, _, _, _, _, _, rfl, ha, T.clA, T.nA_won, ra_won _ _ _, pw, [g.wa, g.wb], rfl, SqL.of hw, (by show 0 < 2; decide), fun mx hm hle => ?_⟩
    refine ⟨_, rfl, _, _, _, _, _, rfl, ha, T.clA, T.nA_racks, ra_racks _ _ _, rfl, ?_⟩
    have e : decide (V.int mx = V.int g.racks) = g.over := by
      rw [dec_int, beq_dec]
      unfold G.over
      have h1 := hle g.wa List.mem_cons_self
      have h2 := hle g.wb (List.mem_cons_of_mem _ List.mem_cons_self)
      have h3 : mx = g.wa ∨ mx = g.wb := by
        rcases (List.mem_cons.mp hm) with z | z
        · exact Or.inl z
        · exact Or.inr (by simpa using z)
      have h4 : mx = if g.wb > g.wa then g.wb else g.wa := by split <;> omega
      rw [h4]
    rw [e]
    exact k
end
end Pr
namespace Pr
open PySem PySem.Spec PyProof.Rows L2
section
variable {P : Program} {w : World} {K : PySem.W.Frag} {mg : Str → Option Value} {base : Heap} {A : Ad}
/-! Race.rack_won -/
abbrev s_rwn : Stmt := inClass (topS 44) 2
theorem sc_rwn : FnScope ["self", "side"] ["self", "side"] (defScope s_rwn) := ⟨rfl, rfl, rfl, by decide +kernel, rfl, by decide +kernel, by decide +kernel⟩
set_option maxHeartbeats 8000000 in
theorem ok_rwn {f : Addr} {fd : FuncData} (F : Fun K "rack_won" "Race.rack_won" s_rwn f fd) (T : Txt K mg A) (c_ovr : MetE P w K mg base CX0 1 A.cA "is_over" (sp_ovr A)) (c_rkI : MakE P w K mg base CX0 1 "Rack" A.cR (sp_rkI A)) : FnOk P w K mg base CX0 3 f fd ["self", "side"] (sp_rwn A) := by
  refine F.ok sc_rwn (fun vs H Q E h => ?_) (fun cdv A0 outer s H vs Q E hRm h => ?_)
  · obtain ⟨_, _, _, _, _, _, rfl, _⟩ := h
    rfl
  · obtain ⟨a, pw, r, pf, g, side, rfl, R0, K0, hs, k⟩ := h
    obtain ⟨⟨dxa, ha⟩, hw, n1, n2, n3, n4, n5, hrk, htrk⟩ := id R0
    obtain ⟨⟨dxr, ptr, hrr, htr, nptr⟩, hfr, okr⟩ := id K0
    refine ⟨_, (pss_cons (ps_asg (pe_op op_add (pe_ix ix_list (pe_fld (pv 0) rfl) (pv 1) (fun _ _ => rfl)) pe_int) (pg_sub (pe_fld (pv 0) rfl) (pv 1) set_list))
        (pss_one (ps_if (pt_not (pt_val (pe_mtE0 c_ovr hRm (by decide) pass0 (pv 0)))) (pss_one (ps_fld (pv 0) (pe_mkE c_rkI hRm (by decide) rfl pass0 (pa_cons (pe_fld (pv 0) rfl) (pa_cons (pe_ifExp (pt_val (pe_fld (pv 0) rfl)) (pe_op op_sub pe_int (pe_fld (pe_fld (pv 0) rfl) rfl)) (pv 1)) pa_nil))) rfl)) pss_nil))), ?_⟩
    refine ⟨_, rfl, _, _, _, _, _, rfl, ha, T.clA, T.nA_won, ra_won _ _ _, _, rfl, pw, _, _, _, rfl, rfl, SqL.of hw, fou_at hs.1 hs.2, _, _, rfl, rfl, _, rfl, _, _, _, _, _, rfl, ha, T.clA, T.nA_won, ra_won _ _ _, _, rfl, pw, _, _, _, rfl, rfl, hw, fou_ix hs.1 hs.2, ?_⟩
    generalize e1 : upd H pw (.lst ([V.int g.wa, V.int g.wb].set side.toNat (.int ((if side = 0 then g.wa else g.wb) + 1)))) = H1
    have k1 : Kept [a, pw] H H1 := by
      rw [← e1]
      exact (Kept.refl _ _).upd (List.mem_cons_of_mem _ List.mem_cons_self)
    have ha1 : H1 a = some (.ins A.cA dxa (raF (g.addWon side) pw r)) := by
      rw [← e1, upd_ne n5, addWon_F]
      exact ha
    have hw1 : H1 pw = some (.lst [.int (g.addWon side).wa, .int (g.addWon side).wb]) := by
      rw [← e1, upd_same]
      exact congrArg (fun q => some (HO.lst q)) (addWon_set g hs.1 hs.2)
    have ha1g : H1 a = some (.ins A.cA dxa (raF g pw r)) := by
      rw [← addWon_F g side]
      exact ha1
    have hr1 : H1 r = some (.ins A.cR dxr (rkF g.rack ptr pf)) := by
      rw [← e1, upd_ne (Ne.symm n4)]
      exact hrr
    refine ⟨_, rfl, _, _, _, rfl, ha1, ra_no_is_over _ _ _, a, pw, r, _, rfl, ⟨_, ha1⟩, hw1, _, rfl, if_both (fun co => ?_) (fun co => ?_)⟩
    · have co' : (g.addWon side).over = false := by simpa using co
      cases ct : g.turns with
      | true =>
        refine ⟨_, rfl, _, _, _, _, _, rfl, ha1g, T.clA, T.nA_game, ra_game _ _ _, _, rfl, _, _, _, _, _, rfl, ha1g, T.clA, T.nA_by_turns, ra_by_turns _ _ _, _, rfl, if_true_of ct ?_⟩
        refine ⟨_, rfl, _, _, _, _, _, rfl, ha1g, T.clA, T.nA_rack, ra_rack _ _ _, _, _, _, _, _, rfl, hr1, T.clR, T.nR_breaker, rk_breaker _ _ _, _, _, rfl, rfl, fun r2 rdx hr2 hrd nrd => ?_⟩
        have nr1 : r2 ≠ a := fun e => by rw [e, ha1] at hr2; cases hr2
        have nr2 : r2 ≠ pw := fun e => by rw [e, hw1] at hr2; cases hr2
        have nd1 : rdx ≠ a := fun e => by rw [e, ha1] at hrd; cases hrd
        have nd2 : rdx ≠ pw := fun e => by rw [e, hw1] at hrd; cases hrd
        have hr20 : H r2 = none := k1.none (by simp [nr1, nr2]) hr2
        have hrd0 : H rdx = none := k1.none (by simp [nd1, nd2]) hrd
        refine ⟨r2, rdx, g.game, (1 - g.rack.breaker), rfl, upd_same, (by have := okr.b0; have := okr.b1; omega), fun H3 pf2 K3 hpf k3 => ⟨rfl, ?_⟩⟩
        have h3a : H3 a = some (.ins A.cA dxa (raF (g.addWon side) pw r)) := k3 _ _ (by rw [upd_ne (Ne.symm nr1), upd_ne (Ne.symm nd1)]; exact ha1) (by simpa using Ne.symm nr1)
        have h3w : H3 pw = some (.lst [.int (g.addWon side).wa, .int (g.addWon side).wb]) := k3 _ _ (by rw [upd_ne (Ne.symm nr2), upd_ne (Ne.symm nd2)]; exact hw1) (by simpa using Ne.symm nr2)
        have np1 : pf2 ≠ r2 := fun e => by rw [e, upd_same] at hpf; cases hpf
        have np2 : pf2 ≠ rdx := fun e => by rw [e, upd_ne nrd, upd_same] at hpf; cases hpf
        have hpf1 : H1 pf2 = none := by
          rw [upd_ne np1, upd_ne np2] at hpf
          exact hpf
        have np3 : pf2 ≠ a := fun e => by rw [e, ha1] at hpf1; cases hpf1
        have np4 : pf2 ≠ pw := fun e => by rw [e, hw1] at hpf1; cases hpf1
        have hpf0 : H pf2 = none := k1.none (by simp [np3, np4]) hpf1
        refine ⟨_, rfl, _, _, _, _, rfl, h3a, T.clA, T.nA_rack, (by show 5 < 1000; decide), ?_⟩
        rw [ra_put_rack _ _ _ r2 (R.new g.game (1 - g.rack.breaker))]
        have eW : g.rackWon side = (g.addWon side).withRack (R.new g.game (1 - g.rack.breaker)) := by
          unfold G.rackWon
          rw [if_neg (by rw [co']; decide), if_pos ct]
          rfl
        refine k _ r2 pf2 ?_ ?_ (Or.inr ⟨hr20, hpf0⟩)
        · rw [eW]
          have K6 : RkAt A (upd H3 a (.ins A.cA dxa (raF ((g.addWon side).withRack (R.new g.game (1 - g.rack.breaker))) pw r2))) r2 pf2 (R.new g.game (1 - g.rack.breaker)) := K3.kept (T := [a]) ((Kept.refl _ _).upd List.mem_cons_self) (by simpa using nr1) (by simpa using np3) (fun b hb xs e => by
              have eb : b = a := by simpa using hb
              rw [eb, h3a] at e
              cases e)
          refine ⟨⟨dxa, upd_same⟩, ?_, Ne.symm np4, Ne.symm nr1, Ne.symm np3, Ne.symm nr2, n5, fun _ => K6, K6.trk⟩
          rw [upd_ne (Ne.symm n5)]
          exact h3w
        · intro b ob hob nb
          have nba : b ≠ a := fun e => nb (by simp [e])
          have nbr : b ≠ r2 := fun e => by rw [e, hr20] at hob; cases hob
          have nbd : b ≠ rdx := fun e => by rw [e, hrd0] at hob; cases hob
          rw [upd_ne nba]
          exact k3 _ _ (by rw [upd_ne nbr, upd_ne nbd]; exact k1 _ _ hob nb) (by simpa using nbr)
      | false =>
        refine ⟨_, rfl, _, _, _, _, _, rfl, ha1g, T.clA, T.nA_game, ra_game _ _ _, _, rfl, _, _, _, _, _, rfl, ha1g, T.clA, T.nA_by_turns, ra_by_turns _ _ _, _, rfl, if_false_of ct ?_⟩
        refine ⟨_, rfl, fun r2 rdx hr2 hrd nrd => ?_⟩
        have nr1 : r2 ≠ a := fun e => by rw [e, ha1] at hr2; cases hr2
        have nr2 : r2 ≠ pw := fun e => by rw [e, hw1] at hr2; cases hr2
        have nd1 : rdx ≠ a := fun e => by rw [e, ha1] at hrd; cases hrd
        have nd2 : rdx ≠ pw := fun e => by rw [e, hw1] at hrd; cases hrd
        have hr20 : H r2 = none := k1.none (by simp [nr1, nr2]) hr2
        have hrd0 : H rdx = none := k1.none (by simp [nd1, nd2]) hrd
        refine ⟨r2, rdx, g.game, side, rfl, upd_same, hs, fun H3 pf2 K3 hpf k3 => ⟨rfl, ?_⟩⟩
        have h3a : H3 a = some (.ins A.cA dxa (raF (g.addWon side) pw r)) := k3 _ _ (by rw [upd_ne (Ne.symm nr1), upd_ne (Ne.symm nd1)]; exact ha1) (by simpa using Ne.symm nr1)
        have h3w : H3 pw = some (.lst [.int (g.addWon side).wa, .int (g.addWon side).wb]) := k3 _ _ (by rw [upd_ne (Ne.symm nr2), upd_ne (Ne.symm nd2)]; exact hw1) (by simpa using Ne.symm nr2)
        have np1 : pf2 ≠ r2 := fun e => by rw [e, upd_same] at hpf; cases hpf
        have np2 : pf2 ≠ rdx := fun e => by rw [e, upd_ne nrd, upd_same] at hpf; cases hpf
        have hpf1 : H1 pf2 = none := by
          rw [upd_ne np1, upd_ne np2] at hpf
          exact hpf
        have np3 : pf2 ≠ a := fun e => by rw [e, ha1] at hpf1; cases hpf1
        have np4 : pf2 ≠ pw := fun e => by rw [e, hw1] at hpf1; cases hpf1
        have hpf0 : H pf2 = none := k1.none (by simp [np3, np4]) hpf1
        refine ⟨_, rfl, _, _, _, _, rfl, h3a, T.clA, T.nA_rack, (by show 5 < 1000; decide), ?_⟩
        rw [ra_put_rack _ _ _ r2 (R.new g.game side)]
        have eW : g.rackWon side = (g.addWon side).withRack (R.new g.game side) := by
          unfold G.rackWon
          rw [if_neg (by rw [co']; decide), if_neg (by rw [ct]; decide)]
          rfl
        refine k _ r2 pf2 ?_ ?_ (Or.inr ⟨hr20, hpf0⟩)
        · rw [eW]
          have K6 : RkAt A (upd H3 a (.ins A.cA dxa (raF ((g.addWon side).withRack (R.new g.game side)) pw r2))) r2 pf2 (R.new g.game side) := K3.kept (T := [a]) ((Kept.refl _ _).upd List.mem_cons_self) (by simpa using nr1) (by simpa using np3) (fun b hb xs e => by
              have eb : b = a := by simpa using hb
              rw [eb, h3a] at e
              cases e)
          refine ⟨⟨dxa, upd_same⟩, ?_, Ne.symm np4, Ne.symm nr1, Ne.symm np3, Ne.symm nr2, n5, fun _ => K6, K6.trk⟩
          rw [upd_ne (Ne.symm n5)]
          exact h3w
        · intro b ob hob nb
          have nba : b ≠ a := fun e => nb (by simp [e])
          have nbr : b ≠ r2 := fun e => by rw [e, hr20] at hob; cases hob
          have nbd : b ≠ rdx := fun e => by rw [e, hrd0] at hob; cases hob
          rw [upd_ne nba]
          exact k3 _ _ (by rw [upd_ne nbr, upd_ne nbd]; exact k1 _ _ hob nb) (by simpa using nbr)
    · have co' : (g.addWon side).over = true := by simpa using co
      have eW : g.rackWon side = g.addWon side := if_pos co'
      rw [eW] at k
      exact k _ r pf ⟨⟨dxa, ha1⟩, hw1, n1, n2, n3, n4, n5, fun o => (by rw [co'] at o; cases o), ne_kept k1 (by simp [Ne.symm n2, Ne.symm n4]) htrk.1, ne_kept k1 (by simp [Ne.symm n3, Ne.symm n1]) htrk.2⟩ k1 (Or.inl ⟨rfl, rfl⟩)
end
end Pr
namespace Pr
open PySem PySem.Spec PyProof.Rows L2
section
variable {P : Program} {w : World} {K : PySem.W.Frag} {mg : Str → Option Value} {base : Heap} {A : Ad}
/-! Race.stands -/
abbrev s_sta : Stmt := inClass (topS 44) 3
theorem sc_sta : FnScope ["self", "rack"] ["self"] (defScope s_sta) := ⟨rfl, rfl, rfl, by decide +kernel, rfl, by decide +kernel, by decide +kernel⟩
set_option maxHeartbeats 8000000 in
theorem ok_sta {f : Addr} {fd : FuncData} (F : Fun K "stands" "Race.stands" s_sta f fd) (T : Txt K mg A) (c_ovr : MetE P w K mg base CX0 1 A.cA "is_over" (sp_ovr A)) : FnOk P w K mg base CX0 2 f fd ["self"] (sp_sta A) := by
  refine F.ok sc_sta (fun vs H Q E h => ?_) (fun cdv A0 outer s H vs Q E hRm h => ?_)
  · obtain ⟨_, _, _, _, _, rfl, _⟩ := h
    rfl
  · obtain ⟨a, pw, r, pf, g, rfl, R0, k⟩ := h
    obtain ⟨⟨dxa, ha⟩, hw, n1, n2, n3, n4, n5, hrk, htrk⟩ := id R0
    refine ⟨_, (pss_cons (ps_if (pt_val (pe_mtE0 c_ovr hRm (by decide) pass0 (pv 0))) (pss_one (ps_ret (pe_callTy call_list_of rfl T.b_list (by decide +kernel) (pa_cons (pe_fld (pv 0) rfl) pa_nil)))) pss_nil)
        (pss_cons (ps_set (i := 1) sc_sta.nd rfl (Or.inl rfl) (pe_fld (pv 0) rfl))
        (pss_one (ps_ret (pe_op op_cat (pe_fld (pv 0) rfl) (pe_lst (pa_cons (pe_fld (pv 1) rfl) (pa_cons (pe_fld (pv 1) rfl) (pa_cons (pe_callTy call_int1 rfl T.b_int (by decide +kernel) (pa_cons (pe_fld (pv 1) rfl) pa_nil)) (pa_cons (pe_callB call_len_seq rfl T.b_len PySem.boot_len (pa_cons (pe_fld (pv 1) rfl) pa_nil)) pa_nil)))))))))), ?_⟩
    refine ⟨_, rfl, _, _, _, rfl, ha, ra_no_is_over _ _ _, a, pw, r, g, rfl, R0.ex, R0.won, _, rfl, if_both (fun co => ?_) (fun co => ?_)⟩
    · have e : g.stands = [g.wa, g.wb] := if_pos co
      rw [e] at k
      exact ⟨_, rfl, _, _, _, _, _, rfl, ha, T.clA, T.nA_won, ra_won _ _ _, _, _, rfl, Or.inl (SqL.of hw), fun p hp => k _ p (Same.new1 hp) hp upd_same⟩
    have K0 := hrk co
    obtain ⟨⟨dx0, pt0, hr0, ht0, npt0⟩, hf0, ok0⟩ := id K0
    have e : g.stands = [g.wa, g.wb, g.rack.turn, g.rack.phase, b2z g.rack.hand, (g.rack.table.length : Int)] := if_neg (by rw [co]; decide)
    rw [e] at k
    refine ⟨_, rfl, _, _, _, _, _, rfl, ha, T.clA, T.nA_rack, ra_rack _ _ _, _, rfl, _, _, _, _, _, rfl, ha, T.clA, T.nA_won, ra_won _ _ _, _, rfl, _, _, _, _, _, rfl, hr0, T.clR, T.nR_turn, rk_turn _ _ _, _, rfl, _, _, _, _, _, rfl, hr0, T.clR, T.nR_phase, rk_phase _ _ _, _, rfl, _, _, _, _, _, rfl, hr0, T.clR, T.nR_in_hand, rk_in_hand _ _ _, Or.inr ⟨_, rfl, _, rfl, _, _, _, _, _, rfl, hr0, T.clR, T.nR_table, rk_table _ _ _, _, _, rfl, Or.inl (SqL.of ht0), (by show 4 ≤ sizeLine; decide), fun q hq => ?_⟩⟩
    have s1 : Same H (upd H q (.lst [.int g.rack.turn, .int g.rack.phase, .int (if g.rack.hand = true then 1 else 0), .int ((zs g.rack.table).length : Nat)])) := Same.new1 hq
    refine ⟨pw, q, _, _, rfl, rfl, s1 _ _ hw, upd_same, (by show 6 ≤ sizeLine; decide), fun p hp => ?_⟩
    refine k _ p (Same.new s1 (s1.free hp)) (s1.free hp) ?_
    rw [upd_same, zs_len]
    rfl
end
end Pr
namespace Pr
open PySem PySem.Spec PyProof.Rows L2
section
variable {P : Program} {w : World} {K : PySem.W.Frag} {mg : Str → Option Value} {base : Heap} {A : Ad}
/-! Desk.__init__ -/
abbrev s_dkI : Stmt := inClass (topS 45) 0
theorem sc_dkI : FnScope ["self"] ["self"] (defScope s_dkI) := ⟨rfl, rfl, rfl, by decide +kernel, rfl, by decide +kernel, by decide +kernel⟩
set_option maxHeartbeats 8000000 in
theorem ok_dkI {f : Addr} {fd : FuncData} (F : Fun K "__init__" "Desk.__init__" s_dkI f fd) (T : Txt K mg A) : FnOk P w K mg base CX0 1 f fd ["self"] (sp_dkI A) := by
  refine F.ok sc_dkI (fun vs H Q E h => ?_) (fun cdv A0 outer s H vs Q E hRm h => ?_)
  · obtain ⟨_, _, rfl, _⟩ := h
    rfl
  · obtain ⟨p, dx, rfl, hp, k⟩ := h
    refine ⟨_, (pss_one (ps_fld (pv 0) pe_non rfl)), ?_⟩
    refine ⟨_, rfl, _, _, _, _, rfl, hp, T.clD, T.nD_race, (by show 0 < 1000; decide), ?_⟩
    exact k _ upd_same ((Kept.refl _ _).upd List.mem_cons_self)
end
end Pr
namespace Pr
open PySem PySem.Spec PyProof.Rows L2
section
variable {P : Program} {w : World} {K : PySem.W.Frag} {mg : Str → Option Value} {base : Heap} {A : Ad}
/-! Desk.begin -/
abbrev s_beg : Stmt := inClass (topS 45) 1
theorem sc_beg : FnScope ["self", "game", "racks", "turns", "breaker"] ["self", "game", "racks", "turns", "breaker"] (defScope s_beg) := ⟨rfl, rfl, rfl, by decide +kernel, rfl, by decide +kernel, by decide +kernel⟩
set_option maxHeartbeats 8000000 in
theorem ok_beg {f : Addr} {fd : FuncData} (F : Fun K "begin" "Desk.begin" s_beg f fd) (T : Txt K mg A) (c_raI : MakE P w K mg base CX0 3 "Race" A.cA (sp_raI A)) (c_wan : CalE P w K mg base (L2.CX P w) 3 "want" (sp_wan A)) (c_bit : CalE P w K mg base CX0 1 "are_bits" (sp_bit A)) : FnOk P w K mg base (L2.CX P w) 5 f fd ["self", "game", "racks", "turns", "breaker"] (sp_beg A) := by
  refine F.okX sc_beg (fun vs H Q E h => ?_) (fun cdv A0 outer s H vs Q E hRm h => ?_)
  · obtain ⟨_, _, _, _, _, _, _, rfl, _⟩ := h
    rfl
  · obtain ⟨d, fp, x, z, n, t, w0, rfl, D0, kr, k⟩ := h
    obtain ⟨dx, u, hd, hdf⟩ := D0.at_d
    refine ⟨_, (pss_cons (ps_expr (pe_cE c_wan hRm (by decide) rfl (passes_call (E := E) (takes_of rfl rfl rfl rfl) fun _ _ _ _ h => h) (pa_cons (pe_and (pe_cmpR op_in_seq (pv 1) (pe_tup (pa_cons (pe_gcE rfl T.c_EIGHT_BALL) (pa_cons (pe_gcE rfl T.c_NINE_BALL) pa_nil))) (by rfl)) (pe_and (pe_chain op_le op_le pe_int (pv 2) (pe_gcE rfl T.c_MOST_RACKS)) (pe_one (pe_cE c_bit hRm (by decide) rfl pass0 (pa_cons (pe_lst (pa_cons (pv 3) (pa_cons (pv 4) pa_nil))) pa_nil))))) (pa_cons (pe_gcE rfl T.c_BAD) pa_nil))))
        (pss_cons (ps_fld (pv 0) (pe_mkE c_raI hRm (by decide) rfl pass0 (pa_cons (pv 1) (pa_cons (pv 2) (pa_cons (pe_cmpR op_eq (pv 3) pe_int (nomark _)) (pa_cons (pv 4) pa_nil))))) rfl)
        (pss_one (ps_ret (pe_lst (pa_cons pe_int pa_nil)))))), ?_⟩
    have hbad : ∀ {b : Bool}, beginRef z n t w0 = !b → b = false → Ref A H (-1) E := fun {b} e1 e2 => kr (-1) (by
      unfold begRef
      rw [e1, e2]
      rfl)
    refine ⟨_, rfl, (by show 2 ≤ sizeLine; decide), fun q hq => ?_⟩
    have sq : Same H (upd H q (.tup [.int 8, .int 9])) := Same.new1 hq
    refine ⟨q, _, rfl, Or.inr (SqT.of upd_same), rfl, rfl, _, rfl, ?_⟩
    rw [in89]
    refine if_both (fun c1 => ?_) (fun c1 => ?_)
    · have c1' : (decide (z = 8) || decide (z = 9)) = true := c1
      refine ⟨_, rfl, _, _, rfl, rfl, _, rfl, if_both (fun c2 => ?_) (fun c2 => ?_)⟩
      · refine ⟨_, _, rfl, rfl, _, rfl, if_both (fun c3 => ?_) (fun c3 => ?_)⟩
        · refine ⟨_, rfl, _, rfl, (by show 2 ≤ sizeLine; decide), fun p hp => ?_⟩
          have sp0 : Same H (upd (upd H q (.tup [.int 8, .int 9])) p (.lst [.int t, .int w0])) := Same.new sq (sq.free hp)
          refine ⟨p, [t, w0], rfl, upd_same, (by show 2 ≤ 16; decide), fun H1 s1 => ?_⟩
          have sA := sp0.trans s1
          have eb : beginRef z n t w0 = !(bits [t, w0]) := by
            unfold beginRef
            rw [c1', c2, c3, Bool.true_and, Bool.true_and, Bool.true_and]
          refine ⟨bits [t, w0], -1, rfl, fun c4 => ?_, fun c4 => (hbad eb c4).same sA⟩
          have en : begRef z n t w0 = none := by
            unfold begRef
            rw [eb, c4]
            rfl
          have hw01 : 0 ≤ w0 ∧ w0 ≤ 1 := bits_two c4
          have hd1 := sA _ _ hd
          refine ⟨_, rfl, _, rfl, _, rfl, rfl, _, rfl, fun a adx ha hadx nadx => ?_⟩
          have na : a ≠ d := fun e => by rw [e, hd1] at ha; cases ha
          have nx : adx ≠ d := fun e => by rw [e, hd1] at hadx; cases hadx
          refine ⟨a, adx, z, n, decide (V.int t = V.int 1), w0, rfl, upd_same, hw01, fun H2 pw r pf R2 k2 hpw hr hpf => ⟨rfl, ?_⟩⟩
          have h2d : H2 d = some (.ins A.cD dx (dkF u)) := k2 _ _ (by rw [upd_ne (Ne.symm na), upd_ne (Ne.symm nx)]; exact hd1) (by simpa using Ne.symm na)
          have eg : (⟨z, n, decide (V.int t = V.int 1), 0, 0, R.new z w0⟩ : G) = G.begin0 z n t w0 := by
            rw [dec_int, beq_dec]
            rfl
          rw [eg] at R2
          have fr : ∀ {b : Addr}, (upd (upd H1 adx (.own a)) a (.ins A.cA adx [])) b = none → b ≠ d ∧ H b = none := fun {b} hb => by
            have b1 : b ≠ a := fun e => by rw [e, upd_same] at hb; cases hb
            have b2 : b ≠ adx := fun e => by rw [e, upd_ne nadx, upd_same] at hb; cases hb
            rw [upd_ne b1, upd_ne b2] at hb
            have b3 : b ≠ d := fun e => by rw [e, hd1] at hb; cases hb
            exact ⟨b3, sA.free hb⟩
          refine ⟨_, rfl, _, _, _, _, rfl, h2d, T.clD, T.nD_race, (by show 1 < 1000; decide), ?_⟩
          rw [dk_put_race]
          have D3 := DkAt.store h2d R2 (Ne.symm na) (Ne.symm (fr hpw).1) (Ne.symm (fr hr).1) (Ne.symm (fr hpf).1)
          refine ⟨(by show 1 ≤ sizeLine; decide), fun p2 hp2 => ?_⟩
          have s3 := Same.new1 hp2 (o := HO.lst [V.int 0])
          have ha0 : H a = none := sA.free ha
          have hx0 : H adx = none := sA.free hadx
          have kf : Kept fp H (upd H2 d (.ins A.cD dx (dkF (.ref a)))) := fun b o hb nb => by
            have b1 : b ≠ d := fun e => nb (e ▸ hdf)
            have b2 : b ≠ a := fun e => by rw [e, ha0] at hb; cases hb
            have b3 : b ≠ adx := fun e => by rw [e, hx0] at hb; cases hb
            rw [upd_ne b1]
            exact k2 _ _ (by rw [upd_ne b2, upd_ne b3]; exact sA _ _ hb) (by simpa using b2)
          refine k en _ [d, a, pw, r, pf] p2 (D3.same s3) (kf.trans (Kept.of_same s3)) ?_ (fun nb => kf.none nb hp2) upd_same
          · intro b hb
            rcases (List.mem_cons.mp hb) with e | hb
            · exact Or.inl (e ▸ hdf)
            rcases (List.mem_cons.mp hb) with e | hb
            · exact Or.inr (e ▸ ha0)
            rcases (List.mem_cons.mp hb) with e | hb
            · exact Or.inr (e ▸ (fr hpw).2)
            rcases (List.mem_cons.mp hb) with e | hb
            · exact Or.inr (e ▸ (fr hr).2)
            · have e : b = pf := by simpa using hb
              exact Or.inr (e ▸ (fr hpf).2)
        · exact ⟨false, -1, rfl, fun z => (nomatch z), fun _ => (hbad (b := false) (by unfold beginRef; rw [c1', c2, c3]; rfl) rfl).same sq⟩
      · refine ⟨_, rfl, if_false_of rfl ?_⟩
        exact ⟨false, -1, rfl, fun z => (nomatch z), fun _ => (hbad (b := false) (by unfold beginRef; rw [c1', c2]; rfl) rfl).same sq⟩
    · exact ⟨false, -1, rfl, fun z => (nomatch z), fun _ => (hbad (b := false) (by unfold beginRef; rw [(show (decide (z = 8) || decide (z = 9)) = false from c1)]; rfl) rfl).same sq⟩
end
end Pr
namespace Pr
open PySem PySem.Spec PyProof.Rows L2
section
variable {P : Program} {w : World} {K : PySem.W.Frag} {mg : Str → Option Value} {base : Heap} {A : Ad}
/-! Desk.going -/
abbrev s_goi : Stmt := inClass (topS 45) 2
theorem sc_goi : FnScope ["self"] ["self"] (defScope s_goi) := ⟨rfl, rfl, rfl, by decide +kernel, rfl, by decide +kernel, by decide +kernel⟩
set_option maxHeartbeats 8000000 in
theorem ok_goi {f : Addr} {fd : FuncData} (F : Fun K "going" "Desk.going" s_goi f fd) (T : Txt K mg A) (c_wan : CalE P w K mg base (L2.CX P w) 3 "want" (sp_wan A)) (c_ovr : MetE P w K mg base CX0 1 A.cA "is_over" (sp_ovr A)) : FnOk P w K mg base (L2.CX P w) 4 f fd ["self"] (sp_goi A) := by
  refine F.okX sc_goi (fun vs H Q E h => ?_) (fun cdv A0 outer s H vs Q E hRm h => ?_)
  · obtain ⟨_, _, _, rfl, _⟩ := h
    rfl
  · obtain ⟨d, fp, x, rfl, D0, kr, k⟩ := h
    refine ⟨_, (pss_cons (ps_expr (pe_cE c_wan hRm (by decide) rfl (passes_call (E := E) (takes_of rfl rfl rfl rfl) fun _ _ _ _ h => h) (pa_cons (pe_and (pe_cmpR op_notN (pe_fld (pv 0) rfl) pe_non (nomark _)) (pe_one (pe_not (pe_mtE0 c_ovr hRm (by decide) pass0 (pe_fld (pv 0) rfl))))) (pa_cons (pe_gcE rfl T.c_NO_RACE) pa_nil))))
        (pss_one (ps_ret (pe_fld (pe_fld (pv 0) rfl) rfl)))), ?_⟩
    cases x with
    | none =>
      obtain ⟨⟨dx, hd⟩, hfp⟩ := D0
      exact ⟨_, rfl, _, _, _, _, _, rfl, hd, T.clD, T.nD_race, dk_race _, rfl, _, rfl, if_false_of (by simp) ⟨false, -2, rfl, fun z => (nomatch z), fun _ => kr rfl⟩⟩
    | some g =>
      obtain ⟨dx, a, pw, r, pf, hd, R0, hfp, _⟩ := D0
      obtain ⟨⟨dxa, ha⟩, hw, n1, n2, n3, n4, n5, hrk, htrk⟩ := id R0
      refine ⟨_, rfl, _, _, _, _, _, rfl, hd, T.clD, T.nD_race, dk_race _, rfl, _, rfl, if_true_of (by simp) ?_⟩
      refine ⟨_, rfl, _, _, _, _, _, rfl, hd, T.clD, T.nD_race, dk_race _, _, _, _, rfl, ha, ra_no_is_over _ _ _, a, pw, r, g, rfl, R0.ex, R0.won, _, rfl, ?_⟩
      refine ⟨!g.over, -2, rfl, fun c => ?_, fun c => kr c⟩
      exact ⟨_, rfl, _, _, _, _, _, rfl, hd, T.clD, T.nD_race, dk_race _, _, _, _, _, _, rfl, ha, T.clA, T.nA_rack, ra_rack _ _ _, k g a pw r pf rfl (by simpa using c) hfp R0⟩
end
end Pr
namespace Pr
open PySem PySem.Spec PyProof.Rows L2
section
variable {P : Program} {w : World} {K : PySem.W.Frag} {mg : Str → Option Value} {base : Heap} {A : Ad}
/-! Desk.want_shot -/
abbrev s_wsh : Stmt := inClass (topS 45) 3
theorem sc_wsh : FnScope ["self", "n", "potted", "first", "cushions", "lost", "called", "push", "rack", "ball"] ["self", "n", "potted"] (defScope s_wsh) := ⟨rfl, rfl, rfl, by decide +kernel, rfl, by decide +kernel, by decide +kernel⟩
set_option maxHeartbeats 8000000 in
theorem ok_wsh {f : Addr} {fd : FuncData} (F : Fun K "want_shot" "Desk.want_shot" s_wsh f fd) (T : Txt K mg A) (c_wan : CalE P w K mg base (L2.CX P w) 3 "want" (sp_wan A)) (c_goi : MetE P w K mg base (L2.CX P w) 4 A.cD "going" (sp_goi A)) (c_bit : CalE P w K mg base CX0 1 "are_bits" (sp_bit A)) : FnOk P w K mg base (L2.CX P w) 5 f fd ["self", "n", "potted"] (sp_wsh A) := by
  refine F.okX sc_wsh (fun vs H Q E h => ?_) (fun cdv A0 outer s H vs Q E hRm h => ?_)
  · obtain ⟨_, _, _, _, _, _, _, _, _, _, _, rfl, _⟩ := h
    rfl
  · obtain ⟨d, fp, x, pn, pp, f1, c, o, b, p, l, rfl, D0, hn, hpp, hl, kr, k⟩ := h
    obtain ⟨dx, u, hd, hdf⟩ := D0.at_d
    refine ⟨_, (pss_cons (ps_asg (pv 1) (pg_unl rfl (pgs_cons (pg_name (i := 3) sc_wsh.nd rfl (Or.inl rfl)) (pgs_cons (pg_name (i := 4) sc_wsh.nd rfl (Or.inl rfl)) (pgs_cons (pg_name (i := 5) sc_wsh.nd rfl (Or.inl rfl)) (pgs_cons (pg_name (i := 6) sc_wsh.nd rfl (Or.inl rfl)) (pgs_cons (pg_name (i := 7) sc_wsh.nd rfl (Or.inl rfl)) pgs_nil)))))))
        (pss_cons (ps_expr (pe_cE c_wan hRm (by decide) rfl (passes_call (E := E) (takes_of rfl rfl rfl rfl) fun _ _ _ _ h => h) (pa_cons (pe_and (pe_cmpR op_le (pe_callB (call_max3Nu rfl) rfl T.b_max (by decide +kernel) (pa_cons (pv 3) (pa_cons (pv 4) (pa_cons (pv 6) pa_nil)))) (pe_gcE rfl T.c_MOST_BALL) (nomark _)) (pe_one (pe_cmpR op_ge (pe_callB (call_min3Nu rfl) rfl T.b_min (by decide +kernel) (pa_cons (pv 3) (pa_cons (pv 4) (pa_cons (pv 6) pa_nil)))) pe_int (nomark _)))) (pa_cons (pe_gcE rfl T.c_BAD) pa_nil))))
        (pss_cons (ps_expr (pe_cE c_wan hRm (by decide) rfl (passes_call (E := E) (takes_of rfl rfl rfl rfl) fun _ _ _ _ h => h) (pa_cons (pe_and (pe_cE c_bit hRm (by decide) rfl pass0 (pa_cons (pe_lst (pa_cons (pv 5) (pa_cons (pv 7) pa_nil))) pa_nil)) (pe_one (pe_callB (cr_all rfl) rfl T.b_all (by decide +kernel) (pa_cons (pe_lc (own := [("ball", 9)]) (g := gName 9) rfl sc_wsh.nd (pi_list (pv 2)) (blkOk_by (own := [("ball", 9)]) (N := ["self", "n", "potted", "first", "cushions", "lost", "called", "push", "rack", "ball"]) (sc := defScope s_wsh) (by decide +kernel)) (fun _ _ _ _ _ => pg_name (i := 9) sc_wsh.nd rfl (Or.inl rfl)) (fun _ _ _ _ _ => pts_nil) (fun _ _ _ _ _ => (pe_chain op_le op_le pe_int (pv 9) (pe_gcE rfl T.c_MOST_BALL)))) pa_nil)))) (pa_cons (pe_gcE rfl T.c_BAD) pa_nil))))
        (pss_cons (ps_set (i := 8) sc_wsh.nd rfl (Or.inr rfl) (pe_mtE0 c_goi hRm (by decide) (passes_call (E := E) (takes_of rfl rfl rfl rfl) fun _ _ _ _ h => h) (pv 0)))
        (pss_cons (ps_expr (pe_cE c_wan hRm (by decide) rfl (passes_call (E := E) (takes_of rfl rfl rfl rfl) fun _ _ _ _ h => h) (pa_cons (pe_cmpR op_ne (pe_fld (pv 8) rfl) (pe_gcE rfl T.c_CHOICE) (nomark _)) (pa_cons (pe_gcE rfl T.c_NOT_NOW) pa_nil))))
        (pss_cons (ps_expr (pe_cE c_wan hRm (by decide) rfl (passes_call (E := E) (takes_of rfl rfl rfl rfl) fun _ _ _ _ h => h) (pa_cons (pe_callB (cr_all rfl) rfl T.b_all (by decide +kernel) (pa_cons (pe_lc (own := [("ball", 9)]) (g := gName 9) rfl sc_wsh.nd (pi_list (pe_op op_cat (pe_lst (pa_cons (pv 3) (pa_cons (pv 6) pa_nil))) (pv 2))) (blkOk_by (own := [("ball", 9)]) (N := ["self", "n", "potted", "first", "cushions", "lost", "called", "push", "rack", "ball"]) (sc := defScope s_wsh) (by decide +kernel)) (fun _ _ _ _ _ => pg_name (i := 9) sc_wsh.nd rfl (Or.inl rfl)) (fun _ _ _ _ _ => pts_one (pt_cmpR op_ne (pv 9) pe_int (nomark _))) (fun _ _ _ _ _ => (pe_cmpR (op_inK (K := K) rfl) (pv 9) (pe_fldK (K := K) rfl (pv 8) rfl) (by rfl)))) pa_nil)) (pa_cons (pe_gcE rfl T.c_NOT_THERE) pa_nil))))
        (pss_cons (ps_expr (pe_cE c_wan hRm (by decide) rfl (passes_call (E := E) (takes_of rfl rfl rfl rfl) fun _ _ _ _ h => h) (pa_cons (pe_cmpR op_eq (pe_lenSetD rfl T.b_len rfl T.b_set (pv 2)) (pe_callB call_len_seq rfl T.b_len PySem.boot_len (pa_cons (pv 2) pa_nil)) (nomark _)) (pa_cons (pe_gcE rfl T.c_NOT_THERE) pa_nil))))
        (pss_cons (ps_expr (pe_cE c_wan hRm (by decide) rfl (passes_call (E := E) (takes_of rfl rfl rfl rfl) fun _ _ _ _ h => h) (pa_cons (pe_or (pe_cmpR op_eq (pv 7) pe_int (nomark _)) (pe_one (pe_and (pe_cmpR op_eq (pe_fld (pv 8) rfl) (pe_gcE rfl T.c_NINE_BALL) (nomark _)) (pe_one (pe_cmpR op_eq (pe_fld (pv 8) rfl) (pe_gcE rfl T.c_BEHIND) (nomark _)))))) (pa_cons (pe_gcE rfl T.c_NOT_LET) pa_nil))))
        (pss_one (ps_expr (pe_cE c_wan hRm (by decide) rfl (passes_call (E := E) (takes_of rfl rfl rfl rfl) fun _ _ _ _ h => h) (pa_cons (pe_or (pe_cmpR op_ne (pv 3) pe_int (nomark _)) (pe_one (pe_and (pe_cmpR (op_eqD hRm.units) (pv 2) (pe_lst pa_nil) (nomark _)) (pe_one (pe_cmpR op_eq (pv 4) pe_int (nomark _)))))) (pa_cons (pe_gcE rfl T.c_NOT_LET) pa_nil))))))))))))), ?_⟩
    refine ⟨_, rfl, pn, _, rfl, SqL.of hn, rfl, _, _, rfl, _, _, rfl, _, _, rfl, _, _, rfl, _, _, rfl, rfl, ?_⟩
    -- the first number, cushions, the ball called
    refine ⟨_, rfl, _, rfl, _, rfl, _, _, _, _, rfl, nu_max3 f1 c b, _, _, rfl, rfl, _, rfl, ?_⟩
    rw [mx3_le]
    refine if_both (fun c1 => ?_) (fun c1 => ⟨false, -1, rfl, fun z => (nomatch z), fun _ => kr (-1) (by
      unfold shotRef fits
      rw [c1]
      rfl)⟩)
    refine ⟨_, rfl, _, rfl, _, rfl, _, _, _, _, rfl, nu_min3 f1 c b, _, _, rfl, rfl, ?_⟩
    refine ⟨decide (0 ≤ mn3 f1 c b), -1, rfl, fun c2 => ?_, fun c2 => kr (-1) (by
      rw [mn3_ge] at c2
      unfold shotRef fits
      rw [c1, c2]
      rfl)⟩
    rw [mn3_ge] at c2
    have c2a : 0 ≤ f1 ∧ 0 ≤ c ∧ 0 ≤ b := by simpa using c2
    -- lost, push, the balls potted
    refine ⟨_, rfl, _, rfl, (by show 2 ≤ sizeLine; decide), fun q1 hq1 => ?_⟩
    have sq1 : Same H (upd H q1 (.lst [.int o, .int p])) := Same.new1 hq1
    refine ⟨q1, [o, p], rfl, upd_same, (by show 2 ≤ 16; decide), fun H1 s1 => ⟨_, rfl, if_both (fun c3 => ?_) (fun c3 => ⟨false, -1, rfl, fun z => (nomatch z), fun _ => (kr (-1) (by
      unfold shotRef fits
      rw [c1, c2, c3]
      rfl)).same (sq1.trans s1)⟩)⟩⟩
    have sA : Same H H1 := sq1.trans s1
    refine ⟨_, rfl, pp, rfl, ⟨_, SqL.of (sA _ _ hpp)⟩, fun D hD => lc_list (K := K) (a := pp) (xs := zs l) (fun i H' => Same H1 H' ∧ H' D = some (.lst (((l.take i).map fun z => decide (1 ≤ z) && decide (z ≤ 15)).map V.bl)))
      ⟨Same.new1 hD, upd_same⟩ (fun i H' _ ⟨s2, _⟩ => SqL.of (s2 _ _ (sA _ _ hpp))) ?_ ?_⟩
    · rintro i y H' hi ⟨s2, hd2⟩
      obtain ⟨z, hz, rfl⟩ := zs_get hi
      have fin : ∀ {e : Bool}, e = (decide (1 ≤ z) && decide (z ≤ 15)) → ∃ acc, H' D = some (.lst acc) ∧ acc.length < sizeLine ∧ Same H1 (upd H' D (.lst (acc ++ [.bl e]))) ∧ (upd H' D (.lst (acc ++ [.bl e]))) D = some (.lst (((l.take (i + 1)).map fun z => decide (1 ≤ z) && decide (z ≤ 15)).map V.bl)) := fun {e} eb => by
        refine ⟨_, hd2, ?_, Same.mut s2 hD, ?_⟩
        · rw [List.length_map, List.length_map, List.length_take]
          exact smallL (by omega)
        · rw [upd_same, take_snoc hz, eb, List.map_append, List.map_append]
          rfl
      refine ⟨rfl, _, rfl, _, _, rfl, rfl, _, rfl, if_both (fun e1 => ?_) (fun e1 => ?_)⟩
      · refine ⟨_, _, rfl, rfl, fin ?_⟩
        rw [e1, Bool.true_and]
      · refine fin ?_
        rw [e1, Bool.false_and]
    rintro H2 ⟨s2, hd2⟩
    rw [zs_len, List.take_length] at hd2
    have sB : Same H H2 := sA.trans s2
    refine ⟨D, _, rfl, SqL.of hd2, ?_⟩
    have eall : ((l.map fun z => decide (1 ≤ z) && decide (z ≤ 15)).all id) = l.all fun z => decide (1 ≤ z) && decide (z ≤ 15) := by
      rw [List.all_map]
      rfl
    refine ⟨(l.map fun z => decide (1 ≤ z) && decide (z ≤ 15)).all id, -1, rfl, fun c4 => ?_, fun c4 => (kr (-1) (by
      rw [eall] at c4
      unfold shotRef fits
      rw [c1, c2, c3, c4]
      rfl)).same sB⟩
    rw [eall] at c4
    have hfit : fits f1 c o b p l = true := by
      unfold fits
      rw [c1, c2, c3, c4]
      rfl
    have nofit : ¬ fits f1 c o b p l = false := by rw [hfit]; decide
    -- the rack
    have DB := D0.same sB
    refine ⟨_, rfl, _, _, _, rfl, (sB _ _ hd), dk_no_going _, d, fp, x, rfl, DB, fun eg => (kr (-2) (by
      unfold shotRef
      rw [if_neg nofit]
      cases x with
      | none => rfl
      | some g =>
        have eo : g.over = true := by
          have z : (!g.over) = false := eg
          simpa using z
        dsimp only
        rw [if_pos eo])).same sB, fun g a pw r pf ex eo efp R => ?_⟩
    subst ex
    have KB := R.rack eo
    obtain ⟨⟨dxB, ptB, hrB, htB, nptB⟩, hfB, okB⟩ := id KB
    have eref : shotRef (some g) f1 c o b p l = if g.rack.phase = 3 then some (-3) else if isThere g.rack.table (f1 :: b :: l) = false then some (-4) else if ¬ l.Nodup then some (-4) else if ¬ (p = 0 ∨ g.rack.game = 9 ∧ g.rack.phase = 1) then some (-5) else if ¬ (f1 ≠ 0 ∨ l = [] ∧ c = 0) then some (-5) else none := by
      unfold shotRef
      rw [if_neg nofit]
      dsimp only
      rw [if_neg (by rw [eo]; decide)]
    rw [eref] at kr k
    refine ⟨_, rfl, _, _, _, _, _, rfl, hrB, T.clR, T.nR_phase, rk_phase _ _ _, rfl, ?_⟩
    refine ⟨!decide (V.int g.rack.phase = V.int 3), -3, rfl, fun c5 => ?_, fun c5 => (kr (-3) (if_pos (by simpa using c5))).same sB⟩
    have n3 : ¬ g.rack.phase = 3 := by simpa using c5
    rw [if_neg n3] at kr k
    -- on the table
    have hppB := sB _ _ hpp
    refine ⟨_, rfl, _, rfl, (by show 2 ≤ sizeLine; decide), fun q2 hq2 => ?_⟩
    have npq2 : pp ≠ q2 := by
      rintro rfl
      rw [hppB] at hq2
      cases hq2
    refine ⟨_, rfl, q2, pp, [.int f1, .int b], _, rfl, rfl, upd_same, (upd_ne npq2).trans hppB, (by rw [zs_len]; exact small (by show 2 + l.length ≤ 1000; omega)), fun q3 hq3 => ?_⟩
    have sC : Same H2 (upd (upd H2 q2 (.lst [.int f1, .int b])) q3 (.lst ([.int f1, .int b] ++ zs l))) := Same.new (Same.new1 hq2) ((Same.new1 hq2).free hq3)
    generalize e3 : upd (upd H2 q2 (.lst [.int f1, .int b])) q3 (.lst ([.int f1, .int b] ++ zs l)) = H3 at sC
    have hq33 : H3 q3 = some (.lst (zs (f1 :: b :: l))) := by
      rw [← e3]
      exact upd_same
    have sD : Same H H3 := sB.trans sC
    refine ⟨_, rfl, ⟨_, SqL.of hq33⟩, fun D2 hD2 => lc_list (K := K) (a := q3) (xs := zs (f1 :: b :: l)) (fun i H' => Same H3 H' ∧ H' D2 = some (.lst (((((f1 :: b :: l).take i).filter fun z => !decide (z = 0)).map fun z => g.rack.table.contains z).map V.bl)))
      ⟨Same.new1 hD2, upd_same⟩ (fun i H' _ ⟨s4, _⟩ => SqL.of (s4 _ _ hq33)) ?_ ?_⟩
    · rintro i y H' hi ⟨s4, hd4⟩
      obtain ⟨z, hz, rfl⟩ := zs_get hi
      refine ⟨rfl, _, rfl, rfl, _, rfl, ?_⟩
      rw [dec_int, beq_dec]
      refine if_both (fun e1 => ?_) (fun e1 => ?_)
      · refine ⟨_, rfl, _, rfl, _, _, _, _, _, rfl, (s4 _ _ (sC _ _ hrB)), T.clR, T.nR_table, rk_table _ _ _, _, _, rfl, Or.inl (SqL.of ((sC.trans s4) _ _ htB)), rfl, flat_zs _, ?_⟩
        have ei : g.rack.table.contains z = inV (V.int z) (zs g.rack.table) := (inV_int _ _).symm
        refine ⟨_, hd4, ?_, Same.mut s4 hD2, ?_⟩
        · rw [List.length_map, List.length_map]
          refine smallL (Nat.le_trans (List.length_filter_le _ _) ?_)
          rw [List.length_take, List.length_cons, List.length_cons]
          omega
        · rw [upd_same, take_filter_pos hz e1, List.map_append, List.map_append]
          show _ = some (HO.lst (_ ++ [V.bl (g.rack.table.contains z)]))
          rw [ei]
          rfl
      · refine ⟨s4, ?_⟩
        rw [take_filter_neg hz e1]
        exact hd4
    rintro H4 ⟨s4, hd4⟩
    rw [zs_len, List.take_length] at hd4
    have sE : Same H H4 := sD.trans s4
    refine ⟨D2, _, rfl, SqL.of hd4, ?_⟩
    have ethere : ((((f1 :: b :: l).filter fun z => !decide (z = 0)).map fun z => g.rack.table.contains z).all id) = isThere g.rack.table (f1 :: b :: l) := by
      unfold isThere
      rw [List.all_map]
      rfl
    refine ⟨(((f1 :: b :: l).filter fun z => !decide (z = 0)).map fun z => g.rack.table.contains z).all id, -4, rfl, fun c6 => ?_, fun c6 => (kr (-4) (if_pos (ethere ▸ c6))).same sE⟩
    rw [ethere] at c6
    rw [if_neg (show ¬ isThere g.rack.table (f1 :: b :: l) = false by rw [c6]; decide)] at kr k
    -- none twice
    have hppE := sE _ _ hpp
    refine ⟨_, rfl, pp, l, rfl, SqL.of hppE, (by omega), _, rfl, _, _, rfl, Or.inl (SqL.of hppE), rfl, ?_⟩
    refine ⟨decide (V.int ((setLen l : Nat) : Int) = V.int (((zs l).length : Nat) : Int)), -4, rfl, fun c7 => ?_, fun c7 => (kr (-4) (if_pos (fun z => of_decide_eq_false c7 (by rw [zs_len, (setLen_iff l).mpr z])))).same sE⟩
    have nd : l.Nodup := (setLen_iff l).mp (by
      have z := V.int.inj (of_decide_eq_true c7)
      rw [zs_len] at z
      exact Int.ofNat.inj z)
    rw [if_neg (show ¬ ¬ l.Nodup from fun z => z nd)] at kr k
    -- a push that may not be
    have hrE := (sC.trans s4) _ _ hrB
    have tail : ∀ {Q2 : Prop}, (p = 0 ∨ g.rack.game = 9 ∧ g.rack.phase = 1) → (∀ k2, (if ¬ (f1 ≠ 0 ∨ l = [] ∧ c = 0) then some (-5) else none) = some k2 → Ref A H k2 E) ∧ ((if ¬ (f1 ≠ 0 ∨ l = [] ∧ c = 0) then some (-5) else none) = (none : Option Int) → ∀ H', Same H H' → Q .non H') := fun {Q2} z => by
      rw [if_neg (show ¬ ¬ (p = 0 ∨ g.rack.game = 9 ∧ g.rack.phase = 1) from fun y => y z)] at kr k
      exact ⟨kr, k⟩
    refine ⟨_, rfl, rfl, _, rfl, ?_⟩
    rw [dec_int, beq_dec]
    refine if_both (fun c8 => ?_) (fun c8 => ?_)
    · refine ⟨true, -5, rfl, fun _ => ?_, fun z => (nomatch z)⟩
      obtain ⟨kr2, k2⟩ := tail (Q2 := True) (Or.inl (of_decide_eq_true c8))
      refine ⟨_, rfl, rfl, _, rfl, ?_⟩
      rw [dec_int, beq_dec]
      refine if_both (fun d1 => ?_) (fun d1 => ?_)
      · refine ⟨true, -5, rfl, fun _ => k2 (if_neg (fun z => z (Or.inl (by simpa using d1)))) _ sE, fun z => (nomatch z)⟩
      · have f0 : f1 = 0 := by simpa using d1
        refine ⟨_, rfl, (by show 0 ≤ sizeLine; exact Nat.zero_le _), fun q5 hq5 => ?_⟩
        have sF : Same H (upd H4 q5 (.lst [])) := Same.new sE (sE.free hq5)
        refine ⟨_, _, Dp.lst (SqL.of (sF _ _ hpp)) (dp_ints _), Dp.lst (SqL.of upd_same) .nil, shaped_ints _, rfl, _, rfl, ?_⟩
        rw [eqv_nil]
        refine if_both (fun d2 => ?_) (fun d2 => ?_)
        · refine ⟨_, rfl, rfl, ?_⟩
          refine ⟨decide (V.int c = V.int 0), -5, rfl, fun d3 => k2 (if_neg (fun z => z (Or.inr ⟨of_decide_eq_true d2, V.int.inj (of_decide_eq_true d3)⟩))) _ sF, fun d3 => (kr2 (-5) (if_pos ?_)).same sF⟩
          rintro (z | z)
          · exact z f0
          · exact of_decide_eq_false d3 (congrArg V.int z.2)
        · refine ⟨false, -5, rfl, fun z => (nomatch z), fun _ => (kr2 (-5) (if_pos ?_)).same sF⟩
          rintro (z | z)
          · exact z f0
          · exact of_decide_eq_false d2 z.1
    · have np : ¬ p = 0 := of_decide_eq_false c8
      refine ⟨_, rfl, _, _, _, _, _, rfl, hrE, T.clR, T.nR_game, rk_game _ _ _, rfl, _, rfl, ?_⟩
      rw [dec_int, beq_dec]
      refine if_both (fun c9 => ?_) (fun c9 => ?_)
      · refine ⟨_, rfl, _, _, _, _, _, rfl, hrE, T.clR, T.nR_phase, rk_phase _ _ _, rfl, ?_⟩
        refine ⟨decide (V.int g.rack.phase = V.int 1), -5, rfl, fun c10 => ?_, fun c10 => (kr (-5) (if_pos (by
          rintro (z | z)
          · exact np z
          · exact of_decide_eq_false c10 (congrArg V.int z.2)))).same sE⟩
        obtain ⟨kr2, k2⟩ := tail (Q2 := True) (Or.inr ⟨of_decide_eq_true c9, V.int.inj (of_decide_eq_true c10)⟩)
        refine ⟨_, rfl, rfl, _, rfl, ?_⟩
        rw [dec_int, beq_dec]
        refine if_both (fun d1 => ?_) (fun d1 => ?_)
        · refine ⟨true, -5, rfl, fun _ => k2 (if_neg (fun z => z (Or.inl (by simpa using d1)))) _ sE, fun z => (nomatch z)⟩
        · have f0 : f1 = 0 := by simpa using d1
          refine ⟨_, rfl, (by show 0 ≤ sizeLine; exact Nat.zero_le _), fun q5 hq5 => ?_⟩
          have sF : Same H (upd H4 q5 (.lst [])) := Same.new sE (sE.free hq5)
          refine ⟨_, _, Dp.lst (SqL.of (sF _ _ hpp)) (dp_ints _), Dp.lst (SqL.of upd_same) .nil, shaped_ints _, rfl, _, rfl, ?_⟩
          rw [eqv_nil]
          refine if_both (fun d2 => ?_) (fun d2 => ?_)
          · refine ⟨_, rfl, rfl, ?_⟩
            refine ⟨decide (V.int c = V.int 0), -5, rfl, fun d3 => k2 (if_neg (fun z => z (Or.inr ⟨of_decide_eq_true d2, V.int.inj (of_decide_eq_true d3)⟩))) _ sF, fun d3 => (kr2 (-5) (if_pos ?_)).same sF⟩
            rintro (z | z)
            · exact z f0
            · exact of_decide_eq_false d3 (congrArg V.int z.2)
          · refine ⟨false, -5, rfl, fun z => (nomatch z), fun _ => (kr2 (-5) (if_pos ?_)).same sF⟩
            rintro (z | z)
            · exact z f0
            · exact of_decide_eq_false d2 z.1
      · exact ⟨false, -5, rfl, fun z => (nomatch z), fun _ => (kr (-5) (if_pos (by
          rintro (z | z)
          · exact np z
          · exact of_decide_eq_false c9 z.1))).same sE⟩
end
end Pr
namespace Pr
open PySem PySem.Spec PyProof.Rows L2
section
variable {P : Program} {w : World} {K : PySem.W.Frag} {mg : Str → Option Value} {base : Heap} {A : Ad}
/-! Desk.shot -/
abbrev s_sho : Stmt := inClass (topS 45) 4
theorem sc_sho : FnScope ["self", "n", "potted", "race", "told", "is_foul", "winner"] ["self", "n", "potted"] (defScope s_sho) := ⟨rfl, rfl, rfl, by decide +kernel, rfl, by decide +kernel, by decide +kernel⟩
set_option maxHeartbeats 8000000 in
theorem ok_sho {f : Addr} {fd : FuncData} (F : Fun K "shot" "Desk.shot" s_sho f fd) (T : Txt K mg A) (c_sta : MetE P w K mg base CX0 2 A.cA "stands" (sp_sta A)) (c_rwn : MetE P w K mg base CX0 3 A.cA "rack_won" (sp_rwn A)) (c_e8 : CalE P w K mg base CX0 6 "eight_shot" (sp_e8 A)) (c_n9 : CalE P w K mg base CX0 6 "nine_shot" (sp_n9 A)) (c_shI : MakE P w K mg base CX0 1 "Shot" A.cS (sp_shI A)) (c_wsh : MetE P w K mg base (L2.CX P w) 5 A.cD "want_shot" (sp_wsh A)) : FnOk P w K mg base (L2.CX P w) 7 f fd ["self", "n", "potted"] (sp_sho A) := by
  refine F.okX sc_sho (fun vs H Q E h => ?_) (fun cdv A0 outer s H vs Q E hRm h => ?_)
  · obtain ⟨_, _, _, _, _, _, _, _, _, _, _, rfl, _⟩ := h
    rfl
  · obtain ⟨d, fp, x, pn, pp, f1, c, o, b, p, l, rfl, D0, hn, hpp, hl, npp, kr, k⟩ := h
    obtain ⟨dx, u, hd, hdf⟩ := D0.at_d
    refine ⟨_, (pss_cons (ps_expr (pe_mtE c_wsh hRm (by decide) (passes_call (E := E) (takes_of rfl rfl rfl rfl) fun _ _ _ _ h => h) (pv 0) (pa_cons (pv 1) (pa_cons (pv 2) pa_nil))))
        (pss_cons (ps_set (i := 3) sc_sho.nd rfl (Or.inl rfl) (pe_fld (pv 0) rfl))
        (pss_cons (ps_set (i := 4) sc_sho.nd rfl (Or.inl rfl) (pe_mkE c_shI hRm (by decide) rfl pass0 (pa_cons (pe_ix ix_list (pv 1) pe_int (fun _ _ => rfl)) (pa_cons (pe_ix ix_list (pv 1) pe_int (fun _ _ => rfl)) (pa_cons (pe_cmpR op_eq (pe_ix ix_list (pv 1) pe_int (fun _ _ => rfl)) pe_int (nomark _)) (pa_cons (pe_ix ix_list (pv 1) pe_int (fun _ _ => rfl)) (pa_cons (pe_cmpR op_eq (pe_ix ix_list (pv 1) pe_int (fun _ _ => rfl)) pe_int (nomark _)) (pa_cons (pv 2) pa_nil))))))))
        (pss_cons (ps_asg (pe_ifExp (pt_cmpR op_eq (pe_fld (pv 3) rfl) (pe_gcE rfl T.c_EIGHT_BALL) (nomark _)) (pe_cE c_e8 hRm (by decide) rfl pass0 (pa_cons (pe_fld (pv 3) rfl) (pa_cons (pv 4) pa_nil))) (pe_cE c_n9 hRm (by decide) rfl pass0 (pa_cons (pe_fld (pv 3) rfl) (pa_cons (pv 4) pa_nil)))) (pg_tup rfl (pgs_cons (pg_name (i := 5) sc_sho.nd rfl (Or.inl rfl)) (pgs_cons (pg_name (i := 6) sc_sho.nd rfl (Or.inl rfl)) pgs_nil))))
        (pss_cons (ps_if (pt_cmpR op_isN (pv 6) pe_non (nomark _)) (pss_one (ps_ret (pe_op op_cat (pe_lst (pa_cons (pe_callTy call_int1 rfl T.b_int (by decide +kernel) (pa_cons (pv 5) pa_nil)) pa_nil)) (pe_mtE0 c_sta hRm (by decide) pass0 (pv 3))))) pss_nil)
        (pss_cons (ps_expr (pe_mtE c_rwn hRm (by decide) pass0 (pv 3) (pa_cons (pv 6) pa_nil)))
        (pss_one (ps_ret (pe_op op_cat (pe_lst (pa_cons (pe_op op_add pe_int (pv 6)) pa_nil)) (pe_mtE0 c_sta hRm (by decide) pass0 (pv 3))))))))))), ?_⟩
    refine ⟨_, rfl, _, _, _, rfl, hd, dk_no_want_shot _, _, rfl, _, rfl, d, fp, x, pn, pp, f1, c, o, b, p, l, rfl, D0, hn, hpp, hl, kr, fun eref H1 s1 => ?_⟩
    obtain ⟨g, rfl, eo⟩ := shotRef_some eref
    obtain ⟨dx1, a, pw, r, pf, hd1, R0, hfp, m1, m2, m3, m4⟩ := D0.same s1
    subst hfp
    obtain ⟨⟨dxa, ha⟩, hw, n1, n2, n3, n4, n5, hrk, htrk⟩ := id R0
    have K0 := hrk eo
    obtain ⟨⟨dx0, pt0, hr0, ht0, npt0⟩, hf0, ok0⟩ := id K0
    have hn1 := s1 _ _ hn
    have hpp1 := s1 _ _ hpp
    have k1 : ∀ (H' : Hp) (fp' : List Addr) (p9 : Addr), DkAt A H' d fp' (some (g.shot ⟨f1, c, decide (o = 1), b, decide (p = 1), l⟩).1) → Kept [d, a, pw, r, pf] H H' → (∀ b ∈ fp', b ∈ [d, a, pw, r, pf] ∨ H b = none) → (p9 ∉ [d, a, pw, r, pf] → H p9 = none) → H' p9 = some (.lst (zs (g.shot ⟨f1, c, decide (o = 1), b, decide (p = 1), l⟩).2)) → Q (.ref p9) H' := k eref
    refine ⟨_, rfl, _, _, _, _, _, rfl, hd1, T.clD, T.nD_race, dk_race _, ?_⟩
    refine ⟨_, rfl, pn, _, _, _, rfl, rfl, SqL.of hn1, rfl, _, rfl, pn, _, _, _, rfl, rfl, SqL.of hn1, rfl, _, rfl, pn, _, _, _, rfl, rfl, SqL.of hn1, rfl, rfl, _, rfl, pn, _, _, _, rfl, rfl, SqL.of hn1, rfl, _, rfl, pn, _, _, _, rfl, rfl, SqL.of hn1, rfl, rfl, _, rfl, fun s3 sdx hs hsd nsd => ?_⟩
    refine ⟨s3, sdx, ⟨f1, c, decide (V.int o = V.int 1), b, decide (V.int p = V.int 1), l⟩, pp, rfl, upd_same, fun H2 hs2 k2 => ⟨rfl, ?_⟩⟩
    have eX : (⟨f1, c, decide (V.int o = V.int 1), b, decide (V.int p = V.int 1), l⟩ : S) = ⟨f1, c, decide (o = 1), b, decide (p = 1), l⟩ := by
      rw [dec_int, dec_int, beq_dec, beq_dec]
    rw [eX] at hs2
    have el : (⟨f1, c, decide (o = 1), b, decide (p = 1), l⟩ : S).potted = l := rfl
    generalize (⟨f1, c, decide (o = 1), b, decide (p = 1), l⟩ : S) = X at hs2 k1 el
    have s2 : Same H1 H2 := fun b o hb => k2 _ _ (by
      rw [upd_ne (fun e => by rw [e, hs] at hb; cases hb), upd_ne (fun e => by rw [e, hsd] at hb; cases hb)]
      exact hb) (by
      have e : b ≠ s3 := fun e => by rw [e, hs] at hb; cases hb
      simpa using e)
    have sA : Same H H2 := s1.trans s2
    have nsr : s3 ≠ r := fun e => by rw [e, hr0] at hs; cases hs
    have nsf : s3 ≠ pf := fun e => by rw [e, hf0] at hs; cases hs
    have nT : a ∉ [r, pf] ∧ pw ∉ [r, pf] ∧ d ∉ [r, pf] := ⟨by simp [n2, n3], by simp [n4, n1], by simp [m3, m4]⟩
    have S2 : ShAt A H2 [r, pf] s3 X := ⟨by simp [nsr, nsf], sdx, pp, fun z => npp (tail3 z), hs2, by rw [el]; exact s2 _ _ hpp1, by rw [el]; exact hl⟩
    have K2 := K0.same s2
    refine ⟨_, rfl, _, _, _, _, _, rfl, (s2 _ _ ha), T.clA, T.nA_game, ra_game _ _ _, rfl, _, rfl, if_both (fun ce => ?_) (fun ce => ?_)⟩
    · refine ⟨_, rfl, _, _, _, _, _, rfl, (s2 _ _ ha), T.clA, T.nA_rack, ra_rack _ _ _, _, rfl, r, pf, g.rack, s3, X, rfl, K2, S2, fun H3 p3 K3 k3 hp3 => ?_⟩
      have e1 : g.rack.eight X = g.rack.shot g.game X := (if_pos (V.int.inj (of_decide_eq_true ce))).symm
      have e2 : g.rack.plainFoul X = g.rack.isFoul g.game X := (if_pos (V.int.inj (of_decide_eq_true ce))).symm
      rw [e1, e2] at hp3
      rw [e1] at K3
      refine ⟨p3, _, rfl, SqT.of hp3, rfl, _, _, rfl, _, _, rfl, rfl, ?_⟩
      have h3a : H3 a = some (.ins A.cA dxa (raF (g.withRack (g.rack.shot g.game X).1) pw r)) := k3 _ _ (s2 _ _ ha) nT.1
      have h3w : H3 pw = some (.lst [.int g.wa, .int g.wb]) := k3 _ _ (s2 _ _ hw) nT.2.1
      have h3d : H3 d = some (.ins A.cD dx1 (dkF (.ref a))) := k3 _ _ (s2 _ _ hd1) nT.2.2
      have R3 : RaAt A H3 a pw r pf (g.withRack (g.rack.shot g.game X).1) := ⟨⟨dxa, h3a⟩, h3w, n1, n2, n3, n4, n5, fun _ => K3, K3.trk⟩
      have kA : Kept [d, a, pw, r, pf] H H3 := (Kept.of_same sA).trans (k3.mono (by simp))
      cases ew : (g.rack.shot g.game X).2 with
      | none =>
        refine ⟨_, rfl, rfl, _, rfl, if_true_of (decide_eq_true rfl) ?_⟩
        refine ⟨_, rfl, Or.inr ⟨_, rfl, (by show 1 ≤ sizeLine; decide), fun q hq => ?_⟩⟩
        have sq : Same H3 (upd H3 q (.lst [.int (if g.rack.isFoul g.game X = true then 1 else 0)])) := Same.new1 hq
        refine ⟨_, rfl, _, _, _, rfl, (sq _ _ h3a), ra_no_stands _ _ _, a, pw, r, pf, _, rfl, R3.same sq, fun H5 p5 s5 hp50 hp5 => ?_⟩
        refine ⟨q, p5, _, _, rfl, rfl, s5 _ _ upd_same, hp5, (by rw [zs_len]; exact small (by have := stands_len (g.withRack (g.rack.shot g.game X).1); show 1 + _ ≤ 1000; omega)), fun p6 hp6 => ?_⟩
        have s36 := Same.new (sq.trans s5) ((sq.trans s5).free hp6) (o := .lst ([V.int (if g.rack.isFoul g.game X = true then 1 else 0)] ++ zs (g.withRack (g.rack.shot g.game X).1).stands))
        have eo : g.shot X = (g.withRack (g.rack.shot g.game X).1, b2z (g.rack.isFoul g.game X) :: (g.withRack (g.rack.shot g.game X).1).stands) := by
          unfold G.shot
          rw [ew]
        rw [eo] at k1
        have D3 : DkAt A H3 d [d, a, pw, r, pf] (some (g.withRack (g.rack.shot g.game X).1)) := ⟨dx1, a, pw, r, pf, h3d, R3, rfl, m1, m2, m3, m4⟩
        exact k1 _ _ p6 (D3.same s36) (kA.trans (Kept.of_same s36)) (fun b hb => Or.inl hb) (fun nb => (kA.trans (Kept.of_same (sq.trans s5))).none nb hp6) upd_same
      | some z =>
        have hz := shot_win K2.ok ew
        refine ⟨_, rfl, rfl, _, rfl, if_false_of (decide_eq_false fun e => by cases e) ?_⟩
        have eo : g.shot X = ((g.withRack (g.rack.shot g.game X).1).rackWon z, (2 + z) :: ((g.withRack (g.rack.shot g.game X).1).rackWon z).stands) := by
          unfold G.shot
          rw [ew]
        rw [eo] at k1
        refine ⟨_, rfl, _, _, _, rfl, h3a, ra_no_rack_won _ _ _, _, rfl, a, pw, r, pf, _, z, rfl, R3, K3, hz, fun H4 r2 pf2 R4 k4 hor => ?_⟩
        have h4d : H4 d = some (.ins A.cD dx1 (dkF (.ref a))) := k4 _ _ h3d (by simp [m1, m2])
        obtain ⟨dxa4, ha4⟩ := R4.ex
        have hfree : ∀ {b : Addr}, H3 b = none → b ≠ d ∧ (b ∉ [d, a, pw, r, pf] → H b = none) := fun {b} hb => by
          have e1 : b ≠ d := fun e => by rw [e, h3d] at hb; cases hb
          exact ⟨e1, fun nb => kA.none nb hb⟩
        have hF : ∀ b ∈ [d, a, pw, r2, pf2], b ∈ [d, a, pw, r, pf] ∨ H b = none := by
          rcases hor with ⟨e1, e2⟩ | ⟨e1, e2⟩
          · rw [e1, e2]
            exact fun b hb => Or.inl hb
          · intro b hb
            by_cases hm : b ∈ [d, a, pw, r, pf]
            · exact Or.inl hm
            · right
              rcases (List.mem_cons.mp hb) with e | hb
              · exact absurd (by rw [e]; simp) hm
              rcases (List.mem_cons.mp hb) with e | hb
              · exact absurd (by rw [e]; simp) hm
              rcases (List.mem_cons.mp hb) with e | hb
              · exact absurd (by rw [e]; simp) hm
              rcases (List.mem_cons.mp hb) with e | hb
              · rw [e] at hm ⊢
                exact (hfree e1).2 hm
              · have e : b = pf2 := by simpa using hb
                rw [e] at hm ⊢
                exact (hfree e2).2 hm
        have hd2 : d ≠ r2 ∧ d ≠ pf2 := by
          rcases hor with ⟨e1, e2⟩ | ⟨e1, e2⟩
          · rw [e1, e2]
            exact ⟨m3, m4⟩
          · exact ⟨Ne.symm (hfree e1).1, Ne.symm (hfree e2).1⟩
        have D4 : DkAt A H4 d [d, a, pw, r2, pf2] (some ((g.withRack (g.rack.shot g.game X).1).rackWon z)) := ⟨dx1, a, pw, r2, pf2, h4d, R4, rfl, m1, m2, hd2.1, hd2.2⟩
        have kB : Kept [d, a, pw, r, pf] H H4 := kA.trans (k4.mono (by simp))
        refine ⟨_, rfl, _, _, rfl, rfl, (by show 1 ≤ sizeLine; decide), fun q hq => ?_⟩
        have sq : Same H4 (upd H4 q (.lst [.int (2 + z)])) := Same.new1 hq
        refine ⟨_, rfl, _, _, _, rfl, (sq _ _ ha4), ra_no_stands _ _ _, a, pw, r2, pf2, _, rfl, R4.same sq, fun H5 p5 s5 hp50 hp5 => ?_⟩
        refine ⟨q, p5, _, _, rfl, rfl, s5 _ _ upd_same, hp5, (by rw [zs_len]; exact small (by have := stands_len ((g.withRack (g.rack.shot g.game X).1).rackWon z); show 1 + _ ≤ 1000; omega)), fun p6 hp6 => ?_⟩
        have s46 := Same.new (sq.trans s5) ((sq.trans s5).free hp6) (o := .lst ([V.int (2 + z)] ++ zs ((g.withRack (g.rack.shot g.game X).1).rackWon z).stands))
        exact k1 _ _ p6 (D4.same s46) (kB.trans (Kept.of_same s46)) hF (fun nb => (kB.trans (Kept.of_same (sq.trans s5))).none nb hp6) upd_same
    · refine ⟨_, rfl, _, _, _, _, _, rfl, (s2 _ _ ha), T.clA, T.nA_rack, ra_rack _ _ _, _, rfl, r, pf, g.rack, s3, X, rfl, K2, S2, fun H3 p3 K3 k3 hp3 => ?_⟩
      have e1 : g.rack.nine X = g.rack.shot g.game X := (if_neg (fun z => of_decide_eq_false ce (congrArg V.int z))).symm
      have e2 : g.rack.foul9 X = g.rack.isFoul g.game X := (if_neg (fun z => of_decide_eq_false ce (congrArg V.int z))).symm
      rw [e1, e2] at hp3
      rw [e1] at K3
      refine ⟨p3, _, rfl, SqT.of hp3, rfl, _, _, rfl, _, _, rfl, rfl, ?_⟩
      have h3a : H3 a = some (.ins A.cA dxa (raF (g.withRack (g.rack.shot g.game X).1) pw r)) := k3 _ _ (s2 _ _ ha) nT.1
      have h3w : H3 pw = some (.lst [.int g.wa, .int g.wb]) := k3 _ _ (s2 _ _ hw) nT.2.1
      have h3d : H3 d = some (.ins A.cD dx1 (dkF (.ref a))) := k3 _ _ (s2 _ _ hd1) nT.2.2
      have R3 : RaAt A H3 a pw r pf (g.withRack (g.rack.shot g.game X).1) := ⟨⟨dxa, h3a⟩, h3w, n1, n2, n3, n4, n5, fun _ => K3, K3.trk⟩
      have kA : Kept [d, a, pw, r, pf] H H3 := (Kept.of_same sA).trans (k3.mono (by simp))
      cases ew : (g.rack.shot g.game X).2 with
      | none =>
        refine ⟨_, rfl, rfl, _, rfl, if_true_of (decide_eq_true rfl) ?_⟩
        refine ⟨_, rfl, Or.inr ⟨_, rfl, (by show 1 ≤ sizeLine; decide), fun q hq => ?_⟩⟩
        have sq : Same H3 (upd H3 q (.lst [.int (if g.rack.isFoul g.game X = true then 1 else 0)])) := Same.new1 hq
        refine ⟨_, rfl, _, _, _, rfl, (sq _ _ h3a), ra_no_stands _ _ _, a, pw, r, pf, _, rfl, R3.same sq, fun H5 p5 s5 hp50 hp5 => ?_⟩
        refine ⟨q, p5, _, _, rfl, rfl, s5 _ _ upd_same, hp5, (by rw [zs_len]; exact small (by have := stands_len (g.withRack (g.rack.shot g.game X).1); show 1 + _ ≤ 1000; omega)), fun p6 hp6 => ?_⟩
        have s36 := Same.new (sq.trans s5) ((sq.trans s5).free hp6) (o := .lst ([V.int (if g.rack.isFoul g.game X = true then 1 else 0)] ++ zs (g.withRack (g.rack.shot g.game X).1).stands))
        have eo : g.shot X = (g.withRack (g.rack.shot g.game X).1, b2z (g.rack.isFoul g.game X) :: (g.withRack (g.rack.shot g.game X).1).stands) := by
          unfold G.shot
          rw [ew]
        rw [eo] at k1
        have D3 : DkAt A H3 d [d, a, pw, r, pf] (some (g.withRack (g.rack.shot g.game X).1)) := ⟨dx1, a, pw, r, pf, h3d, R3, rfl, m1, m2, m3, m4⟩
        exact k1 _ _ p6 (D3.same s36) (kA.trans (Kept.of_same s36)) (fun b hb => Or.inl hb) (fun nb => (kA.trans (Kept.of_same (sq.trans s5))).none nb hp6) upd_same
      | some z =>
        have hz := shot_win K2.ok ew
        refine ⟨_, rfl, rfl, _, rfl, if_false_of (decide_eq_false fun e => by cases e) ?_⟩
        have eo : g.shot X = ((g.withRack (g.rack.shot g.game X).1).rackWon z, (2 + z) :: ((g.withRack (g.rack.shot g.game X).1).rackWon z).stands) := by
          unfold G.shot
          rw [ew]
        rw [eo] at k1
        refine ⟨_, rfl, _, _, _, rfl, h3a, ra_no_rack_won _ _ _, _, rfl, a, pw, r, pf, _, z, rfl, R3, K3, hz, fun H4 r2 pf2 R4 k4 hor => ?_⟩
        have h4d : H4 d = some (.ins A.cD dx1 (dkF (.ref a))) := k4 _ _ h3d (by simp [m1, m2])
        obtain ⟨dxa4, ha4⟩ := R4.ex
        have hfree : ∀ {b : Addr}, H3 b = none → b ≠ d ∧ (b ∉ [d, a, pw, r, pf] → H b = none) := fun {b} hb => by
          have e1 : b ≠ d := fun e => by rw [e, h3d] at hb; cases hb
          exact ⟨e1, fun nb => kA.none nb hb⟩
        have hF : ∀ b ∈ [d, a, pw, r2, pf2], b ∈ [d, a, pw, r, pf] ∨ H b = none := by
          rcases hor with ⟨e1, e2⟩ | ⟨e1, e2⟩
          · rw [e1, e2]
            exact fun b hb => Or.inl hb
          · intro b hb
            by_cases hm : b ∈ [d, a, pw, r, pf]
            · exact Or.inl hm
            · right
              rcases (List.mem_cons.mp hb) with e | hb
              · exact absurd (by rw [e]; simp) hm
              rcases (List.mem_cons.mp hb) with e | hb
              · exact absurd (by rw [e]; simp) hm
              rcases (List.mem_cons.mp hb) with e | hb
              · exact absurd (by rw [e]; simp) hm
              rcases (List.mem_cons.mp hb) with e | hb
              · rw [e] at hm ⊢
                exact (hfree e1).2 hm
              · have e : b = pf2 := by simpa using hb
                rw [e] at hm ⊢
                exact (hfree e2).2 hm
        have hd2 : d ≠ r2 ∧ d ≠ pf2 := by
          rcases hor with ⟨e1, e2⟩ | ⟨e1, e2⟩
          · rw [e1, e2]
            exact ⟨m3, m4⟩
          · exact ⟨Ne.symm (hfree e1).1, Ne.symm (hfree e2).1⟩
        have D4 : DkAt A H4 d [d, a, pw, r2, pf2] (some ((g.withRack (g.rack.shot g.game X).1).rackWon z)) := ⟨dx1, a, pw, r2, pf2, h4d, R4, rfl, m1, m2, hd2.1, hd2.2⟩
        have kB : Kept [d, a, pw, r, pf] H H4 := kA.trans (k4.mono (by simp))
        refine ⟨_, rfl, _, _, rfl, rfl, (by show 1 ≤ sizeLine; decide), fun q hq => ?_⟩
        have sq : Same H4 (upd H4 q (.lst [.int (2 + z)])) := Same.new1 hq
        refine ⟨_, rfl, _, _, _, rfl, (sq _ _ ha4), ra_no_stands _ _ _, a, pw, r2, pf2, _, rfl, R4.same sq, fun H5 p5 s5 hp50 hp5 => ?_⟩
        refine ⟨q, p5, _, _, rfl, rfl, s5 _ _ upd_same, hp5, (by rw [zs_len]; exact small (by have := stands_len ((g.withRack (g.rack.shot g.game X).1).rackWon z); show 1 + _ ≤ 1000; omega)), fun p6 hp6 => ?_⟩
        have s46 := Same.new (sq.trans s5) ((sq.trans s5).free hp6) (o := .lst ([V.int (2 + z)] ++ zs ((g.withRack (g.rack.shot g.game X).1).rackWon z).stands))
        exact k1 _ _ p6 (D4.same s46) (kB.trans (Kept.of_same s46)) hF (fun nb => (kB.trans (Kept.of_same (sq.trans s5))).none nb hp6) upd_same
end
end Pr
namespace Pr
open PySem PySem.Spec PyProof.Rows L2
section
variable {P : Program} {w : World} {K : PySem.W.Frag} {mg : Str → Option Value} {base : Heap} {A : Ad}
/-! Desk.choose -/
abbrev s_cho : Stmt := inClass (topS 45) 5
theorem sc_cho : FnScope ["self", "n", "rack"] ["self", "n"] (defScope s_cho) := ⟨rfl, rfl, rfl, by decide +kernel, rfl, by decide +kernel, by decide +kernel⟩
set_option maxHeartbeats 8000000 in
theorem ok_cho {f : Addr} {fd : FuncData} (F : Fun K "choose" "Desk.choose" s_cho f fd) (T : Txt K mg A) (c_sta : MetE P w K mg base CX0 2 A.cA "stands" (sp_sta A)) (c_rkI : MakE P w K mg base CX0 1 "Rack" A.cR (sp_rkI A)) (c_pby : MetE P w K mg base CX0 1 A.cR "play_by" (sp_pby A)) (c_wan : CalE P w K mg base (L2.CX P w) 3 "want" (sp_wan A)) (c_goi : MetE P w K mg base (L2.CX P w) 4 A.cD "going" (sp_goi A)) : FnOk P w K mg base (L2.CX P w) 5 f fd ["self", "n"] (sp_cho A) := by
  refine F.okX sc_cho (fun vs H Q E h => ?_) (fun cdv A0 outer s H vs Q E hRm h => ?_)
  · obtain ⟨_, _, _, _, rfl, _⟩ := h
    rfl
  · obtain ⟨d, fp, x, n, rfl, D0, kr, k⟩ := h
    refine ⟨_, (pss_cons (ps_expr (pe_cE c_wan hRm (by decide) rfl (passes_call (E := E) (takes_of rfl rfl rfl rfl) fun _ _ _ _ h => h) (pa_cons (pe_chain op_le op_le pe_int (pv 1) pe_int) (pa_cons (pe_gcE rfl T.c_BAD) pa_nil))))
        (pss_cons (ps_set (i := 2) sc_cho.nd rfl (Or.inl rfl) (pe_mtE0 c_goi hRm (by decide) (passes_call (E := E) (takes_of rfl rfl rfl rfl) fun _ _ _ _ h => h) (pv 0)))
        (pss_cons (ps_expr (pe_cE c_wan hRm (by decide) rfl (passes_call (E := E) (takes_of rfl rfl rfl rfl) fun _ _ _ _ h => h) (pa_cons (pe_cmpR op_eq (pe_fld (pv 2) rfl) (pe_gcE rfl T.c_CHOICE) (nomark _)) (pa_cons (pe_gcE rfl T.c_NOT_NOW) pa_nil))))
        (pss_cons (ps_if (PW.pt (pw_and (pt_cmpR op_eq (pv 1) pe_int (nomark _)) (pw_and1 (pt_not (pt_val (pe_fld (pv 2) rfl)))))) (pss_one (ps_fld (pe_fld (pv 0) rfl) (pe_mkE c_rkI hRm (by decide) rfl pass0 (pa_cons (pe_fld (pv 2) rfl) (pa_cons (pe_fld (pv 2) rfl) pa_nil))) rfl)) (pss_cons (ps_fld (pv 2) (pe_gcE rfl T.c_PLAY) rfl)
        (pss_cons (ps_fld (pv 2) pe_bl rfl)
        (pss_one (ps_expr (pe_mtE c_pby hRm (by decide) pass0 (pv 2) (pa_cons (pe_ifExp (pt_cmpR op_eq (pv 1) pe_int (nomark _)) (pe_fld (pv 2) rfl) (pe_op op_sub pe_int (pe_fld (pv 2) rfl))) (pa_cons pe_bl pa_nil))))))))
        (pss_one (ps_ret (pe_op op_cat (pe_lst (pa_cons (pv 1) pa_nil)) (pe_mtE0 c_sta hRm (by decide) pass0 (pe_fld (pv 0) rfl))))))))), ?_⟩
    obtain ⟨dxd, ud, hd0, hdf⟩ := D0.at_d
    refine ⟨_, rfl, _, _, rfl, rfl, _, rfl, if_both (fun c1 => ?_) (fun c1 => ⟨false, -1, rfl, fun z => (nomatch z), fun _ => kr (-1) (if_pos fun z => of_decide_eq_false c1 z.1)⟩)⟩
    refine ⟨_, _, rfl, rfl, ?_⟩
    refine ⟨decide (n ≤ 1), -1, rfl, fun c2 => ?_, fun c2 => kr (-1) (if_pos fun z => of_decide_eq_false c2 z.2)⟩
    have n01 : 0 ≤ n ∧ n ≤ 1 := ⟨of_decide_eq_true c1, of_decide_eq_true c2⟩
    cases x with
    | none =>
      refine ⟨_, rfl, _, _, _, rfl, hd0, dk_no_going _, d, fp, none, rfl, D0, fun _ => kr (-2) (if_neg fun z => z n01), fun g a pw r pf ex eo efp R => ?_⟩
      cases ex
    | some g =>
    have eref : chooseRef (some g) n = if g.over = true then some (-2) else if g.rack.phase = 3 then none else some (-3) := if_neg fun z => z n01
    rw [eref] at kr k
    refine ⟨_, rfl, _, _, _, rfl, hd0, dk_no_going _, d, fp, some g, rfl, D0, fun eg => kr (-2) (if_pos (by
      have z : (!g.over) = false := eg
      simpa using z)), fun g2 a2 pw2 r2 pf2 ex eo efp R2 => ?_⟩
    cases ex
    obtain ⟨dx, a, pw, r, pf, hd, R0, hfp, m1, m2, m3, m4⟩ := D0
    subst hfp
    simp only [List.cons.injEq, true_and, and_true] at efp
    obtain ⟨rfl, rfl, rfl, rfl⟩ := efp
    rw [if_neg (show ¬ g.over = true by rw [eo]; decide)] at kr k
    obtain ⟨⟨dxa, ha⟩, hw, n1, n2, n3, n4, n5, hrk, htrk⟩ := id R0
    have K0 := hrk eo
    obtain ⟨⟨dx0, pt0, hr0, ht0, npt0⟩, hf0, ok0⟩ := id K0
    refine ⟨_, rfl, _, _, _, _, _, rfl, hr0, T.clR, T.nR_phase, rk_phase _ _ _, rfl, ?_⟩
    refine ⟨decide (V.int g.rack.phase = V.int 3), -3, rfl, fun c3 => ?_, fun c3 => kr (-3) (if_neg fun z => of_decide_eq_false c3 (congrArg V.int z))⟩
    rw [if_pos (show g.rack.phase = 3 from V.int.inj (of_decide_eq_true c3))] at k
    have k1 : ∀ (H' : Hp) (fp' : List Addr) (p9 : Addr), DkAt A H' d fp' (some (g.withRack (g.rack.chosen n))) → Kept [d, a, pw, r, pf] H H' → (∀ b ∈ fp', b ∈ [d, a, pw, r, pf] ∨ H b = none) → (p9 ∉ [d, a, pw, r, pf] → H p9 = none) → H' p9 = some (.lst (zs (n :: (g.withRack (g.rack.chosen n)).stands))) → Q (.ref p9) H' := k rfl
    have ELSE : ¬ (n = 1 ∧ g.rack.push = false) → g.rack.chosen n = ((g.rack.withPhase 2).withPush false).playBy (if n = 0 then g.rack.turn else 1 - g.rack.turn) false := fun z => if_neg z
    refine ⟨_, rfl, rfl, _, rfl, if_both (fun e1 => ?_) (fun e1 => if_false_of rfl ?_)⟩
    · have n1' : n = 1 := V.int.inj (of_decide_eq_true e1)
      refine ⟨_, rfl, _, _, _, _, _, rfl, hr0, T.clR, T.nR_is_of_push, rk_is_of_push _ _ _, _, rfl, if_both (fun e2 => ?_) (fun e2 => ?_)⟩
      · have pu0 : g.rack.push = false := by simpa using e2
        have eC : g.rack.chosen n = R.new g.rack.game g.rack.turn := if_pos ⟨n1', pu0⟩
        rw [eC] at k1
        refine ⟨_, rfl, _, _, _, _, _, rfl, hr0, T.clR, T.nR_game, rk_game _ _ _, _, rfl, _, _, _, _, _, rfl, hr0, T.clR, T.nR_turn, rk_turn _ _ _, fun r9 rdx hr9 hrd nrd => ?_⟩
        have na : r9 ≠ a := fun e => by rw [e, ha] at hr9; cases hr9
        have nw : r9 ≠ pw := fun e => by rw [e, hw] at hr9; cases hr9
        have ndd : r9 ≠ d := fun e => by rw [e, hd] at hr9; cases hr9
        have xa : rdx ≠ a := fun e => by rw [e, ha] at hrd; cases hrd
        have xw : rdx ≠ pw := fun e => by rw [e, hw] at hrd; cases hrd
        have xd : rdx ≠ d := fun e => by rw [e, hd] at hrd; cases hrd
        refine ⟨r9, rdx, g.rack.game, g.rack.turn, rfl, upd_same, ⟨ok0.t0, ok0.t1⟩, fun H3 pf9 K3 hpf k3 => ⟨rfl, ?_⟩⟩
        have kk : ∀ {b : Addr} {o : HO}, H b = some o → H3 b = some o := fun {b o} hb => k3 _ _ (by
          rw [upd_ne (fun e => by rw [e, hr9] at hb; cases hb), upd_ne (fun e => by rw [e, hrd] at hb; cases hb)]
          exact hb) (by
          have e : b ≠ r9 := fun e => by rw [e, hr9] at hb; cases hb
          simpa using e)
        have h3a := kk ha
        have h3w := kk hw
        have h3d := kk hd
        have np1 : pf9 ≠ r9 := fun e => by rw [e, upd_same] at hpf; cases hpf
        have np2 : pf9 ≠ rdx := fun e => by rw [e, upd_ne nrd, upd_same] at hpf; cases hpf
        have hpf0 : H pf9 = none := by
          rw [upd_ne np1, upd_ne np2] at hpf
          exact hpf
        have np3 : pf9 ≠ a := fun e => by rw [e, ha] at hpf0; cases hpf0
        have np4 : pf9 ≠ pw := fun e => by rw [e, hw] at hpf0; cases hpf0
        have np5 : pf9 ≠ d := fun e => by rw [e, hd] at hpf0; cases hpf0
        refine ⟨_, rfl, _, _, _, _, _, rfl, h3d, T.clD, T.nD_race, dk_race _, _, _, _, _, rfl, h3a, T.clA, T.nA_rack, (by show 5 < 1000; decide), ?_⟩
        rw [ra_put_rack _ _ _ r9 (R.new g.rack.game g.rack.turn)]
        generalize e9 : upd H3 a (.ins A.cA dxa (raF (g.withRack (R.new g.rack.game g.rack.turn)) pw r9)) = H9
        have h9a : H9 a = some (.ins A.cA dxa (raF (g.withRack (R.new g.rack.game g.rack.turn)) pw r9)) := by rw [← e9]; exact upd_same
        have h9d : H9 d = some (.ins A.cD dx (dkF (.ref a))) := by rw [← e9, upd_ne m1]; exact h3d
        have R9 : RaAt A H9 a pw r9 pf9 (g.withRack (R.new g.rack.game g.rack.turn)) := by
          have K6 : RkAt A H9 r9 pf9 (R.new g.rack.game g.rack.turn) := by
            rw [← e9]
            exact K3.kept (T := [a]) ((Kept.refl _ _).upd List.mem_cons_self) (by simpa using na) (by simpa using np3) (fun b hb xs e => by
              have eb : b = a := by simpa using hb
              rw [eb, h3a] at e
              cases e)
          refine ⟨⟨dxa, h9a⟩, ?_, Ne.symm np4, Ne.symm na, Ne.symm np3, Ne.symm nw, n5, fun _ => K6, K6.trk⟩
          rw [← e9, upd_ne (Ne.symm n5)]
          exact h3w
        have D9 : DkAt A H9 d [d, a, pw, r9, pf9] (some (g.withRack (R.new g.rack.game g.rack.turn))) := ⟨dx, a, pw, r9, pf9, h9d, R9, rfl, m1, m2, Ne.symm ndd, Ne.symm np5⟩
        have k9 : Kept [d, a, pw, r, pf] H H9 := fun b o hb nb => by
          rw [← e9, upd_ne (fun e => nb (by rw [e]; simp))]
          exact kk hb
        have hF : ∀ b ∈ [d, a, pw, r9, pf9], b ∈ [d, a, pw, r, pf] ∨ H b = none := by
          intro b hb
          rcases (List.mem_cons.mp hb) with e | hb
          · exact Or.inl (by rw [e]; simp)
          rcases (List.mem_cons.mp hb) with e | hb
          · exact Or.inl (by rw [e]; simp)
          rcases (List.mem_cons.mp hb) with e | hb
          · exact Or.inl (by rw [e]; simp)
          rcases (List.mem_cons.mp hb) with e | hb
          · exact Or.inr (by rw [e]; exact hr9)
          · have e : b = pf9 := by simpa using hb
            exact Or.inr (by rw [e]; exact hpf0)
        refine ⟨_, rfl, (by show 1 ≤ sizeLine; decide), fun q hq => ?_⟩
        have sq := Same.new1 hq (o := HO.lst [V.int n])
        refine ⟨_, rfl, _, _, _, _, _, rfl, (sq _ _ h9d), T.clD, T.nD_race, dk_race _, _, _, _, rfl, (sq _ _ h9a), ra_no_stands _ _ _, a, pw, _, _, _, rfl, R9.same sq, fun H15 p5 s5 hp50 hp5 => ?_⟩
        refine ⟨q, p5, _, _, rfl, rfl, s5 _ _ upd_same, hp5, (by rw [zs_len]; exact small (by have := stands_len (g.withRack (R.new g.rack.game g.rack.turn)); show 1 + _ ≤ 1000; omega)), fun p6 hp6 => ?_⟩
        have s36 := Same.new (sq.trans s5) ((sq.trans s5).free hp6) (o := .lst ([V.int n] ++ zs ((g.withRack (R.new g.rack.game g.rack.turn))).stands))
        exact k1 _ _ p6 (D9.same s36) (k9.trans (Kept.of_same s36)) hF (fun nb => (k9.trans (Kept.of_same (sq.trans s5))).none nb hp6) upd_same
      · have z0 : ¬ (n = 1 ∧ g.rack.push = false) := fun z => by
          rw [z.2] at e2
          cases e2
        rw [ELSE z0] at k1
        refine ⟨_, rfl, _, _, _, _, rfl, hr0, T.clR, T.nR_phase, (by show 9 < 1000; decide), ?_⟩
        rw [rk_put_phase]
        refine ⟨_, rfl, _, _, _, _, rfl, upd_same, T.clR, T.nR_is_of_push, (by show 9 < 1000; decide), ?_⟩
        rw [rk_put_is_of_push, upd_upd]
        generalize e5 : upd H r (.ins A.cR dx0 (rkF { ({ g.rack with phase := 2 } : R) with push := false } pt0 pf)) = H5
        have K5 : RkAt A H5 r pf ((g.rack.withPhase 2).withPush false) := by
          rw [← e5]
          exact RkAt.put (m' := (g.rack.withPhase 2).withPush false) hr0 ht0 hf0 npt0 rfl rfl rfl ⟨ok0.up, ok0.rng, ok0.t0, ok0.t1, ok0.b0, ok0.b1⟩
        have k5 : Kept [r, pf] H H5 := by
          rw [← e5]
          exact (Kept.refl _ _).upd List.mem_cons_self
        obtain ⟨⟨dx5, pt5, hr5, ht5, npt5⟩, hf5, ok5⟩ := id K5
        have nTa : a ∉ [r, pf] := by simp [n2, n3]
        have nTw : pw ∉ [r, pf] := by simp [n4, n1]
        have nTd : d ∉ [r, pf] := by simp [m3, m4]
        have fin : ∀ (H9 : Hp), RkAt A H9 r pf (((g.rack.withPhase 2).withPush false).playBy (if n = 0 then g.rack.turn else 1 - g.rack.turn) false) → Kept [r, pf] H5 H9 → RaAt A H9 a pw r pf (g.withRack (((g.rack.withPhase 2).withPush false).playBy (if n = 0 then g.rack.turn else 1 - g.rack.turn) false)) ∧
            H9 a = some (.ins A.cA dxa (raF (g.withRack (((g.rack.withPhase 2).withPush false).playBy (if n = 0 then g.rack.turn else 1 - g.rack.turn) false)) pw r)) ∧ H9 d = some (.ins A.cD dx (dkF (.ref a))) ∧ Kept [d, a, pw, r, pf] H H9 := fun H9 K9 kx => by
          have h9a : H9 a = some (.ins A.cA dxa (raF (g.withRack (((g.rack.withPhase 2).withPush false).playBy (if n = 0 then g.rack.turn else 1 - g.rack.turn) false)) pw r)) := kx _ _ (k5 _ _ ha nTa) nTa
          exact ⟨⟨⟨dxa, h9a⟩, kx _ _ (k5 _ _ hw nTw) nTw, n1, n2, n3, n4, n5, fun _ => K9, K9.trk⟩, h9a, kx _ _ (k5 _ _ hd nTd) nTd, (k5.trans kx).mono (by simp)⟩
        refine ⟨_, rfl, _, _, _, rfl, hr5, rk_no_play_by _ _ _, _, rfl, rfl, _, rfl, if_both (fun g1 => ?_) (fun g1 => ?_)⟩
        · refine ⟨_, rfl, _, _, _, _, _, rfl, hr5, T.clR, T.nR_turn, rk_turn _ _ _, r, pf, _, _, _, rfl, K5, ⟨ok5.t0, ok5.t1⟩, fun H9 K9 kx => ?_⟩
          have e0 : (if n = 0 then g.rack.turn else 1 - g.rack.turn) = g.rack.turn := if_pos (V.int.inj (of_decide_eq_true g1))
          rw [e0] at fin k1
          obtain ⟨R9, h9a, h9d, k9⟩ := fin H9 K9 kx
          have D9 : DkAt A H9 d [d, a, pw, r, pf] (some _) := ⟨dx, a, pw, r, pf, h9d, R9, rfl, m1, m2, m3, m4⟩
          refine ⟨_, rfl, (by show 1 ≤ sizeLine; decide), fun q hq => ?_⟩
          have sq := Same.new1 hq (o := HO.lst [V.int n])
          refine ⟨_, rfl, _, _, _, _, _, rfl, (sq _ _ h9d), T.clD, T.nD_race, dk_race _, _, _, _, rfl, (sq _ _ h9a), ra_no_stands _ _ _, a, pw, _, _, _, rfl, R9.same sq, fun H15 p5 s5 hp50 hp5 => ?_⟩
          refine ⟨q, p5, _, _, rfl, rfl, s5 _ _ upd_same, hp5, (by rw [zs_len]; exact small (by have := stands_len (g.withRack (((g.rack.withPhase 2).withPush false).playBy g.rack.turn false)); show 1 + _ ≤ 1000; omega)), fun p6 hp6 => ?_⟩
          have s36 := Same.new (sq.trans s5) ((sq.trans s5).free hp6) (o := .lst ([V.int n] ++ zs ((g.withRack (((g.rack.withPhase 2).withPush false).playBy g.rack.turn false))).stands))
          exact k1 _ _ p6 (D9.same s36) (k9.trans (Kept.of_same s36)) (fun b hb => Or.inl hb) (fun nb => (k9.trans (Kept.of_same (sq.trans s5))).none nb hp6) upd_same
        · refine ⟨_, rfl, _, _, _, _, _, rfl, hr5, T.clR, T.nR_turn, rk_turn _ _ _, _, _, rfl, rfl, r, pf, _, _, _, rfl, K5, (by have := ok0.t0; have := ok0.t1; show 0 ≤ 1 - g.rack.turn ∧ 1 - g.rack.turn ≤ 1; omega), fun H9 K9 kx => ?_⟩
          have e0 : (if n = 0 then g.rack.turn else 1 - g.rack.turn) = 1 - g.rack.turn := if_neg fun z => of_decide_eq_false g1 (congrArg V.int z)
          rw [e0] at fin k1
          obtain ⟨R9, h9a, h9d, k9⟩ := fin H9 K9 kx
          have D9 : DkAt A H9 d [d, a, pw, r, pf] (some _) := ⟨dx, a, pw, r, pf, h9d, R9, rfl, m1, m2, m3, m4⟩
          refine ⟨_, rfl, (by show 1 ≤ sizeLine; decide), fun q hq => ?_⟩
          have sq := Same.new1 hq (o := HO.lst [V.int n])
          refine ⟨_, rfl, _, _, _, _, _, rfl, (sq _ _ h9d), T.clD, T.nD_race, dk_race _, _, _, _, rfl, (sq _ _ h9a), ra_no_stands _ _ _, a, pw, _, _, _, rfl, R9.same sq, fun H15 p5 s5 hp50 hp5 => ?_⟩
          refine ⟨q, p5, _, _, rfl, rfl, s5 _ _ upd_same, hp5, (by rw [zs_len]; exact small (by have := stands_len (g.withRack (((g.rack.withPhase 2).withPush false).playBy (1 - g.rack.turn) false)); show 1 + _ ≤ 1000; omega)), fun p6 hp6 => ?_⟩
          have s36 := Same.new (sq.trans s5) ((sq.trans s5).free hp6) (o := .lst ([V.int n] ++ zs ((g.withRack (((g.rack.withPhase 2).withPush false).playBy (1 - g.rack.turn) false))).stands))
          exact k1 _ _ p6 (D9.same s36) (k9.trans (Kept.of_same s36)) (fun b hb => Or.inl hb) (fun nb => (k9.trans (Kept.of_same (sq.trans s5))).none nb hp6) upd_same
    · have z0 : ¬ (n = 1 ∧ g.rack.push = false) := fun z => of_decide_eq_false e1 (congrArg V.int z.1)
      rw [ELSE z0] at k1
      refine ⟨_, rfl, _, _, _, _, rfl, hr0, T.clR, T.nR_phase, (by show 9 < 1000; decide), ?_⟩
      rw [rk_put_phase]
      refine ⟨_, rfl, _, _, _, _, rfl, upd_same, T.clR, T.nR_is_of_push, (by show 9 < 1000; decide), ?_⟩
      rw [rk_put_is_of_push, upd_upd]
      generalize e5 : upd H r (.ins A.cR dx0 (rkF { ({ g.rack with phase := 2 } : R) with push := false } pt0 pf)) = H5
      have K5 : RkAt A H5 r pf ((g.rack.withPhase 2).withPush false) := by
        rw [← e5]
        exact RkAt.put (m' := (g.rack.withPhase 2).withPush false) hr0 ht0 hf0 npt0 rfl rfl rfl ⟨ok0.up, ok0.rng, ok0.t0, ok0.t1, ok0.b0, ok0.b1⟩
      have k5 : Kept [r, pf] H H5 := by
        rw [← e5]
        exact (Kept.refl _ _).upd List.mem_cons_self
      obtain ⟨⟨dx5, pt5, hr5, ht5, npt5⟩, hf5, ok5⟩ := id K5
      have nTa : a ∉ [r, pf] := by simp [n2, n3]
      have nTw : pw ∉ [r, pf] := by simp [n4, n1]
      have nTd : d ∉ [r, pf] := by simp [m3, m4]
      have fin : ∀ (H9 : Hp), RkAt A H9 r pf (((g.rack.withPhase 2).withPush false).playBy (if n = 0 then g.rack.turn else 1 - g.rack.turn) false) → Kept [r, pf] H5 H9 → RaAt A H9 a pw r pf (g.withRack (((g.rack.withPhase 2).withPush false).playBy (if n = 0 then g.rack.turn else 1 - g.rack.turn) false)) ∧
          H9 a = some (.ins A.cA dxa (raF (g.withRack (((g.rack.withPhase 2).withPush false).playBy (if n = 0 then g.rack.turn else 1 - g.rack.turn) false)) pw r)) ∧ H9 d = some (.ins A.cD dx (dkF (.ref a))) ∧ Kept [d, a, pw, r, pf] H H9 := fun H9 K9 kx => by
        have h9a : H9 a = some (.ins A.cA dxa (raF (g.withRack (((g.rack.withPhase 2).withPush false).playBy (if n = 0 then g.rack.turn else 1 - g.rack.turn) false)) pw r)) := kx _ _ (k5 _ _ ha nTa) nTa
        exact ⟨⟨⟨dxa, h9a⟩, kx _ _ (k5 _ _ hw nTw) nTw, n1, n2, n3, n4, n5, fun _ => K9, K9.trk⟩, h9a, kx _ _ (k5 _ _ hd nTd) nTd, (k5.trans kx).mono (by simp)⟩
      refine ⟨_, rfl, _, _, _, rfl, hr5, rk_no_play_by _ _ _, _, rfl, rfl, _, rfl, if_both (fun g1 => ?_) (fun g1 => ?_)⟩
      · refine ⟨_, rfl, _, _, _, _, _, rfl, hr5, T.clR, T.nR_turn, rk_turn _ _ _, r, pf, _, _, _, rfl, K5, ⟨ok5.t0, ok5.t1⟩, fun H9 K9 kx => ?_⟩
        have e0 : (if n = 0 then g.rack.turn else 1 - g.rack.turn) = g.rack.turn := if_pos (V.int.inj (of_decide_eq_true g1))
        rw [e0] at fin k1
        obtain ⟨R9, h9a, h9d, k9⟩ := fin H9 K9 kx
        have D9 : DkAt A H9 d [d, a, pw, r, pf] (some _) := ⟨dx, a, pw, r, pf, h9d, R9, rfl, m1, m2, m3, m4⟩
        refine ⟨_, rfl, (by show 1 ≤ sizeLine; decide), fun q hq => ?_⟩
        have sq := Same.new1 hq (o := HO.lst [V.int n])
        refine ⟨_, rfl, _, _, _, _, _, rfl, (sq _ _ h9d), T.clD, T.nD_race, dk_race _, _, _, _, rfl, (sq _ _ h9a), ra_no_stands _ _ _, a, pw, _, _, _, rfl, R9.same sq, fun H15 p5 s5 hp50 hp5 => ?_⟩
        refine ⟨q, p5, _, _, rfl, rfl, s5 _ _ upd_same, hp5, (by rw [zs_len]; exact small (by have := stands_len (g.withRack (((g.rack.withPhase 2).withPush false).playBy g.rack.turn false)); show 1 + _ ≤ 1000; omega)), fun p6 hp6 => ?_⟩
        have s36 := Same.new (sq.trans s5) ((sq.trans s5).free hp6) (o := .lst ([V.int n] ++ zs ((g.withRack (((g.rack.withPhase 2).withPush false).playBy g.rack.turn false))).stands))
        exact k1 _ _ p6 (D9.same s36) (k9.trans (Kept.of_same s36)) (fun b hb => Or.inl hb) (fun nb => (k9.trans (Kept.of_same (sq.trans s5))).none nb hp6) upd_same
      · refine ⟨_, rfl, _, _, _, _, _, rfl, hr5, T.clR, T.nR_turn, rk_turn _ _ _, _, _, rfl, rfl, r, pf, _, _, _, rfl, K5, (by have := ok0.t0; have := ok0.t1; show 0 ≤ 1 - g.rack.turn ∧ 1 - g.rack.turn ≤ 1; omega), fun H9 K9 kx => ?_⟩
        have e0 : (if n = 0 then g.rack.turn else 1 - g.rack.turn) = 1 - g.rack.turn := if_neg fun z => of_decide_eq_false g1 (congrArg V.int z)
        rw [e0] at fin k1
        obtain ⟨R9, h9a, h9d, k9⟩ := fin H9 K9 kx
        have D9 : DkAt A H9 d [d, a, pw, r, pf] (some _) := ⟨dx, a, pw, r, pf, h9d, R9, rfl, m1, m2, m3, m4⟩
        refine ⟨_, rfl, (by show 1 ≤ sizeLine; decide), fun q hq => ?_⟩
        have sq := Same.new1 hq (o := HO.lst [V.int n])
        refine ⟨_, rfl, _, _, _, _, _, rfl, (sq _ _ h9d), T.clD, T.nD_race, dk_race _, _, _, _, rfl, (sq _ _ h9a), ra_no_stands _ _ _, a, pw, _, _, _, rfl, R9.same sq, fun H15 p5 s5 hp50 hp5 => ?_⟩
        refine ⟨q, p5, _, _, rfl, rfl, s5 _ _ upd_same, hp5, (by rw [zs_len]; exact small (by have := stands_len (g.withRack (((g.rack.withPhase 2).withPush false).playBy (1 - g.rack.turn) false)); show 1 + _ ≤ 1000; omega)), fun p6 hp6 => ?_⟩
        have s36 := Same.new (sq.trans s5) ((sq.trans s5).free hp6) (o := .lst ([V.int n] ++ zs ((g.withRack (((g.rack.withPhase 2).withPush false).playBy (1 - g.rack.turn) false))).stands))
        exact k1 _ _ p6 (D9.same s36) (k9.trans (Kept.of_same s36)) (fun b hb => Or.inl hb) (fun nb => (k9.trans (Kept.of_same (sq.trans s5))).none nb hp6) upd_same
end
end Pr
namespace Pr
open PySem PySem.Spec PyProof.Rows L2
section
variable {P : Program} {w : World} {K : PySem.W.Frag} {mg : Str → Option Value} {base : Heap} {A : Ad}
/-! Desk.on -/
abbrev s_onn : Stmt := inClass (topS 45) 6
theorem sc_onn : FnScope ["self", "found"] ["self"] (defScope s_onn) := ⟨rfl, rfl, rfl, by decide +kernel, rfl, by decide +kernel, by decide +kernel⟩
set_option maxHeartbeats 8000000 in
theorem ok_onn {f : Addr} {fd : FuncData} (F : Fun K "on" "Desk.on" s_onn f fd) (T : Txt K mg A) (c_rb : CalE P w K mg base CX0 3 "right_balls" (sp_rb A)) (c_goi : MetE P w K mg base (L2.CX P w) 4 A.cD "going" (sp_goi A)) : FnOk P w K mg base (L2.CX P w) 5 f fd ["self"] (sp_onn A) := by
  refine F.okX sc_onn (fun vs H Q E h => ?_) (fun cdv A0 outer s H vs Q E hRm h => ?_)
  · obtain ⟨_, _, _, rfl, _⟩ := h
    rfl
  · obtain ⟨d, fp, x, rfl, D0, kr, k⟩ := h
    refine ⟨_, (pss_cons (ps_set (i := 1) sc_onn.nd rfl (Or.inl rfl) (pe_cE c_rb hRm (by decide) rfl pass0 (pa_cons (pe_mtE0 c_goi hRm (by decide) (passes_call (E := E) (takes_of rfl rfl rfl rfl) fun _ _ _ _ h => h) (pv 0)) pa_nil)))
        (pss_one (ps_ret (pe_op op_cat (pe_lst (pa_cons (pe_callB call_len_seq rfl T.b_len PySem.boot_len (pa_cons (pv 1) pa_nil)) pa_nil)) (pv 1))))), ?_⟩
    obtain ⟨dxd, ud, hd0, hdf⟩ := D0.at_d
    cases x with
    | none =>
      refine ⟨_, rfl, _, _, _, rfl, hd0, dk_no_going _, d, fp, none, rfl, D0, fun _ => kr (-2) rfl, fun g a pw r pf ex eo efp R => ?_⟩
      cases ex
    | some g =>
    refine ⟨_, rfl, _, _, _, rfl, hd0, dk_no_going _, d, fp, some g, rfl, D0, fun eg => kr (-2) (if_neg (by rw [eg]; decide)), fun g2 a pw r pf ex eo efp R0 => ?_⟩
    cases ex
    have en : goRef (some g) = none := if_pos (by show (!g.over) = true; rw [eo]; rfl)
    have K0 := R0.rack eo
    
    have k1 := k en
    have eo2 : onM (some g) = (g.rack.right.length : Int) :: g.rack.right := if_neg (by rw [eo]; decide)
    rw [eo2] at k1
    refine ⟨r, pf, g.rack, rfl, K0, fun H1 p1 s1 hp1 => ?_⟩
    refine ⟨_, rfl, _, _, rfl, Or.inl (SqL.of hp1), (by show 1 ≤ sizeLine; decide), fun q hq => ?_⟩
    have npq : p1 ≠ q := fun e => by rw [e, hq] at hp1; cases hp1
    have s2 := Same.new s1 (s1.free hq) (o := HO.lst [V.int ((zs g.rack.right).length : Nat)])
    refine ⟨_, rfl, q, p1, _, _, rfl, rfl, upd_same, (upd_ne npq).trans hp1, (by rw [zs_len]; exact small (by have := right_len K0.ok; show 1 + _ ≤ 1000; omega)), fun p6 hp6 => ?_⟩
    have s3 := Same.new s2 (s2.free hp6) (o := .lst ([V.int ((zs g.rack.right).length : Nat)] ++ zs g.rack.right))
    refine k1 _ fp p6 (D0.same s3) (Kept.of_same s3) (fun b hb => Or.inl hb) (fun _ => s2.free hp6) ?_
    rw [upd_same, zs_len]
    rfl
end
end Pr
namespace Pr
open PySem PySem.Spec PyProof.Rows L2
section
variable {P : Program} {w : World} {K : PySem.W.Frag} {mg : Str → Option Value} {base : Heap} {A : Ad}
/-! Desk.now -/
abbrev s_now : Stmt := inClass (topS 45) 7
theorem sc_now : FnScope ["self", "rack"] ["self"] (defScope s_now) := ⟨rfl, rfl, rfl, by decide +kernel, rfl, by decide +kernel, by decide +kernel⟩
set_option maxHeartbeats 8000000 in
theorem ok_now {f : Addr} {fd : FuncData} (F : Fun K "now" "Desk.now" s_now f fd) (T : Txt K mg A) (c_sta : MetE P w K mg base CX0 2 A.cA "stands" (sp_sta A)) (c_ovr : MetE P w K mg base CX0 1 A.cA "is_over" (sp_ovr A)) : FnOk P w K mg base CX0 3 f fd ["self"] (sp_now A) := by
  refine F.ok sc_now (fun vs H Q E h => ?_) (fun cdv A0 outer s H vs Q E hRm h => ?_)
  · obtain ⟨_, _, _, rfl, _⟩ := h
    rfl
  · obtain ⟨d, fp, x, rfl, D0, kr, k⟩ := h
    refine ⟨_, (pss_cons (ps_if (pt_cmpR op_isN (pe_fld (pv 0) rfl) pe_non (nomark _)) (pss_one (ps_ret (pe_lst (pa_cons pe_int (pa_cons pe_int (pa_cons pe_int pa_nil)))))) pss_nil)
        (pss_cons (ps_if (pt_val (pe_mtE0 c_ovr hRm (by decide) pass0 (pe_fld (pv 0) rfl))) (pss_one (ps_ret (pe_op op_cat (pe_lst (pa_cons pe_int pa_nil)) (pe_mtE0 c_sta hRm (by decide) pass0 (pe_fld (pv 0) rfl))))) pss_nil)
        (pss_cons (ps_set (i := 1) sc_now.nd rfl (Or.inl rfl) (pe_fld (pe_fld (pv 0) rfl) rfl))
        (pss_one (ps_ret (pe_op op_cat (pe_op op_cat (pe_op op_cat (pe_op op_cat (pe_lst (pa_cons pe_int pa_nil)) (pe_mtE0 c_sta hRm (by decide) pass0 (pe_fld (pv 0) rfl))) (pe_lst (pa_cons (pe_fld (pv 1) rfl) pa_nil))) (pe_fld (pv 1) rfl)) (pe_lst (pa_cons (pe_fld (pv 1) rfl) (pa_cons (pe_callTy call_int1 rfl T.b_int (by decide +kernel) (pa_cons (pe_fld (pv 1) rfl) pa_nil)) pa_nil))))))))), ?_⟩
    have k1 := k rfl
    cases x with
    | none =>
      obtain ⟨⟨dx, hd⟩, hfp⟩ := id D0
      refine ⟨_, rfl, _, _, _, _, _, rfl, hd, T.clD, T.nD_race, dk_race _, rfl, _, rfl, if_true_of (decide_eq_true rfl) ⟨(by show 3 ≤ sizeLine; decide), fun p hp => ?_⟩⟩
      have s3 := Same.new1 hp (o := HO.lst [V.int 0, V.int 0, V.int 0])
      exact k1 _ fp p (D0.same s3) (Kept.of_same s3) (fun b hb => Or.inl hb) (fun _ => hp) upd_same
    | some g =>
    obtain ⟨dx, a, pw, r, pf, hd, R0, hfp, m1, m2, m3, m4⟩ := id D0
    obtain ⟨⟨dxa, ha⟩, hw, n1, n2, n3, n4, n5, hrk, htrk⟩ := id R0
    refine ⟨_, rfl, _, _, _, _, _, rfl, hd, T.clD, T.nD_race, dk_race _, rfl, _, rfl, if_false_of (decide_eq_false fun e => by cases e) ?_⟩
    refine ⟨_, rfl, _, _, _, _, _, rfl, hd, T.clD, T.nD_race, dk_race _, _, _, _, rfl, ha, ra_no_is_over _ _ _, a, pw, r, g, rfl, R0.ex, R0.won, _, rfl, if_both (fun eo => ?_) (fun eo => ?_)⟩
    · have eo2 : nowOf (some g) = 0 :: g.stands := if_pos eo
      rw [eo2] at k1
      refine ⟨(by show 1 ≤ sizeLine; decide), fun q hq => ?_⟩
      have sq := Same.new1 hq (o := HO.lst [V.int 0])
      refine ⟨_, rfl, _, _, _, _, _, rfl, (sq _ _ hd), T.clD, T.nD_race, dk_race _, _, _, _, rfl, (sq _ _ ha), ra_no_stands _ _ _, a, pw, r, pf, g, rfl, R0.same sq, fun H5 p5 s5 hp50 hp5 => ?_⟩
      refine ⟨q, p5, _, _, rfl, rfl, s5 _ _ upd_same, hp5, (by rw [zs_len]; exact small (by have := stands_len g; show 1 + _ ≤ 1000; omega)), fun p6 hp6 => ?_⟩
      have s36 := Same.new (sq.trans s5) ((sq.trans s5).free hp6) (o := .lst ([V.int 0] ++ zs g.stands))
      exact k1 _ fp p6 (D0.same s36) (Kept.of_same s36) (fun b hb => Or.inl hb) (fun _ => (sq.trans s5).free hp6) upd_same
    · have eo2 : nowOf (some g) = 1 :: (g.stands ++ [g.rack.group, g.rack.fa, g.rack.fb, g.rack.breaker, b2z g.rack.push]) := if_neg (by rw [eo]; decide)
      rw [eo2] at k1
      have K0 := hrk eo
      obtain ⟨⟨dx0, pt0, hr0, ht0, npt0⟩, hf0, ok0⟩ := id K0
      refine ⟨_, rfl, _, _, _, _, _, rfl, hd, T.clD, T.nD_race, dk_race _, _, _, _, _, _, rfl, ha, T.clA, T.nA_rack, ra_rack _ _ _, ?_⟩
      refine ⟨(by show 1 ≤ sizeLine; decide), fun q hq => ?_⟩
      have sq := Same.new1 hq (o := HO.lst [V.int 1])
      refine ⟨_, rfl, _, _, _, _, _, rfl, (sq _ _ hd), T.clD, T.nD_race, dk_race _, _, _, _, rfl, (sq _ _ ha), ra_no_stands _ _ _, a, pw, r, pf, g, rfl, R0.same sq, fun H5 p5 s5 hp50 hp5 => ?_⟩
      have hl := stands_len g
      refine ⟨q, p5, _, _, rfl, rfl, s5 _ _ upd_same, hp5, (by rw [zs_len]; exact small (by show 1 + _ ≤ 1000; omega)), fun q6 hq6 => ?_⟩
      have s6 := Same.new (sq.trans s5) ((sq.trans s5).free hq6) (o := .lst ([V.int 1] ++ zs g.stands))
      refine ⟨_, rfl, _, _, _, _, _, rfl, (s6 _ _ hr0), T.clR, T.nR_first_group, rk_first_group _ _ _, (by show 1 ≤ sizeLine; decide), fun q7 hq7 => ?_⟩
      have n67 : q6 ≠ q7 := fun e => by rw [← e, upd_same] at hq7; cases hq7
      have s7 := Same.new s6 (s6.free hq7) (o := .lst [V.int g.rack.group])
      refine ⟨q6, q7, _, _, rfl, rfl, (upd_ne n67).trans upd_same, upd_same, (by rw [List.length_append, zs_len]; exact small (by show 1 + g.stands.length + 1 ≤ 1000; omega)), fun q8 hq8 => ?_⟩
      have s8 := Same.new s7 (s7.free hq8) (o := .lst ([V.int 1] ++ zs g.stands ++ [V.int g.rack.group]))
      refine ⟨_, rfl, _, _, _, _, _, rfl, (s8 _ _ hr0), T.clR, T.nR_fouls, rk_fouls _ _ _, q8, pf, _, _, rfl, rfl, upd_same, s8 _ _ hf0, (by rw [List.length_append, List.length_append, zs_len]; exact small (by show 1 + g.stands.length + 1 + 2 ≤ 1000; omega)), fun q9 hq9 => ?_⟩
      have s9 := Same.new s8 (s8.free hq9) (o := .lst ([V.int 1] ++ zs g.stands ++ [V.int g.rack.group] ++ [V.int g.rack.fa, V.int g.rack.fb]))
      refine ⟨_, rfl, _, _, _, _, _, rfl, (s9 _ _ hr0), T.clR, T.nR_breaker, rk_breaker _ _ _, _, rfl, _, _, _, _, _, rfl, (s9 _ _ hr0), T.clR, T.nR_is_of_push, rk_is_of_push _ _ _, Or.inr ⟨_, rfl, (by show 2 ≤ sizeLine; decide), fun q10 hq10 => ?_⟩⟩
      have n910 : q9 ≠ q10 := fun e => by rw [← e, upd_same] at hq10; cases hq10
      have s10 := Same.new s9 (s9.free hq10) (o := .lst [V.int g.rack.breaker, V.int (if g.rack.push = true then 1 else 0)])
      refine ⟨q9, q10, _, _, rfl, rfl, (upd_ne n910).trans upd_same, upd_same, (by rw [List.length_append, List.length_append, List.length_append, zs_len]; exact small (by show 1 + g.stands.length + 1 + 2 + 2 ≤ 1000; omega)), fun q11 hq11 => ?_⟩
      have s11 := Same.new s10 (s10.free hq11) (o := .lst ([V.int 1] ++ zs g.stands ++ [V.int g.rack.group] ++ [V.int g.rack.fa, V.int g.rack.fb] ++ [V.int g.rack.breaker, V.int (if g.rack.push = true then 1 else 0)]))
      refine k1 _ fp q11 (D0.same s11) (Kept.of_same s11) (fun b hb => Or.inl hb) (fun _ => s10.free hq11) ?_
      rw [upd_same]
      refine congrArg (fun z => some (HO.lst z)) ?_
      show _ = V.int 1 :: zs (g.stands ++ [g.rack.group, g.rack.fa, g.rack.fb, g.rack.breaker, b2z g.rack.push])
      unfold zs
      rw [List.map_append]
      simp only [List.append_assoc, List.cons_append, List.nil_append, List.map_cons, List.map_nil]
      rfl
end
end Pr
namespace Pr
open PySem PySem.Spec PyProof.Rows L2
section
variable {P : Program} {w : World} {K : PySem.W.Frag} {mg : Str → Option Value} {base : Heap} {A : Ad}
/-! Desk.table_now -/
abbrev s_tbn : Stmt := inClass (topS 45) 8
theorem sc_tbn : FnScope ["self", "found"] ["self"] (defScope s_tbn) := ⟨rfl, rfl, rfl, by decide +kernel, rfl, by decide +kernel, by decide +kernel⟩
set_option maxHeartbeats 8000000 in
theorem ok_tbn {f : Addr} {fd : FuncData} (F : Fun K "table_now" "Desk.table_now" s_tbn f fd) (T : Txt K mg A) (c_goi : MetE P w K mg base (L2.CX P w) 4 A.cD "going" (sp_goi A)) : FnOk P w K mg base (L2.CX P w) 5 f fd ["self"] (sp_tbn A) := by
  refine F.okX sc_tbn (fun vs H Q E h => ?_) (fun cdv A0 outer s H vs Q E hRm h => ?_)
  · obtain ⟨_, _, _, rfl, _⟩ := h
    rfl
  · obtain ⟨d, fp, x, rfl, D0, kr, k⟩ := h
    refine ⟨_, (pss_cons (ps_set (i := 1) sc_tbn.nd rfl (Or.inl rfl) (pe_fld (pe_mtE0 c_goi hRm (by decide) (passes_call (E := E) (takes_of rfl rfl rfl rfl) fun _ _ _ _ h => h) (pv 0)) rfl))
        (pss_one (ps_ret (pe_op op_cat (pe_lst (pa_cons (pe_callB call_len_seq rfl T.b_len PySem.boot_len (pa_cons (pv 1) pa_nil)) pa_nil)) (pv 1))))), ?_⟩
    obtain ⟨dxd, ud, hd0, hdf⟩ := D0.at_d
    cases x with
    | none =>
      refine ⟨_, rfl, _, _, _, rfl, hd0, dk_no_going _, d, fp, none, rfl, D0, fun _ => kr (-2) rfl, fun g a pw r pf ex eo efp R => ?_⟩
      cases ex
    | some g =>
    refine ⟨_, rfl, _, _, _, rfl, hd0, dk_no_going _, d, fp, some g, rfl, D0, fun eg => kr (-2) (if_neg (by rw [eg]; decide)), fun g2 a pw r pf ex eo efp R0 => ?_⟩
    cases ex
    have en : goRef (some g) = none := if_pos (by show (!g.over) = true; rw [eo]; rfl)
    have K0 := R0.rack eo
    
    obtain ⟨⟨dx0, pt0, hr0, ht0, npt0⟩, hf0, ok0⟩ := id K0
    have k1 := k en
    have eo2 : tableM (some g) = (g.rack.table.length : Int) :: g.rack.table := if_neg (by rw [eo]; decide)
    rw [eo2] at k1
    refine ⟨_, _, _, _, _, rfl, hr0, T.clR, T.nR_table, rk_table _ _ _, ?_⟩
    refine ⟨_, rfl, _, _, rfl, Or.inl (SqL.of ht0), (by show 1 ≤ sizeLine; decide), fun q hq => ?_⟩
    have s2 := Same.new1 hq (o := HO.lst [V.int ((zs g.rack.table).length : Nat)])
    refine ⟨_, rfl, q, pt0, _, _, rfl, rfl, upd_same, s2 _ _ ht0, (by rw [zs_len]; exact small (by have := K0.ok.len; show 1 + _ ≤ 1000; omega)), fun p6 hp6 => ?_⟩
    have s3 := Same.new s2 (s2.free hp6) (o := .lst ([V.int ((zs g.rack.table).length : Nat)] ++ zs g.rack.table))
    refine k1 _ fp p6 (D0.same s3) (Kept.of_same s3) (fun b hb => Or.inl hb) (fun _ => s2.free hp6) ?_
    rw [upd_same, zs_len]
    rfl
end
end Pr
namespace Pr
open PySem PySem.Spec PyProof.Rows L2
section
variable {P : Program} {w : World} {K : PySem.W.Frag} {mg : Str → Option Value} {base : Heap} {A : Ad}
/-! called -/
abbrev s_cal : Stmt := topS 49
theorem sc_cal : FnScope ["desk", "call", "n", "potted"] ["desk", "call", "n", "potted"] (defScope s_cal) := ⟨rfl, rfl, rfl, by decide +kernel, rfl, by decide +kernel, by decide +kernel⟩
set_option maxHeartbeats 8000000 in
theorem ok_cal {f : Addr} {fd : FuncData} (F : Fun K "called" "called" s_cal f fd) (T : Txt K mg A) (c_now : MetE P w K mg base CX0 3 A.cD "now" (sp_now A)) (c_tbn : MetE P w K mg base (L2.CX P w) 5 A.cD "table_now" (sp_tbn A)) (c_onn : MetE P w K mg base (L2.CX P w) 5 A.cD "on" (sp_onn A)) (c_cho : MetE P w K mg base (L2.CX P w) 5 A.cD "choose" (sp_cho A)) (c_sho : MetE P w K mg base (L2.CX P w) 7 A.cD "shot" (sp_sho A)) (c_beg : MetE P w K mg base (L2.CX P w) 5 A.cD "begin" (sp_beg A)) : FnOk P w K mg base (L2.CX P w) 8 f fd ["desk", "call", "n", "potted"] (sp_cal A) := by
  refine F.okX sc_cal (fun vs H Q E h => ?_) (fun cdv A0 outer s H vs Q E hRm h => ?_)
  · obtain ⟨_, _, _, _, _, _, rfl, _⟩ := h
    rfl
  · obtain ⟨d, fp, x, c, pn, pp, rfl, D0, hn, hpp, hrow, npp, hA⟩ := h
    refine ⟨_, (pss_cons (ps_if (pt_cmpR op_eq (pv 1) pe_int (nomark _)) (pss_one (ps_ret (pe_mtE c_beg hRm (by decide) (passes_call (E := E) (takes_of rfl rfl rfl rfl) fun _ _ _ _ h => h) (pv 0) (pa_cons (pe_ix ix_list (pv 2) pe_int (fun _ _ => rfl)) (pa_cons (pe_ix ix_list (pv 2) pe_int (fun _ _ => rfl)) (pa_cons (pe_ix ix_list (pv 2) pe_int (fun _ _ => rfl)) (pa_cons (pe_ix ix_list (pv 2) pe_int (fun _ _ => rfl)) pa_nil))))))) pss_nil)
        (pss_cons (ps_if (pt_cmpR op_eq (pv 1) (pe_gcE rfl T.c_SHOT) (nomark _)) (pss_one (ps_ret (pe_mtE c_sho hRm (by decide) (passes_call (E := E) (takes_of rfl rfl rfl rfl) fun _ _ _ _ h => h) (pv 0) (pa_cons (pv 2) (pa_cons (pv 3) pa_nil))))) pss_nil)
        (pss_cons (ps_if (pt_cmpR op_eq (pv 1) pe_int (nomark _)) (pss_one (ps_ret (pe_mtE c_cho hRm (by decide) (passes_call (E := E) (takes_of rfl rfl rfl rfl) fun _ _ _ _ h => h) (pv 0) (pa_cons (pe_ix ix_list (pv 2) pe_int (fun _ _ => rfl)) pa_nil)))) pss_nil)
        (pss_cons (ps_if (pt_cmpR op_eq (pv 1) pe_int (nomark _)) (pss_one (ps_ret (pe_mtE0 c_onn hRm (by decide) (passes_call (E := E) (takes_of rfl rfl rfl rfl) fun _ _ _ _ h => h) (pv 0)))) pss_nil)
        (pss_one (ps_ret (pe_ifExp (pt_cmpR op_eq (pv 1) pe_int (nomark _)) (pe_mtE0 c_now hRm (by decide) pass0 (pv 0)) (pe_mtE0 c_tbn hRm (by decide) (passes_call (E := E) (takes_of rfl rfl rfl rfl) fun _ _ _ _ h => h) (pv 0))))))))), ?_⟩
    obtain ⟨dxd, ud, hd0, hdf⟩ := D0.at_d
    cases c with
    | beg z n t w0 =>
      exact ⟨_, rfl, rfl, _, rfl, if_true_of (decide_eq_true rfl) ⟨_, rfl, _, _, _, rfl, hd0, dk_no_begin _, _, rfl, pn, _, _, _, rfl, rfl, SqL.of hn, rfl, _, rfl, pn, _, _, _, rfl, rfl, SqL.of hn, rfl, _, rfl, pn, _, _, _, rfl, rfl, SqL.of hn, rfl, _, rfl, pn, _, _, _, rfl, rfl, SqL.of hn, rfl, d, fp, x, z, n, t, w0, rfl, D0, hA⟩⟩
    | sho f1 o b p q l =>
      refine ⟨_, rfl, rfl, _, rfl, if_false_of (decide_eq_false fun e => (show ¬ (2 : Int) = 1 by decide) (V.int.inj e)) ?_⟩
      exact ⟨_, rfl, rfl, _, rfl, if_true_of (decide_eq_true rfl) ⟨_, rfl, _, _, _, rfl, hd0, dk_no_shot _, _, rfl, _, rfl, d, fp, x, pn, pp, f1, o, b, p, q, l, rfl, D0, hn, hpp, hrow, npp, hA⟩⟩
    | cho n =>
      refine ⟨_, rfl, rfl, _, rfl, if_false_of (decide_eq_false fun e => (show ¬ (3 : Int) = 1 by decide) (V.int.inj e)) ?_⟩
      refine ⟨_, rfl, rfl, _, rfl, if_false_of (decide_eq_false fun e => (show ¬ (3 : Int) = 2 by decide) (V.int.inj e)) ?_⟩
      exact ⟨_, rfl, rfl, _, rfl, if_true_of (decide_eq_true rfl) ⟨_, rfl, _, _, _, rfl, hd0, dk_no_choose _, _, rfl, pn, _, _, _, rfl, rfl, SqL.of hn, rfl, d, fp, x, n, rfl, D0, hA⟩⟩
    | onn =>
      refine ⟨_, rfl, rfl, _, rfl, if_false_of (decide_eq_false fun e => (show ¬ (4 : Int) = 1 by decide) (V.int.inj e)) ?_⟩
      refine ⟨_, rfl, rfl, _, rfl, if_false_of (decide_eq_false fun e => (show ¬ (4 : Int) = 2 by decide) (V.int.inj e)) ?_⟩
      refine ⟨_, rfl, rfl, _, rfl, if_false_of (decide_eq_false fun e => (show ¬ (4 : Int) = 3 by decide) (V.int.inj e)) ?_⟩
      exact ⟨_, rfl, rfl, _, rfl, if_true_of (decide_eq_true rfl) ⟨_, rfl, _, _, _, rfl, hd0, dk_no_on _, d, fp, x, rfl, D0, hA⟩⟩
    | now =>
      refine ⟨_, rfl, rfl, _, rfl, if_false_of (decide_eq_false fun e => (show ¬ (5 : Int) = 1 by decide) (V.int.inj e)) ?_⟩
      refine ⟨_, rfl, rfl, _, rfl, if_false_of (decide_eq_false fun e => (show ¬ (5 : Int) = 2 by decide) (V.int.inj e)) ?_⟩
      refine ⟨_, rfl, rfl, _, rfl, if_false_of (decide_eq_false fun e => (show ¬ (5 : Int) = 3 by decide) (V.int.inj e)) ?_⟩
      refine ⟨_, rfl, rfl, _, rfl, if_false_of (decide_eq_false fun e => (show ¬ (5 : Int) = 4 by decide) (V.int.inj e)) ?_⟩
      exact ⟨_, rfl, rfl, _, rfl, if_true_of (decide_eq_true rfl) ⟨_, rfl, _, _, _, rfl, hd0, dk_no_now _, d, fp, x, rfl, D0, fun z e => (nomatch e), hA.2⟩⟩
    | tbn =>
      refine ⟨_, rfl, rfl, _, rfl, if_false_of (decide_eq_false fun e => (show ¬ (6 : Int) = 1 by decide) (V.int.inj e)) ?_⟩
      refine ⟨_, rfl, rfl, _, rfl, if_false_of (decide_eq_false fun e => (show ¬ (6 : Int) = 2 by decide) (V.int.inj e)) ?_⟩
      refine ⟨_, rfl, rfl, _, rfl, if_false_of (decide_eq_false fun e => (show ¬ (6 : Int) = 3 by decide) (V.int.inj e)) ?_⟩
      refine ⟨_, rfl, rfl, _, rfl, if_false_of (decide_eq_false fun e => (show ¬ (6 : Int) = 4 by decide) (V.int.inj e)) ?_⟩
      exact ⟨_, rfl, rfl, _, rfl, if_false_of (decide_eq_false fun e => (show ¬ (6 : Int) = 5 by decide) (V.int.inj e)) ⟨_, rfl, _, _, _, rfl, hd0, dk_no_table_now _, d, fp, x, rfl, D0, hA⟩⟩
end
end Pr
namespace Pr
open PySem PySem.Spec PyProof.Rows L2
section
variable {P : Program} {w : World} {K : PySem.W.Frag} {mg : Str → Option Value} {base : Heap} {A : Ad}
/-! answer -/
abbrev s_an1 : Stmt := topS 50
theorem sc_an1 : FnScope ["desk", "call", "n", "potted", "found", "e"] ["desk", "call", "n", "potted"] (defScope s_an1) := ⟨rfl, rfl, rfl, by decide +kernel, rfl, by decide +kernel, by decide +kernel⟩
set_option maxHeartbeats 8000000 in
theorem ok_an1 {f : Addr} {fd : FuncData} (F : Fun K "answer" "answer" s_an1 f fd) (T : Txt K mg A) (c_cal : CalE P w K mg base (L2.CX P w) 8 "called" (sp_cal A)) : FnOk P w K mg base CX0 9 f fd ["desk", "call", "n", "potted"] (sp_an1 A) := by
  refine F.ok sc_an1 (fun vs H Q E h => ?_) (fun cdv A0 outer s H vs Q E hRm h => ?_)
  · obtain ⟨_, _, _, _, _, _, rfl, _⟩ := h
    rfl
  · obtain ⟨d, fp, x, c, pn, pp, rfl, D0, hn, hpp, hrow, npp, k⟩ := h
    refine ⟨_, (pss_cons (ps_set (i := 4) sc_an1.nd rfl (Or.inl rfl) (pe_lst pa_nil))
        (pss_cons (ps_try_as (i := 5) (tb := fun W => tAsg (tCallS (sp_cal A) (WE W) (tCons (tVar 0) (tCons (tVar 1) (tCons (tVar 2) (tCons (tVar 3) tNil))))) (gName 4)) (ts := fun a cls d => tAsg (tLst (tCons (tXf a cls d A.cF "refusal" (tVar 5)) tNil)) (gName 4)) (Wout := fun _ _ _ _ => False) rfl rfl sc_an1.nd rfl rfl ⟨rfl, by decide, Or.inl T.gF⟩ takes0
            (fun W pn xe tk _ => pss_one (ps_set (i := 4) sc_an1.nd rfl (Or.inl rfl) (by exact (pe_cS c_cal hRm (by decide) rfl (fun σ => passAt tk σ) (by exact (pa_cons (pv 0) (pa_cons (pv 1) (pa_cons (pv 2) (pa_cons (pv 3) pa_nil)))))))))
            (fun a oe cls d pn hz hf => pss_one (ps_set (i := 4) sc_an1.nd rfl (Or.inl rfl) (by exact (pe_lst (by exact (pa_cons (pe_xf T.xfF T.noRef hz hf (pv 5)) pa_nil)))))))
        (pss_one (ps_ret (pv 4))))), ?_⟩
    rw [step_cl] at k
    refine ⟨(by show 0 ≤ sizeLine; exact Nat.zero_le _), fun q0 hq0 => ?_⟩
    have s0 := Same.new1 hq0 (o := HO.lst [])
    refine ⟨_, rfl, _, rfl, _, rfl, _, rfl, d, fp, x, c, pn, pp, rfl, D0.same s0, s0 _ _ hn, s0 _ _ hpp, hrow, npp, fun z ez dd H2 s2 hx => ?_, fun en H2 fp2 p2 D2 k2 f2 np2 hp2 => ?_⟩
    · rw [ez] at k
      refine ⟨true, T.exF, fun _ a0 _ => ?_, fun q => Bool.noConfusion q⟩
      refine ⟨_, rfl, rfl, rfl, dd, _, _, rfl, hx, lk_here, (by show 1 ≤ sizeLine; decide), fun p9 hp9 => ?_⟩
      have s9 := Same.new (s0.trans s2) ((s0.trans s2).free hp9) (o := .lst [V.int z])
      exact ⟨_, rfl, k _ fp p9 (D0.same s9) (Kept.of_same s9) (fun b hb => Or.inl hb) (fun _ => (s0.trans s2).free hp9) upd_same⟩
    · rw [en] at k
      exact ⟨_, rfl, k H2 fp2 p2 D2 ((Kept.of_same s0).trans k2) (fun b hb => (f2 b hb).imp id fun z => s0.free z) (fun nb => s0.free (np2 nb)) hp2⟩
end
end Pr
namespace Pr
open PySem PySem.Spec PyProof.Rows L2
section
variable {P : Program} {w : World} {K : PySem.W.Frag} {mg : Str → Option Value} {base : Heap} {A : Ad}
/-! answers -/
abbrev s_ans : Stmt := topS 51
theorem sc_ans : FnScope ["calls", "desk", "found", "at", "begin", "end", "behind", "potted", "told"] ["calls"] (defScope s_ans) := ⟨rfl, rfl, rfl, by decide +kernel, rfl, by decide +kernel, by decide +kernel⟩
set_option maxHeartbeats 8000000 in
theorem ok_ans {f : Addr} {fd : FuncData} (F : Fun K "answers" "answers" s_ans f fd) (T : Txt K mg A) (c_an1 : CalE P w K mg base CX0 9 "answer" (sp_an1 A)) (c_dkI : MakE P w K mg base CX0 1 "Desk" A.cD (sp_dkI A)) : FnOk P w K mg base CX0 10 f fd ["calls"] (sp_ans K) := by
  refine F.ok sc_ans (fun vs H Q E h => ?_) (fun cdv A0 outer s H vs Q E hRm h => ?_)
  · obtain ⟨_, _, rfl, _⟩ := h
    rfl
  · obtain ⟨a, l, rfl, hS, hlen, hask, k⟩ := h
    obtain ⟨na, hNums, hT⟩ := T.nums
    refine ⟨_, (pss_cons (ps_set (i := 1) sc_ans.nd rfl (Or.inl rfl) (pe_mkE0 c_dkI hRm (by decide) rfl pass0))
        (pss_cons (ps_set (i := 2) sc_ans.nd rfl (Or.inl rfl) (pe_lst pa_nil))
        (pss_cons (ps_set (i := 3) sc_ans.nd rfl (Or.inl rfl) pe_int)
        (pss_cons (ps_while PassesOwn.never (pt_cmpR op_lt (pv 3) (pe_callB call_len_seq rfl T.b_len PySem.boot_len (pa_cons (pv 0) pa_nil)) (nomark _)) (pss_cons (ps_set (i := 4) sc_ans.nd rfl (Or.inl rfl) (pe_op op_add (pv 3) pe_int))
        (pss_cons (ps_set (i := 5) sc_ans.nd rfl (Or.inl rfl) (pe_op op_add (pv 4) (pe_ix ix_tup (pe_glob (v := V.ref na) rfl hNums rfl) (pe_ix ix_list (pv 0) (pv 3) (fun _ _ => rfl)) (fun _ _ => rfl))))
        (pss_cons (ps_set (i := 6) sc_ans.nd rfl (Or.inl rfl) (pv 5))
        (pss_cons (ps_set (i := 7) sc_ans.nd rfl (Or.inl rfl) (pe_lst pa_nil))
        (pss_cons (ps_if (pt_cmpR op_eq (pe_ix ix_list (pv 0) (pv 3) (fun _ _ => rfl)) (pe_gcE rfl T.c_SHOT) (nomark _)) (pss_cons (ps_set (i := 6) sc_ans.nd rfl (Or.inl rfl) (pe_op op_add (pe_op op_add (pv 5) pe_int) (pe_ix ix_list (pv 0) (pv 5) (fun _ _ => rfl))))
        (pss_one (ps_set (i := 7) sc_ans.nd rfl (Or.inl rfl) (pe_slice sl_list (pv 0) (po_some (pe_op op_add (pv 5) pe_int)) (po_some (pv 6)))))) pss_nil)
        (pss_cons (ps_set (i := 8) sc_ans.nd rfl (Or.inl rfl) (pe_lock (pe_cE c_an1 hRm (by decide) rfl pass0 (pa_cons (pv 1) (pa_cons (pe_ix ix_list (pv 0) (pv 3) (fun _ _ => rfl)) (pa_cons (pe_slice sl_list (pv 0) (po_some (pv 4)) (po_some (pv 5))) (pa_cons (pv 7) pa_nil)))))))
        (pss_cons (ps_expr (pe_bm PySem.F.plainAttrs_list PySem.F.slot_list_append PySem.F.type_list_append mt_append (pv 2) (pa_cons (pe_callB call_len_seq rfl T.b_len PySem.boot_len (pa_cons (pv 8) pa_nil)) pa_nil)))
        (pss_cons (ps_expr (pe_bm PySem.F.plainAttrs_list PySem.F.slot_list_extend PySem.F.type_list_extend mt_extend (pv 2) (pa_cons (pv 8) pa_nil)))
        (pss_one (ps_set (i := 3) sc_ans.nd rfl (Or.inl rfl) (pv 6))))))))))))
        (pss_one (ps_ret (pv 2))))))), ?_⟩
    obtain ⟨raw, hraw, hall, hans, hcap⟩ := asked_read hask
    refine fun d ddx hd hdd nd => ?_
    refine ⟨d, ddx, rfl, upd_same, fun H1 hd1 k1 => ⟨rfl, ?_⟩⟩
    have s1 : Same H H1 := fun b o hb => k1 _ _ (by
      rw [upd_ne (fun e => by rw [e, hd] at hb; cases hb), upd_ne (fun e => by rw [e, hdd] at hb; cases hb)]
      exact hb) (by
      have e : b ≠ d := fun e => by rw [e, hd] at hb; cases hb
      simpa using e)
    refine ⟨(by show 0 ≤ sizeLine; exact Nat.zero_le _), fun q hq => ?_⟩
    have hq0 : H q = none := s1.free hq
    have ndq : d ≠ q := fun e => by rw [← e, hd1] at hq; cases hq
    refine ⟨fun m σ H' => ∃ (i : Nat) (fp : List Addr) (x : Option G) (out : List Int) (cs : List (List (List Int))) (f : Nat) (v4 v5 v6 v7 v8 : Option V), σ = [some (.ref a), some (.ref d), some (.ref q), some (.int i), v4, v5, v6, v7, v8] ∧ m = l.length - i ∧ i ≤ l.length ∧
      PyFlat.calls PyKg78.shape f (l.drop i) = some cs ∧ (∀ c ∈ cs, Kg78Neutral.asked1 c = true) ∧ Same H H' ∧ H' q = some (.lst (zs out)) ∧ DkAt A (upd H' q (.own q)) d fp x ∧ q ∉ fp ∧ (∀ b ∈ fp, H b = none) ∧ out ++ PyFlat.told (playM x cs) = PyKg78.answers l,
      ⟨l.length - 0, 0, [d], none, [], raw, l.length, none, none, none, none, none, rfl, rfl, Nat.zero_le _, hraw, hall, Same.new s1 hq0, upd_same, ?_, ?_, ?_, ?_⟩, ?_⟩
    · rw [upd_upd]
      exact ⟨⟨ddx, (upd_ne ndq).trans hd1⟩, rfl⟩
    · simpa using Ne.symm ndq
    · intro b hb
      have e : b = d := by simpa using hb
      rw [e]
      exact hd
    · rw [hans]
      rfl
    rintro m σ H' ⟨i, fp, x, out, cs, f0, v4, v5, v6, v7, v8, rfl, rfl, hi, hcs, hal, sH, hqo, D, nq, hfp, htot⟩
    refine ⟨_, rfl, _, rfl, _, _, rfl, Or.inl (sH.seq hS), _, _, rfl, rfl, _, rfl, if_both (fun c1 => ?_) (fun c1 => ?_)⟩
    · have hlt : i < l.length := by
        have z := of_decide_eq_true c1
        rw [zs_len] at z
        omega
      obtain ⟨c, cs', f', ecs, hh, hcs'⟩ := calls_read hlt hcs
      subst ecs
      have ha1 := hal _ List.mem_cons_self
      have sq := sH.seq hS
      refine ⟨_, fun _ _ h => h, ?_⟩
      refine ⟨_, rfl, _, _, rfl, rfl, ?_⟩
      refine ⟨_, rfl, _, rfl, _, rfl, a, _, _, _, rfl, rfl, sq, at_nat hh.num rfl, na, _, _, _, rfl, rfl, hT _, num_at c, _, _, rfl, rfl, ?_⟩
      refine ⟨_, rfl, ?_⟩
      refine ⟨(by show 0 ≤ sizeLine; exact Nat.zero_le _), fun p0 hp0 => ?_⟩
      have s0 : Same H' (upd H' p0 (.lst [])) := Same.new1 hp0
      have n0q : p0 ≠ q := fun e => by rw [e, hqo] at hp0; cases hp0
      have sH0 := sH.trans s0
      have sq0 := sH0.seq hS
      have tracked : ∀ {b : Addr}, b ∈ fp → H' b ≠ none := D.tracked nq
      refine ⟨_, rfl, _, rfl, a, _, _, _, rfl, rfl, sq0, at_nat hh.num rfl, rfl, _, rfl, ?_⟩
      cases hc : c.isSho with
      | true =>
        have e2 : c.num = 2 := by
          cases c <;> first | rfl | cases hc
        have n5 : c.ns.length = 5 := by
          cases c <;> first | rfl | cases hc
        have esz : c.size = 7 + c.row.length := by
          unfold Cl.size
          rw [if_pos hc]
          omega
        refine if_true_of (decide_eq_true (by rw [e2])) ?_
        refine ⟨_, rfl, _, _, rfl, rfl, _, rfl, _, rfl, a, _, _, _, rfl, rfl, sq0, at_nat (hh.cnt hc) (by omega), _, _, rfl, rfl, ?_⟩
        refine ⟨_, rfl, _, rfl, _, _, rfl, rfl, _, rfl, _, rfl, _, rfl, a, _, rfl, sq0, fun pz hp1 => ?_⟩
        have hle := hh.le
        have ecut1 : cutV (zs l) (some ((i : Int) + 1 + (c.ns.length : Nat) + 1)) (some ((i : Int) + 1 + (c.ns.length : Nat) + 1 + (c.row.length : Int))) = zs c.row := by
          rw [cut_mid (lo := i + 7) (hi := i + 7 + c.row.length) (by omega) (by omega) (by omega) (by omega)]
          have e : i + 7 + c.row.length - (i + 7) = c.row.length := by omega
          rw [e, hh.row hc]
        rw [ecut1]
        have nzq : pz ≠ q := fun e => by rw [e, s0 _ _ hqo] at hp1; cases hp1
        have s01 : Same H' (upd (upd H' p0 (.lst [])) pz (.lst (zs c.row))) := Same.new s0 (s0.free hp1)
        generalize eHz : upd (upd H' p0 (.lst [])) pz (.lst (zs c.row)) = Hz at s01
        have hpz : Hz pz = some (.lst (zs c.row)) := by rw [← eHz]; exact upd_same
        have sHz := sH.trans s01
        have hqz := s01 _ _ hqo
        have npz : pz ∉ fp := fun z => tracked z (s0.free hp1)
        have Dz : DkAt A (upd Hz q (.own q)) d fp x := D.same (Same.under s01)
        have ebv : (i : Int) + 1 + (c.ns.length : Nat) + 1 + (c.row.length : Int) = ((i + c.size : Nat) : Int) := by omega
        refine ⟨q, .lst (zs out), hqz, trivial, fun od => ?_⟩
        have sHL : Same H (upd Hz q (.frz od (.lst (zs out)))) := fun b o hb => (upd_ne (fun e => by rw [e, hq0] at hb; cases hb)).trans (sHz b o hb)
        have sqL := sHL.seq hS
        have DL : DkAt A (upd Hz q (.frz od (.lst (zs out)))) d fp x := by
          have z := Dz.over (q := q) (o2 := .frz od (.lst (zs out))) upd_same (fun xs e => by cases e) (fun C dx fs e => by cases e)
          rw [upd_upd] at z
          exact z
        generalize eL : upd Hz q (.frz od (.lst (zs out))) = L at sHL sqL DL
        have hLq : L q = some (.frz od (.lst (zs out))) := by rw [← eL]; exact upd_same
        have hLz : L pz = some (.lst (zs c.row)) := by
          rw [← eL, upd_ne nzq]
          exact hpz
        refine ⟨_, rfl, _, rfl, _, rfl, a, _, _, _, rfl, rfl, sqL, at_nat hh.num rfl, _, rfl, _, rfl, _, rfl, _, rfl, _, rfl, a, _, rfl, sqL, fun pn hpn => ?_⟩
        have ecut : cutV (zs l) (some ((i : Int) + 1)) (some ((i : Int) + 1 + (c.ns.length : Nat))) = zs c.ns := by
          rw [cut_mid (lo := i + 1) (hi := i + 1 + c.ns.length) (by omega) (by have := hh.le; unfold Cl.size at this; omega) (by omega) (by omega)]
          have e : i + 1 + c.ns.length - (i + 1) = c.ns.length := by omega
          rw [e, hh.ns]
        rw [ecut]
        have sn : Same L (upd L pn (.lst (zs c.ns))) := Same.new1 hpn
        refine ⟨_, rfl, d, fp, x, c, pn, pz, rfl, DL.same sn, upd_same, sn _ _ hLz, row_le ha1, npz, fun H2 fp2 p2 D2 k2 f2 np2 hp2 => ?_⟩
        have h2q : H2 q = some (.frz od (.lst (zs out))) := k2 _ _ (sn _ _ hLq) nq
        refine ⟨h2q, ?_⟩
        have n2q : p2 ≠ q := fun e => by rw [e, h2q] at hp2; cases hp2
        have etot := htot
        unfold playM at etot
        rw [told_cons] at etot
        have elen := congrArg List.length etot
        rw [List.length_append, List.length_cons, List.length_append] at elen
        refine ⟨_, rfl, Or.inl ⟨rfl, _, SqL.of upd_same⟩, _, rfl, _, _, rfl, Or.inl (SqL.of ((upd_ne n2q).trans hp2)), q, _, _, rfl, rfl, upd_same, (by rw [zs_len, sizeLine_eq]; omega), ?_⟩
        refine ⟨_, rfl, Or.inl ⟨rfl, _, SqL.of upd_same⟩, _, rfl, q, p2, _, _, rfl, rfl, upd_same, ((upd_ne n2q).trans ((upd_ne n2q).trans hp2)), (by rw [List.length_append, zs_len, zs_len, sizeLine_eq]; show out.length + 1 + _ ≤ _; omega), ?_⟩
        rw [upd_upd, upd_upd]
        have efin : zs out ++ [V.int ((zs (stepM x c.raw).2).length : Nat)] ++ zs (stepM x c.raw).2 = zs (out ++ (((stepM x c.raw).2.length : Int) :: (stepM x c.raw).2)) := by
          rw [zs_len, zs_snoc]
          unfold zs
          rw [← List.map_append, List.append_assoc]
          rfl
        rw [efin]
        refine ⟨_, rfl, ?_⟩
        refine ⟨l.length - (i + c.size), by have := hh.le; have := c.size_pos; omega, i + c.size, fp2, (stepM x c.raw).1, out ++ (((stepM x c.raw).2.length : Int) :: (stepM x c.raw).2), cs', f', _, _, _, _, _, congrArg (fun z => [some (V.ref a), some (V.ref d), some (V.ref q), some (V.int z), _, _, _, _, _]) ebv, rfl, hh.le, hcs', fun c2 h2 => hal c2 (List.mem_cons_of_mem _ h2), ?_, upd_same, ?_, ?_, ?_, ?_⟩
        · intro b o hb
          have nb : b ≠ q := fun e => by rw [e, hq0] at hb; cases hb
          rw [upd_ne nb]
          exact k2 _ _ (sn _ _ (sHL _ _ hb)) fun z => by rw [hfp b z] at hb; cases hb
        · have z := D2.over (q := q) (o2 := .own q) h2q (fun xs e => by cases e) (fun C dx fs e => by cases e)
          rw [upd_upd]
          exact z
        · intro z
          rcases f2 q z with y | y
          · exact nq y
          · rw [sn _ _ hLq] at y
            cases y
        · intro b hb
          rcases f2 b hb with y | y
          · exact hfp b y
          · exact (sHL.trans sn).free y
        · rw [List.append_assoc]
          exact etot
      | false =>
        have e2 : ¬ c.num = 2 := by
          cases c <;> first | (exact (by decide : ¬ (1 : Int) = 2)) | (exact (by decide : ¬ (3 : Int) = 2)) | (exact (by decide : ¬ (4 : Int) = 2)) | (exact (by decide : ¬ (5 : Int) = 2)) | (exact (by decide : ¬ (6 : Int) = 2)) | cases hc
        have er : c.row = [] := by
          cases c <;> first | rfl | cases hc
        have esz : c.size = 1 + c.ns.length := by
          unfold Cl.size
          rw [if_neg (by rw [hc]; decide)]
          rfl
        refine if_false_of (decide_eq_false fun z => e2 (V.int.inj z)) ?_
        generalize ep : p0 = pz at *
        have nzq := n0q
        generalize eHz : upd H' pz (.lst []) = Hz at *
        have hpz : Hz pz = some (.lst (zs c.row)) := by
          rw [er, ← eHz]
          exact upd_same
        have sHz := sH0
        have hqz := s0 _ _ hqo
        have npz : pz ∉ fp := fun z => tracked z hp0
        have Dz : DkAt A (upd Hz q (.own q)) d fp x := D.same (Same.under s0)
        have ebv : (i : Int) + 1 + (c.ns.length : Nat) = ((i + c.size : Nat) : Int) := by omega
        refine ⟨q, .lst (zs out), hqz, trivial, fun od => ?_⟩
        have sHL : Same H (upd Hz q (.frz od (.lst (zs out)))) := fun b o hb => (upd_ne (fun e => by rw [e, hq0] at hb; cases hb)).trans (sHz b o hb)
        have sqL := sHL.seq hS
        have DL : DkAt A (upd Hz q (.frz od (.lst (zs out)))) d fp x := by
          have z := Dz.over (q := q) (o2 := .frz od (.lst (zs out))) upd_same (fun xs e => by cases e) (fun C dx fs e => by cases e)
          rw [upd_upd] at z
          exact z
        generalize eL : upd Hz q (.frz od (.lst (zs out))) = L at sHL sqL DL
        have hLq : L q = some (.frz od (.lst (zs out))) := by rw [← eL]; exact upd_same
        have hLz : L pz = some (.lst (zs c.row)) := by
          rw [← eL, upd_ne nzq]
          exact hpz
        refine ⟨_, rfl, _, rfl, _, rfl, a, _, _, _, rfl, rfl, sqL, at_nat hh.num rfl, _, rfl, _, rfl, _, rfl, _, rfl, _, rfl, a, _, rfl, sqL, fun pn hpn => ?_⟩
        have ecut : cutV (zs l) (some ((i : Int) + 1)) (some ((i : Int) + 1 + (c.ns.length : Nat))) = zs c.ns := by
          rw [cut_mid (lo := i + 1) (hi := i + 1 + c.ns.length) (by omega) (by have := hh.le; unfold Cl.size at this; omega) (by omega) (by omega)]
          have e : i + 1 + c.ns.length - (i + 1) = c.ns.length := by omega
          rw [e, hh.ns]
        rw [ecut]
        have sn : Same L (upd L pn (.lst (zs c.ns))) := Same.new1 hpn
        refine ⟨_, rfl, d, fp, x, c, pn, pz, rfl, DL.same sn, upd_same, sn _ _ hLz, row_le ha1, npz, fun H2 fp2 p2 D2 k2 f2 np2 hp2 => ?_⟩
        have h2q : H2 q = some (.frz od (.lst (zs out))) := k2 _ _ (sn _ _ hLq) nq
        refine ⟨h2q, ?_⟩
        have n2q : p2 ≠ q := fun e => by rw [e, h2q] at hp2; cases hp2
        have etot := htot
        unfold playM at etot
        rw [told_cons] at etot
        have elen := congrArg List.length etot
        rw [List.length_append, List.length_cons, List.length_append] at elen
        refine ⟨_, rfl, Or.inl ⟨rfl, _, SqL.of upd_same⟩, _, rfl, _, _, rfl, Or.inl (SqL.of ((upd_ne n2q).trans hp2)), q, _, _, rfl, rfl, upd_same, (by rw [zs_len, sizeLine_eq]; omega), ?_⟩
        refine ⟨_, rfl, Or.inl ⟨rfl, _, SqL.of upd_same⟩, _, rfl, q, p2, _, _, rfl, rfl, upd_same, ((upd_ne n2q).trans ((upd_ne n2q).trans hp2)), (by rw [List.length_append, zs_len, zs_len, sizeLine_eq]; show out.length + 1 + _ ≤ _; omega), ?_⟩
        rw [upd_upd, upd_upd]
        have efin : zs out ++ [V.int ((zs (stepM x c.raw).2).length : Nat)] ++ zs (stepM x c.raw).2 = zs (out ++ (((stepM x c.raw).2.length : Int) :: (stepM x c.raw).2)) := by
          rw [zs_len, zs_snoc]
          unfold zs
          rw [← List.map_append, List.append_assoc]
          rfl
        rw [efin]
        refine ⟨_, rfl, ?_⟩
        refine ⟨l.length - (i + c.size), by have := hh.le; have := c.size_pos; omega, i + c.size, fp2, (stepM x c.raw).1, out ++ (((stepM x c.raw).2.length : Int) :: (stepM x c.raw).2), cs', f', _, _, _, _, _, congrArg (fun z => [some (V.ref a), some (V.ref d), some (V.ref q), some (V.int z), _, _, _, _, _]) ebv, rfl, hh.le, hcs', fun c2 h2 => hal c2 (List.mem_cons_of_mem _ h2), ?_, upd_same, ?_, ?_, ?_, ?_⟩
        · intro b o hb
          have nb : b ≠ q := fun e => by rw [e, hq0] at hb; cases hb
          rw [upd_ne nb]
          exact k2 _ _ (sn _ _ (sHL _ _ hb)) fun z => by rw [hfp b z] at hb; cases hb
        · have z := D2.over (q := q) (o2 := .own q) h2q (fun xs e => by cases e) (fun C dx fs e => by cases e)
          rw [upd_upd]
          exact z
        · intro z
          rcases f2 q z with y | y
          · exact nq y
          · rw [sn _ _ hLq] at y
            cases y
        · intro b hb
          rcases f2 b hb with y | y
          · exact hfp b y
          · exact (sHL.trans sn).free y
        · rw [List.append_assoc]
          exact etot
    · have hlt : i = l.length := by
        have z := of_decide_eq_false c1
        rw [zs_len] at z
        omega
      rw [hlt, List.drop_length] at hcs
      rw [calls_end hcs] at htot
      have e : out = PyKg78.answers l := by
        rw [← htot]
        exact (List.append_nil out).symm
      rw [e] at hqo
      exact ⟨_, rfl, k _ q hqo⟩
end
end Pr
namespace Pr
open PySem PySem.Spec PyProof.Rows L2
open PySem.W (Codec)
/-! ### 8. The end: what the top has written, every address a letter -/
/-- an error of the class at S is what «except S» names -/
theorem exm_self {K : PySem.W.Frag} {S : Addr} (h1 : PySem.W.subIn K (.ref S) (.type "BaseException") = some true) (h2 : PySem.W.isClsIn K S = true) (h3 : PySem.W.typeIn K (.ref S) = some (.type "type")) (h4 : PySem.W.subIn K (.ref S) (.ref S) = some true) :
    PySem.W.exmOne K (.ref S) (.ref S) = some true := by
  have e1 : (PySem.W.subIn K (.ref S) (.type "BaseException") == some true) = true := by rw [h1] <;> rfl
  have e2 : ((PySem.W.clsIn K S).isSome && PySem.W.typeIn K (.ref S) == some (.type "type")) = true := by
    have h2' : (PySem.W.clsIn K S).isSome = true := h2
    rw [h2', h3] <;> rfl
  show (if (PySem.W.subIn K (.ref S) (.type "BaseException") == some true) = true then (if ((PySem.W.clsIn K S).isSome && PySem.W.typeIn K (.ref S) == some (.type "type")) = true then PySem.W.subIn K (.ref S) (.ref S) else none) else none) = some true
  rw [if_pos e1, if_pos e2]
  exact h4
/-- a method that stands in the class at C -/
structure FE (K : PySem.W.Frag) (C : Addr) (m qual : Str) (st : Stmt) : Prop where
  ex : ∃ (f : Addr) (fd : FuncData), PySem.W.findIn K (.ref C) m = some (some (.ref f)) ∧ PySem.W.isFn K (.ref f) = true ∧ PySem.W.typeIn K (.ref f) = some (.type "function") ∧ PySem.W.keepIn K (.ref f) = true ∧ Fun K m qual st f fd
theorem fe_mk {K : PySem.W.Frag} {C f : Addr} {m qual : Str} {st : Stmt} {od an : Option Addr} {sl : Array (Option Value)} {oc kV dc pm cd ct : Value} (a : PySem.W.findIn K (.ref C) m = some (some (.ref f)))
    (l : K.lookup f = some ⟨oc, od, .func (PySem.W.fnOf m qual (defArgs st) (defBody st) (defScope st) .none kV dc pm an cd ct), sl⟩) (i : PySem.W.isFn K (.ref f) = true) (t : PySem.W.typeIn K (.ref f) = some (.type "function")) (c : PySem.W.codeIn K cd qual = true) (k : PySem.W.keepIn K (.ref f) = true) :
    FE K C m qual st := ⟨⟨f, _, a, i, t, k, fun_mk l c k⟩⟩
/-- a def of the module -/
structure GE (K : PySem.W.Frag) (mg : Str → Option Value) (x : Str) (st : Stmt) : Prop where
  ex : ∃ (f : Addr) (fd : FuncData), mg x = some (.ref f) ∧ PySem.W.keepIn K (.ref f) = true ∧ Fun K x x st f fd
theorem ge_mk {K : PySem.W.Frag} {h : Heap} {mg : Str → Option Value} {f : Addr} {x : Str} {st : Stmt} {od an : Option Addr} {sl : Array (Option Value)} {oc kV dc pm cd ct : Value} (X : K.In h) (G : h.Ns mainGlobals mg) (a : PySem.W.nsIn K mainGlobals x = some (some (.ref f)))
    (l : K.lookup f = some ⟨oc, od, .func (PySem.W.fnOf x x (defArgs st) (defBody st) (defScope st) .none kV dc pm an cd ct), sl⟩) (c : PySem.W.codeIn K cd x = true) (k : PySem.W.keepIn K (.ref f) = true) :
    GE K mg x st := ⟨⟨f, _, PySem.W.mg_of X G a, k, fun_mk l c k⟩⟩
/-- a class of the module whose instances carry their own fields -/
structure KlE (K : PySem.W.Frag) (mg : Str → Option Value) (x : Str) (C : Addr) : Prop where
  g : mg x = some (.ref C)
  cl : Cls K C
  mke : PySem.W.makesIn K C = true
  kpe : PySem.W.keepIn K (.ref C) = true
theorem ce_mk {K : PySem.W.Frag} {h : Heap} {mg : Str → Option Value} {C : Addr} {x : Str} (X : K.In h) (G : h.Ns mainGlobals mg) (a : PySem.W.nsIn K mainGlobals x = some (some (.ref C)))
    (pg : PySem.W.plainGet K C Str.empty = true) (hd : PySem.W.hasDictIn K C = true) (po : PySem.W.plainOver K C = true) (sa : PySem.W.findIn K (.ref C) "__setattr__" = some (some (.builtin "object.__setattr__"))) (mk : PySem.W.makesIn K C = true) (kc : PySem.W.keepIn K (.ref C) = true) :
    KlE K mg x C := ⟨PySem.W.mg_of X G a, ⟨pg, hd, po, sa⟩, mk, kc⟩
/-- the error's class -/
structure XE (K : PySem.W.Frag) (mg : Str → Option Value) (C : Addr) : Prop where
  g : mg "Refused" = some (.ref C)
  oe : OexC K C
  xf : XfC K C
  no : PySem.W.findIn K (.ref C) "refusal" = some none
  ex : PySem.W.exmOne K (.ref C) (.ref C) = some true
theorem xe_mk {K : PySem.W.Frag} {h : Heap} {mg : Str → Option Value} {C : Addr} (X : K.In h) (G : h.Ns mainGlobals mg)
    {nm q : Str} {N : Addr} {bs : List Value} {sn : List Str} {sub : List Value} {ab : Bool} {col : Option Bool} {dd : Option Addr} {m0 m1 m2 m3 m5 : Option Value} (a : PySem.W.nsIn K mainGlobals "Refused" = some (some (.ref C)))
    (xL : K.lookup C = some (excClassObj nm q C N bs [.type "ValueError", .type "Exception", .type "BaseException", .type "object"] true sn sub ab col dd m0 m1 m2 m3 m5 "ValueError.__new__"))
    (sa : PySem.W.findIn K (.ref C) "__setattr__" = some (some (.builtin "object.__setattr__"))) (ga : PySem.W.findIn K (.ref C) "__getattribute__" = some (some (.builtin "BaseException.__getattribute__"))) (gg : PySem.W.findIn K (.ref C) "__getattr__" = some none)
    (nb : PySem.W.findIn K (.ref C) "refusal" = some none) (kC : PySem.W.keepIn K (.ref C) = true) (eC : PySem.W.subIn K (.ref C) (.type "BaseException") = some true) (tC : PySem.W.typeIn K (.ref C) = some (.type "type")) (hC : PySem.W.hasDictIn K C = true) (iC : PySem.W.isClsIn K C = true)
    (sC : PySem.W.subIn K (.ref C) (.ref C) = some true) : XE K mg C :=
  ⟨PySem.W.mg_of X G a, { cls := ⟨nm, q, N, bs, _, sn, sub, ab, col, dd, m0, m1, m2, m3, m5, xL, by decide +kernel⟩, sa := sa, exC := eC, tyC := tC, kC := kC }, { ga := ga, gg := gg, exC := eC, hdC := hC }, nb, exm_self eC iC tC sC⟩
theorem con_mk {K : PySem.W.Frag} {h : Heap} {mg : Str → Option Value} {x : Str} {i : Int} {t : Tok} (X : K.In h) (G : h.Ns mainGlobals mg) (a : PySem.W.nsIn K mainGlobals x = some (some (.int i t))) : Con0 mg x (.int i) := ⟨_, PySem.W.mg_of X G a, ⟨t, rfl⟩⟩
theorem nums_mk {K : PySem.W.Frag} {h : Heap} {mg : Str → Option Value} {a : Addr} {od : Option Addr} {n : Nat} {sl : Array (Option Value)} {t0 t1 t2 t3 t4 t5 t6 : Tok} (X : K.In h) (G : h.Ns mainGlobals mg) (e : PySem.W.nsIn K mainGlobals "NUMBERS" = some (some (.ref a)))
    (l : K.lookup a = some ⟨.type "tuple", od, .seq #[.int 0 t0, .int 4 t1, .int 5 t2, .int 1 t3, .int 0 t4, .int 0 t5, .int 0 t6] n, sl⟩) : NumsAt K mg :=
  ⟨a, PySem.W.mg_of X G e, fun _ => .inr ⟨_, _, n, l, rfl, rfl, (by show 7 ≤ sizeLine; decide), .cons ⟨t0, rfl⟩ (.cons ⟨t1, rfl⟩ (.cons ⟨t2, rfl⟩ (.cons ⟨t3, rfl⟩ (.cons ⟨t4, rfl⟩ (.cons ⟨t5, rfl⟩ (.cons ⟨t6, rfl⟩ .nil))))))⟩⟩
theorem all_mk {P : Program} {w : World} {K : PySem.W.Frag} {h : Heap} {mg : Str → Option Value} {fa cS cR cA cD cF : Addr} (X : K.In h) (G : h.Ns mainGlobals mg) (hfa : mg "answers" = some (.ref fa))
    (oS : KlE K mg "Shot" cS) (oR : KlE K mg "Rack" cR) (oA : KlE K mg "Race" cA) (oD : KlE K mg "Desk" cD) (oF : XE K mg cF)
    (nS_first : PySem.W.findIn K (.ref cS) "first" = some none) (nS_cushions : PySem.W.findIn K (.ref cS) "cushions" = some none) (nS_is_lost : PySem.W.findIn K (.ref cS) "is_lost" = some none) (nS_called : PySem.W.findIn K (.ref cS) "called" = some none) (nS_is_push : PySem.W.findIn K (.ref cS) "is_push" = some none) (nS_potted : PySem.W.findIn K (.ref cS) "potted" = some none) (nR_game : PySem.W.findIn K (.ref cR) "game" = some none) (nR_table : PySem.W.findIn K (.ref cR) "table" = some none) (nR_turn : PySem.W.findIn K (.ref cR) "turn" = some none) (nR_phase : PySem.W.findIn K (.ref cR) "phase" = some none) (nR_in_hand : PySem.W.findIn K (.ref cR) "in_hand" = some none) (nR_first_group : PySem.W.findIn K (.ref cR) "first_group" = some none) (nR_fouls : PySem.W.findIn K (.ref cR) "fouls" = some none) (nR_breaker : PySem.W.findIn K (.ref cR) "breaker" = some none) (nR_is_of_push : PySem.W.findIn K (.ref cR) "is_of_push" = some none) (nA_game : PySem.W.findIn K (.ref cA) "game" = some none) (nA_racks : PySem.W.findIn K (.ref cA) "racks" = some none) (nA_by_turns : PySem.W.findIn K (.ref cA) "by_turns" = some none) (nA_won : PySem.W.findIn K (.ref cA) "won" = some none) (nA_rack : PySem.W.findIn K (.ref cA) "rack" = some none) (nD_race : PySem.W.findIn K (.ref cD) "race" = some none)
    (c_BAD : Con0 mg "BAD" (.int (-1))) (c_BEHIND : Con0 mg "BEHIND" (.int (1))) (c_BREAK : Con0 mg "BREAK" (.int (0))) (c_CHOICE : Con0 mg "CHOICE" (.int (3))) (c_EIGHT : Con0 mg "EIGHT" (.int (8))) (c_EIGHT_BALL : Con0 mg "EIGHT_BALL" (.int (8))) (c_ENOUGH_CUSHIONS : Con0 mg "ENOUGH_CUSHIONS" (.int (4))) (c_HIGH : Con0 mg "HIGH" (.int (2))) (c_LOW : Con0 mg "LOW" (.int (1))) (c_MOST_BALL : Con0 mg "MOST_BALL" (.int (15))) (c_MOST_FOULS : Con0 mg "MOST_FOULS" (.int (3))) (c_MOST_RACKS : Con0 mg "MOST_RACKS" (.int (30))) (c_NINE : Con0 mg "NINE" (.int (9))) (c_NINE_BALL : Con0 mg "NINE_BALL" (.int (9))) (c_NOT_LET : Con0 mg "NOT_LET" (.int (-5))) (c_NOT_NOW : Con0 mg "NOT_NOW" (.int (-3))) (c_NOT_THERE : Con0 mg "NOT_THERE" (.int (-4))) (c_NO_GROUP : Con0 mg "NO_GROUP" (.int (0))) (c_NO_RACE : Con0 mg "NO_RACE" (.int (-2))) (c_PLAY : Con0 mg "PLAY" (.int (2))) (c_SHOT : Con0 mg "SHOT" (.int (2))) (nums : NumsAt K mg)
    (b_len : PySem.W.nsIn K mainGlobals "len" = some none) (b_max : PySem.W.nsIn K mainGlobals "max" = some none) (b_min : PySem.W.nsIn K mainGlobals "min" = some none) (b_all : PySem.W.nsIn K mainGlobals "all" = some none) (b_sorted : PySem.W.nsIn K mainGlobals "sorted" = some none) (b_int : PySem.W.nsIn K mainGlobals "int" = some none) (b_list : PySem.W.nsIn K mainGlobals "list" = some none) (b_range : PySem.W.nsIn K mainGlobals "range" = some none) (b_set : PySem.W.nsIn K mainGlobals "set" = some none) (b_ValueError : PySem.W.nsIn K mainGlobals "ValueError" = some none) (vV : PySem.W.findCls K (.type "ValueError") (.type "type") "__init__" = some (.val (.builtin "ValueError.__init__")))
    (f_shI : FE K cS "__init__" "Shot.__init__" s_shI)
    (f_weak : FE K cS "is_weak" "Shot.is_weak" s_weak)
    (f_gof : GE K mg "group_of" s_gof)
    (f_rkI : FE K cR "__init__" "Rack.__init__" s_rkI)
    (f_gfor : FE K cR "group_for" "Rack.group_for" s_gfor)
    (f_tkg : FE K cR "take_group" "Rack.take_group" s_tkg)
    (f_pot : FE K cR "pot" "Rack.pot" s_pot)
    (f_cmb : FE K cR "come_back" "Rack.come_back" s_cmb)
    (f_pby : FE K cR "play_by" "Rack.play_by" s_pby)
    (f_cby : FE K cR "choose_by" "Rack.choose_by" s_cby)
    (f_iso : FE K cR "is_open" "Rack.is_open" s_iso)
    (f_r8 : GE K mg "right_in_eight" s_r8)
    (f_rb : GE K mg "right_balls" s_rb)
    (f_ipf : GE K mg "is_plain_foul" s_ipf)
    (f_brk : GE K mg "break_shot" s_brk)
    (f_w8 : GE K mg "winner_by_eight" s_w8)
    (f_gon : GE K mg "go_on" s_gon)
    (f_pls : GE K mg "play_shot" s_pls)
    (f_e8 : GE K mg "eight_shot" s_e8)
    (f_f9 : GE K mg "is_foul_in_nine" s_f9)
    (f_phb : GE K mg "phase_behind" s_phb)
    (f_fou : GE K mg "foul" s_fou)
    (f_psh : GE K mg "push" s_psh)
    (f_goo : GE K mg "good" s_goo)
    (f_n9 : GE K mg "nine_shot" s_n9)
    (f_rfI : FE K cF "__init__" "Refused.__init__" s_rfI)
    (f_wan : GE K mg "want" s_wan)
    (f_bit : GE K mg "are_bits" s_bit)
    (f_raI : FE K cA "__init__" "Race.__init__" s_raI)
    (f_ovr : FE K cA "is_over" "Race.is_over" s_ovr)
    (f_rwn : FE K cA "rack_won" "Race.rack_won" s_rwn)
    (f_sta : FE K cA "stands" "Race.stands" s_sta)
    (f_dkI : FE K cD "__init__" "Desk.__init__" s_dkI)
    (f_beg : FE K cD "begin" "Desk.begin" s_beg)
    (f_goi : FE K cD "going" "Desk.going" s_goi)
    (f_wsh : FE K cD "want_shot" "Desk.want_shot" s_wsh)
    (f_sho : FE K cD "shot" "Desk.shot" s_sho)
    (f_cho : FE K cD "choose" "Desk.choose" s_cho)
    (f_onn : FE K cD "on" "Desk.on" s_onn)
    (f_now : FE K cD "now" "Desk.now" s_now)
    (f_tbn : FE K cD "table_now" "Desk.table_now" s_tbn)
    (f_cal : GE K mg "called" s_cal)
    (f_an1 : GE K mg "answer" s_an1)
    (f_ans : GE K mg "answers" s_ans)
    : ∃ fd : FuncData, (∀ (s : Shared) (us : List Value), us.length = (["calls"] : List Str).length → BindsTo s fd ⟨us, []⟩ ((["calls"] : List Str).zip us)) ∧ ∀ base : Heap, K.In base → base.Ns mainGlobals mg → FnOk P w K mg base CX0 10 fa fd ["calls"] (Pr.sp_ans K) := by
  let A : Ad := ⟨cS, cR, cA, cD, cF⟩
  have T : Txt K mg A := { clS := oS.cl, clR := oR.cl, clA := oA.cl, clD := oD.cl, nS_first := nS_first, nS_cushions := nS_cushions, nS_is_lost := nS_is_lost, nS_called := nS_called, nS_is_push := nS_is_push, nS_potted := nS_potted, nR_game := nR_game, nR_table := nR_table, nR_turn := nR_turn, nR_phase := nR_phase, nR_in_hand := nR_in_hand, nR_first_group := nR_first_group, nR_fouls := nR_fouls, nR_breaker := nR_breaker, nR_is_of_push := nR_is_of_push, nA_game := nA_game, nA_racks := nA_racks, nA_by_turns := nA_by_turns, nA_won := nA_won, nA_rack := nA_rack, nD_race := nD_race, c_BAD := c_BAD, c_BEHIND := c_BEHIND, c_BREAK := c_BREAK, c_CHOICE := c_CHOICE, c_EIGHT := c_EIGHT, c_EIGHT_BALL := c_EIGHT_BALL, c_ENOUGH_CUSHIONS := c_ENOUGH_CUSHIONS, c_HIGH := c_HIGH, c_LOW := c_LOW, c_MOST_BALL := c_MOST_BALL, c_MOST_FOULS := c_MOST_FOULS, c_MOST_RACKS := c_MOST_RACKS, c_NINE := c_NINE, c_NINE_BALL := c_NINE_BALL, c_NOT_LET := c_NOT_LET, c_NOT_NOW := c_NOT_NOW, c_NOT_THERE := c_NOT_THERE, c_NO_GROUP := c_NO_GROUP, c_NO_RACE := c_NO_RACE, c_PLAY := c_PLAY, c_SHOT := c_SHOT, nums := nums, b_len := PySem.W.mg_none_of X G b_len, b_max := PySem.W.mg_none_of X G b_max, b_min := PySem.W.mg_none_of X G b_min, b_all := PySem.W.mg_none_of X G b_all, b_sorted := PySem.W.mg_none_of X G b_sorted, b_int := PySem.W.mg_none_of X G b_int, b_list := PySem.W.mg_none_of X G b_list, b_range := PySem.W.mg_none_of X G b_range, b_set := PySem.W.mg_none_of X G b_set, b_ValueError := PySem.W.mg_none_of X G b_ValueError, vV := vV, gF := oF.g, oeF := oF.oe, xfF := oF.xf, noRef := oF.no, exF := oF.ex }
  obtain ⟨a_shI, d_shI, m_shI, i_shI, t_shI, k_shI, F_shI⟩ := f_shI.ex
  obtain ⟨a_weak, d_weak, m_weak, i_weak, t_weak, k_weak, F_weak⟩ := f_weak.ex
  obtain ⟨a_gof, d_gof, m_gof, k_gof, F_gof⟩ := f_gof.ex
  obtain ⟨a_rkI, d_rkI, m_rkI, i_rkI, t_rkI, k_rkI, F_rkI⟩ := f_rkI.ex
  obtain ⟨a_gfor, d_gfor, m_gfor, i_gfor, t_gfor, k_gfor, F_gfor⟩ := f_gfor.ex
  obtain ⟨a_tkg, d_tkg, m_tkg, i_tkg, t_tkg, k_tkg, F_tkg⟩ := f_tkg.ex
  obtain ⟨a_pot, d_pot, m_pot, i_pot, t_pot, k_pot, F_pot⟩ := f_pot.ex
  obtain ⟨a_cmb, d_cmb, m_cmb, i_cmb, t_cmb, k_cmb, F_cmb⟩ := f_cmb.ex
  obtain ⟨a_pby, d_pby, m_pby, i_pby, t_pby, k_pby, F_pby⟩ := f_pby.ex
  obtain ⟨a_cby, d_cby, m_cby, i_cby, t_cby, k_cby, F_cby⟩ := f_cby.ex
  obtain ⟨a_iso, d_iso, m_iso, i_iso, t_iso, k_iso, F_iso⟩ := f_iso.ex
  obtain ⟨a_r8, d_r8, m_r8, k_r8, F_r8⟩ := f_r8.ex
  obtain ⟨a_rb, d_rb, m_rb, k_rb, F_rb⟩ := f_rb.ex
  obtain ⟨a_ipf, d_ipf, m_ipf, k_ipf, F_ipf⟩ := f_ipf.ex
  obtain ⟨a_brk, d_brk, m_brk, k_brk, F_brk⟩ := f_brk.ex
  obtain ⟨a_w8, d_w8, m_w8, k_w8, F_w8⟩ := f_w8.ex
  obtain ⟨a_gon, d_gon, m_gon, k_gon, F_gon⟩ := f_gon.ex
  obtain ⟨a_pls, d_pls, m_pls, k_pls, F_pls⟩ := f_pls.ex
  obtain ⟨a_e8, d_e8, m_e8, k_e8, F_e8⟩ := f_e8.ex
  obtain ⟨a_f9, d_f9, m_f9, k_f9, F_f9⟩ := f_f9.ex
  obtain ⟨a_phb, d_phb, m_phb, k_phb, F_phb⟩ := f_phb.ex
  obtain ⟨a_fou, d_fou, m_fou, k_fou, F_fou⟩ := f_fou.ex
  obtain ⟨a_psh, d_psh, m_psh, k_psh, F_psh⟩ := f_psh.ex
  obtain ⟨a_goo, d_goo, m_goo, k_goo, F_goo⟩ := f_goo.ex
  obtain ⟨a_n9, d_n9, m_n9, k_n9, F_n9⟩ := f_n9.ex
  obtain ⟨a_rfI, d_rfI, m_rfI, i_rfI, t_rfI, k_rfI, F_rfI⟩ := f_rfI.ex
  obtain ⟨a_wan, d_wan, m_wan, k_wan, F_wan⟩ := f_wan.ex
  obtain ⟨a_bit, d_bit, m_bit, k_bit, F_bit⟩ := f_bit.ex
  obtain ⟨a_raI, d_raI, m_raI, i_raI, t_raI, k_raI, F_raI⟩ := f_raI.ex
  obtain ⟨a_ovr, d_ovr, m_ovr, i_ovr, t_ovr, k_ovr, F_ovr⟩ := f_ovr.ex
  obtain ⟨a_rwn, d_rwn, m_rwn, i_rwn, t_rwn, k_rwn, F_rwn⟩ := f_rwn.ex
  obtain ⟨a_sta, d_sta, m_sta, i_sta, t_sta, k_sta, F_sta⟩ := f_sta.ex
  obtain ⟨a_dkI, d_dkI, m_dkI, i_dkI, t_dkI, k_dkI, F_dkI⟩ := f_dkI.ex
  obtain ⟨a_beg, d_beg, m_beg, i_beg, t_beg, k_beg, F_beg⟩ := f_beg.ex
  obtain ⟨a_goi, d_goi, m_goi, i_goi, t_goi, k_goi, F_goi⟩ := f_goi.ex
  obtain ⟨a_wsh, d_wsh, m_wsh, i_wsh, t_wsh, k_wsh, F_wsh⟩ := f_wsh.ex
  obtain ⟨a_sho, d_sho, m_sho, i_sho, t_sho, k_sho, F_sho⟩ := f_sho.ex
  obtain ⟨a_cho, d_cho, m_cho, i_cho, t_cho, k_cho, F_cho⟩ := f_cho.ex
  obtain ⟨a_onn, d_onn, m_onn, i_onn, t_onn, k_onn, F_onn⟩ := f_onn.ex
  obtain ⟨a_now, d_now, m_now, i_now, t_now, k_now, F_now⟩ := f_now.ex
  obtain ⟨a_tbn, d_tbn, m_tbn, i_tbn, t_tbn, k_tbn, F_tbn⟩ := f_tbn.ex
  obtain ⟨a_cal, d_cal, m_cal, k_cal, F_cal⟩ := f_cal.ex
  obtain ⟨a_an1, d_an1, m_an1, k_an1, F_an1⟩ := f_an1.ex
  obtain ⟨a_ans, d_ans, m_ans, k_ans, F_ans⟩ := f_ans.ex
  have b_shI := F_shI.binds (ps := ["self", "first", "cushions", "is_lost", "called", "is_push", "potted"]) fun _ _ _ _ _ _ us hl => match us, hl with | [_, _, _, _, _, _, _], _ => rfl
  have b_weak := F_weak.binds (ps := ["self"]) fun _ _ _ _ _ _ us hl => match us, hl with | [_], _ => rfl
  have b_gof := F_gof.binds (ps := ["ball"]) fun _ _ _ _ _ _ us hl => match us, hl with | [_], _ => rfl
  have b_rkI := F_rkI.binds (ps := ["self", "game", "breaker"]) fun _ _ _ _ _ _ us hl => match us, hl with | [_, _, _], _ => rfl
  have b_gfor := F_gfor.binds (ps := ["self", "side"]) fun _ _ _ _ _ _ us hl => match us, hl with | [_, _], _ => rfl
  have b_tkg := F_tkg.binds (ps := ["self", "side", "group"]) fun _ _ _ _ _ _ us hl => match us, hl with | [_, _, _], _ => rfl
  have b_pot := F_pot.binds (ps := ["self", "potted"]) fun _ _ _ _ _ _ us hl => match us, hl with | [_, _], _ => rfl
  have b_cmb := F_cmb.binds (ps := ["self", "ball"]) fun _ _ _ _ _ _ us hl => match us, hl with | [_, _], _ => rfl
  have b_pby := F_pby.binds (ps := ["self", "side", "in_hand"]) fun _ _ _ _ _ _ us hl => match us, hl with | [_, _, _], _ => rfl
  have b_cby := F_cby.binds (ps := ["self", "side", "is_of_push"]) fun _ _ _ _ _ _ us hl => match us, hl with | [_, _, _], _ => rfl
  have b_iso := F_iso.binds (ps := ["self"]) fun _ _ _ _ _ _ us hl => match us, hl with | [_], _ => rfl
  have b_r8 := F_r8.binds (ps := ["rack"]) fun _ _ _ _ _ _ us hl => match us, hl with | [_], _ => rfl
  have b_rb := F_rb.binds (ps := ["rack"]) fun _ _ _ _ _ _ us hl => match us, hl with | [_], _ => rfl
  have b_ipf := F_ipf.binds (ps := ["rack", "shot"]) fun _ _ _ _ _ _ us hl => match us, hl with | [_, _], _ => rfl
  have b_brk := F_brk.binds (ps := ["rack", "shot"]) fun _ _ _ _ _ _ us hl => match us, hl with | [_, _], _ => rfl
  have b_w8 := F_w8.binds (ps := ["rack", "shot", "is_foul"]) fun _ _ _ _ _ _ us hl => match us, hl with | [_, _, _], _ => rfl
  have b_gon := F_gon.binds (ps := ["rack", "shot"]) fun _ _ _ _ _ _ us hl => match us, hl with | [_, _], _ => rfl
  have b_pls := F_pls.binds (ps := ["rack", "shot"]) fun _ _ _ _ _ _ us hl => match us, hl with | [_, _], _ => rfl
  have b_e8 := F_e8.binds (ps := ["rack", "shot"]) fun _ _ _ _ _ _ us hl => match us, hl with | [_, _], _ => rfl
  have b_f9 := F_f9.binds (ps := ["rack", "shot"]) fun _ _ _ _ _ _ us hl => match us, hl with | [_, _], _ => rfl
  have b_phb := F_phb.binds (ps := ["rack"]) fun _ _ _ _ _ _ us hl => match us, hl with | [_], _ => rfl
  have b_fou := F_fou.binds (ps := ["rack"]) fun _ _ _ _ _ _ us hl => match us, hl with | [_], _ => rfl
  have b_psh := F_psh.binds (ps := ["rack"]) fun _ _ _ _ _ _ us hl => match us, hl with | [_], _ => rfl
  have b_goo := F_goo.binds (ps := ["rack", "shot"]) fun _ _ _ _ _ _ us hl => match us, hl with | [_, _], _ => rfl
  have b_n9 := F_n9.binds (ps := ["rack", "shot"]) fun _ _ _ _ _ _ us hl => match us, hl with | [_, _], _ => rfl
  have b_rfI := F_rfI.binds (ps := ["self", "number"]) fun _ _ _ _ _ _ us hl => match us, hl with | [_, _], _ => rfl
  have b_wan := F_wan.binds (ps := ["is_so", "number"]) fun _ _ _ _ _ _ us hl => match us, hl with | [_, _], _ => rfl
  have b_bit := F_bit.binds (ps := ["numbers"]) fun _ _ _ _ _ _ us hl => match us, hl with | [_], _ => rfl
  have b_raI := F_raI.binds (ps := ["self", "game", "racks", "by_turns", "breaker"]) fun _ _ _ _ _ _ us hl => match us, hl with | [_, _, _, _, _], _ => rfl
  have b_ovr := F_ovr.binds (ps := ["self"]) fun _ _ _ _ _ _ us hl => match us, hl with | [_], _ => rfl
  have b_rwn := F_rwn.binds (ps := ["self", "side"]) fun _ _ _ _ _ _ us hl => match us, hl with | [_, _], _ => rfl
  have b_sta := F_sta.binds (ps := ["self"]) fun _ _ _ _ _ _ us hl => match us, hl with | [_], _ => rfl
  have b_dkI := F_dkI.binds (ps := ["self"]) fun _ _ _ _ _ _ us hl => match us, hl with | [_], _ => rfl
  have b_beg := F_beg.binds (ps := ["self", "game", "racks", "turns", "breaker"]) fun _ _ _ _ _ _ us hl => match us, hl with | [_, _, _, _, _], _ => rfl
  have b_goi := F_goi.binds (ps := ["self"]) fun _ _ _ _ _ _ us hl => match us, hl with | [_], _ => rfl
  have b_wsh := F_wsh.binds (ps := ["self", "n", "potted"]) fun _ _ _ _ _ _ us hl => match us, hl with | [_, _, _], _ => rfl
  have b_sho := F_sho.binds (ps := ["self", "n", "potted"]) fun _ _ _ _ _ _ us hl => match us, hl with | [_, _, _], _ => rfl
  have b_cho := F_cho.binds (ps := ["self", "n"]) fun _ _ _ _ _ _ us hl => match us, hl with | [_, _], _ => rfl
  have b_onn := F_onn.binds (ps := ["self"]) fun _ _ _ _ _ _ us hl => match us, hl with | [_], _ => rfl
  have b_now := F_now.binds (ps := ["self"]) fun _ _ _ _ _ _ us hl => match us, hl with | [_], _ => rfl
  have b_tbn := F_tbn.binds (ps := ["self"]) fun _ _ _ _ _ _ us hl => match us, hl with | [_], _ => rfl
  have b_cal := F_cal.binds (ps := ["desk", "call", "n", "potted"]) fun _ _ _ _ _ _ us hl => match us, hl with | [_, _, _, _], _ => rfl
  have b_an1 := F_an1.binds (ps := ["desk", "call", "n", "potted"]) fun _ _ _ _ _ _ us hl => match us, hl with | [_, _, _, _], _ => rfl
  cases hfa.symm.trans m_ans
  have E0 : ∀ base : Heap, FnOk P w K mg base CX0 10 fa d_ans ["calls"] (Pr.sp_ans K) := fun base => by
    have e_shI : MakE P w K mg base CX0 1 "Shot" A.cS (sp_shI A) := ⟨⟨_, _, _, oS.kpe, ⟨oS.mke, m_shI, i_shI, oS.kpe⟩, (ok_shI F_shI T), oS.g, b_shI⟩⟩
    have e_weak : MetE P w K mg base CX0 1 A.cS "is_weak" (sp_weak A) := ⟨⟨_, _, _, oS.cl, ⟨m_weak, i_weak, k_weak⟩, (ok_weak F_weak T), b_weak⟩⟩
    have e_gof : CalE P w K mg base CX0 1 "group_of" (sp_gof A) := ⟨⟨_, _, _, (ok_gof F_gof T), m_gof, k_gof, b_gof⟩⟩
    have e_rkI : MakE P w K mg base CX0 1 "Rack" A.cR (sp_rkI A) := ⟨⟨_, _, _, oR.kpe, ⟨oR.mke, m_rkI, i_rkI, oR.kpe⟩, (ok_rkI F_rkI T), oR.g, b_rkI⟩⟩
    have e_gfor : MetE P w K mg base CX0 1 A.cR "group_for" (sp_gfor A) := ⟨⟨_, _, _, oR.cl, ⟨m_gfor, i_gfor, k_gfor⟩, (ok_gfor F_gfor T), b_gfor⟩⟩
    have e_tkg : MetE P w K mg base CX0 1 A.cR "take_group" (sp_tkg A) := ⟨⟨_, _, _, oR.cl, ⟨m_tkg, i_tkg, k_tkg⟩, (ok_tkg F_tkg T), b_tkg⟩⟩
    have e_pot : MetE P w K mg base CX0 1 A.cR "pot" (sp_pot A) := ⟨⟨_, _, _, oR.cl, ⟨m_pot, i_pot, k_pot⟩, (ok_pot F_pot T), b_pot⟩⟩
    have e_cmb : MetE P w K mg base CX0 1 A.cR "come_back" (sp_cmb A) := ⟨⟨_, _, _, oR.cl, ⟨m_cmb, i_cmb, k_cmb⟩, (ok_cmb F_cmb T), b_cmb⟩⟩
    have e_pby : MetE P w K mg base CX0 1 A.cR "play_by" (sp_pby A) := ⟨⟨_, _, _, oR.cl, ⟨m_pby, i_pby, k_pby⟩, (ok_pby F_pby T), b_pby⟩⟩
    have e_cby : MetE P w K mg base CX0 1 A.cR "choose_by" (sp_cby A) := ⟨⟨_, _, _, oR.cl, ⟨m_cby, i_cby, k_cby⟩, (ok_cby F_cby T), b_cby⟩⟩
    have e_iso : MetE P w K mg base CX0 1 A.cR "is_open" (sp_iso A) := ⟨⟨_, _, _, oR.cl, ⟨m_iso, i_iso, k_iso⟩, (ok_iso F_iso T), b_iso⟩⟩
    have e_r8 : CalE P w K mg base CX0 2 "right_in_eight" (sp_r8 A) := ⟨⟨_, _, _, (ok_r8 F_r8 T (c_iso := e_iso) (c_gof := e_gof) (c_gfor := e_gfor)), m_r8, k_r8, b_r8⟩⟩
    have e_rb : CalE P w K mg base CX0 3 "right_balls" (sp_rb A) := ⟨⟨_, _, _, (ok_rb F_rb T (c_r8 := e_r8)), m_rb, k_rb, b_rb⟩⟩
    have e_ipf : CalE P w K mg base CX0 4 "is_plain_foul" (sp_ipf A) := ⟨⟨_, _, _, (ok_ipf F_ipf T (c_rb := e_rb)), m_ipf, k_ipf, b_ipf⟩⟩
    have e_brk : CalE P w K mg base CX0 5 "break_shot" (sp_brk A) := ⟨⟨_, _, _, (ok_brk F_brk T (c_pby := e_pby) (c_weak := e_weak) (c_cby := e_cby) (c_cmb := e_cmb) (c_pot := e_pot) (c_ipf := e_ipf)), m_brk, k_brk, b_brk⟩⟩
    have e_w8 : CalE P w K mg base CX0 4 "winner_by_eight" (sp_w8 A) := ⟨⟨_, _, _, (ok_w8 F_w8 T (c_rb := e_rb)), m_w8, k_w8, b_w8⟩⟩
    have e_gon : CalE P w K mg base CX0 2 "go_on" (sp_gon A) := ⟨⟨_, _, _, (ok_gon F_gon T (c_pby := e_pby) (c_gof := e_gof) (c_gfor := e_gfor) (c_tkg := e_tkg) (c_iso := e_iso)), m_gon, k_gon, b_gon⟩⟩
    have e_pls : CalE P w K mg base CX0 5 "play_shot" (sp_pls A) := ⟨⟨_, _, _, (ok_pls F_pls T (c_pby := e_pby) (c_gon := e_gon) (c_pot := e_pot) (c_w8 := e_w8) (c_ipf := e_ipf)), m_pls, k_pls, b_pls⟩⟩
    have e_e8 : CalE P w K mg base CX0 6 "eight_shot" (sp_e8 A) := ⟨⟨_, _, _, (ok_e8 F_e8 T (c_brk := e_brk) (c_pls := e_pls)), m_e8, k_e8, b_e8⟩⟩
    have e_f9 : CalE P w K mg base CX0 5 "is_foul_in_nine" (sp_f9 A) := ⟨⟨_, _, _, (ok_f9 F_f9 T (c_weak := e_weak) (c_ipf := e_ipf)), m_f9, k_f9, b_f9⟩⟩
    have e_phb : CalE P w K mg base CX0 1 "phase_behind" (sp_phb A) := ⟨⟨_, _, _, (ok_phb F_phb T), m_phb, k_phb, b_phb⟩⟩
    have e_fou : CalE P w K mg base CX0 2 "foul" (sp_fou A) := ⟨⟨_, _, _, (ok_fou F_fou T (c_pby := e_pby) (c_cmb := e_cmb)), m_fou, k_fou, b_fou⟩⟩
    have e_psh : CalE P w K mg base CX0 2 "push" (sp_psh A) := ⟨⟨_, _, _, (ok_psh F_psh T (c_cby := e_cby) (c_cmb := e_cmb)), m_psh, k_psh, b_psh⟩⟩
    have e_goo : CalE P w K mg base CX0 2 "good" (sp_goo A) := ⟨⟨_, _, _, (ok_goo F_goo T (c_pby := e_pby)), m_goo, k_goo, b_goo⟩⟩
    have e_n9 : CalE P w K mg base CX0 6 "nine_shot" (sp_n9 A) := ⟨⟨_, _, _, (ok_n9 F_n9 T (c_fou := e_fou) (c_psh := e_psh) (c_goo := e_goo) (c_phb := e_phb) (c_pot := e_pot) (c_f9 := e_f9)), m_n9, k_n9, b_n9⟩⟩
    have e_rfI : RfE P w K mg base 1 (sp_rfI A) A := ⟨⟨_, _, _, (ok_rfI F_rfI T), b_rfI, m_rfI, t_rfI⟩⟩
    have e_wan : CalE P w K mg base (L2.CX P w) 3 "want" (sp_wan A) := ⟨⟨_, _, _, (ok_wan F_wan T (c_rfI := e_rfI)), m_wan, k_wan, b_wan⟩⟩
    have e_bit : CalE P w K mg base CX0 1 "are_bits" (sp_bit A) := ⟨⟨_, _, _, (ok_bit F_bit T), m_bit, k_bit, b_bit⟩⟩
    have e_raI : MakE P w K mg base CX0 3 "Race" A.cA (sp_raI A) := ⟨⟨_, _, _, oA.kpe, ⟨oA.mke, m_raI, i_raI, oA.kpe⟩, (ok_raI F_raI T (c_rkI := e_rkI)), oA.g, b_raI⟩⟩
    have e_ovr : MetE P w K mg base CX0 1 A.cA "is_over" (sp_ovr A) := ⟨⟨_, _, _, oA.cl, ⟨m_ovr, i_ovr, k_ovr⟩, (ok_ovr F_ovr T), b_ovr⟩⟩
    have e_rwn : MetE P w K mg base CX0 3 A.cA "rack_won" (sp_rwn A) := ⟨⟨_, _, _, oA.cl, ⟨m_rwn, i_rwn, k_rwn⟩, (ok_rwn F_rwn T (c_ovr := e_ovr) (c_rkI := e_rkI)), b_rwn⟩⟩
    have e_sta : MetE P w K mg base CX0 2 A.cA "stands" (sp_sta A) := ⟨⟨_, _, _, oA.cl, ⟨m_sta, i_sta, k_sta⟩, (ok_sta F_sta T (c_ovr := e_ovr)), b_sta⟩⟩
    have e_dkI : MakE P w K mg base CX0 1 "Desk" A.cD (sp_dkI A) := ⟨⟨_, _, _, oD.kpe, ⟨oD.mke, m_dkI, i_dkI, oD.kpe⟩, (ok_dkI F_dkI T), oD.g, b_dkI⟩⟩
    have e_beg : MetE P w K mg base (L2.CX P w) 5 A.cD "begin" (sp_beg A) := ⟨⟨_, _, _, oD.cl, ⟨m_beg, i_beg, k_beg⟩, (ok_beg F_beg T (c_raI := e_raI) (c_wan := e_wan) (c_bit := e_bit)), b_beg⟩⟩
    have e_goi : MetE P w K mg base (L2.CX P w) 4 A.cD "going" (sp_goi A) := ⟨⟨_, _, _, oD.cl, ⟨m_goi, i_goi, k_goi⟩, (ok_goi F_goi T (c_wan := e_wan) (c_ovr := e_ovr)), b_goi⟩⟩
    have e_wsh : MetE P w K mg base (L2.CX P w) 5 A.cD "want_shot" (sp_wsh A) := ⟨⟨_, _, _, oD.cl, ⟨m_wsh, i_wsh, k_wsh⟩, (ok_wsh F_wsh T (c_wan := e_wan) (c_goi := e_goi) (c_bit := e_bit)), b_wsh⟩⟩
    have e_sho : MetE P w K mg base (L2.CX P w) 7 A.cD "shot" (sp_sho A) := ⟨⟨_, _, _, oD.cl, ⟨m_sho, i_sho, k_sho⟩, (ok_sho F_sho T (c_sta := e_sta) (c_rwn := e_rwn) (c_e8 := e_e8) (c_n9 := e_n9) (c_shI := e_shI) (c_wsh := e_wsh)), b_sho⟩⟩
    have e_cho : MetE P w K mg base (L2.CX P w) 5 A.cD "choose" (sp_cho A) := ⟨⟨_, _, _, oD.cl, ⟨m_cho, i_cho, k_cho⟩, (ok_cho F_cho T (c_sta := e_sta) (c_rkI := e_rkI) (c_pby := e_pby) (c_wan := e_wan) (c_goi := e_goi)), b_cho⟩⟩
    have e_onn : MetE P w K mg base (L2.CX P w) 5 A.cD "on" (sp_onn A) := ⟨⟨_, _, _, oD.cl, ⟨m_onn, i_onn, k_onn⟩, (ok_onn F_onn T (c_rb := e_rb) (c_goi := e_goi)), b_onn⟩⟩
    have e_now : MetE P w K mg base CX0 3 A.cD "now" (sp_now A) := ⟨⟨_, _, _, oD.cl, ⟨m_now, i_now, k_now⟩, (ok_now F_now T (c_sta := e_sta) (c_ovr := e_ovr)), b_now⟩⟩
    have e_tbn : MetE P w K mg base (L2.CX P w) 5 A.cD "table_now" (sp_tbn A) := ⟨⟨_, _, _, oD.cl, ⟨m_tbn, i_tbn, k_tbn⟩, (ok_tbn F_tbn T (c_goi := e_goi)), b_tbn⟩⟩
    have e_cal : CalE P w K mg base (L2.CX P w) 8 "called" (sp_cal A) := ⟨⟨_, _, _, (ok_cal F_cal T (c_now := e_now) (c_tbn := e_tbn) (c_onn := e_onn) (c_cho := e_cho) (c_sho := e_sho) (c_beg := e_beg)), m_cal, k_cal, b_cal⟩⟩
    have e_an1 : CalE P w K mg base CX0 9 "answer" (sp_an1 A) := ⟨⟨_, _, _, (ok_an1 F_an1 T (c_cal := e_cal)), m_an1, k_an1, b_an1⟩⟩
    exact ok_ans F_ans T (c_an1 := e_an1) (c_dkI := e_dkI)
  have b0 := F_ans.ex
  obtain ⟨oc, od, kV, doc, pm, an, cdv, ct, osl, e, lk, hcd⟩ := b0
  subst e
  exact ⟨_, fun s us hu => match us, hu with | [_], _ => .of_eq rfl, fun base _ _ => E0 base⟩
end Pr
open PySem PySem.W PyProof.Rows
set_option maxRecDepth 100000 in
set_option maxHeartbeats 8000000 in
theorem PySem.Challenge.cw_poolreferee_s01_answers_holds : PySem.Challenge.rw_poolreferee_s01_answers.Holds := by
  w_on; k_headS; (case hw => exact ⟨[.list [.int 5]], by decide +kernel, by decide +kernel⟩)
  k_fillS
  refine L2.walk_specK (r := PySem.Challenge.rw_poolreferee_s01_answers) (k := 10) (CX := L2.CX0) (ps := ["calls"]) (sp := Pr.sp_ans) (by decide +kernel) rfl rfl ⟨rfl, by decide, by decide⟩ (fun w h Y => PySem.W.kIn_of Y) ?F ?S (fun _ _ _ _ z => z)
  case F =>
    intro w mg fa h Y KX G hmg
    refine' Pr.all_mk KX G hmg ?oS ?oR ?oA ?oD ?oF ?nS_first ?nS_cushions ?nS_is_lost ?nS_called ?nS_is_push ?nS_potted ?nR_game ?nR_table ?nR_turn ?nR_phase ?nR_in_hand ?nR_first_group ?nR_fouls ?nR_breaker ?nR_is_of_push ?nA_game ?nA_racks ?nA_by_turns ?nA_won ?nA_rack ?nD_race ?c_BAD ?c_BEHIND ?c_BREAK ?c_CHOICE ?c_EIGHT ?c_EIGHT_BALL ?c_ENOUGH_CUSHIONS ?c_HIGH ?c_LOW ?c_MOST_BALL ?c_MOST_FOULS ?c_MOST_RACKS ?c_NINE ?c_NINE_BALL ?c_NOT_LET ?c_NOT_NOW ?c_NOT_THERE ?c_NO_GROUP ?c_NO_RACE ?c_PLAY ?c_SHOT ?nums ?b_len ?b_max ?b_min ?b_all ?b_sorted ?b_int ?b_list ?b_range ?b_set ?b_ValueError ?vV ?f_shI ?f_weak ?f_gof ?f_rkI ?f_gfor ?f_tkg ?f_pot ?f_cmb ?f_pby ?f_cby ?f_iso ?f_r8 ?f_rb ?f_ipf ?f_brk ?f_w8 ?f_gon ?f_pls ?f_e8 ?f_f9 ?f_phb ?f_fou ?f_psh ?f_goo ?f_n9 ?f_rfI ?f_wan ?f_bit ?f_raI ?f_ovr ?f_rwn ?f_sta ?f_dkI ?f_beg ?f_goi ?f_wsh ?f_sho ?f_cho ?f_onn ?f_now ?f_tbn ?f_cal ?f_an1 ?f_ans
    (case oS => (refine' Pr.ce_mk KX G ?a ?p1 ?p2 ?p3 ?p4 ?p5 ?p6; (case a => k_is); (case p1 => k_is); (case p2 => k_is); (case p3 => k_is); (case p4 => k_is); (case p5 => k_is); (case p6 => k_is)))
    (case oR => (refine' Pr.ce_mk KX G ?a ?p1 ?p2 ?p3 ?p4 ?p5 ?p6; (case a => k_is); (case p1 => k_is); (case p2 => k_is); (case p3 => k_is); (case p4 => k_is); (case p5 => k_is); (case p6 => k_is)))
    (case oA => (refine' Pr.ce_mk KX G ?a ?p1 ?p2 ?p3 ?p4 ?p5 ?p6; (case a => k_is); (case p1 => k_is); (case p2 => k_is); (case p3 => k_is); (case p4 => k_is); (case p5 => k_is); (case p6 => k_is)))
    (case oD => (refine' Pr.ce_mk KX G ?a ?p1 ?p2 ?p3 ?p4 ?p5 ?p6; (case a => k_is); (case p1 => k_is); (case p2 => k_is); (case p3 => k_is); (case p4 => k_is); (case p5 => k_is); (case p6 => k_is)))
    (case oF => (refine' Pr.xe_mk KX G ?a ?xL ?p1 ?p2 ?p3 ?p4 ?p5 ?p6 ?p7 ?p8 ?p9 ?sC; (case a => k_is); (case xL => k_is); (case p1 => k_is); (case p2 => k_is); (case p3 => k_is); (case p4 => k_is); (case p5 => k_is); (case p6 => k_is); (case p7 => k_is); (case p8 => k_is); (case p9 => k_is); (case sC => first | rfl | k_is)))
    (case nS_first => k_is)
    (case nS_cushions => k_is)
    (case nS_is_lost => k_is)
    (case nS_called => k_is)
    (case nS_is_push => k_is)
    (case nS_potted => k_is)
    (case nR_game => k_is)
    (case nR_table => k_is)
    (case nR_turn => k_is)
    (case nR_phase => k_is)
    (case nR_in_hand => k_is)
    (case nR_first_group => k_is)
    (case nR_fouls => k_is)
    (case nR_breaker => k_is)
    (case nR_is_of_push => k_is)
    (case nA_game => k_is)
    (case nA_racks => k_is)
    (case nA_by_turns => k_is)
    (case nA_won => k_is)
    (case nA_rack => k_is)
    (case nD_race => k_is)
    (case c_BAD => (refine' Pr.con_mk KX G ?a; (case a => k_is)))
    (case c_BEHIND => (refine' Pr.con_mk KX G ?a; (case a => k_is)))
    (case c_BREAK => (refine' Pr.con_mk KX G ?a; (case a => k_is)))
    (case c_CHOICE => (refine' Pr.con_mk KX G ?a; (case a => k_is)))
    (case c_EIGHT => (refine' Pr.con_mk KX G ?a; (case a => k_is)))
    (case c_EIGHT_BALL => (refine' Pr.con_mk KX G ?a; (case a => k_is)))
    (case c_ENOUGH_CUSHIONS => (refine' Pr.con_mk KX G ?a; (case a => k_is)))
    (case c_HIGH => (refine' Pr.con_mk KX G ?a; (case a => k_is)))
    (case c_LOW => (refine' Pr.con_mk KX G ?a; (case a => k_is)))
    (case c_MOST_BALL => (refine' Pr.con_mk KX G ?a; (case a => k_is)))
    (case c_MOST_FOULS => (refine' Pr.con_mk KX G ?a; (case a => k_is)))
    (case c_MOST_RACKS => (refine' Pr.con_mk KX G ?a; (case a => k_is)))
    (case c_NINE => (refine' Pr.con_mk KX G ?a; (case a => k_is)))
    (case c_NINE_BALL => (refine' Pr.con_mk KX G ?a; (case a => k_is)))
    (case c_NOT_LET => (refine' Pr.con_mk KX G ?a; (case a => k_is)))
    (case c_NOT_NOW => (refine' Pr.con_mk KX G ?a; (case a => k_is)))
    (case c_NOT_THERE => (refine' Pr.con_mk KX G ?a; (case a => k_is)))
    (case c_NO_GROUP => (refine' Pr.con_mk KX G ?a; (case a => k_is)))
    (case c_NO_RACE => (refine' Pr.con_mk KX G ?a; (case a => k_is)))
    (case c_PLAY => (refine' Pr.con_mk KX G ?a; (case a => k_is)))
    (case c_SHOT => (refine' Pr.con_mk KX G ?a; (case a => k_is)))
    (case nums => (refine' Pr.nums_mk KX G ?a ?l; (case a => k_is); (case l => k_is)))
    (case b_len => k_is)
    (case b_max => k_is)
    (case b_min => k_is)
    (case b_all => k_is)
    (case b_sorted => k_is)
    (case b_int => k_is)
    (case b_list => k_is)
    (case b_range => k_is)
    (case b_set => k_is)
    (case b_ValueError => k_is)
    (case vV => first | rfl | k_is)
    (case f_shI => (refine' Pr.fe_mk ?a ?l ?i ?t ?c ?k; (case a => k_is); (case l => k_is); (case i => k_is); (case t => k_is); (case c => k_is); (case k => k_is)))
    (case f_weak => (refine' Pr.fe_mk ?a ?l ?i ?t ?c ?k; (case a => k_is); (case l => k_is); (case i => k_is); (case t => k_is); (case c => k_is); (case k => k_is)))
    (case f_gof => (refine' Pr.ge_mk KX G ?a ?l ?c ?k; (case a => k_is); (case l => k_is); (case c => k_is); (case k => k_is)))
    (case f_rkI => (refine' Pr.fe_mk ?a ?l ?i ?t ?c ?k; (case a => k_is); (case l => k_is); (case i => k_is); (case t => k_is); (case c => k_is); (case k => k_is)))
    (case f_gfor => (refine' Pr.fe_mk ?a ?l ?i ?t ?c ?k; (case a => k_is); (case l => k_is); (case i => k_is); (case t => k_is); (case c => k_is); (case k => k_is)))
    (case f_tkg => (refine' Pr.fe_mk ?a ?l ?i ?t ?c ?k; (case a => k_is); (case l => k_is); (case i => k_is); (case t => k_is); (case c => k_is); (case k => k_is)))
    (case f_pot => (refine' Pr.fe_mk ?a ?l ?i ?t ?c ?k; (case a => k_is); (case l => k_is); (case i => k_is); (case t => k_is); (case c => k_is); (case k => k_is)))
    (case f_cmb => (refine' Pr.fe_mk ?a ?l ?i ?t ?c ?k; (case a => k_is); (case l => k_is); (case i => k_is); (case t => k_is); (case c => k_is); (case k => k_is)))
    (case f_pby => (refine' Pr.fe_mk ?a ?l ?i ?t ?c ?k; (case a => k_is); (case l => k_is); (case i => k_is); (case t => k_is); (case c => k_is); (case k => k_is)))
    (case f_cby => (refine' Pr.fe_mk ?a ?l ?i ?t ?c ?k; (case a => k_is); (case l => k_is); (case i => k_is); (case t => k_is); (case c => k_is); (case k => k_is)))
    (case f_iso => (refine' Pr.fe_mk ?a ?l ?i ?t ?c ?k; (case a => k_is); (case l => k_is); (case i => k_is); (case t => k_is); (case c => k_is); (case k => k_is)))
    (case f_r8 => (refine' Pr.ge_mk KX G ?a ?l ?c ?k; (case a => k_is); (case l => k_is); (case c => k_is); (case k => k_is)))
    (case f_rb => (refine' Pr.ge_mk KX G ?a ?l ?c ?k; (case a => k_is); (case l => k_is); (case c => k_is); (case k => k_is)))
    (case f_ipf => (refine' Pr.ge_mk KX G ?a ?l ?c ?k; (case a => k_is); (case l => k_is); (case c => k_is); (case k => k_is)))
    (case f_brk => (refine' Pr.ge_mk KX G ?a ?l ?c ?k; (case a => k_is); (case l => k_is); (case c => k_is); (case k => k_is)))
    (case f_w8 => (refine' Pr.ge_mk KX G ?a ?l ?c ?k; (case a => k_is); (case l => k_is); (case c => k_is); (case k => k_is)))
    (case f_gon => (refine' Pr.ge_mk KX G ?a ?l ?c ?k; (case a => k_is); (case l => k_is); (case c => k_is); (case k => k_is)))
    (case f_pls => (refine' Pr.ge_mk KX G ?a ?l ?c ?k; (case a => k_is); (case l => k_is); (case c => k_is); (case k => k_is)))
    (case f_e8 => (refine' Pr.ge_mk KX G ?a ?l ?c ?k; (case a => k_is); (case l => k_is); (case c => k_is); (case k => k_is)))
    (case f_f9 => (refine' Pr.ge_mk KX G ?a ?l ?c ?k; (case a => k_is); (case l => k_is); (case c => k_is); (case k => k_is)))
    (case f_phb => (refine' Pr.ge_mk KX G ?a ?l ?c ?k; (case a => k_is); (case l => k_is); (case c => k_is); (case k => k_is)))
    (case f_fou => (refine' Pr.ge_mk KX G ?a ?l ?c ?k; (case a => k_is); (case l => k_is); (case c => k_is); (case k => k_is)))
    (case f_psh => (refine' Pr.ge_mk KX G ?a ?l ?c ?k; (case a => k_is); (case l => k_is); (case c => k_is); (case k => k_is)))
    (case f_goo => (refine' Pr.ge_mk KX G ?a ?l ?c ?k; (case a => k_is); (case l => k_is); (case c => k_is); (case k => k_is)))
    (case f_n9 => (refine' Pr.ge_mk KX G ?a ?l ?c ?k; (case a => k_is); (case l => k_is); (case c => k_is); (case k => k_is)))
    (case f_rfI => (refine' Pr.fe_mk ?a ?l ?i ?t ?c ?k; (case a => k_is); (case l => k_is); (case i => k_is); (case t => k_is); (case c => k_is); (case k => k_is)))
    (case f_wan => (refine' Pr.ge_mk KX G ?a ?l ?c ?k; (case a => k_is); (case l => k_is); (case c => k_is); (case k => k_is)))
    (case f_bit => (refine' Pr.ge_mk KX G ?a ?l ?c ?k; (case a => k_is); (case l => k_is); (case c => k_is); (case k => k_is)))
    (case f_raI => (refine' Pr.fe_mk ?a ?l ?i ?t ?c ?k; (case a => k_is); (case l => k_is); (case i => k_is); (case t => k_is); (case c => k_is); (case k => k_is)))
    (case f_ovr => (refine' Pr.fe_mk ?a ?l ?i ?t ?c ?k; (case a => k_is); (case l => k_is); (case i => k_is); (case t => k_is); (case c => k_is); (case k => k_is)))
    (case f_rwn => (refine' Pr.fe_mk ?a ?l ?i ?t ?c ?k; (case a => k_is); (case l => k_is); (case i => k_is); (case t => k_is); (case c => k_is); (case k => k_is)))
    (case f_sta => (refine' Pr.fe_mk ?a ?l ?i ?t ?c ?k; (case a => k_is); (case l => k_is); (case i => k_is); (case t => k_is); (case c => k_is); (case k => k_is)))
    (case f_dkI => (refine' Pr.fe_mk ?a ?l ?i ?t ?c ?k; (case a => k_is); (case l => k_is); (case i => k_is); (case t => k_is); (case c => k_is); (case k => k_is)))
    (case f_beg => (refine' Pr.fe_mk ?a ?l ?i ?t ?c ?k; (case a => k_is); (case l => k_is); (case i => k_is); (case t => k_is); (case c => k_is); (case k => k_is)))
    (case f_goi => (refine' Pr.fe_mk ?a ?l ?i ?t ?c ?k; (case a => k_is); (case l => k_is); (case i => k_is); (case t => k_is); (case c => k_is); (case k => k_is)))
    (case f_wsh => (refine' Pr.fe_mk ?a ?l ?i ?t ?c ?k; (case a => k_is); (case l => k_is); (case i => k_is); (case t => k_is); (case c => k_is); (case k => k_is)))
    (case f_sho => (refine' Pr.fe_mk ?a ?l ?i ?t ?c ?k; (case a => k_is); (case l => k_is); (case i => k_is); (case t => k_is); (case c => k_is); (case k => k_is)))
    (case f_cho => (refine' Pr.fe_mk ?a ?l ?i ?t ?c ?k; (case a => k_is); (case l => k_is); (case i => k_is); (case t => k_is); (case c => k_is); (case k => k_is)))
    (case f_onn => (refine' Pr.fe_mk ?a ?l ?i ?t ?c ?k; (case a => k_is); (case l => k_is); (case i => k_is); (case t => k_is); (case c => k_is); (case k => k_is)))
    (case f_now => (refine' Pr.fe_mk ?a ?l ?i ?t ?c ?k; (case a => k_is); (case l => k_is); (case i => k_is); (case t => k_is); (case c => k_is); (case k => k_is)))
    (case f_tbn => (refine' Pr.fe_mk ?a ?l ?i ?t ?c ?k; (case a => k_is); (case l => k_is); (case i => k_is); (case t => k_is); (case c => k_is); (case k => k_is)))
    (case f_cal => (refine' Pr.ge_mk KX G ?a ?l ?c ?k; (case a => k_is); (case l => k_is); (case c => k_is); (case k => k_is)))
    (case f_an1 => (refine' Pr.ge_mk KX G ?a ?l ?c ?k; (case a => k_is); (case l => k_is); (case c => k_is); (case k => k_is)))
    (case f_ans => (refine' Pr.ge_mk KX G ?a ?l ?c ?k; (case a => k_is); (case l => k_is); (case c => k_is); (case k => k_is)))
  case S =>
    intro K H xs a hO hwi hask hx
    cases hx with
    | cons h1 h2 =>
      cases h2
      cases h1 with
      | lst hs ha =>
        have e := L2.ints_dw a.1 _ ha
        subst e
        have q : ((Codec.inLen 0 5800 a.1 && a.1.all (Codec.inInt (Int.negSucc 2147483647) (Int.ofNat 2147483647))) && true) = true := hwi
        rw [Bool.and_eq_true, Bool.and_eq_true] at q
        exact ⟨_, a.1, rfl, hs, (Codec.inNat_iff.mp q.1.1).2, hask, fun H' p hp => .lst (L2.SqL.of hp) (L2.dw_ints _)⟩
#print axioms PySem.Challenge.cw_poolreferee_s01_answers_holds
