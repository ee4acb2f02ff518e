import PyProof.Rows.All
import HandS.Base
import HandS.Call
import HandS.Words
import PySem.Challenge.RW_pieceyard_k55_whole_lines_together
import HandS.ForMost
import HandS.Deep
import HandS.Defaults
import HandS.Walk
import HandS.TupSets
import KE.SortData
import KE.KeyNested
import KE.KDictKeyed
import HandS.WordsDict
import HandS.Iter
import HandS.More
import Wide.All
import OpenK.AllK
import Wide.FinOn
import KE.KStateDown
import Lean
import HandS.Ends
import HandS.WordsExc
import HandS.Head0
import HandS.Head1
import HandS.Head2
import HandS.HeadEnd
import HandS.HeadHook1
import HandS.HeadHook2
/-! Plain mathematics of the given program: positions, moves, verdicts, lines, trees. No program in sight. -/
set_option autoImplicit false
namespace PY
abbrev Cell := Int × Int
abbrev Step := Int × Int
abbrev Move := Cell × Cell

section
variable {κ : Type} [DecidableEq κ]

/-- cell, side, kind -/
abbrev Piece (κ : Type) := Cell × Int × κ
abbrev PPos (κ : Type) := Int × List (Piece κ)
/-- a way: leap or ride, the step, how often -/
abbrev Way := Bool × Step × Int
/-- leaps, rides, crown -/
abbrev Kind := List Step × List Step × Int

structure Yd (κ : Type) where
  h : Int
  w : Int
  holes : List Cell
  kinds : List (κ × Kind)
  g0 : List Cell
  g1 : List Cell
  lost : Bool

def onBoard (Y : Yd κ) (c : Cell) : Bool := (decide (0 ≤ c.1) && decide (c.1 < Y.h)) && (decide (0 ≤ c.2) && decide (c.2 < Y.w))
def isFree (Y : Yd κ) (c : Cell) : Bool := onBoard Y c && !decide (c ∈ Y.holes)
def kindAt (Y : Yd κ) (k : κ) : Kind := (Y.kinds.lookup k).getD ([], [], 0)
def goals (Y : Yd κ) (s : Int) : List Cell := if s = 0 then Y.g0 else Y.g1
def crowns (Y : Yd κ) (ps : List (Piece κ)) (s : Int) : List Cell :=
  (ps.filter fun p => decide (p.2.1 = s) && decide ((kindAt Y p.2.2).2.2 = 1)).map (·.1)
def pieceAt : List (Piece κ) → Cell → Option (Int × κ)
  | [], _ => none
  | p :: ps, c => if p.1 = c then some p.2 else pieceAt ps c
def turnedStep (st : Step) (s : Int) : Step := if s = 0 then st else (0 - st.1, 0 - st.2)
def gone (c : Cell) (st : Step) (n : Int) : Cell := (c.1 + n * st.1, c.2 + n * st.2)
def mayEnd (Y : Yd κ) (ps : List (Piece κ)) (s : Int) (c : Cell) : Bool :=
  isFree Y c && (match pieceAt ps c with
    | none => true
    | some p => !decide (p.1 = s))
/-- the counts from n on -/
def rideFrom (Y : Yd κ) (ps : List (Piece κ)) (s : Int) (c : Cell) (st : Step) : Nat → Int → List Int
  | 0, _ => []
  | f + 1, n => if mayEnd Y ps s (gone c st n) then n :: (if (pieceAt ps (gone c st n)).isSome then [] else rideFrom Y ps s c st f (n + 1)) else []
def ride (Y : Yd κ) (ps : List (Piece κ)) (s : Int) (c : Cell) (st : Step) : List Int := rideFrom Y ps s c st 6 1
def leapsOf (Y : Yd κ) (ps : List (Piece κ)) (s : Int) (c : Cell) (l : List Step) : List (Cell × Way) :=
  l.flatMap fun st => if mayEnd Y ps s (gone c (turnedStep st s) 1) then [(gone c (turnedStep st s) 1, (true, turnedStep st s, 1))] else []
def ridesOf (Y : Yd κ) (ps : List (Piece κ)) (s : Int) (c : Cell) (l : List Step) : List (Cell × Way) :=
  l.flatMap fun st => (ride Y ps s c (turnedStep st s)).map fun n => (gone c (turnedStep st s) n, (false, turnedStep st s, n))
def waysOf (Y : Yd κ) (ps : List (Piece κ)) (p : Piece κ) : List (Cell × Way) :=
  leapsOf Y ps p.2.1 p.1 (kindAt Y p.2.2).1 ++ ridesOf Y ps p.2.1 p.1 (kindAt Y p.2.2).2.1
def pieceWays (Y : Yd κ) (ps : List (Piece κ)) (p : Piece κ) : List (Move × Way) := (waysOf Y ps p).map fun x => ((p.1, x.1), x.2)
def waysFrom (Y : Yd κ) (t : Int) (ps : List (Piece κ)) (qs : List (Piece κ)) : List (Move × Way) :=
  qs.flatMap fun p => if p.2.1 = t then pieceWays Y ps p else []
def allWays (Y : Yd κ) (p : PPos κ) : List (Move × Way) := waysFrom Y p.1 p.2 p.2

/-- a verdict: a side, drawn, or none -/
inductive Vd where
  | won (s : Int)
  | drawn
  | open_
  deriving DecidableEq

def onGoal (Y : Yd κ) (ps : List (Piece κ)) (s : Int) : Bool := (crowns Y ps s).any fun c => decide (c ∈ goals Y s)
def verdict (Y : Yd κ) (p : PPos κ) : Vd :=
  if crowns Y p.2 0 = [] then .won 1
  else if crowns Y p.2 1 = [] then .won 0
  else if onGoal Y p.2 (1 - p.1) then .won (1 - p.1)
  else if onGoal Y p.2 p.1 then .won p.1
  else if allWays Y p = [] then (if Y.lost then .won (1 - p.1) else .drawn)
  else .open_

def cellLt (a b : Cell) : Prop := a.1 < b.1 ∨ (a.1 = b.1 ∧ a.2 < b.2)
instance (a b : Cell) : Decidable (cellLt a b) := by unfold cellLt; infer_instance
def moveLt (a b : Move) : Prop := cellLt a.1 b.1 ∨ (a.1 = b.1 ∧ cellLt a.2 b.2)
instance (a b : Move) : Decidable (moveLt a b) := by unfold moveLt; infer_instance
theorem cellLt_irrefl (a : Cell) : ¬ cellLt a a := by unfold cellLt; omega
theorem cellLt_trans {a b c : Cell} (h : cellLt a b) (k : cellLt b c) : cellLt a c := by unfold cellLt at *; omega
theorem cellLt_tri (a b : Cell) : cellLt a b ∨ a = b ∨ cellLt b a := by
  obtain ⟨a1, a2⟩ := a
  obtain ⟨b1, b2⟩ := b
  unfold cellLt
  simp only [Prod.mk.injEq]
  omega
theorem moveLt_irrefl (a : Move) : ¬ moveLt a a := by
  unfold moveLt
  rintro (h | ⟨_, h⟩) <;> exact cellLt_irrefl _ h
theorem moveLt_trans {a b c : Move} (h : moveLt a b) (k : moveLt b c) : moveLt a c := by
  unfold moveLt at *
  rcases h with h | ⟨e, h⟩ <;> rcases k with k | ⟨e', k⟩
  · exact .inl (cellLt_trans h k)
  · rw [← e']; exact .inl h
  · rw [e]; exact .inl k
  · exact .inr ⟨e.trans e', cellLt_trans h k⟩
theorem moveLt_tri (a b : Move) : moveLt a b ∨ a = b ∨ moveLt b a := by
  obtain ⟨a1, a2⟩ := a
  obtain ⟨b1, b2⟩ := b
  unfold moveLt
  simp only [Prod.mk.injEq]
  rcases cellLt_tri a1 b1 with h | h | h
  · exact .inl (.inl h)
  · rcases cellLt_tri a2 b2 with k | k | k
    · exact .inl (.inr ⟨h, k⟩)
    · exact .inr (.inl ⟨h, k⟩)
    · exact .inr (.inr (.inr ⟨h.symm, k⟩))
  · exact .inr (.inr (.inl h))

/-! ### rising lists -/
section
variable {α : Type} (lt : α → α → Prop) [DecidableRel lt] [DecidableEq α]
/-- put in, if it isn't there -/
def put (x : α) : List α → List α
  | [] => [x]
  | y :: r => if lt x y then x :: y :: r else if x = y then y :: r else y :: put x r
def rise : List α → List α
  | [] => []
  | x :: r => put lt x (rise r)
variable {lt}
theorem mem_put (x z : α) : ∀ l : List α, z ∈ put lt x l ↔ z = x ∨ z ∈ l
  | [] => by simp [put]
  | y :: r => by
    unfold put
    by_cases h1 : lt x y
    · rw [if_pos h1]; simp
    · rw [if_neg h1]
      by_cases h2 : x = y
      · rw [if_pos h2]; subst h2; simp
      · rw [if_neg h2, List.mem_cons, mem_put x z r, List.mem_cons]
        constructor
        · rintro (h | h | h)
          · exact .inr (.inl h)
          · exact .inl h
          · exact .inr (.inr h)
        · rintro (h | h | h)
          · exact .inr (.inl h)
          · exact .inl h
          · exact .inr (.inr h)
theorem mem_rise (z : α) : ∀ l : List α, z ∈ rise lt l ↔ z ∈ l
  | [] => Iff.rfl
  | x :: r => by
    unfold rise
    rw [mem_put, mem_rise z r, List.mem_cons]
theorem put_rising (tr : ∀ {a b c : α}, lt a b → lt b c → lt a c) (tri : ∀ a b : α, lt a b ∨ a = b ∨ lt b a) (x : α) : ∀ l : List α, l.Pairwise lt → (put lt x l).Pairwise lt
  | [], _ => List.pairwise_singleton _ _
  | y :: r, h => by
    obtain ⟨h1, h2⟩ := List.pairwise_cons.mp h
    unfold put
    by_cases c1 : lt x y
    · rw [if_pos c1]
      refine List.pairwise_cons.mpr ⟨fun z hz => ?_, h⟩
      rcases List.mem_cons.mp hz with e | hz
      · rw [e]; exact c1
      · exact tr c1 (h1 z hz)
    · rw [if_neg c1]
      by_cases c2 : x = y
      · rw [if_pos c2]; exact h
      · rw [if_neg c2]
        refine List.pairwise_cons.mpr ⟨fun z hz => ?_, put_rising tr tri x r h2⟩
        rcases (mem_put x z r).mp hz with e | hz
        · rw [e]
          rcases tri x y with q | q | q
          · exact absurd q c1
          · exact absurd q c2
          · exact q
        · exact h1 z hz
theorem rise_rising (tr : ∀ {a b c : α}, lt a b → lt b c → lt a c) (tri : ∀ a b : α, lt a b ∨ a = b ∨ lt b a) : ∀ l : List α, (rise lt l).Pairwise lt
  | [] => List.Pairwise.nil
  | x :: r => put_rising (lt := lt) tr tri x (rise lt r) (rise_rising tr tri r)
/-- two rising lists of the same members are one -/
theorem rising_one (ir : ∀ a : α, ¬ lt a a) (tr : ∀ {a b c : α}, lt a b → lt b c → lt a c) : ∀ {l m : List α}, l.Pairwise lt → m.Pairwise lt → (∀ z, z ∈ l ↔ z ∈ m) → l = m
  | [], [], _, _, _ => rfl
  | [], y :: m, _, _, h => absurd ((h y).mpr List.mem_cons_self) (by simp)
  | x :: l, [], _, _, h => absurd ((h x).mp List.mem_cons_self) (by simp)
  | x :: l, y :: m, hl, hm, h => by
    obtain ⟨l1, l2⟩ := List.pairwise_cons.mp hl
    obtain ⟨m1, m2⟩ := List.pairwise_cons.mp hm
    have e : x = y := by
      rcases List.mem_cons.mp ((h x).mp List.mem_cons_self) with q | q
      · exact q
      · rcases List.mem_cons.mp ((h y).mpr List.mem_cons_self) with q' | q'
        · exact q'.symm
        · exact absurd (tr (m1 x q) (l1 y q')) (ir y)
    subst e
    have : l = m := rising_one ir tr l2 m2 fun z => by
      have hz := h z
      rw [List.mem_cons, List.mem_cons] at hz
      constructor
      · intro q
        rcases hz.mp (.inr q) with e | e
        · rw [e] at q; exact absurd (l1 x q) (ir x)
        · exact e
      · intro q
        rcases hz.mpr (.inr q) with e | e
        · rw [e] at q; exact absurd (m1 x q) (ir x)
        · exact e
    rw [this]
theorem rising_nodup (ir : ∀ a : α, ¬ lt a a) {l : List α} (h : l.Pairwise lt) : l.Nodup := by
  refine List.Pairwise.imp (fun {a b} q => ?_) h
  intro e
  subst e
  exact ir a q
end
theorem nodup_len {α : Type} [DecidableEq α] : ∀ (l D : List α), l.Nodup → (∀ x ∈ l, x ∈ D) → l.length ≤ D.length
  | [], _, _, _ => Nat.zero_le _
  | x :: r, D, hn, hs => by
    obtain ⟨h1, h2⟩ := List.nodup_cons.mp hn
    have hx : x ∈ D := hs x List.mem_cons_self
    have ih := nodup_len r (D.erase x) h2 fun y hy => by
      have hne : y ≠ x := fun e => h1 (e ▸ hy)
      exact (List.mem_erase_of_ne hne).mpr (hs y (List.mem_cons_of_mem _ hy))
    have hl := List.length_erase_of_mem hx
    have hp : 0 < D.length := List.length_pos_of_mem hx
    simp only [List.length_cons]
    omega

def moves (Y : Yd κ) (p : PPos κ) : List Move := if verdict Y p = .open_ then rise moveLt ((allWays Y p).map (·.1)) else []
/-- pieces behind a move, as they are met -/
def moved (m : Move) (ps : List (Piece κ)) : List (Piece κ) :=
  ps.flatMap fun p => if p.1 = m.1 then [(m.2, p.2)] else if p.1 = m.2 then [] else [p]
/-- pieces by their cells -/
def pieceLt (a b : Piece κ) : Prop := cellLt a.1 b.1
instance (a b : Piece κ) : Decidable (pieceLt a b) := by unfold pieceLt; infer_instance
def pput (x : Piece κ) : List (Piece κ) → List (Piece κ)
  | [] => [x]
  | y :: r => if pieceLt x y then x :: y :: r else y :: pput x r
def psort : List (Piece κ) → List (Piece κ)
  | [] => []
  | x :: r => pput x (psort r)
def after (p : PPos κ) (m : Move) : PPos κ := (1 - p.1, psort (moved m p.2))
def linesOf (Y : Yd κ) : Nat → PPos κ → List (List Move)
  | 0, _ => [[]]
  | n + 1, p => (moves Y p).flatMap fun m => (linesOf Y n (after p m)).map fun l => m :: l
def endOf (p : PPos κ) (l : List Move) : PPos κ := l.foldl after p
def wins (Y : Yd κ) (s : Int) : Nat → PPos κ → Bool
  | 0, p => decide (verdict Y p = .won s)
  | n + 1, p => if verdict Y p = .open_ then (if p.1 = s then (moves Y p).any fun m => wins Y s n (after p m) else (moves Y p).all fun m => wins Y s n (after p m))
    else decide (verdict Y p = .won s)
inductive Tr where
  | won
  | mv (m : Move) (t : Tr)
  | all (rows : List (Move × Tr))
def winBy (Y : Yd κ) (s : Int) : Nat → PPos κ → Tr
  | 0, _ => .won
  | n + 1, p => if verdict Y p = .open_ then
      (if p.1 = s then (match (moves Y p).find? fun m => wins Y s n (after p m) with
        | some m => .mv m (winBy Y s n (after p m))
        | none => .all ((moves Y p).map fun m => (m, winBy Y s n (after p m))))
      else .all ((moves Y p).map fun m => (m, winBy Y s n (after p m))))
    else .won
mutual
def Tr.depth : Tr → Nat
  | .won => 0
  | .mv _ t => 1 + t.depth
  | .all rows => 1 + depthRows rows
def depthRows : List (Move × Tr) → Nat
  | [] => 0
  | r :: rs => max r.2.depth (depthRows rs)
end
end
end PY
set_option Elab.async false
set_option maxRecDepth 100000
/-! Where the given defs stand in the linked text. -/
namespace PY
open PySem L2
abbrev prog : Program := PySem.Challenge.pw_pieceyard_k55_whole_lines_together
def top (i : Nat) : Stmt := PySem.Challenge.pw_pieceyard_k55_whole_lines_together.main.body.getD i (.Pass ⟨0, 0, 0, 0⟩)
abbrev s_is_piece : Stmt := top 11
abbrev s_crowns : Stmt := top 12
abbrev s_is_position : Stmt := top 13
abbrev s_check_position : Stmt := top 14
abbrev s_piece_at : Stmt := top 15
abbrev s_turned_step : Stmt := top 17
abbrev s_gone : Stmt := top 18
abbrev s_may_end : Stmt := top 19
abbrev s_ride : Stmt := top 20
abbrev s_ways_of : Stmt := top 21
abbrev s_all_ways : Stmt := top 22
abbrev s_on_goal : Stmt := top 24
abbrev s_verdict_of : Stmt := top 25
abbrev s_verdict : Stmt := top 26
abbrev s_moves_of : Stmt := top 28
abbrev s_check_move : Stmt := top 29
abbrev s_after_of : Stmt := top 30
abbrev s_after : Stmt := top 31
abbrev s_walked : Stmt := top 34
abbrev s_check_many : Stmt := top 35
abbrev s_lines_of : Stmt := top 36
abbrev s_lines : Stmt := top 37
abbrev s_check_asked : Stmt := top 42
abbrev s_wins : Stmt := top 43
abbrev s_win_by : Stmt := top 44
abbrev s_win_tree : Stmt := top 45
abbrev s_is_tree : Stmt := top 46
abbrev s_depth_of : Stmt := top 47
abbrev s_check_either : Stmt := top 48
abbrev s_depth : Stmt := top 49
abbrev s_end_of : Stmt := top 51
abbrev s_together : Stmt := top 52
abbrev s_rising : Stmt := top 58
abbrev s_is_step : Stmt := top 59
abbrev s_is_kind : Stmt := top 60
abbrev s_law_cell : Stmt := top 63
abbrev s_law_begin : Stmt := top 64
abbrev s_law_take : Stmt := top 65
abbrev s_law_steps : Stmt := top 66
abbrev s_law_kind : Stmt := top 67
abbrev s_law_some_cells : Stmt := top 68
abbrev s_law_parts : Stmt := top 69
abbrev s_law_yard : Stmt := top 70
abbrev s_law_position : Stmt := top 71
abbrev s_law_race : Stmt := top 78
abbrev s_law_ends : Stmt := top 79
abbrev s_law : Stmt := top 80
abbrev s_Yard_init : Stmt := inClass (top 61) 0
abbrev s_Yard_on_board : Stmt := inClass (top 61) 1
abbrev s_Yard_is_free : Stmt := inClass (top 61) 2
end PY
set_option Elab.async false
set_option autoImplicit false
set_option maxRecDepth 100000
set_option maxHeartbeats 2000000
/-! Data in the abstract heap: what a value stands for, where its lists stand. -/
namespace PY
open PySem L2

/-! ### heaps that grow -/
theorem same_new {H : Hp} {p : Addr} {o : HO} (h : H p = none) : Same H (upd H p o) := fun b x e => by
  rw [upd_ne (ne_of_none e h)]
  exact e
/-- a new object may be changed -/
theorem Same.over {H0 H : Hp} {p : Addr} {o : HO} (s : Same H0 H) (h : H0 p = none) : Same H0 (upd H p o) := fun b x e => by
  rw [upd_ne (ne_of_none e h)]
  exact s b x e

/-- all but what stands at l is kept -/
def But (l : Addr) (H H' : Hp) : Prop := ∀ b o, b ≠ l → H b = some o → H' b = some o
theorem But.refl (l : Addr) (H : Hp) : But l H H := fun _ _ _ e => e
theorem But.trans {l : Addr} {H H1 H2 : Hp} (a : But l H H1) (b : But l H1 H2) : But l H H2 := fun c o n e => b c o n (a c o n e)
theorem But.of {l : Addr} {H H' : Hp} (s : Same H H') : But l H H' := fun b o _ e => s b o e
theorem But.upd {l : Addr} {H : Hp} {o : HO} : But l H (upd H l o) := fun b x n e => by rw [upd_ne n]; exact e
theorem But.same {l : Addr} {H0 H H' : Hp} (a : But l H H') (s : Same H0 H) (n : H0 l = none) : Same H0 H' := fun b o e => a b o (fun z => by rw [z, n] at e; cases e) (s b o e)

/-! ### data -/
mutual
/-- the value stands for the data; each list in it stands at an address of which N is true -/
inductive Dv (N : Addr → Prop) (H : Hp) : V → PyData → Prop
  | non : Dv N H .non .none
  | bl (b : Bool) : Dv N H (.bl b) (.bool b)
  | int (i : Int) : Dv N H (.int i) (.int i)
  | str (x : Str) : Dv N H (.str x) (.str x)
  | lst {a : Addr} {xs : List V} {ds : List PyData} : H a = some (.lst xs) → N a → Da N H xs ds → Dv N H (.ref a) (.list ds)
  | tup {a : Addr} {xs : List V} {ds : List PyData} : H a = some (.tup xs) → Da N H xs ds → Dv N H (.ref a) (.tuple ds)
inductive Da (N : Addr → Prop) (H : Hp) : List V → List PyData → Prop
  | nil : Da N H [] []
  | cons {v : V} {vs : List V} {d : PyData} {ds : List PyData} : Dv N H v d → Da N H vs ds → Da N H (v :: vs) (d :: ds)
end
abbrev All_ : Addr → Prop := fun _ => True
abbrev Free (H : Hp) : Addr → Prop := fun a => H a = none

section
variable {N N' : Addr → Prop} {H H' : Hp}
mutual
/-- what a data leans on: its tuples, its lists -/
theorem Dv.go (ht : ∀ a xs, H a = some (.tup xs) → H' a = some (.tup xs)) (hl : ∀ a xs, N a → H a = some (.lst xs) → H' a = some (.lst xs) ∧ N' a) : ∀ (d : PyData) (v : V), Dv N H v d → Dv N' H' v d
  | .none, _, h => by cases h; exact .non
  | .bool b, _, h => by cases h; exact .bl b
  | .int i, _, h => by cases h; exact .int i
  | .str x, _, h => by cases h; exact .str x
  | .list ds, _, h => by
    cases h with
    | lst h1 h2 h3 => exact .lst (hl _ _ h2 h1).1 (hl _ _ h2 h1).2 (Da.go ht hl ds _ h3)
  | .tuple ds, _, h => by
    cases h with
    | tup h1 h3 => exact .tup (ht _ _ h1) (Da.go ht hl ds _ h3)
  | .dict _, _, h => by cases h
theorem Da.go (ht : ∀ a xs, H a = some (.tup xs) → H' a = some (.tup xs)) (hl : ∀ a xs, N a → H a = some (.lst xs) → H' a = some (.lst xs) ∧ N' a) : ∀ (ds : List PyData) (vs : List V), Da N H vs ds → Da N' H' vs ds
  | [], _, h => by cases h; exact .nil
  | d :: ds, _, h => by
    cases h with
    | cons h1 h2 => exact .cons (Dv.go ht hl d _ h1) (Da.go ht hl ds _ h2)
end
theorem Dv.mono {v : V} {d : PyData} (h : Dv N H v d) (s : Same H H') (n : ∀ a, N a → N' a) : Dv N' H' v d := Dv.go (fun _ _ e => s _ _ e) (fun a _ hn e => ⟨s _ _ e, n a hn⟩) d v h
theorem Da.mono {v : List V} {d : List PyData} (h : Da N H v d) (s : Same H H') (n : ∀ a, N a → N' a) : Da N' H' v d := Da.go (fun _ _ e => s _ _ e) (fun a _ hn e => ⟨s _ _ e, n a hn⟩) d v h
theorem Dv.keep {v : V} {d : PyData} (h : Dv N H v d) (s : Same H H') : Dv N H' v d := h.mono s fun _ z => z
theorem Da.keep {v : List V} {d : List PyData} (h : Da N H v d) (s : Same H H') : Da N H' v d := h.mono s fun _ z => z
theorem Dv.any {v : V} {d : PyData} (h : Dv N H v d) : Dv All_ H v d := h.mono (Same.refl H) fun _ _ => trivial
theorem Da.any {v : List V} {d : List PyData} (h : Da N H v d) : Da All_ H v d := h.mono (Same.refl H) fun _ _ => trivial
/-- a list that isn't the data's is changed -/
theorem Dv.over {v : V} {d : PyData} {l : Addr} {xs ys : List V} (h : Dv N H v d) (hl : H l = some (.lst xs)) (nl : ¬ N l) : Dv N (upd H l (.lst ys)) v d :=
  Dv.go (fun a zs e => by rw [upd_ne (ne_of e hl (by intro q; cases q))]; exact e) (fun a zs hn e => ⟨by rw [upd_ne (show a ≠ l from fun q => nl (by rw [← q]; exact hn))]; exact e, hn⟩) d v h
theorem Da.over {v : List V} {d : List PyData} {l : Addr} {xs ys : List V} (h : Da N H v d) (hl : H l = some (.lst xs)) (nl : ¬ N l) : Da N (upd H l (.lst ys)) v d :=
  Da.go (fun a zs e => by rw [upd_ne (ne_of e hl (by intro q; cases q))]; exact e) (fun a zs hn e => ⟨by rw [upd_ne (show a ≠ l from fun q => nl (by rw [← q]; exact hn))]; exact e, hn⟩) d v h
theorem Dv.but {v : V} {d : PyData} {l : Addr} {xs : List V} (h : Dv N H v d) (b : But l H H') (hl : H l = some (.lst xs)) (nl : ¬ N l) : Dv N H' v d :=
  Dv.go (fun a zs e => b a _ (ne_of e hl (by intro q; cases q)) e) (fun a zs hn e => ⟨b a _ (show a ≠ l from fun q => nl (by rw [← q]; exact hn)) e, hn⟩) d v h
theorem Da.but {v : List V} {d : List PyData} {l : Addr} {xs : List V} (h : Da N H v d) (b : But l H H') (hl : H l = some (.lst xs)) (nl : ¬ N l) : Da N H' v d :=
  Da.go (fun a zs e => b a _ (ne_of e hl (by intro q; cases q)) e) (fun a zs hn e => ⟨b a _ (show a ≠ l from fun q => nl (by rw [← q]; exact hn)) e, hn⟩) d v h
mutual
/-- what stands already is not at a free address -/
theorem Dv.apart : ∀ (d : PyData) (v : V), Dv N H v d → Dv (fun a => N a ∧ H a ≠ none) H v d
  | .none, _, h => by cases h; exact .non
  | .bool b, _, h => by cases h; exact .bl b
  | .int i, _, h => by cases h; exact .int i
  | .str x, _, h => by cases h; exact .str x
  | .list ds, _, h => by
    cases h with
    | lst h1 h2 h3 => exact .lst h1 ⟨h2, by rw [h1]; exact fun q => nomatch q⟩ (Da.apart ds _ h3)
  | .tuple ds, _, h => by
    cases h with
    | tup h1 h3 => exact .tup h1 (Da.apart ds _ h3)
  | .dict _, _, h => by cases h
theorem Da.apart : ∀ (ds : List PyData) (vs : List V), Da N H vs ds → Da (fun a => N a ∧ H a ≠ none) H vs ds
  | [], _, h => by cases h; exact .nil
  | d :: ds, _, h => by
    cases h with
    | cons h1 h2 => exact .cons (Dv.apart d _ h1) (Da.apart ds _ h2)
end
/-- no list within -/
inductive NoL : PyData → Prop
  | non : NoL .none
  | bl (b : Bool) : NoL (.bool b)
  | int (i : Int) : NoL (.int i)
  | str (x : Str) : NoL (.str x)
  | tup {ds : List PyData} : (∀ d ∈ ds, NoL d) → NoL (.tuple ds)
mutual
theorem Dv.noL : ∀ (d : PyData) (v : V), NoL d → Dv N H v d → Dv N' H v d
  | .none, _, _, h => by cases h; exact .non
  | .bool b, _, _, h => by cases h; exact .bl b
  | .int i, _, _, h => by cases h; exact .int i
  | .str x, _, _, h => by cases h; exact .str x
  | .list ds, _, n, _ => by cases n
  | .tuple ds, _, n, h => by
    cases h with
    | tup h1 h3 =>
      cases n with
      | tup n => exact .tup h1 (Da.noL ds _ n h3)
  | .dict _, _, _, h => by cases h
theorem Da.noL : ∀ (ds : List PyData) (vs : List V), (∀ d ∈ ds, NoL d) → Da N H vs ds → Da N' H vs ds
  | [], _, _, h => by cases h; exact .nil
  | d :: ds, _, n, h => by
    cases h with
    | cons h1 h2 => exact .cons (Dv.noL d _ (n d List.mem_cons_self) h1) (Da.noL ds _ (fun x hx => n x (List.mem_cons_of_mem _ hx)) h2)
end
mutual
theorem Dv.dp {K : PySem.W.Frag} : ∀ (d : PyData) (v : V), Dv N H v d → Dp K H v d
  | .none, _, h => by cases h; exact .non
  | .bool b, _, h => by cases h; exact .bl b
  | .int i, _, h => by cases h; exact .int i
  | .str x, _, h => by cases h; exact .str x
  | .list ds, _, h => by
    cases h with
    | lst h1 h2 h3 => exact .lst (SqL.of h1) (Da.dp ds _ h3)
  | .tuple ds, _, h => by
    cases h with
    | tup h1 h3 => exact .tup (SqT.of h1) (Da.dp ds _ h3)
  | .dict _, _, h => by cases h
theorem Da.dp {K : PySem.W.Frag} : ∀ (ds : List PyData) (vs : List V), Da N H vs ds → DpAll K H vs ds
  | [], _, h => by cases h; exact .nil
  | d :: ds, _, h => by
    cases h with
    | cons h1 h2 => exact .cons (Dv.dp d _ h1) (Da.dp ds _ h2)
end
/-! ### lists of data -/
theorem Da.length : ∀ {vs : List V} {ds : List PyData}, Da N H vs ds → vs.length = ds.length
  | [], _, h => by cases h; rfl
  | v :: vs, _, h => by
    cases h with
    | cons h1 h2 => simp [Da.length h2]
theorem Da.append : ∀ {vs ws : List V} {ds es : List PyData}, Da N H vs ds → Da N H ws es → Da N H (vs ++ ws) (ds ++ es)
  | [], _, _, _, h, k => by cases h; exact k
  | v :: vs, _, _, _, h, k => by
    cases h with
    | cons h1 h2 => exact .cons h1 (Da.append h2 k)
theorem Da.snoc {vs : List V} {ds : List PyData} {v : V} {d : PyData} (h : Da N H vs ds) (k : Dv N H v d) : Da N H (vs ++ [v]) (ds ++ [d]) := h.append (.cons k .nil)
theorem Da.get : ∀ {vs : List V} {ds : List PyData} {i : Nat} {v : V}, Da N H vs ds → vs[i]? = some v → ∃ d, ds[i]? = some d ∧ Dv N H v d
  | [], _, _, _, h, e => by simp at e
  | w :: vs, _, 0, v, h, e => by
    cases h with
    | cons h1 h2 =>
      simp at e
      subst e
      exact ⟨_, rfl, h1⟩
  | w :: vs, _, i + 1, v, h, e => by
    cases h with
    | cons h1 h2 =>
      obtain ⟨d, e1, e2⟩ := Da.get (i := i) (v := v) h2 (by simpa using e)
      exact ⟨d, by simpa using e1, e2⟩
theorem Da.at : ∀ {vs : List V} {ds : List PyData} {i : Nat} {d : PyData}, Da N H vs ds → ds[i]? = some d → ∃ v, vs[i]? = some v ∧ Dv N H v d
  | [], _, _, _, h, e => by cases h; simp at e
  | w :: vs, _, 0, d, h, e => by
    cases h with
    | cons h1 h2 =>
      simp at e
      subst e
      exact ⟨_, rfl, h1⟩
  | w :: vs, _, i + 1, d, h, e => by
    cases h with
    | cons h1 h2 =>
      obtain ⟨v, e1, e2⟩ := Da.at (i := i) (d := d) h2 (by simpa using e)
      exact ⟨v, by simpa using e1, e2⟩
theorem Da.erase : ∀ {vs : List V} {ds : List PyData} (i : Nat), Da N H vs ds → Da N H (vs.eraseIdx i) (ds.eraseIdx i)
  | [], _, _, h => by cases h; exact .nil
  | v :: vs, _, 0, h => by
    cases h with
    | cons h1 h2 => exact h2
  | v :: vs, _, i + 1, h => by
    cases h with
    | cons h1 h2 => exact .cons h1 (Da.erase i h2)
theorem Da.drop : ∀ {vs : List V} {ds : List PyData} (i : Nat), Da N H vs ds → Da N H (vs.drop i) (ds.drop i)
  | _, _, 0, h => h
  | [], _, i + 1, h => by cases h; exact .nil
  | v :: vs, _, i + 1, h => by
    cases h with
    | cons h1 h2 => exact Da.drop i h2
theorem Da.take : ∀ {vs : List V} {ds : List PyData} (i : Nat), Da N H vs ds → Da N H (vs.take i) (ds.take i)
  | _, _, 0, h => .nil
  | [], _, i + 1, h => by cases h; exact .nil
  | v :: vs, _, i + 1, h => by
    cases h with
    | cons h1 h2 => exact .cons h1 (Da.take i h2)
theorem Da.of_mem {vs : List V} {ds : List PyData} (h : Da N H vs ds) {v : V} (hv : v ∈ vs) : ∃ d ∈ ds, Dv N H v d := by
  obtain ⟨i, hi⟩ := List.getElem?_of_mem hv
  obtain ⟨d, h1, h2⟩ := h.get hi
  exact ⟨d, List.mem_of_getElem? h1, h2⟩
/-! ### what a data's value is -/
theorem Dv.is_int {v : V} {i : Int} (h : Dv N H v (.int i)) : v = .int i := by cases h; rfl
theorem Dv.is_bl {v : V} {b : Bool} (h : Dv N H v (.bool b)) : v = .bl b := by cases h; rfl
theorem Dv.is_str {v : V} {x : Str} (h : Dv N H v (.str x)) : v = .str x := by cases h; rfl
theorem Dv.is_non {v : V} (h : Dv N H v .none) : v = .non := by cases h; rfl
theorem Dv.is_tup {v : V} {ds : List PyData} (h : Dv N H v (.tuple ds)) : ∃ a xs, v = .ref a ∧ H a = some (.tup xs) ∧ Da N H xs ds := by
  cases h with
  | tup h1 h2 => exact ⟨_, _, rfl, h1, h2⟩
theorem Dv.is_lst {v : V} {ds : List PyData} (h : Dv N H v (.list ds)) : ∃ a xs, v = .ref a ∧ H a = some (.lst xs) ∧ N a ∧ Da N H xs ds := by
  cases h with
  | lst h1 h2 h3 => exact ⟨_, _, rfl, h1, h2, h3⟩
end
end PY
set_option Elab.async false
set_option autoImplicit false
set_option linter.all false
set_option maxRecDepth 100000
/-! Cells, pieces, positions as data; a yard in the heap. -/
namespace PY
open PySem L2
abbrev Pc := Piece Str
abbrev Ps := PPos Str
abbrev Yr := Yd Str
def dCell (c : Cell) : PyData := .tuple [.int c.1, .int c.2]
def dCells (cs : List Cell) : PyData := .list (cs.map dCell)
def dPiece (p : Pc) : PyData := .tuple [dCell p.1, .int p.2.1, .str p.2.2]
def dPieces (ps : List Pc) : PyData := .tuple (ps.map dPiece)
def dPos (p : Ps) : PyData := .tuple [.int p.1, dPieces p.2]
def dMove (m : Move) : PyData := .tuple [dCell m.1, dCell m.2]
def dWay (w : Way) : PyData := .tuple [.str (if w.1 then "leap" else "ride"), dCell w.2.1, .int w.2.2]
def dSK : Option (Int × Str) → PyData
  | none => .none
  | some p => .tuple [.int p.1, .str p.2]
def dVd : Vd → PyData
  | .won s => .int s
  | .drawn => .str "drawn"
  | .open_ => .none
def dKind (k : Kind) : PyData := .tuple [dCells k.1, dCells k.2.1, .int k.2.2]
theorem noL_cell (c : Cell) : NoL (dCell c) := .tup fun d h => by
  rcases List.mem_cons.mp h with rfl | h
  · exact .int _
  · rcases List.mem_cons.mp h with rfl | h
    · exact .int _
    · cases h
theorem noL_tup2 {a b : PyData} (ha : NoL a) (hb : NoL b) : NoL (.tuple [a, b]) := .tup fun d h => by
  rcases List.mem_cons.mp h with rfl | h
  · exact ha
  · rcases List.mem_cons.mp h with rfl | h
    · exact hb
    · cases h
theorem noL_tup3 {a b c : PyData} (ha : NoL a) (hb : NoL b) (hc : NoL c) : NoL (.tuple [a, b, c]) := .tup fun d h => by
  rcases List.mem_cons.mp h with rfl | h
  · exact ha
  · rcases List.mem_cons.mp h with rfl | h
    · exact hb
    · rcases List.mem_cons.mp h with rfl | h
      · exact hc
      · cases h
theorem noL_piece (p : Pc) : NoL (dPiece p) := noL_tup3 (noL_cell _) (.int _) (.str _)
theorem noL_pieces (ps : List Pc) : NoL (dPieces ps) := .tup fun d h => by
  obtain ⟨p, _, rfl⟩ := List.mem_map.mp h
  exact noL_piece p
theorem noL_pos (p : Ps) : NoL (dPos p) := noL_tup2 (.int _) (noL_pieces _)
theorem noL_move (m : Move) : NoL (dMove m) := noL_tup2 (noL_cell _) (noL_cell _)
theorem noL_way (w : Way) : NoL (dWay w) := noL_tup3 (.str _) (noL_cell _) (.int _)
theorem noL_vd (v : Vd) : NoL (dVd v) := by
  cases v
  · exact .int _
  · exact .str _
  · exact .non
/-! ### shapes -/
theorem shaped_of {d : PyData} (h1 : d.canLay0 = true) (h2 : d.depth ≤ 64) : SeqAt.shaped d = true := by
  unfold SeqAt.shaped
  rw [h1, decide_eq_true h2]
  rfl
theorem lay_cell (c : Cell) : (dCell c).canLay0 = true := by simp [dCell, PyData.canLay0, PyData.canLayAll0]
theorem depth_cell (c : Cell) : (dCell c).depth = 1 := by simp [dCell, PyData.depth, PyData.depthAll]
theorem lay_move (m : Move) : (dMove m).canLay0 = true := by simp [dMove, PyData.canLay0, PyData.canLayAll0, lay_cell]
theorem depth_move (m : Move) : (dMove m).depth = 2 := by simp [dMove, PyData.depth, PyData.depthAll, depth_cell]
theorem layAll {α : Type} {f : α → PyData} (h : ∀ a, (f a).canLay0 = true) : ∀ l : List α, PyData.canLayAll0 (l.map f) = true
  | [] => by simp [PyData.canLayAll0]
  | a :: l => by simp [PyData.canLayAll0, h a, layAll h l]
theorem depthAll_le {α : Type} {f : α → PyData} {n : Nat} (h : ∀ a, (f a).depth ≤ n) : ∀ l : List α, PyData.depthAll (l.map f) ≤ n
  | [] => by simp [PyData.depthAll]
  | a :: l => by
    have h1 := h a
    have h2 := depthAll_le h l
    simp only [List.map_cons, PyData.depthAll]
    omega
theorem sh_cell (c : Cell) : SeqAt.shaped (dCell c) = true := shaped_of (lay_cell c) (by rw [depth_cell]; decide)
theorem sh_move (m : Move) : SeqAt.shaped (dMove m) = true := shaped_of (lay_move m) (by rw [depth_move]; decide)
theorem sh_list {α : Type} {f : α → PyData} {n : Nat} (h1 : ∀ a, (f a).canLay0 = true) (h2 : ∀ a, (f a).depth ≤ n) (hn : n < 64) (l : List α) : SeqAt.shaped (.list (l.map f)) = true := shaped_of (by simp [PyData.canLay0, layAll h1 l]) (by
  have := depthAll_le h2 l
  simp only [PyData.depth]
  omega)
theorem sh_cells (cs : List Cell) : SeqAt.shaped (dCells cs) = true := sh_list lay_cell (fun a => Nat.le_of_eq (depth_cell a)) (by decide) cs
theorem sh_moves (cs : List Move) : SeqAt.shaped (.list (cs.map dMove)) = true := sh_list lay_move (fun a => Nat.le_of_eq (depth_move a)) (by decide) cs
theorem sh_int (i : Int) : SeqAt.shaped (.int i) = true := by simp [SeqAt.shaped, PyData.canLay0, PyData.depth]
theorem sh_non : SeqAt.shaped .none = true := by simp [SeqAt.shaped, PyData.canLay0, PyData.depth]
theorem sh_vd (v : Vd) : SeqAt.shaped (dVd v) = true := by
  cases v
  · exact sh_int _
  · decide +kernel
  · exact sh_non
/-! ### == of data -/
theorem eqv_cell (a b : Cell) : PyData.eqv (dCell a) (dCell b) = decide (a = b) := by
  obtain ⟨a1, a2⟩ := a
  obtain ⟨b1, b2⟩ := b
  simp only [dCell, PyData.eqv, PyData.eqvAll, Bool.and_true, Prod.mk.injEq]
  by_cases h1 : a1 = b1 <;> by_cases h2 : a2 = b2 <;> simp [h1, h2]
theorem eqv_move (a b : Move) : PyData.eqv (dMove a) (dMove b) = decide (a = b) := by
  obtain ⟨a1, a2⟩ := a
  obtain ⟨b1, b2⟩ := b
  simp only [dMove, PyData.eqv, PyData.eqvAll, Bool.and_true, eqv_cell, Prod.mk.injEq]
  by_cases h1 : a1 = b1 <;> by_cases h2 : a2 = b2 <;> simp [h1, h2]
theorem any_cell (c : Cell) (cs : List Cell) : ((cs.map dCell).any fun z => PyData.eqv z (dCell c)) = decide (c ∈ cs) := by
  induction cs with
  | nil => rfl
  | cons x r ih =>
    rw [List.map_cons, List.any_cons, ih, eqv_cell]
    by_cases h : c = x
    · simp [h]
    · have h' : ¬ x = c := fun e => h e.symm
      simp [h, h']
theorem any_move (c : Move) (cs : List Move) : ((cs.map dMove).any fun z => PyData.eqv z (dMove c)) = decide (c ∈ cs) := by
  induction cs with
  | nil => rfl
  | cons x r ih =>
    rw [List.map_cons, List.any_cons, ih, eqv_move]
    by_cases h : c = x
    · simp [h]
    · have h' : ¬ x = c := fun e => h e.symm
      simp [h, h']
theorem eqv_vd (v : Vd) (s : Int) : PyData.eqv (dVd v) (.int s) = decide (v = .won s) := by
  cases v with
  | won i =>
    simp only [dVd, PyData.eqv, Vd.won.injEq]
    by_cases h : i = s <;> simp [h]
  | drawn => simp [dVd, PyData.eqv]
  | open_ => simp [dVd, PyData.eqv]
/-! ### a yard in the heap -/
/-- its fields, as __init__ lays them -/
def yfs (Y : Yr) (ho go ki : Addr) : List (Str × V) := [("height", .int Y.h), ("width", .int Y.w), ("holes", .ref ho), ("stuck", .str (if Y.lost then "lost" else "drawn")), ("goals", .ref go), ("kinds", .ref ki)]
/-- the kinds' dict -/
structure KindsAt (H : Hp) (ki : Addr) (ks : List (Str × Kind)) : Prop where
  ex : ∃ kvs : List (Key × V), H ki = some (.dK kvs) ∧ kvs.map (·.1) = ks.map (fun p => Sum.inr p.1) ∧ Da All_ H (kvs.map (·.2)) (ks.map fun p => dKind p.2)
structure YardAt (C : Addr) (H : Hp) (y : Addr) (Y : Yr) : Prop where
  ex : ∃ dx ho go ki, H y = some (.ins C dx (yfs Y ho go ki)) ∧ Dv All_ H (.ref ho) (dCells Y.holes) ∧ Dv All_ H (.ref go) (.tuple [dCells Y.g0, dCells Y.g1]) ∧ KindsAt H ki Y.kinds
theorem KindsAt.keep {H H' : Hp} {ki : Addr} {ks : List (Str × Kind)} (h : KindsAt H ki ks) (s : Same H H') : KindsAt H' ki ks := by
  obtain ⟨kvs, h1, h2, h3⟩ := h.ex
  exact ⟨kvs, s _ _ h1, h2, h3.keep s⟩
theorem YardAt.keep {C : Addr} {H H' : Hp} {y : Addr} {Y : Yr} (h : YardAt C H y Y) (s : Same H H') : YardAt C H' y Y := by
  obtain ⟨dx, ho, go, ki, h1, h2, h3, h4⟩ := h.ex
  exact ⟨dx, ho, go, ki, s _ _ h1, h2.keep s, h3.keep s, h4.keep s⟩
end PY
set_option Elab.async false
set_option autoImplicit false
set_option linter.all false
/-! What a yard and a position of the law's are. -/
namespace PY
open PySem L2
def GoodStep (st : Step) : Prop := ((-4 ≤ st.1 ∧ st.1 ≤ 4) ∧ (-4 ≤ st.2 ∧ st.2 ≤ 4)) ∧ (st.1 ≠ 0 ∨ st.2 ≠ 0)
structure OkKind (x : Kind) : Prop where
  leaps : ∀ st ∈ x.1, GoodStep st
  rides : ∀ st ∈ x.2.1, GoodStep st
  ll : x.1.length ≤ 16
  lr : x.2.1.length ≤ 16
structure OkY (Y : Yr) : Prop where
  h : 1 ≤ Y.h ∧ Y.h ≤ 4
  w : 1 ≤ Y.w ∧ Y.w ≤ 4
  area : Y.h * Y.w ≤ 12
  kinds : ∀ k x, Y.kinds.lookup k = some x → OkKind x
/-- each piece's kind is one of the yard's -/
def KindsIn (Y : Yr) (ps : List Pc) : Prop := ∀ p ∈ ps, ∃ x, Y.kinds.lookup p.2.2 = some x
structure OkP (Y : Yr) (p : Pc) : Prop where
  free : isFree Y p.1 = true
  side : p.2.1 = 0 ∨ p.2.1 = 1
  kind : ∃ x, Y.kinds.lookup p.2.2 = some x
structure OkPos (Y : Yr) (p : Ps) : Prop where
  turn : p.1 = 0 ∨ p.1 = 1
  ps : ∀ q ∈ p.2, OkP Y q
  up : p.2.Pairwise pieceLt
  one : p.2 ≠ []
  few : p.2.length ≤ 4
  crown : crowns Y p.2 0 ≠ [] ∨ crowns Y p.2 1 ≠ []
theorem OkPos.kin {Y : Yr} {p : Ps} (h : OkPos Y p) : KindsIn Y p.2 := fun q hq => (h.ps q hq).kind
theorem kindAt_of {Y : Yr} {k : Str} {x : Kind} (h : Y.kinds.lookup k = some x) : kindAt Y k = x := by unfold kindAt; rw [h]; rfl
end PY
set_option Elab.async false
set_option autoImplicit false
set_option linter.all false
set_option maxRecDepth 100000
set_option maxHeartbeats 2000000
/-! Readings by what runs, and what is known of an expression: its data, its truth. -/
namespace PY
open PySem L2

/-! ### readings by what runs -/
structure wE (X : Cx) (e : Expr) (σ : St) (H : Hp) (Q : VK) : Prop where
  go : ∀ (pins : List (Addr × Obj)) (s : Shared), Inv X pins σ H s → wpAny (model X.prog X.w) X.A (eval e X.env) (EP X pins σ Q) X.xe s
structure wT (X : Cx) (e : Expr) (σ : St) (H : Hp) (Q : Bool → Hp → Prop) : Prop where
  go : ∀ (pins : List (Addr × Obj)) (s : Shared), Inv X pins σ H s → wpAny (model X.prog X.w) X.A (isTrue e X.env (eval e X.env)) (TP X pins σ Q) X.xe s
structure wA (X : Cx) (es : List Expr) (σ : St) (H : Hp) (Q : List V → Hp → Prop) : Prop where
  go : ∀ (pos : Pos) (pins : List (Addr × Obj)) (s : Shared), Inv X pins σ H s → wpAny (model X.prog X.w) X.A (spliced (backTo pos (starEach es X.env))) (AP X pins σ Q) X.xe s
structure wS (X : Cx) (st : Stmt) (D : Ends) (σ : St) (H : Hp) : Prop where
  go : ∀ (pins : List (Addr × Obj)) (s : Shared), Inv X pins σ H s → wpAny (model X.prog X.w) X.A (exec st X.env) (SP X pins D) X.xe s
structure wB (X : Cx) (st : List Stmt) (D : Ends) (σ : St) (H : Hp) : Prop where
  go : ∀ (pins : List (Addr × Obj)) (s : Shared), Inv X pins σ H s → wpAny (model X.prog X.w) X.A (execs st X.env) (SP X pins D) X.xe s
section
variable {X : Cx} {e : Expr} {es : List Expr} {st : Stmt} {sts : List Stmt} {σ : St} {H : Hp}
theorem ew (X : Cx) (e : Expr) : PE X e (wE X e) := ⟨fun pins s σ H Q I h => h.go pins s I⟩
theorem tw (X : Cx) (e : Expr) : PT X e (wT X e) := ⟨fun pins s σ H Q I h => h.go pins s I⟩
theorem aw (X : Cx) (es : List Expr) : PA X es (wA X es) := ⟨fun pos pins s σ H Q I h => h.go pos pins s I⟩
theorem sw (X : Cx) (st : Stmt) : PS X st (wS X st) := ⟨fun pins s σ H D I h => h.go pins s I⟩
theorem bw (X : Cx) (sts : List Stmt) : PSs X sts (wB X sts) := ⟨fun pins s σ H D I h => h.go pins s I⟩
theorem _root_.L2.PE.w {t : TE} {Q : VK} (h : PE X e t) (q : t σ H Q) : wE X e σ H Q := ⟨fun pins s I => h.run pins s σ H Q I q⟩
theorem _root_.L2.PT.w {t : TT} {Q : Bool → Hp → Prop} (h : PT X e t) (q : t σ H Q) : wT X e σ H Q := ⟨fun pins s I => h.run pins s σ H Q I q⟩
theorem _root_.L2.PA.w {t : TA} {Q : List V → Hp → Prop} (h : PA X es t) (q : t σ H Q) : wA X es σ H Q := ⟨fun pos pins s I => h.run pos pins s σ H Q I q⟩
theorem _root_.L2.PS.w {t : TS} {D : Ends} (h : PS X st t) (q : t D σ H) : wS X st D σ H := ⟨fun pins s I => h.run pins s σ H D I q⟩
theorem _root_.L2.PSs.w {t : TS} {D : Ends} (h : PSs X sts t) (q : t D σ H) : wB X sts D σ H := ⟨fun pins s I => h.run pins s σ H D I q⟩
theorem wE_mono {Q Q' : VK} (h : wE X e σ H Q) (k : ∀ v H1, Q v H1 → Q' v H1) : wE X e σ H Q' := ⟨fun pins s I => thn (h.go pins s I) fun _ _ ⟨v, H1, I1, r, q⟩ => ⟨v, H1, I1, r, k v H1 q⟩⟩
theorem wT_mono {Q Q' : Bool → Hp → Prop} (h : wT X e σ H Q) (k : ∀ v H1, Q v H1 → Q' v H1) : wT X e σ H Q' := ⟨fun pins s I => thn (h.go pins s I) fun b _ ⟨H1, I1, q⟩ => ⟨H1, I1, k b H1 q⟩⟩
end

/-! ### what is known of an expression -/
/-- it gives the value v, whatever was made in between -/
def CV (X : Cx) (e : Expr) (σ : St) (H : Hp) (v : V) : Prop := ∀ H1, Same H H1 → ∀ Q : VK, (∀ H2, Same H1 H2 → Q v H2) → wE X e σ H1 Q
/-- it gives a value of the data d -/
def CD (N : Addr → Prop) (X : Cx) (e : Expr) (σ : St) (H : Hp) (d : PyData) : Prop := ∀ H1, Same H H1 → ∀ Q : VK, (∀ v H2, Same H1 H2 → Dv N H2 v d → Q v H2) → wE X e σ H1 Q
/-- as a test it gives b -/
def CT (X : Cx) (e : Expr) (σ : St) (H : Hp) (b : Bool) : Prop := ∀ H1, Same H H1 → ∀ Q : Bool → Hp → Prop, (∀ H2, Same H1 H2 → Q b H2) → wT X e σ H1 Q
/-- the arguments give these data -/
def CDs (N : Addr → Prop) (X : Cx) (es : List Expr) (σ : St) (H : Hp) (ds : List PyData) : Prop := ∀ H1, Same H H1 → ∀ Q : List V → Hp → Prop, (∀ vs H2, Same H1 H2 → Da N H2 vs ds → Q vs H2) → wA X es σ H1 Q
/-- an argument: data, or a very value -/
inductive AV where
  | d (x : PyData)
  | v (x : V)
inductive AR (H : Hp) : V → AV → Prop
  | d {v : V} {x : PyData} (h : Dv All_ H v x) : AR H v (.d x)
  | v (x : V) : AR H x (.v x)
inductive ARs (H : Hp) : List V → List AV → Prop
  | nil : ARs H [] []
  | cons {v : V} {vs : List V} {a : AV} {as : List AV} : AR H v a → ARs H vs as → ARs H (v :: vs) (a :: as)
theorem AR.keep {H H' : Hp} {v : V} {a : AV} (h : AR H v a) (s : Same H H') : AR H' v a := by
  cases h with
  | d h => exact .d (h.keep s)
  | v => exact .v _
theorem ARs.keep {H H' : Hp} : ∀ {vs : List V} {as : List AV}, ARs H vs as → Same H H' → ARs H' vs as
  | _, _, .nil, _ => .nil
  | _, _, .cons h t, s => .cons (h.keep s) (t.keep s)
theorem ARs.length {H : Hp} : ∀ {vs : List V} {as : List AV}, ARs H vs as → vs.length = as.length
  | _, _, .nil => rfl
  | _, _, .cons _ t => by simp [t.length]
def CAs (X : Cx) (es : List Expr) (σ : St) (H : Hp) (as : List AV) : Prop := ∀ H1, Same H H1 → ∀ Q : List V → Hp → Prop, (∀ vs H2, Same H1 H2 → ARs H2 vs as → Q vs H2) → wA X es σ H1 Q

section
variable {N : Addr → Prop} {X : Cx} {e a b c : Expr} {es : List Expr} {σ : St} {H : Hp} {d : PyData} {ds : List PyData} {v : V} {k : Bool} {pos : Pos}
theorem CD.run {Q : VK} (h : CD N X e σ H d) (q : ∀ v H1, Same H H1 → Dv N H1 v d → Q v H1) : wE X e σ H Q := h H (Same.refl H) Q q
theorem CV.run {Q : VK} (h : CV X e σ H v) (q : ∀ H1, Same H H1 → Q v H1) : wE X e σ H Q := h H (Same.refl H) Q q
theorem CT.run {Q : Bool → Hp → Prop} (h : CT X e σ H k) (q : ∀ H1, Same H H1 → Q k H1) : wT X e σ H Q := h H (Same.refl H) Q q
theorem CD.keep {H' : Hp} (h : CD N X e σ H d) (s : Same H H') : CD N X e σ H' d := fun H1 s1 => h H1 (s.trans s1)
theorem CV.keep {H' : Hp} (h : CV X e σ H v) (s : Same H H') : CV X e σ H' v := fun H1 s1 => h H1 (s.trans s1)
theorem CT.keep {H' : Hp} (h : CT X e σ H k) (s : Same H H') : CT X e σ H' k := fun H1 s1 => h H1 (s.trans s1)
theorem CD.any (h : CD N X e σ H d) : CD All_ X e σ H d := fun H1 s1 Q q => h H1 s1 Q fun v H2 s2 hv => q v H2 s2 hv.any
theorem CD.weak {N' : Addr → Prop} (h : CD N X e σ H d) (n : ∀ p, N p → N' p) : CD N' X e σ H d := fun H1 s1 Q q => h H1 s1 Q fun v H2 s2 hv => q v H2 s2 (hv.mono (Same.refl H2) n)
theorem CD.noL {N' : Addr → Prop} (h : CD N X e σ H d) (n : NoL d) : CD N' X e σ H d := fun H1 s1 Q q => h H1 s1 Q fun v H2 s2 hv => q v H2 s2 (Dv.noL d v n hv)
theorem CD.is (h : CD N X e σ H d) {d' : PyData} (q : d = d') : CD N X e σ H d' := q ▸ h
theorem CT.is (h : CT X e σ H k) {k' : Bool} (q : k = k') : CT X e σ H k' := q ▸ h

/-! names, constants -/
theorem v_var (i : Nat) {x : Str} (hs : σ[i]? = some (some v)) (hN : X.N[i]? = some x := by rfl) (hv : Vis X.env.scope x := by first | exact Or.inl rfl | exact Or.inr (Or.inl rfl) | exact Or.inr (Or.inr rfl)) (hd : (x == ("__debug__" : Str)) = false := by decide)
    (hcd : (x == ("__classdict__" : Str)) = false := by decide) : CV X (.Name x pos) σ H v := fun H1 _ Q q => (pe_var hN hv hd hcd).w ⟨v, hs, q H1 (Same.refl H1)⟩
theorem c_val (h : CV X e σ H v) (hd : Dv N H v d) : CD N X e σ H d := fun H1 s1 Q q => h H1 s1 Q fun H2 s2 => q v H2 s2 (hd.keep (s1.trans s2))
theorem c_var (i : Nat) {x : Str} (hs : σ[i]? = some (some v)) (h : Dv N H v d) (hN : X.N[i]? = some x := by rfl) (hv : Vis X.env.scope x := by first | exact Or.inl rfl | exact Or.inr (Or.inl rfl) | exact Or.inr (Or.inr rfl)) (hd : (x == ("__debug__" : Str)) = false := by decide)
    (hcd : (x == ("__classdict__" : Str)) = false := by decide) : CD N X (.Name x pos) σ H d := c_val (v_var i hs hN hv hd hcd) h
theorem v_c {t : V} (h : PE X e (tC t)) : CV X e σ H t := fun H1 _ Q q => h.w (q H1 (Same.refl H1))
theorem c_int {i : Int} {j} : CD N X (.Constant (.int i) j pos) σ H (.int i) := c_val (v_c pe_int) (.int i)
theorem c_bl {i : Bool} {j} : CD N X (.Constant (.bool i) j pos) σ H (.bool i) := c_val (v_c pe_bl) (.bl i)
theorem c_str {x : Str} {j} : CD N X (.Constant (.str x) j pos) σ H (.str x) := c_val (v_c pe_str) (.str x)
theorem c_non {j} : CD N X (.Constant .none j pos) σ H .none := c_val (v_c pe_non) .non
theorem c_gint {x : Str} {i : Int} {t : Tok} (hm : X.mg x = some (.int i t)) (hg : Gl X x := by rfl) (hd : (x == ("__debug__" : Str)) = false := by decide) : CD N X (.Name x pos) σ H (.int i) := c_val (v_c (pe_glob (v := .int i) hg hm ⟨t, rfl⟩ hd)) (.int i)
theorem c_gstr {x y : Str} {t : Tok} (hm : X.mg x = some (.str y t)) (hg : Gl X x := by rfl) (hd : (x == ("__debug__" : Str)) = false := by decide) : CD N X (.Name x pos) σ H (.str y) := c_val (v_c (pe_glob (v := .str y) hg hm ⟨t, rfl⟩ hd)) (.str y)

/-! two expressions in a row -/
theorem c_two {N1 N2 : Addr → Prop} {d1 d2 : PyData} {H1 : Hp} (ha : CD N1 X a σ H d1) (hb : CD N2 X b σ H d2) (s1 : Same H H1) {R : V → V → Hp → Prop} (h : ∀ x y H2, Same H1 H2 → Dv N1 H2 x d1 → Dv N2 H2 y d2 → R x y H2) :
    wE X a σ H1 fun x H2 => wE X b σ H2 fun y H3 => R x y H3 := ha H1 s1 _ fun x H2 s2 hx => hb H2 (s1.trans s2) _ fun y H3 s3 hy => h x y H3 (s2.trans s3) (hx.keep s3) hy

/-! operators -/
theorem c_opI {op : Operator} {C : Int → Int → Prop} {g : Int → Int → Int} {i j : Int} (ho : OpR X (binaryOp op) (rI C fun i j => .int (g i j))) (ha : CD All_ X a σ H (.int i)) (hb : CD All_ X b σ H (.int j)) (hc : C i j) : CD N X (.BinOp a op b pos) σ H (.int (g i j)) := fun H1 s1 Q q =>
  (pe_op ho (ew X a) (ew X b)).w (c_two ha hb s1 fun x y H2 s2 hx hy => ⟨i, j, hx.is_int, hy.is_int, hc, q _ H2 s2 (.int _)⟩)
theorem c_opI0 {op : Operator} {g : Int → Int → Int} {i j : Int} (ho : OpR X (binaryOp op) (rI0 fun i j => .int (g i j))) (ha : CD All_ X a σ H (.int i)) (hb : CD All_ X b σ H (.int j)) : CD N X (.BinOp a op b pos) σ H (.int (g i j)) := fun H1 s1 Q q =>
  (pe_op ho (ew X a) (ew X b)).w (c_two ha hb s1 fun x y H2 s2 hx hy => ⟨i, j, hx.is_int, hy.is_int, q _ H2 s2 (.int _)⟩)
theorem c_add {i j : Int} (ha : CD All_ X a σ H (.int i)) (hb : CD All_ X b σ H (.int j)) : CD N X (.BinOp a .Add b pos) σ H (.int (i + j)) := c_opI0 op_add ha hb
theorem c_sub {i j : Int} (ha : CD All_ X a σ H (.int i)) (hb : CD All_ X b σ H (.int j)) : CD N X (.BinOp a .Sub b pos) σ H (.int (i - j)) := c_opI0 op_sub ha hb
theorem c_mul {i j : Int} (ha : CD All_ X a σ H (.int i)) (hb : CD All_ X b σ H (.int j)) (hc : CMul i j) : CD N X (.BinOp a .Mult b pos) σ H (.int (i * j)) := c_opI op_mul ha hb hc
theorem c_mod {i j : Int} (ha : CD All_ X a σ H (.int i)) (hb : CD All_ X b σ H (.int j)) (hc : 0 < j) : CD N X (.BinOp a .Mod b pos) σ H (.int (i % j)) := c_opI op_mod ha hb hc
theorem c_fdiv {i j : Int} (ha : CD All_ X a σ H (.int i)) (hb : CD All_ X b σ H (.int j)) (hc : CDiv i j) : CD N X (.BinOp a .FloorDiv b pos) σ H (.int (i / j)) := c_opI op_fdiv ha hb hc
theorem c_pow {i j : Int} (ha : CD All_ X a σ H (.int i)) (hb : CD All_ X b σ H (.int j)) (hc : CPow i j) : CD N X (.BinOp a .Pow b pos) σ H (.int (i ^ j.toNat)) := c_opI op_pow ha hb hc
theorem c_neg {i : Int} (ha : CD All_ X a σ H (.int i)) : CD N X (.UnaryOp .USub a pos) σ H (.int (-i)) := fun H1 s1 Q q =>
  (pe_un un_neg (ew X a)).w (ha H1 s1 _ fun v H2 s2 hv => ⟨i, hv.is_int, q _ H2 s2 (.int _)⟩)
/-- list + list, a new one -/
theorem c_cat {ds es' : List PyData} (ha : CD N X a σ H (.list ds)) (hb : CD N X b σ H (.list es')) (hz : ds.length + es'.length ≤ sizeLine) (hN : ∀ p, H p = none → N p) : CD N X (.BinOp a .Add b pos) σ H (.list (ds ++ es')) := fun H1 s1 Q q =>
  (pe_op op_cat (ew X a) (ew X b)).w (c_two ha hb s1 fun x y H2 s2 hx hy => by
    obtain ⟨l, xs, rfl, hl, nl, dl⟩ := hx.is_lst
    obtain ⟨m, ys, rfl, hm, nm, dm⟩ := hy.is_lst
    refine ⟨l, m, xs, ys, rfl, rfl, hl, hm, by rw [dl.length, dm.length]; exact hz, fun p hp => ?_⟩
    have sp := same_new (o := .lst (xs ++ ys)) hp
    exact q _ _ (s2.trans sp) (.lst upd_same (hN p ((s1.trans s2).free hp)) ((dl.append dm).keep sp)))

/-! displays -/
theorem cs_nil : CDs N X [] σ H [] := fun H1 s1 Q q => pa_nil.w (q [] H1 (Same.refl H1) .nil)
theorem cs_cons (ha : CD N X e σ H d) (hr : CDs N X es σ H ds) (hs : starEach (e :: es) X.env = (false, eval e X.env) :: starEach es X.env := by rfl) : CDs N X (e :: es) σ H (d :: ds) := fun H1 s1 Q q =>
  (pa_cons (ew X e) (aw X es) hs).w (ha H1 s1 _ fun v H2 s2 hv => hr H2 (s1.trans s2) _ fun vs H3 s3 hvs => q _ H3 (s2.trans s3) (.cons (hv.keep s3) hvs))
theorem as_nil : CAs X [] σ H [] := fun H1 s1 Q q => pa_nil.w (q [] H1 (Same.refl H1) .nil)
theorem as_d {as : List AV} (ha : CD All_ X e σ H d) (hr : CAs X es σ H as) (hs : starEach (e :: es) X.env = (false, eval e X.env) :: starEach es X.env := by rfl) : CAs X (e :: es) σ H (.d d :: as) := fun H1 s1 Q q =>
  (pa_cons (ew X e) (aw X es) hs).w (ha H1 s1 _ fun v H2 s2 hv => hr H2 (s1.trans s2) _ fun vs H3 s3 hvs => q _ H3 (s2.trans s3) (.cons (.d (hv.keep s3)) hvs))
theorem as_v {as : List AV} (ha : CV X e σ H v) (hr : CAs X es σ H as) (hs : starEach (e :: es) X.env = (false, eval e X.env) :: starEach es X.env := by rfl) : CAs X (e :: es) σ H (.v v :: as) := fun H1 s1 Q q =>
  (pa_cons (ew X e) (aw X es) hs).w (ha H1 s1 _ fun H2 s2 => hr H2 (s1.trans s2) _ fun vs H3 s3 hvs => q _ H3 (s2.trans s3) (.cons (.v v) hvs))
theorem c_tup {x1} (h : CDs N X es σ H ds) (hz : ds.length ≤ 1000 := by exact Nat.le_of_ble_eq_true rfl) : CD N X (.Tuple es x1 pos) σ H (.tuple ds) := fun H1 s1 Q q =>
  (pe_tup (aw X es)).w (h H1 s1 _ fun vs H2 s2 hvs => ⟨by rw [hvs.length, sizeLine_eq]; omega, fun p hp => q _ _ (s2.trans (same_new hp)) (.tup upd_same (hvs.keep (same_new hp)))⟩)
theorem c_lst (h : CDs N X es σ H ds) (hN : ∀ p, H p = none → N p) (hz : ds.length ≤ 1000 := by exact Nat.le_of_ble_eq_true rfl) : CD N X (.List es pos) σ H (.list ds) := fun H1 s1 Q q =>
  (pe_lst (aw X es)).w (h H1 s1 _ fun vs H2 s2 hvs => ⟨by rw [hvs.length, sizeLine_eq]; omega, fun p hp => q _ _ (s2.trans (same_new hp)) (.lst upd_same (hN p ((s1.trans s2).free hp)) (hvs.keep (same_new hp)))⟩)

/-! items -/
theorem c_ixT {i : Int} (ha : CD N X a σ H (.tuple ds)) (hb : CD All_ X b σ H (.int i)) (hi : atI ds i = some d) (hs : PlainIx b := by intros; exact fun _ _ => rfl) : CD N X (.Subscript a b pos) σ H d := fun H1 s1 Q q =>
  (pe_ix ix_tup (ew X a) (ew X b) hs).w (c_two ha hb s1 fun x y H2 s2 hx hy => by
    obtain ⟨p, xs, rfl, hp, dx⟩ := hx.is_tup
    obtain ⟨j, hseq, hj, h1, _, _⟩ := atI_get hi
    have hl := dx.length
    obtain ⟨w, hw, dw⟩ := dx.at hj
    refine ⟨p, xs, i, w, rfl, hy.is_int, SqT.of hp, ?_, q w H2 s2 dw⟩
    unfold atI at hi ⊢
    rw [hl]
    cases e0 : ixN ds.length i with
    | none => rw [e0] at hi; cases hi
    | some j' =>
      have ej := (ixN_seq e0).1
      rw [hseq] at ej
      cases ej
      exact hw)
theorem c_ixL {i : Int} (ha : CD N X a σ H (.list ds)) (hb : CD All_ X b σ H (.int i)) (hi : atI ds i = some d) (hs : PlainIx b := by intros; exact fun _ _ => rfl) : CD N X (.Subscript a b pos) σ H d := fun H1 s1 Q q =>
  (pe_ix ix_list (ew X a) (ew X b) hs).w (c_two ha hb s1 fun x y H2 s2 hx hy => by
    obtain ⟨p, xs, rfl, hp, _, dx⟩ := hx.is_lst
    obtain ⟨j, hseq, hj, h1, _, _⟩ := atI_get hi
    have hl := dx.length
    obtain ⟨w, hw, dw⟩ := dx.at hj
    refine ⟨p, xs, i, w, rfl, hy.is_int, SqL.of hp, ?_, q w H2 s2 dw⟩
    unfold atI at hi ⊢
    rw [hl]
    cases e0 : ixN ds.length i with
    | none => rw [e0] at hi; cases hi
    | some j' =>
      have ej := (ixN_seq e0).1
      rw [hseq] at ej
      cases ej
      exact hw)
end
end PY
set_option Elab.async false
set_option autoImplicit false
set_option linter.all false
set_option maxRecDepth 100000
set_option maxHeartbeats 2000000
/-! Comparisons, tests, built-ins, calls, statements, loops. -/
namespace PY
open PySem L2

/-! ### comparisons -/
/-- op of these data gives k -/
def CmpR (X : Cx) (op : CmpOp) (d e : PyData) (k : Bool) : Prop := ∃ r : R2, OpR X (compareOp op) r ∧ ∀ (H : Hp) (x y : V), Dv All_ H x d → Dv All_ H y e → ∀ Q : VK, Q (.bl k) H → r x y H Q
section
variable {N : Addr → Prop} {X : Cx} {e a b c : Expr} {es : List Expr} {σ : St} {H : Hp} {d d1 d2 d3 : PyData} {ds : List PyData} {v : V} {k k1 k2 : Bool} {pos : Pos} {op op' : CmpOp}
theorem CmpR.is {k' : Bool} (h : CmpR X op d1 d2 k) (e : k = k') : CmpR X op d1 d2 k' := e ▸ h
theorem c_cmp (h : CmpR X op d1 d2 k) (ha : CD All_ X a σ H d1) (hb : CD All_ X b σ H d2) (hm : behindInMarks op b = false := by first | exact nomark _ | rfl | with_unfolding_all rfl) : CD N X (.Compare a [op] [b] pos) σ H (.bool k) := by
  obtain ⟨r, ho, hr⟩ := h
  exact fun H1 s1 Q q => (pe_cmpR ho (ew X a) (ew X b) hm).w (c_two ha hb s1 fun x y H2 s2 hx hy => hr H2 x y hx hy _ (q _ H2 s2 (.bl k)))
theorem t_cmp (h : CmpR X op d1 d2 k) (ha : CD All_ X a σ H d1) (hb : CD All_ X b σ H d2) (hm : behindInMarks op b = false := by first | exact nomark _ | rfl | with_unfolding_all rfl) : CT X (.Compare a [op] [b] pos) σ H k := by
  obtain ⟨r, ho, hr⟩ := h
  exact fun H1 s1 Q q => (pt_cmpR ho (ew X a) (ew X b) hm).w (c_two ha hb s1 fun x y H2 s2 hx hy => hr H2 x y hx hy _ ⟨k, rfl, q H2 s2⟩)
theorem chain_read {t : TE} {r r' : R2} (hr : ∀ (H : Hp) (x y : V), Dv All_ H x d1 → Dv All_ H y d2 → ∀ Q : VK, Q (.bl k1) H → r x y H Q) (hr' : ∀ (H : Hp) (x y : V), Dv All_ H x d2 → Dv All_ H y d3 → ∀ Q : VK, Q (.bl k2) H → r' x y H Q)
    (ha : CD All_ X a σ H d1) (hb : CD All_ X b σ H d2) (hc : CD All_ X c σ H d3) {H1 : Hp} (s1 : Same H H1) {Q : VK} (q : ∀ H2, Same H1 H2 → Q (.bl (k1 && k2)) H2) : tChain r r' (wE X a) (wE X b) (wE X c) σ H1 Q :=
  c_two ha hb s1 fun x y H2 s2 hx hy => hr H2 x y hx hy _ ⟨k1, rfl, by
    cases k1 with
    | false => exact q H2 s2
    | true => exact hc H2 (s1.trans s2) _ fun z H3 s3 hz => hr' H3 y z (hy.keep s3) hz _ (q H3 (s2.trans s3))⟩
theorem c_chain (h1 : CmpR X op d1 d2 k1) (h2 : CmpR X op' d2 d3 k2) (ha : CD All_ X a σ H d1) (hb : CD All_ X b σ H d2) (hc : CD All_ X c σ H d3) (hm : lastMarks [op, op'] [b, c] = false := by with_unfolding_all rfl) :
    CD N X (.Compare a [op, op'] [b, c] pos) σ H (.bool (k1 && k2)) := by
  obtain ⟨r, ho, hr⟩ := h1
  obtain ⟨r', ho', hr'⟩ := h2
  exact fun H1 s1 Q q => (pe_chain ho ho' (ew X a) (ew X b) (ew X c) hm).w (chain_read (t := wE X a) hr hr' ha hb hc s1 fun H2 s2 => q _ H2 s2 (.bl _))
theorem t_chain (h1 : CmpR X op d1 d2 k1) (h2 : CmpR X op' d2 d3 k2) (ha : CD All_ X a σ H d1) (hb : CD All_ X b σ H d2) (hc : CD All_ X c σ H d3) (hm : lastMarks [op, op'] [b, c] = false := by with_unfolding_all rfl) :
    CT X (.Compare a [op, op'] [b, c] pos) σ H (k1 && k2) := by
  obtain ⟨r, ho, hr⟩ := h1
  obtain ⟨r', ho', hr'⟩ := h2
  exact fun H1 s1 Q q => (pt_chain ho ho' (ew X a) (ew X b) (ew X c) hm).w (chain_read (t := wE X a) (Q := fun z H2 => ∃ k, z = .bl k ∧ Q k H2) hr hr' ha hb hc s1 fun H2 s2 => ⟨_, rfl, q H2 s2⟩)
/-! the operators -/
theorem lt_i {i j : Int} : CmpR X .Lt (.int i) (.int j) (decide (i < j)) := ⟨_, op_lt, fun _ _ _ hx hy _ q => ⟨i, j, hx.is_int, hy.is_int, q⟩⟩
theorem le_i {i j : Int} : CmpR X .LtE (.int i) (.int j) (decide (i ≤ j)) := ⟨_, op_le, fun _ _ _ hx hy _ q => ⟨i, j, hx.is_int, hy.is_int, q⟩⟩
theorem gt_i {i j : Int} : CmpR X .Gt (.int i) (.int j) (decide (j < i)) := ⟨_, op_gt, fun _ _ _ hx hy _ q => ⟨i, j, hx.is_int, hy.is_int, q⟩⟩
theorem ge_i {i j : Int} : CmpR X .GtE (.int i) (.int j) (decide (j ≤ i)) := ⟨_, op_ge, fun _ _ _ hx hy _ q => ⟨i, j, hx.is_int, hy.is_int, q⟩⟩
theorem eq_i {i j : Int} : CmpR X .Eq (.int i) (.int j) (decide (i = j)) := ⟨_, op_eq, fun _ _ _ hx hy _ q => by
  rw [hx.is_int, hy.is_int]
  refine ⟨rfl, ?_⟩
  have e : decide (V.int i = V.int j) = decide (i = j) := by by_cases h : i = j <;> simp [h]
  rw [e]; exact q⟩
theorem ne_i {i j : Int} : CmpR X .NotEq (.int i) (.int j) (!decide (i = j)) := ⟨_, op_ne, fun _ _ _ hx hy _ q => by
  rw [hx.is_int, hy.is_int]
  refine ⟨rfl, ?_⟩
  have e : decide (V.int i = V.int j) = decide (i = j) := by by_cases h : i = j <;> simp [h]
  rw [e]; exact q⟩
theorem eq_d (hu : X.A.units + 64 < cLine) (s1 : SeqAt.shaped d1 = true) (s2 : SeqAt.shaped d2 = true) : CmpR X .Eq d1 d2 (PyData.eqv d1 d2) := ⟨_, op_eqD hu, fun _ _ _ hx hy _ q => ⟨d1, d2, Dv.dp _ _ hx, Dv.dp _ _ hy, s1, s2, q⟩⟩
theorem ne_d (hu : X.A.units + 64 < cLine) (s1 : SeqAt.shaped d1 = true) (s2 : SeqAt.shaped d2 = true) : CmpR X .NotEq d1 d2 (!PyData.eqv d1 d2) := ⟨_, op_neD hu, fun _ _ _ hx hy _ q => ⟨d1, d2, Dv.dp _ _ hx, Dv.dp _ _ hy, s1, s2, q⟩⟩
theorem in_d (hu : X.A.units + 65 < cLine) (s1 : SeqAt.shaped d1 = true) (s2 : SeqAt.shaped (.list ds) = true) : CmpR X .In d1 (.list ds) (ds.any fun z => PyData.eqv z d1) := ⟨_, op_inD hu, fun _ _ _ hx hy _ q => ⟨d1, ds, Dv.dp _ _ hx, Dv.dp _ _ hy, s1, s2, q⟩⟩
theorem notin_d (hu : X.A.units + 65 < cLine) (s1 : SeqAt.shaped d1 = true) (s2 : SeqAt.shaped (.list ds) = true) : CmpR X .NotIn d1 (.list ds) (!ds.any fun z => PyData.eqv z d1) := ⟨_, op_notInD hu, fun _ _ _ hx hy _ q => ⟨d1, ds, Dv.dp _ _ hx, Dv.dp _ _ hy, s1, s2, q⟩⟩
theorem is_n : CmpR X .Is d .none (match d with | .none => true | _ => false) := ⟨_, op_isN, fun _ x y hx hy _ q => ⟨hy.is_non, by
  cases hx <;> exact q⟩⟩
theorem isnot_n : CmpR X .IsNot d .none (match d with | .none => false | _ => true) := ⟨_, op_notN, fun _ x y hx hy _ q => ⟨hy.is_non, by
  cases hx <;> exact q⟩⟩
theorem Da.ints : ∀ {is : List Int} {vs : List V}, Da N H vs (is.map .int) → vs = is.map V.int
  | [], _, h => by cases h; rfl
  | i :: is, _, h => by
    cases h with
    | cons h1 h2 => rw [h1.is_int, Da.ints h2]; rfl
theorem Da.strs : ∀ {is : List Str} {vs : List V}, Da N H vs (is.map .str) → vs = is.map V.str
  | [], _, h => by cases h; rfl
  | i :: is, _, h => by
    cases h with
    | cons h1 h2 => rw [h1.is_str, Da.strs h2]; rfl
theorem Da.bls : ∀ {is : List Bool} {vs : List V}, Da N H vs (is.map .bool) → vs = is.map V.bl
  | [], _, h => by cases h; rfl
  | i :: is, _, h => by
    cases h with
    | cons h1 h2 => rw [h1.is_bl, Da.bls h2]; rfl
theorem inV_ints {i : Int} : ∀ is : List Int, inV (.int i) (is.map V.int) = decide (i ∈ is)
  | [] => rfl
  | j :: is => by
    have ih := inV_ints (i := i) is
    unfold inV at ih ⊢
    rw [List.map_cons, List.any_cons, ih]
    show ((j == i) || decide (i ∈ is)) = decide (i ∈ j :: is)
    by_cases h : i = j
    · simp [h]
    · have h' : ¬ j = i := fun e => h e.symm
      simp [h, h']
theorem inV_strs {i : Str} : ∀ is : List Str, inV (.str i) (is.map V.str) = decide (i ∈ is)
  | [] => rfl
  | j :: is => by
    have ih := inV_strs (i := i) is
    unfold inV at ih ⊢
    rw [List.map_cons, List.any_cons, ih]
    show ((j == i) || decide (i ∈ is)) = decide (i ∈ j :: is)
    by_cases h : i = j
    · simp [h]
    · have h' : ¬ j = i := fun e => h e.symm
      simp [h, h']
theorem in_ti {i : Int} {is : List Int} : CmpR X .In (.int i) (.tuple (is.map .int)) (decide (i ∈ is)) := ⟨_, op_in_seq, fun _ x y hx hy _ q => by
  obtain ⟨p, xs, rfl, hp, dx⟩ := hy.is_tup
  rw [dx.ints] at hp
  rw [hx.is_int]
  refine ⟨p, _, rfl, .inr (SqT.of hp), rfl, by simp [flatV], ?_⟩
  rw [inV_ints]
  exact q⟩
theorem notin_ti {i : Int} {is : List Int} : CmpR X .NotIn (.int i) (.tuple (is.map .int)) (!decide (i ∈ is)) := ⟨_, op_notIn_seq, fun _ x y hx hy _ q => by
  obtain ⟨p, xs, rfl, hp, dx⟩ := hy.is_tup
  rw [dx.ints] at hp
  rw [hx.is_int]
  refine ⟨p, _, rfl, .inr (SqT.of hp), rfl, by simp [flatV], ?_⟩
  rw [inV_ints]
  exact q⟩
theorem notin_ts {i : Str} {is : List Str} : CmpR X .NotIn (.str i) (.tuple (is.map .str)) (!decide (i ∈ is)) := ⟨_, op_notIn_seq, fun _ x y hx hy _ q => by
  obtain ⟨p, xs, rfl, hp, dx⟩ := hy.is_tup
  rw [dx.strs] at hp
  rw [hx.is_str]
  refine ⟨p, _, rfl, .inr (SqT.of hp), rfl, by simp [flatV], ?_⟩
  rw [inV_strs]
  exact q⟩
theorem lt_t (hu : X.A.units < cLine) {is js : List Int} : CmpR X .Lt (.tuple (is.map .int)) (.tuple (js.map .int)) (HT.lexLt is js) := ⟨_, op_ltT hu, fun _ x y hx hy _ q => by
  obtain ⟨p, xs, rfl, hp, dx⟩ := hx.is_tup
  obtain ⟨p', xs', rfl, hp', dx'⟩ := hy.is_tup
  rw [dx.ints] at hp
  rw [dx'.ints] at hp'
  exact ⟨p, p', is, js, rfl, rfl, SqT.of hp, SqT.of hp', q⟩⟩
theorem notin_s {x y : Str} : CmpR X .NotIn (.str x) (.str y) (!(!(Builtin.Str.occurrences y x 0 y.length 1).isEmpty)) := ⟨_, op_notin_str, fun _ _ _ hx hy _ q => ⟨x, y, hx.is_str, hy.is_str, q⟩⟩

/-! ### truth -/
theorem t_val (h : CD All_ X e σ H (.bool k)) (he : ∀ whole, isTrue e X.env whole = (do let v ← whole; standAt e.pos; holding [v] (truthy v)) := by intro _; rfl) : CT X e σ H k := fun H1 s1 Q q =>
  (pt_val (ew X e) he).w (h H1 s1 _ fun v H2 s2 hv => ⟨k, hv.is_bl, q H2 s2⟩)
theorem t_not (h : CT X a σ H k) : CT X (.UnaryOp .Not a pos) σ H (!k) := fun H1 s1 Q q => (pt_not (tw X a)).w (h H1 s1 _ fun H2 s2 => q H2 s2)
theorem and_read {tb : TT} {Q : Bool → Hp → Prop} {H1 : Hp} (s1 : Same H H1) (ha : CT X a σ H k1) (hb : k1 = true → ∀ H2, Same H1 H2 → tb σ H2 Q) (hn : k1 = false → ∀ H2, Same H1 H2 → Q false H2) : tAnd (wT X a) tb σ H1 Q :=
  ha H1 s1 _ fun H2 s2 => by
    cases k1 with
    | true => exact hb rfl H2 s2
    | false => exact hn rfl H2 s2
theorem or_read {tb : TT} {Q : Bool → Hp → Prop} {H1 : Hp} (s1 : Same H H1) (ha : CT X a σ H k1) (hb : k1 = false → ∀ H2, Same H1 H2 → tb σ H2 Q) (hn : k1 = true → ∀ H2, Same H1 H2 → Q true H2) : tOr (wT X a) tb σ H1 Q :=
  ha H1 s1 _ fun H2 s2 => by
    cases k1 with
    | false => exact hb rfl H2 s2
    | true => exact hn rfl H2 s2
theorem t_and2 (ha : CT X a σ H k1) (hb : k1 = true → CT X b σ H k2) : CT X (.BoolOp .And [a, b] pos) σ H (k1 && k2) := fun H1 s1 Q q =>
  (PW.pt (pw_and (tw X a) (pw_and1 (tw X b)))).w (and_read s1 ha (fun e H2 s2 => hb e H2 (s1.trans s2) _ fun H3 s3 => by rw [e] at q; exact q H3 (s2.trans s3)) fun e H2 s2 => by rw [e] at q; exact q H2 s2)
theorem t_or2 (ha : CT X a σ H k1) (hb : k1 = false → CT X b σ H k2) : CT X (.BoolOp .Or [a, b] pos) σ H (k1 || k2) := fun H1 s1 Q q =>
  (PW.pt (pw_or (tw X a) (pw_or1 (tw X b)))).w (or_read s1 ha (fun e H2 s2 => hb e H2 (s1.trans s2) _ fun H3 s3 => by rw [e] at q; exact q H3 (s2.trans s3)) fun e H2 s2 => by rw [e] at q; exact q H2 s2)
theorem t_and3 {k3 : Bool} (ha : CT X a σ H k1) (hb : k1 = true → CT X b σ H k2) (hc : k1 = true → k2 = true → CT X c σ H k3) : CT X (.BoolOp .And [a, b, c] pos) σ H (k1 && (k2 && k3)) := fun H1 s1 Q q =>
  (PW.pt (pw_and (tw X a) (pw_and (tw X b) (pw_and1 (tw X c))))).w (and_read s1 ha (fun e H2 s2 => and_read (s1.trans s2) (hb e) (fun e' H3 s3 => hc e e' H3 ((s1.trans s2).trans s3) _ fun H4 s4 => by rw [e, e'] at q; exact q H4 ((s2.trans s3).trans s4)) fun e' H3 s3 => by rw [e, e'] at q; exact q H3 (s2.trans s3)) fun e H2 s2 => by rw [e] at q; exact q H2 s2)
theorem t_or3 {k3 : Bool} (ha : CT X a σ H k1) (hb : k1 = false → CT X b σ H k2) (hc : k1 = false → k2 = false → CT X c σ H k3) : CT X (.BoolOp .Or [a, b, c] pos) σ H (k1 || (k2 || k3)) := fun H1 s1 Q q =>
  (PW.pt (pw_or (tw X a) (pw_or (tw X b) (pw_or1 (tw X c))))).w (or_read s1 ha (fun e H2 s2 => or_read (s1.trans s2) (hb e) (fun e' H3 s3 => hc e e' H3 ((s1.trans s2).trans s3) _ fun H4 s4 => by rw [e, e'] at q; exact q H4 ((s2.trans s3).trans s4)) fun e' H3 s3 => by rw [e, e'] at q; exact q H3 (s2.trans s3)) fun e H2 s2 => by rw [e] at q; exact q H2 s2)
/-! .. as values -/
theorem c_and2 (ha : CD All_ X a σ H (.bool k1)) (hb : k1 = true → CD All_ X b σ H (.bool k2)) : CD N X (.BoolOp .And [a, b] pos) σ H (.bool (k1 && k2)) := fun H1 s1 Q q =>
  (pe_and (ew X a) (pe_one (ew X b))).w (ha H1 s1 _ fun v H2 s2 hv => ⟨k1, hv.is_bl, by
    cases k1 with
    | true => exact hb rfl H2 (s1.trans s2) _ fun u H3 s3 hu => by rw [hu.is_bl]; exact q _ H3 (s2.trans s3) (.bl _)
    | false => exact q _ H2 s2 (.bl _)⟩)
theorem c_or2 (ha : CD All_ X a σ H (.bool k1)) (hb : k1 = false → CD All_ X b σ H (.bool k2)) : CD N X (.BoolOp .Or [a, b] pos) σ H (.bool (k1 || k2)) := fun H1 s1 Q q =>
  (pe_or (ew X a) (pe_one (ew X b))).w (ha H1 s1 _ fun v H2 s2 hv => ⟨k1, hv.is_bl, by
    cases k1 with
    | false => exact hb rfl H2 (s1.trans s2) _ fun u H3 s3 hu => by rw [hu.is_bl]; exact q _ H3 (s2.trans s3) (.bl _)
    | true => exact q _ H2 s2 (.bl _)⟩)
theorem c_and3 {k3 : Bool} (ha : CD All_ X a σ H (.bool k1)) (hb : k1 = true → CD All_ X b σ H (.bool k2)) (hc : k1 = true → k2 = true → CD All_ X c σ H (.bool k3)) : CD N X (.BoolOp .And [a, b, c] pos) σ H (.bool (k1 && (k2 && k3))) := fun H1 s1 Q q =>
  (pe_and (ew X a) (pe_and (ew X b) (pe_one (ew X c)))).w (ha H1 s1 _ fun v H2 s2 hv => ⟨k1, hv.is_bl, by
    cases k1 with
    | false => exact q _ H2 s2 (.bl _)
    | true => exact hb rfl H2 (s1.trans s2) _ fun u H3 s3 hu => ⟨k2, hu.is_bl, by
      cases k2 with
      | false => exact q _ H3 (s2.trans s3) (.bl _)
      | true => exact hc rfl rfl H3 ((s1.trans s2).trans s3) _ fun u' H4 s4 hu' => by rw [hu'.is_bl]; exact q _ H4 ((s2.trans s3).trans s4) (.bl _)⟩⟩)
theorem c_ifExp (hc : CT X c σ H k) (ha : k = true → CD N X a σ H d) (hb : k = false → CD N X b σ H d) : CD N X (.IfExp c a b pos) σ H d := fun H1 s1 Q q =>
  (pe_ifExp (tw X c) (ew X a) (ew X b)).w (hc H1 s1 _ fun H2 s2 => by
    cases k with
    | true => exact ha rfl H2 (s1.trans s2) _ fun v H3 s3 hv => q v H3 (s2.trans s3) hv
    | false => exact hb rfl H2 (s1.trans s2) _ fun v H3 s3 hv => q v H3 (s2.trans s3) hv)

/-! ### built-ins -/
theorem cb_one {id : String} {r : List V → Hp → VK → Prop} {x : Str} {p : Pos} {d0 : PyData} {N0 : Addr → Prop} (hr : CallR X (.builtin id) r) (hm : X.mg x = none) (hv : bootBuiltins x = some (.builtin id)) (ha : CD N0 X a σ H d0) (hg : Gl X x) (hn : x ≠ "__name__" := by decide) (hdb : (x == ("__debug__" : Str)) = false := by decide)
    (he : starEach [a] X.env = [(false, eval a X.env)]) (hr' : ∀ v H2, Same H H2 → Dv N0 H2 v d0 → ∀ Q : VK, (∀ u H3, Same H2 H3 → Dv N H3 u d → Q u H3) → r [v] H2 Q) : CD N X (.Call (.Name x p) [a] [] pos) σ H d := fun H1 s1 Q q =>
  (pe_callB hr hg hm hv (pa_cons (ew X a) pa_nil (by rw [he]; rfl)) hn hdb (by rw [he]; rfl) rfl).w (ha H1 s1 _ fun v H2 s2 hv => hr' v H2 (s1.trans s2) hv Q fun u H3 s3 hu => q u H3 (s2.trans s3) hu)
theorem c_lenL {p : Pos} (hm : X.mg "len" = none) (ha : CD All_ X a σ H (.list ds)) (hg : Gl X "len" := by rfl) (he : starEach [a] X.env = [(false, eval a X.env)] := by rfl) : CD N X (.Call (.Name "len" p) [a] [] pos) σ H (.int ds.length) :=
  cb_one call_len_seq hm PySem.boot_len ha hg (he := he) (hr' := fun v H2 s2 hv Q q => by
    obtain ⟨l, xs, rfl, hl, _, dl⟩ := hv.is_lst
    refine ⟨l, xs, rfl, .inl (SqL.of hl), ?_⟩
    rw [dl.length]
    exact q _ H2 (Same.refl H2) (.int _))
theorem c_lenT {p : Pos} (hm : X.mg "len" = none) (ha : CD All_ X a σ H (.tuple ds)) (hg : Gl X "len" := by rfl) (he : starEach [a] X.env = [(false, eval a X.env)] := by rfl) : CD N X (.Call (.Name "len" p) [a] [] pos) σ H (.int ds.length) :=
  cb_one call_len_seq hm PySem.boot_len ha hg (he := he) (hr' := fun v H2 s2 hv Q q => by
    obtain ⟨l, xs, rfl, hl, dl⟩ := hv.is_tup
    refine ⟨l, xs, rfl, .inr (SqT.of hl), ?_⟩
    rw [dl.length]
    exact q _ H2 (Same.refl H2) (.int _))
theorem c_lenS {p : Pos} {x : Str} (hm : X.mg "len" = none) (ha : CD All_ X a σ H (.str x)) (hx : x.length ≤ 1000) (hg : Gl X "len" := by rfl) (he : starEach [a] X.env = [(false, eval a X.env)] := by rfl) : CD N X (.Call (.Name "len" p) [a] [] pos) σ H (.int x.length) :=
  cb_one call_len_str hm PySem.boot_len ha hg (he := he) (hr' := fun v H2 s2 hv Q q => ⟨x, by rw [hv.is_str], by rw [sizeLine_eq]; omega, q _ H2 (Same.refl H2) (.int _)⟩)
theorem c_all {p : Pos} {bs : List Bool} (hc : X.calm = true) (hm : X.mg "all" = none) (ha : CD All_ X a σ H (.list (bs.map .bool))) (hg : Gl X "all" := by rfl) (he : starEach [a] X.env = [(false, eval a X.env)] := by rfl) : CD N X (.Call (.Name "all" p) [a] [] pos) σ H (.bool (bs.all id)) :=
  cb_one (cr_all hc) hm (by decide +kernel) ha hg (he := he) (hr' := fun v H2 s2 hv Q q => by
    obtain ⟨l, xs, rfl, hl, _, dl⟩ := hv.is_lst
    rw [dl.bls] at hl
    exact ⟨l, bs, rfl, SqL.of hl, q _ H2 (Same.refl H2) (.bl _)⟩)
theorem c_any {p : Pos} {bs : List Bool} (hc : X.calm = true) (hm : X.mg "any" = none) (ha : CD All_ X a σ H (.list (bs.map .bool))) (hg : Gl X "any" := by rfl) (he : starEach [a] X.env = [(false, eval a X.env)] := by rfl) : CD N X (.Call (.Name "any" p) [a] [] pos) σ H (.bool (bs.any id)) :=
  cb_one (cr_any hc) hm (by decide +kernel) ha hg (he := he) (hr' := fun v H2 s2 hv Q q => by
    obtain ⟨l, xs, rfl, hl, _, dl⟩ := hv.is_lst
    rw [dl.bls] at hl
    exact ⟨l, bs, rfl, SqL.of hl, q _ H2 (Same.refl H2) (.bl _)⟩)
theorem c_abs {p : Pos} {i : Int} (hm : X.mg "abs" = none) (ha : CD All_ X a σ H (.int i)) (hg : Gl X "abs" := by rfl) (he : starEach [a] X.env = [(false, eval a X.env)] := by rfl) : CD N X (.Call (.Name "abs" p) [a] [] pos) σ H (.int (if i < 0 then -i else i)) :=
  cb_one call_abs hm (by decide +kernel) ha hg (he := he) (hr' := fun v H2 s2 hv Q q => ⟨i, by rw [hv.is_int], q _ H2 (Same.refl H2) (.int _)⟩)
theorem ct_one {T : String} {r : List V → Hp → VK → Prop} {x : Str} {p : Pos} {d0 : PyData} {N0 : Addr → Prop} (hr : CallR X (.type T) r) (hm : X.mg x = none) (hv : bootBuiltins x = some (.type T)) (ha : CD N0 X a σ H d0) (hg : Gl X x) (hn : x ≠ "__name__" := by decide) (hdb : (x == ("__debug__" : Str)) = false := by decide)
    (he : starEach [a] X.env = [(false, eval a X.env)]) (hr' : ∀ v H2, Same H H2 → Dv N0 H2 v d0 → ∀ Q : VK, (∀ u H3, Same H2 H3 → Dv N H3 u d → Q u H3) → r [v] H2 Q) : CD N X (.Call (.Name x p) [a] [] pos) σ H d := fun H1 s1 Q q =>
  (pe_callTy hr hg hm hv (pa_cons (ew X a) pa_nil (by rw [he]; rfl)) hn hdb (by rw [he]; rfl) rfl).w (ha H1 s1 _ fun v H2 s2 hv => hr' v H2 (s1.trans s2) hv Q fun u H3 s3 hu => q u H3 (s2.trans s3) hu)
theorem c_tupleL {p : Pos} (hm : X.mg "tuple" = none) (ha : CD N X a σ H (.list ds)) (hg : Gl X "tuple" := by rfl) (he : starEach [a] X.env = [(false, eval a X.env)] := by rfl) : CD N X (.Call (.Name "tuple" p) [a] [] pos) σ H (.tuple ds) :=
  ct_one call_tuple_of hm (by decide +kernel) ha hg (he := he) (hr' := fun v H2 s2 hv Q q => by
    obtain ⟨l, xs, rfl, hl, _, dl⟩ := hv.is_lst
    exact ⟨l, xs, rfl, .inl ⟨SqL.of hl, fun p hp => q _ _ (same_new hp) (.tup upd_same (dl.keep (same_new hp)))⟩⟩)
theorem c_listL {p : Pos} (hm : X.mg "list" = none) (ha : CD N X a σ H (.list ds)) (hN : ∀ p, H p = none → N p) (hg : Gl X "list" := by rfl) (he : starEach [a] X.env = [(false, eval a X.env)] := by rfl) : CD N X (.Call (.Name "list" p) [a] [] pos) σ H (.list ds) :=
  ct_one call_list_of hm (by decide +kernel) ha hg (he := he) (hr' := fun v H2 s2 hv Q q => by
    obtain ⟨l, xs, rfl, hl, _, dl⟩ := hv.is_lst
    exact ⟨l, xs, rfl, .inl (SqL.of hl), fun p hp => q _ _ (same_new hp) (.lst upd_same (hN p (s2.free hp)) (dl.keep (same_new hp)))⟩)

/-! ### fields -/
theorem v_fld {f : Str} {o : Expr} {p C dx : Addr} {fs : List (Str × V)} (ho : CV X o σ H (.ref p)) (hi : H p = some (.ins C dx fs)) (hC : Cls X.K C) (hn : NoAttr X.K C f) (hl : fs.lookup f = some v) (hb : attributeBase o f X.env (eval o X.env) = eval o X.env := by rfl) : CV X (.Attribute o f pos) σ H v := fun H1 s1 Q q =>
  (pe_fld (ew X o) hb).w (ho H1 s1 _ fun H2 s2 => ⟨p, C, dx, fs, v, rfl, s2 _ _ (s1 _ _ hi), hC, hn, hl, q H2 s2⟩)
/-! ### defs -/
/-- a pure def: from the arguments a data -/
def spF (pre : List AV → Hp → PyData → Prop) : Sp := fun vs H Q _ => ∃ as d, ARs H vs as ∧ pre as H d ∧ ∀ v H', Same H H' → Dv (Free H) H' v d → Q v H'
/-- a def of the module that keeps a promise -/
structure Kf (P : Program) (w : World) (K : PySem.W.Frag) (mg : Str → Option Value) (base : Heap) (j : Nat) (x : Str) (ps : List Str) (sp : Sp) : Prop where
  ex : ∃ (f : Addr) (fd : FuncData), FnOk P w K mg base CX0 j f fd ps sp ∧ mg x = some (.ref f) ∧ PySem.W.keepIn K (.ref f) = true ∧ Binds K fd ps []
theorem e_call {j : Nat} {x : Str} {ps : List Str} {sp : Sp} {p : Pos} {Q : VK} (G : Kf X.prog X.w X.K X.mg X.base j x ps sp) (hr : Room j X.A) (h : wA X (e :: es) σ H fun vs H1 => sp vs H1 Q E0) (hg : Gl X x := by rfl) (hdb : (x == ("__debug__" : Str)) = false := by decide)
    (he : starEach (e :: es) X.env = (false, eval e X.env) :: starEach es X.env := by rfl) (hpl : (backTo pos (starEach es X.env)).any (·.1) = false := by rfl) : wE X (.Call (.Name x p) (e :: es) [] pos) σ H Q := by
  obtain ⟨f, fd, F, hm, hk, hb⟩ := G.ex
  refine (pe_call F hr hg hm hk hb .nil pass0 (aw X (e :: es)) hdb he hpl).w ?_
  show wA X (e :: es) σ H fun vs H1 => sp (vs ++ []) H1 Q E0
  have e0 : (fun (vs : List V) (H1 : Hp) => sp (vs ++ []) H1 Q E0) = fun vs H1 => sp vs H1 Q E0 := by
    funext vs H1
    rw [List.append_nil]
  rw [e0]
  exact h
theorem c_call {pre : List AV → Hp → PyData → Prop} {j : Nat} {x : Str} {ps : List Str} {p : Pos} {as : List AV} (G : Kf X.prog X.w X.K X.mg X.base j x ps (spF pre)) (hr : Room j X.A) (args : CAs X (e :: es) σ H as) (hp : ∀ H', Same H H' → pre as H' d) (hN : ∀ p, H p = none → N p)
    (hg : Gl X x := by rfl) (hdb : (x == ("__debug__" : Str)) = false := by decide) (he : starEach (e :: es) X.env = (false, eval e X.env) :: starEach es X.env := by rfl) (hpl : (backTo pos (starEach es X.env)).any (·.1) = false := by rfl) :
    CD N X (.Call (.Name x p) (e :: es) [] pos) σ H d := fun H1 s1 Q q =>
  e_call G hr (args H1 s1 _ fun vs H2 s2 hvs => ⟨as, d, hvs, hp H2 (s1.trans s2), fun v H' s3 hv => q v H' (s2.trans s3) (hv.mono (Same.refl H') fun a ha => hN a ((s1.trans s2).free ha))⟩) hg hdb he hpl
end
end PY
set_option Elab.async false
set_option autoImplicit false
set_option linter.all false
set_option maxRecDepth 100000
set_option maxHeartbeats 2000000
/-! Statements, loops, comprehensions, the bodies of defs. -/
namespace PY
open PySem L2

abbrev gT2 (K : PySem.W.Frag) (i j : Nat) : TG := gTup K 2 (gCons (gName i) (gCons (gName j) gNil))
abbrev gT3 (K : PySem.W.Frag) (i j l : Nat) : TG := gTup K 3 (gCons (gName i) (gCons (gName j) (gCons (gName l) gNil)))
section
variable {N : Addr → Prop} {X : Cx} {e a b c : Expr} {es : List Expr} {σ : St} {H : Hp} {d d1 d2 d3 : PyData} {ds : List PyData} {v : V} {k k1 k2 : Bool} {pos : Pos} {st : Stmt} {sts : List Stmt} {D : Ends}
/-! ### blocks -/
theorem b_cons (h : wS X st { D with nx := wB X sts D } σ H) : wB X (st :: sts) D σ H := (pss_cons (sw X st) (bw X sts)).w h
theorem b_nil (h : D.nx σ H) : wB X [] D σ H := pss_nil.w h
theorem b_one (h : wS X st D σ H) : wB X [st] D σ H := (pss_one (sw X st)).w h
/-! ### plain statements -/
theorem s_set (i : Nat) {x : Str} {pos' : Pos} (nd : X.N.Nodup) (h : wE X e σ H fun v H1 => D.nx (σ.set i (some v)) H1) (hi : X.N[i]? = some x := by rfl) (hx : Loc X.env.scope x := by first | exact Or.inl rfl | exact Or.inr rfl) (hs : swapsWith e (some (.Name x pos')) pos.line X.env = pure false := by rfl)
    (hf : X.fn x = true ∨ X.env.scope.names.lookup x = some .local := by first | exact .inl rfl | exact .inr rfl | assumption) : wS X (.Assign [.Name x pos'] e pos) D σ H := (ps_set nd hi hx (ew X e) hs hf).w h
theorem s_expr (h : wE X e σ H fun _ H1 => D.nx σ H1) (hs : swapsWith e none pos.line X.env = pure false := by rfl) : wS X (.Expr e pos) D σ H := (ps_expr (ew X e) hs).w h
theorem s_ret (h : wE X e σ H D.rt) : wS X (.Return (some e) pos) D σ H := (ps_ret (ew X e)).w h
theorem s_if {A B : List Stmt} (h : wT X c σ H fun b H1 => if b = true then wB X A D σ H1 else wB X B D σ H1) : wS X (.If c A B pos) D σ H := (ps_if (tw X c) (bw X A) (bw X B)).w h
theorem s_ifB {A B : List Stmt} (hc : CT X c σ H k) (h1 : k = true → ∀ H1, Same H H1 → wB X A D σ H1) (h2 : k = false → ∀ H1, Same H H1 → wB X B D σ H1) : wS X (.If c A B pos) D σ H := s_if (hc.run fun H1 s1 => by
  cases k with
  | true => exact h1 rfl H1 s1
  | false => exact h2 rfl H1 s1)
/-- a, b, .. = e by the targets' rule -/
theorem s_asg {tg : Expr} {g : TG} (hg : PG X tg g) (h : wE X e σ H fun v H1 => g v σ H1 D.nx) (hs : swapsWithSole [tg] e pos.line X.env = pure false := by rfl) (hw : swappedStores [tg] e X.env = pure none := by rfl)
    (h1 : (assignEach [tg] X.env).map (·.2) = [assign tg X.env] := by rfl) : wS X (.Assign [tg] e pos) D σ H := (ps_asg (ew X e) hg hs hw h1).w h
/-- o[i] = e of a list -/
theorem s_setL {o i : Expr} {tpos : Pos} (h : wE X e σ H fun v H1 => wE X o σ H1 fun x H2 => wE X i σ H2 fun y H3 => rSetL x y v H3 fun H4 => D.nx σ H4)
    (hs : swapsWithSole [.Subscript o i tpos] e pos.line X.env = pure false := by rfl) (hw : swappedStores [.Subscript o i tpos] e X.env = pure none := by rfl)
    (h1 : (assignEach [.Subscript o i tpos] X.env).map (·.2) = [assign (.Subscript o i tpos) X.env] := by rfl) (ha : ∀ v, assign (.Subscript o i tpos) X.env v = (do
      let ov ← holding [v] (eval o X.env)
      let iv ← holding [v, ov] (eval i X.env)
      standAt tpos
      holding [v, ov, iv] (setItem ov iv v)
      release [v, ov, iv] []) := by intro _; rfl) : wS X (.Assign [.Subscript o i tpos] e pos) D σ H :=
  (ps_asg (ew X e) (pg_sub (ew X o) (ew X i) set_list ha) hs hw h1).w h
/-- xs.append(e) -/
theorem e_app {apos : Pos} {l : Addr} {xs : List V} {Q : VK} (ha : CV X a σ H (.ref l)) (he : CD N X e σ H d) (hl : H l = some (.lst xs)) (hz : xs.length < sizeLine) (q : ∀ v H1, Same H H1 → Dv N H1 v d → Q .non (upd H1 l (.lst (xs ++ [v]))))
    (h1 : PE X (.Call (.Attribute a "append" apos) [e] [] pos) (tBM X.K "list" rAppend (wE X a) (tCons (wE X e) tNil)) := by exact pe_bm PySem.F.plainAttrs_list PySem.F.slot_list_append PySem.F.type_list_append mt_append (ew _ _) (pa_cons (ew _ _) pa_nil)) : wE X (.Call (.Attribute a "append" apos) [e] [] pos) σ H Q :=
  h1.w (ha.run fun H1 s1 => ⟨.inl ⟨rfl, xs, SqL.of (s1 _ _ hl)⟩, he H1 s1 _ fun v H2 s2 hv => ⟨l, xs, v, rfl, rfl, s2 _ _ (s1 _ _ hl), hz, q v H2 (s1.trans s2) hv⟩⟩)
/-- xs.extend(e), e a new list -/
theorem e_ext {apos : Pos} {l : Addr} {xs : List V} {Q : VK} (ha : CV X a σ H (.ref l)) (he : CD N X e σ H (.list ds)) (hl : H l = some (.lst xs)) (hz : xs.length + ds.length ≤ sizeLine) (q : ∀ vs H1, Same H H1 → Da N H1 vs ds → Q .non (upd H1 l (.lst (xs ++ vs))))
    (h1 : PE X (.Call (.Attribute a "extend" apos) [e] [] pos) (tBM X.K "list" rExtend (wE X a) (tCons (wE X e) tNil)) := by exact pe_bm PySem.F.plainAttrs_list PySem.F.slot_list_extend PySem.F.type_list_extend mt_extend (ew _ _) (pa_cons (ew _ _) pa_nil)) : wE X (.Call (.Attribute a "extend" apos) [e] [] pos) σ H Q :=
  h1.w (ha.run fun H1 s1 => ⟨.inl ⟨rfl, xs, SqL.of (s1 _ _ hl)⟩, he H1 s1 _ fun v H2 s2 hv => by
    obtain ⟨m, ys, rfl, hm, _, dm⟩ := hv.is_lst
    exact ⟨l, m, xs, ys, rfl, rfl, s2 _ _ (s1 _ _ hl), hm, by rw [dm.length]; exact hz, q ys H2 (s1.trans s2) dm⟩⟩)
/-! ### targets -/
theorem g_name (i : Nat) {x : Str} (nd : X.N.Nodup) (hi : X.N[i]? = some x := by rfl) (hx : Loc X.env.scope x := by first | exact Or.inl rfl | exact Or.inr rfl) (hf : X.fn x = true ∨ X.env.scope.names.lookup x = some .local := by first | exact .inl rfl | exact .inr rfl | assumption) : PG X (.Name x pos) (gName i) := pg_name nd hi hx hf
/-- a pair unpacked -/
theorem un2 {K : PySem.W.Frag} {i j : Nat} {Q : St → Hp → Prop} (hv : Dv N H v (.tuple [d1, d2])) (q : ∀ u1 u2, Dv N H u1 d1 → Dv N H u2 d2 → Q ((σ.set i (some u1)).set j (some u2)) H) : gTup K 2 (gCons (gName i) (gCons (gName j) gNil)) v σ H Q := by
  obtain ⟨p, xs, rfl, hp, da⟩ := hv.is_tup
  cases da with
  | cons h1 da =>
    cases da with
    | cons h2 da =>
      cases da
      exact ⟨p, _, rfl, SqT.of hp, rfl, _, _, rfl, _, _, rfl, rfl, q _ _ h1 h2⟩
theorem un3 {K : PySem.W.Frag} {i j l : Nat} {Q : St → Hp → Prop} (hv : Dv N H v (.tuple [d1, d2, d3])) (q : ∀ u1 u2 u3, Dv N H u1 d1 → Dv N H u2 d2 → Dv N H u3 d3 → Q (((σ.set i (some u1)).set j (some u2)).set l (some u3)) H) : gTup K 3 (gCons (gName i) (gCons (gName j) (gCons (gName l) gNil))) v σ H Q := by
  obtain ⟨p, xs, rfl, hp, da⟩ := hv.is_tup
  cases da with
  | cons h1 da =>
    cases da with
    | cons h2 da =>
      cases da with
      | cons h3 da =>
        cases da
        exact ⟨p, _, rfl, SqT.of hp, rfl, _, _, rfl, _, _, rfl, _, _, rfl, rfl, q _ _ _ h1 h2 h3⟩
/-! ### for -/
/-- over a list of data: Pv by the turn, the slots, the heap; it says that the list still stands -/
theorem s_forL {β : Type} {bs : List β} {enc : β → PyData} {tg : Expr} {body : List Stmt} {g : TG} (hc : X.calm = true) (hg : PG X tg g) (h : wE X e σ H fun v H1 => ∃ (N : Addr → Prop) (Pv : Nat → St → Hp → Prop), Pv 0 σ H1 ∧ (∀ i σ' H', i ≤ bs.length → Pv i σ' H' → Dv N H' v (.list (bs.map enc))) ∧
      (∀ i d x σ' H', bs[i]? = some d → Pv i σ' H' → Dv N H' x (enc d) → g x σ' H' fun σ2 H2 => wB X body { D with nx := Pv (i + 1), ct := Pv (i + 1), bk := D.nx } σ2 H2) ∧ ∀ σ' H', Pv bs.length σ' H' → D.nx σ' H')
    (hp : PassesOwn (model X.prog X.w) X.A X.env X.xe := by exact PassesOwn.never) (hs : ∀ x, foldedSetIterable e X.env x = pure x := by intro _; rfl) : wS X (.For tg e body [] pos) D σ H := by
  refine (ps_for hp hc (pi_list (ew X e)) hg (bw X body) hs).w (wE_mono h fun v H1 ⟨N, Pv, h0, hl, hs, hd⟩ => ?_)
  obtain ⟨p, xs, rfl, hxs, np, dxs⟩ := (hl 0 σ H1 (Nat.zero_le _) h0).is_lst
  refine ⟨p, rfl, ⟨xs, SqL.of hxs⟩, fun i m σ H => m = bs.length - i ∧ i ≤ bs.length ∧ Pv i σ H, ⟨_, rfl, Nat.zero_le _, h0⟩, ?_⟩
  rintro i m σ H ⟨rfl, hi, pv⟩
  obtain ⟨q, ys, e1, hys, _, dys⟩ := (hl i σ H hi pv).is_lst
  cases e1
  by_cases hlt : i < bs.length
  · refine .inr ⟨⟨ys, ys[i]'(by rw [dys.length, List.length_map]; exact hlt), SqL.of hys, by simp⟩, Pv (i + 1), fun σ' H' p' => ⟨bs.length - (i + 1), by omega, rfl, hlt, p'⟩, fun x H' y => ?_⟩
    obtain ⟨e, y⟩ := y
    subst e
    obtain ⟨d', e2, dx⟩ := dys.get (y ys (SqL.of hys))
    rw [List.getElem?_map] at e2
    cases e3 : bs[i]? with
    | none => rw [e3] at e2; cases e2
    | some d =>
      rw [e3] at e2
      cases e2
      exact hs i d x σ _ e3 pv dx
  · have e : i = bs.length := by omega
    subst e
    exact .inl ⟨⟨ys, SqL.of hys, by rw [dys.length, List.length_map]; exact Nat.le_refl _⟩, hd σ H pv⟩
theorem s_forT {β : Type} {bs : List β} {enc : β → PyData} {tg : Expr} {body : List Stmt} {g : TG} (hc : X.calm = true) (hg : PG X tg g) (h : wE X e σ H fun v H1 => ∃ (N : Addr → Prop) (Pv : Nat → St → Hp → Prop), Pv 0 σ H1 ∧ (∀ i σ' H', i ≤ bs.length → Pv i σ' H' → Dv N H' v (.tuple (bs.map enc))) ∧
      (∀ i d x σ' H', bs[i]? = some d → Pv i σ' H' → Dv N H' x (enc d) → g x σ' H' fun σ2 H2 => wB X body { D with nx := Pv (i + 1), ct := Pv (i + 1), bk := D.nx } σ2 H2) ∧ ∀ σ' H', Pv bs.length σ' H' → D.nx σ' H')
    (hp : PassesOwn (model X.prog X.w) X.A X.env X.xe := by exact PassesOwn.never) (hs : ∀ x, foldedSetIterable e X.env x = pure x := by intro _; rfl) : wS X (.For tg e body [] pos) D σ H := by
  refine (ps_for hp hc (pi_tup (ew X e)) hg (bw X body) hs).w (wE_mono h fun v H1 ⟨N, Pv, h0, hl, hs, hd⟩ => ?_)
  obtain ⟨p, xs, rfl, hxs, dxs⟩ := (hl 0 σ H1 (Nat.zero_le _) h0).is_tup
  refine ⟨p, rfl, ⟨xs, SqT.of hxs⟩, fun i m σ H => m = bs.length - i ∧ i ≤ bs.length ∧ Pv i σ H, ⟨_, rfl, Nat.zero_le _, h0⟩, ?_⟩
  rintro i m σ H ⟨rfl, hi, pv⟩
  obtain ⟨q, ys, e1, hys, dys⟩ := (hl i σ H hi pv).is_tup
  cases e1
  by_cases hlt : i < bs.length
  · refine .inr ⟨⟨ys, ys[i]'(by rw [dys.length, List.length_map]; exact hlt), SqT.of hys, by simp⟩, Pv (i + 1), fun σ' H' p' => ⟨bs.length - (i + 1), by omega, rfl, hlt, p'⟩, fun x H' y => ?_⟩
    obtain ⟨e, y⟩ := y
    subst e
    obtain ⟨d', e2, dx⟩ := dys.get (y ys (SqT.of hys))
    rw [List.getElem?_map] at e2
    cases e3 : bs[i]? with
    | none => rw [e3] at e2; cases e2
    | some d =>
      rw [e3] at e2
      cases e2
      exact hs i d x σ _ e3 pv dx
  · have e : i = bs.length := by omega
    subst e
    exact .inl ⟨⟨ys, SqT.of hys, by rw [dys.length, List.length_map]; exact Nat.le_refl _⟩, hd σ H pv⟩
/-- over range(n) -/
theorem s_forR {tg : Expr} {body : List Stmt} {g : TG} {p : Pos} (hc : X.calm = true) (hm : X.mg "range" = none) (hg : PG X tg g) (h : wE X e σ H fun v H1 => ∃ (n : Nat) (Pv : Nat → St → Hp → Prop), v = .int n ∧ n ≤ 1000000 ∧ Pv 0 σ H1 ∧
      (∀ i σ' H', i < n → Pv i σ' H' → g (.int (i : Int)) σ' H' fun σ2 H2 => wB X body { D with nx := Pv (i + 1), ct := Pv (i + 1), bk := D.nx } σ2 H2) ∧ ∀ σ' H', Pv n σ' H' → D.nx σ' H')
    (hgl : Gl X "range" := by rfl) (hst : starEach [e] X.env = [(false, eval e X.env)] := by rfl) (hp : PassesOwn (model X.prog X.w) X.A X.env X.xe := by exact PassesOwn.never) (hs : ∀ x, foldedSetIterable (.Call (.Name "range" p) [e] [] pos) X.env x = pure x := by intro _; rfl) {pos' : Pos} : wS X (.For tg (.Call (.Name "range" p) [e] [] pos) body [] pos') D σ H := by
  refine (ps_for hp hc (pi_range1 hgl hm (pa_cons (ew X e) pa_nil (by rw [hst]; rfl)) hst) hg (bw X body) hs).w (wE_mono h fun v H1 ⟨n, Pv, e1, hn, h0, hs, hd⟩ => ?_)
  subst e1
  refine ⟨(n : Int), rfl, by omega, by omega, ?_⟩
  have en : (n : Int).toNat = n := Int.toNat_natCast n
  rw [en]
  refine for_range (lo := 0) (n := n) Pv h0 (fun i σ' H' hi p => ?_) hd
  rw [Int.zero_add]
  exact hs i σ' H' hi p
/-- over a text's signs -/
theorem s_forS {tg : Expr} {body : List Stmt} {g : TG} (hc : X.calm = true) (hg : PG X tg g) (h : wE X e σ H fun v H1 => ∃ (z : Str) (Pv : Nat → St → Hp → Prop), v = .str z ∧ Pv 0 σ H1 ∧
      (∀ (i : Nat) c σ' H', z.cps[i]? = some c → Pv i σ' H' → g (.str ⟨#[c]⟩) σ' H' fun σ2 H2 => wB X body { D with nx := Pv (i + 1), ct := Pv (i + 1), bk := D.nx } σ2 H2) ∧ ∀ σ' H', Pv z.cps.size σ' H' → D.nx σ' H')
    (hp : PassesOwn (model X.prog X.w) X.A X.env X.xe := by exact PassesOwn.never) (hs : ∀ x, foldedSetIterable e X.env x = pure x := by intro _; rfl) : wS X (.For tg e body [] pos) D σ H := by
  refine (ps_for hp hc (pi_str (ew X e)) hg (bw X body) hs).w (wE_mono h fun v H1 ⟨z, Pv, e1, h0, hs, hd⟩ => ?_)
  subst e1
  refine ⟨z, rfl, fun i m σ H => m = z.cps.size - i ∧ i ≤ z.cps.size ∧ Pv i σ H, ⟨_, rfl, Nat.zero_le _, h0⟩, ?_⟩
  rintro i m σ H ⟨rfl, hi, pv⟩
  by_cases hlt : i < z.cps.size
  · refine .inr ⟨hlt, Pv (i + 1), fun σ' H' p' => ⟨z.cps.size - (i + 1), by omega, rfl, hlt, p'⟩, fun x H' y => ?_⟩
    obtain ⟨e, c, hc, rfl⟩ := y
    subst e
    exact hs i c σ _ hc pv
  · have e : i = z.cps.size := by omega
    subst e
    exact .inl ⟨Nat.le_refl _, hd σ H pv⟩
/-- while, by a word and a measure -/
theorem s_while {body : List Stmt} (W : Nat → St → Hp → Prop) (m0 : Nat) (h0 : W m0 σ H) (turn : ∀ m σ H, W m σ H → wT X c σ H fun b H1 => if b = true then wB X body { D with nx := fun σ' H' => ∃ m', m' < m ∧ W m' σ' H', ct := fun σ' H' => ∃ m', m' < m ∧ W m' σ' H', bk := D.nx } σ H1 else D.nx σ H1)
    (hp : PassesOwn (model X.prog X.w) X.A X.env X.xe := by exact PassesOwn.never) : wS X (.While c body [] pos) D σ H :=
  (ps_while hp (tw X c) (bw X body)).w ⟨W, ⟨m0, h0⟩, fun m σ H w => wT_mono (turn m σ H w) fun b H1 q => by
    cases b with
    | true => exact ⟨_, fun _ _ z => z, q⟩
    | false => exact q⟩
end
end PY
set_option Elab.async false
set_option autoImplicit false
set_option linter.all false
set_option maxRecDepth 100000
set_option maxHeartbeats 2000000
/-! Comprehensions; the bodies of defs. -/
namespace PY
open PySem L2

/-! ### within a comprehension's block, wherever it is laid -/
def bE (X : Cx) (sc : Scope) (e : Expr) : TE := fun σ H Q => ∀ (s : Shared) (Hb : Hp) (C : Addr) (cl : List (Str × Addr)) (fp : List Addr), wE (X.blk s Hb sc (compEnvC sc cl C X.env) fp) e σ H Q
def bT (X : Cx) (sc : Scope) (e : Expr) : TT := fun σ H Q => ∀ (s : Shared) (Hb : Hp) (C : Addr) (cl : List (Str × Addr)) (fp : List Addr), wT (X.blk s Hb sc (compEnvC sc cl C X.env) fp) e σ H Q
section
variable {N : Addr → Prop} {X : Cx} {e a b c : Expr} {es : List Expr} {σ : St} {H : Hp} {d d1 d2 d3 : PyData} {ds : List PyData} {v : V} {k k1 k2 : Bool} {pos : Pos} {st : Stmt} {sts : List Stmt} {D : Ends}
theorem blk_e (X : Cx) (sc : Scope) (e : Expr) (s : Shared) (Hb : Hp) (C : Addr) (cl : List (Str × Addr)) (fp : List Addr) : PE (X.blk s Hb sc (compEnvC sc cl C X.env) fp) e (bE X sc e) := ⟨fun pins s' σ H Q I h => (h s Hb C cl fp).go pins s' I⟩
theorem blk_t (X : Cx) (sc : Scope) (e : Expr) (s : Shared) (Hb : Hp) (C : Addr) (cl : List (Str × Addr)) (fp : List Addr) : PT (X.blk s Hb sc (compEnvC sc cl C X.env) fp) e (bT X sc e) := ⟨fun pins s' σ H Q I h => (h s Hb C cl fp).go pins s' I⟩

/-! ### sources of data -/
/-- the walk J gives the data ds, one by one, while all that stands stays -/
def Src (N : Addr → Prop) (J : It) (H : Hp) (ds : List PyData) : Prop := Walk J ds.length (fun H' => Same H H') (fun i H' x H'' => H'' = H' ∧ ∃ d, ds[i]? = some d ∧ Dv (fun a => N a ∧ H a ≠ none) H' x d)
theorem src_list {K : PySem.W.Frag} {p : Addr} {xs : List V} (h : H p = some (.lst xs)) (hd : Da N H xs ds) : Src N (Itl K p) H ds := by
  have e := hd.length
  unfold Src
  rw [← e]
  exact walk_list.mono (fun H' s => SqL.of (s _ _ h)) fun i H' x H'' hi s y => by
    obtain ⟨y1, y2⟩ := y
    obtain ⟨d, h1, h2⟩ := (Da.apart _ _ hd).get y2
    exact ⟨y1, d, h1, h2.keep s⟩
theorem src_tup {K : PySem.W.Frag} {p : Addr} {xs : List V} (h : H p = some (.tup xs)) (hd : Da N H xs ds) : Src N (Itt K p) H ds := by
  have e := hd.length
  unfold Src
  rw [← e]
  exact walk_tup.mono (fun H' s => SqT.of (s _ _ h)) fun i H' x H'' hi s y => by
    obtain ⟨y1, y2⟩ := y
    obtain ⟨d, h1, h2⟩ := (Da.apart _ _ hd).get y2
    exact ⟨y1, d, h1, h2.keep s⟩
/-- lo, lo + 1, .. -/
def eUp (lo : Int) (i : Nat) : PyData := .int (lo + (i : Int))
abbrev upFrom (lo : Int) (n : Nat) : List PyData := (List.range n).map (eUp lo)
theorem upFrom_length (lo : Int) (n : Nat) : (upFrom lo n).length = n := by simp [upFrom]
theorem src_range {lo : Int} {n : Nat} : Src N (Itr lo n) H (upFrom lo n) := by
  unfold Src
  rw [upFrom_length]
  exact walk_range.mono (fun H' s => trivial) fun i H' x H'' hi s y => by
    obtain ⟨y1, y2⟩ := y
    subst y2
    exact ⟨y1, .int (lo + (i : Int)), by simp [eUp, hi], .int _⟩
/-- an iterable gives the data -/
def CI (N : Addr → Prop) (wi : TI) (σ : St) (H : Hp) (ds : List PyData) : Prop := ∀ H1, Same H H1 → ∀ R : It → Hp → Prop, (∀ J H2, Same H1 H2 → Src N J H2 ds → R J H2) → wi σ H1 R
theorem ci_list {K : PySem.W.Frag} (h : CD N X e σ H (.list ds)) : CI N (iList K (wE X e)) σ H ds := fun H1 s1 R q => h H1 s1 _ fun v H2 s2 hv => by
  obtain ⟨p, xs, rfl, hp, _, dp⟩ := hv.is_lst
  exact ⟨p, rfl, ⟨xs, SqL.of hp⟩, q _ H2 s2 (src_list hp dp)⟩
theorem ci_tup {K : PySem.W.Frag} (h : CD N X e σ H (.tuple ds)) : CI N (iTup K (wE X e)) σ H ds := fun H1 s1 R q => h H1 s1 _ fun v H2 s2 hv => by
  obtain ⟨p, xs, rfl, hp, dp⟩ := hv.is_tup
  exact ⟨p, rfl, ⟨xs, SqT.of hp⟩, q _ H2 s2 (src_tup hp dp)⟩
theorem ci_range1 {n : Nat} (h : CD All_ X e σ H (.int n)) (hn : n ≤ 1000000) : CI N (iRng1 (tCons (wE X e) tNil)) σ H (upFrom 0 n) := fun H1 s1 R q => h H1 s1 _ fun v H2 s2 hv => by
  refine ⟨(n : Int), by rw [hv.is_int], by omega, by omega, ?_⟩
  rw [Int.toNat_natCast]
  exact q _ H2 s2 src_range
theorem ci_range2 {i j : Int} (ha : CD All_ X a σ H (.int i)) (hb : CD All_ X b σ H (.int j)) (hi : -1000000 ≤ i ∧ i ≤ 1000000) (hj : -1000000 ≤ j ∧ j ≤ 1000000) : CI N (iRng2 (tCons (wE X a) (tCons (wE X b) tNil))) σ H (upFrom i (j - i).toNat) := fun H1 s1 R q =>
  c_two ha hb s1 fun x y H2 s2 hx hy => ⟨i, j, by rw [hx.is_int, hy.is_int], ⟨by omega, by omega, by omega, by omega⟩, q _ H2 s2 src_range⟩

/-! ### comprehensions of data -/
theorem take_succ_get {α : Type} {l : List α} {i : Nat} {x : α} (h : l[i]? = some x) : l.take (i + 1) = l.take i ++ [x] := by
  rw [List.take_succ, h]; rfl
theorem lc_read {β : Type} {bs : List β} {enc : β → PyData} {elt : Expr} {scope : Scope} {own : List (Str × Nat)} {wi : TI} {g : TG} {tt : TT} {N0 : Addr → Prop} {H1 : Hp} {Q : VK} (t : β → Bool) (f : β → PyData)
    (he : CI N0 wi σ H (bs.map enc)) (hz : bs.length ≤ 16000000) (hN : ∀ p, H p = none → N p) (hN0 : ∀ p, N0 p → N p)
    (hel : ∀ (N' : Addr → Prop) (d : β) (x : V) (H' : Hp), d ∈ bs → Same H H' → Dv N' H' x (enc d) → (∀ p, H' p = none → N' p) → ∀ R : St → Hp → Prop,
      (∀ σ2, wipe σ2 (own.map (·.2)) = wipe σ (own.map (·.2)) → (∀ T : Bool → Hp → Prop, (∀ H3, Same H' H3 → T (t d) H3) → tt σ2 H' T) →
        (t d = true → ∀ (s : Shared) (Hb : Hp) (C : Addr) (cl : List (Str × Addr)) (fp : List Addr), CD N' (X.blk s Hb scope (compEnvC scope cl C X.env) fp) elt σ2 H' (f d)) → R σ2 H') → g x (wipe σ (own.map (·.2))) H' R)
    (s1 : Same H H1) (q : ∀ v H2, Same H1 H2 → Dv N H2 v (.list ((bs.filter t).map f)) → Q v H2) : tLc wi g tt (bE X scope elt) (own.map (·.2)) σ H1 Q := by
  refine he H1 s1 _ fun J H2 s2 src D hD => ?_
  refine lc_it src (fun i H' => Same H2 H' ∧ ∃ acc, H' D = some (.lst acc) ∧ Da (fun a => a ≠ D ∧ N a) H' acc (((bs.take i).filter t).map f)) ⟨same_new hD, [], upd_same, .nil⟩ (fun i H' _ h => h.1) ?_ ?_
  · rintro i x H' H'' hlt ⟨sm, acc, ha, da⟩ ⟨rfl, d', hd', dx⟩
    obtain ⟨d, hd, ed⟩ : ∃ d, bs[i]? = some d ∧ d' = enc d := by
      rw [List.getElem?_map] at hd'
      cases e : bs[i]? with
      | none => rw [e] at hd'; cases hd'
      | some p => rw [e] at hd'; exact ⟨p, rfl, (Option.some.inj hd').symm⟩
    subst ed
    have sH : Same H H'' := (s1.trans s2).trans sm
    have dx' : Dv (fun a => a ≠ D ∧ N a) H'' x (enc d) := dx.mono (Same.refl _) fun a ⟨h1, h2⟩ => ⟨fun z => h2 (z ▸ hD), hN0 a h1⟩
    have fr : ∀ p, H'' p = none → p ≠ D ∧ N p := fun p hp => ⟨fun z => (by rw [z, ha] at hp; cases hp), hN p (sH.free hp)⟩
    refine hel (fun a => a ≠ D ∧ N a) d x H'' (List.mem_of_getElem? hd) sH dx' fr _ fun σ2 hw htt hce => ⟨hw, htt _ fun H3 s3 => ?_⟩
    have al : acc.length < sizeLine := by
      have h1 := da.length
      have h2 : (((bs.take i).filter t).map f).length ≤ bs.length := by
        rw [List.length_map]
        exact Nat.le_trans (List.length_filter_le _ _) (by rw [List.length_take]; exact Nat.min_le_right _ _)
      rw [sizeLine_eq]; omega
    cases etd : t d with
    | true =>
      show bE X scope elt σ2 H3 _
      intro s Hb C cl fp
      refine hce etd s Hb C cl fp H3 s3 _ fun y H4 s4 hy => ⟨acc, s4 _ _ (s3 _ _ ha), al, PY.Same.over (sm.trans (s3.trans s4)) hD, _, upd_same, ?_⟩
      have e1 : ((bs.take (i + 1)).filter t).map f = ((bs.take i).filter t).map f ++ [f d] := by
        rw [take_succ_get hd, List.filter_append, List.map_append, List.filter_cons, etd]
        rfl
      rw [e1]
      exact ((da.keep (s3.trans s4)).snoc hy).over (s4 _ _ (s3 _ _ ha)) fun z => z.1 rfl
    | false =>
      show Same H2 H3 ∧ _
      refine ⟨sm.trans s3, acc, s3 _ _ ha, ?_⟩
      have e1 : ((bs.take (i + 1)).filter t).map f = ((bs.take i).filter t).map f := by
        rw [take_succ_get hd, List.filter_append, List.map_append, List.filter_cons, etd]
        simp
      rw [e1]
      exact da.keep s3
  · rintro H' ⟨sm, acc, ha, da⟩
    rw [List.length_map, List.take_length] at da
    exact q _ H' (s2.trans sm) (.lst ha (hN D ((s1.trans s2).free hD)) (da.mono (Same.refl _) fun a z => z.2))
theorem filter_yes {α : Type} (l : List α) : l.filter (fun _ => true) = l := by simp
/-- what a block must give of each item: without a test, with one -/
def El0 (X : Cx) (scope : Scope) (vs : List Nat) (elt : Expr) (g : TG) (σ : St) (H : Hp) {β : Type} (bs : List β) (enc : β → PyData) (f : β → PyData) : Prop :=
  ∀ (N' : Addr → Prop) (d : β) (x : V) (H' : Hp), d ∈ bs → Same H H' → Dv N' H' x (enc d) → (∀ p, H' p = none → N' p) → ∀ R : St → Hp → Prop,
      (∀ σ2, wipe σ2 vs = wipe σ vs → (∀ (s : Shared) (Hb : Hp) (C : Addr) (cl : List (Str × Addr)) (fp : List Addr), CD N' (X.blk s Hb scope (compEnvC scope cl C X.env) fp) elt σ2 H' (f d)) → R σ2 H') → g x (wipe σ vs) H' R
def El1 (X : Cx) (scope : Scope) (vs : List Nat) (elt c : Expr) (g : TG) (σ : St) (H : Hp) {β : Type} (bs : List β) (enc : β → PyData) (t : β → Bool) (f : β → PyData) : Prop :=
  ∀ (N' : Addr → Prop) (d : β) (x : V) (H' : Hp), d ∈ bs → Same H H' → Dv N' H' x (enc d) → (∀ p, H' p = none → N' p) → ∀ R : St → Hp → Prop,
      (∀ σ2, wipe σ2 vs = wipe σ vs → (∀ (s : Shared) (Hb : Hp) (C : Addr) (cl : List (Str × Addr)) (fp : List Addr), CT (X.blk s Hb scope (compEnvC scope cl C X.env) fp) c σ2 H' (t d)) →
        (t d = true → ∀ (s : Shared) (Hb : Hp) (C : Addr) (cl : List (Str × Addr)) (fp : List Addr), CD N' (X.blk s Hb scope (compEnvC scope cl C X.env) fp) elt σ2 H' (f d)) → R σ2 H') → g x (wipe σ vs) H' R
theorem lc_read0 {β : Type} {bs : List β} {enc : β → PyData} {elt : Expr} {scope : Scope} {own : List (Str × Nat)} {wi : TI} {g : TG} {N0 : Addr → Prop} {H1 : Hp} {Q : VK} (f : β → PyData) (he : CI N0 wi σ H (bs.map enc)) (hz : bs.length ≤ 16000000) (hN : ∀ p, H p = none → N p) (hN0 : ∀ p, N0 p → N p)
    (hel : El0 X scope (own.map (·.2)) elt g σ H bs enc f) (s1 : Same H H1) (q : ∀ v H2, Same H1 H2 → Dv N H2 v (.list (bs.map f)) → Q v H2) : tLc wi g tYes (bE X scope elt) (own.map (·.2)) σ H1 Q :=
  lc_read (tt := tYes) (fun _ => true) f he hz hN hN0 (fun N' d x H' hd s hx hfr R k => hel N' d x H' hd s hx hfr R fun σ2 hw hce => k σ2 hw (fun T hT => hT H' (Same.refl H')) fun _ => hce) s1 (by rw [filter_yes]; exact q)
theorem lc_read1 {β : Type} {bs : List β} {enc : β → PyData} {elt c : Expr} {scope : Scope} {own : List (Str × Nat)} {wi : TI} {g : TG} {N0 : Addr → Prop} {H1 : Hp} {Q : VK} (t : β → Bool) (f : β → PyData) (he : CI N0 wi σ H (bs.map enc)) (hz : bs.length ≤ 16000000) (hN : ∀ p, H p = none → N p) (hN0 : ∀ p, N0 p → N p)
    (hel : El1 X scope (own.map (·.2)) elt c g σ H bs enc t f) (s1 : Same H H1) (q : ∀ v H2, Same H1 H2 → Dv N H2 v (.list ((bs.filter t).map f)) → Q v H2) : tLc wi g (bT X scope c) (bE X scope elt) (own.map (·.2)) σ H1 Q :=
  lc_read (tt := bT X scope c) t f he hz hN hN0 (fun N' d x H' hd s hx hfr R k => hel N' d x H' hd s hx hfr R fun σ2 hw hct hce => k σ2 hw (fun T hT s Hb C cl fp => hct s Hb C cl fp H' (Same.refl H') T hT) hce) s1 q
abbrev GB (X : Cx) (scope : Scope) (tg : Expr) (g : TG) : Prop := ∀ (s : Shared) (Hb : Hp) (C : Addr) (cl : List (Str × Addr)) (fp : List Addr), PG (X.blk s Hb scope (compEnvC scope cl C X.env) fp) tg g
/-- [elt for tg in iter] -/
theorem c_lc0 {β : Type} {bs : List β} {enc : β → PyData} {elt tg iter : Expr} {scope : Scope} {own : List (Str × Nat)} {wi : TI} {g : TG} {N0 : Addr → Prop} (f : β → PyData) (hc : X.calm = true) (nd : X.N.Nodup) (hi : PI X tg iter wi) (he : CI N0 wi σ H (bs.map enc)) (ok : BlkOk X.N X.env.scope scope own) (hg : GB X scope tg g)
    (hz : bs.length ≤ 16000000) (hN : ∀ p, H p = none → N p) (hN0 : ∀ p, N0 p → N p) (hel : El0 X scope (own.map (·.2)) elt g σ H bs enc f)
    (hs : ∀ x, foldedSetIterable iter X.env x = pure x := by intro _; rfl) : CD N X (.ListComp elt [⟨tg, iter, [], 0⟩] scope pos) σ H (.list (bs.map f)) := fun H1 s1 Q q =>
  (pe_lc hc nd hi ok hg (fun _ _ _ _ _ => pts_nil) (fun s Hb C cl fp => blk_e X scope elt s Hb C cl fp) hs).w (lc_read0 f he hz hN hN0 hel s1 q)
/-- [elt for tg in iter if c] -/
theorem c_lc1 {β : Type} {bs : List β} {enc : β → PyData} {elt tg iter c : Expr} {scope : Scope} {own : List (Str × Nat)} {wi : TI} {g : TG} {N0 : Addr → Prop} (t : β → Bool) (f : β → PyData) (hc : X.calm = true) (nd : X.N.Nodup) (hi : PI X tg iter wi) (he : CI N0 wi σ H (bs.map enc)) (ok : BlkOk X.N X.env.scope scope own) (hg : GB X scope tg g)
    (hz : bs.length ≤ 16000000) (hN : ∀ p, H p = none → N p) (hN0 : ∀ p, N0 p → N p) (hel : El1 X scope (own.map (·.2)) elt c g σ H bs enc t f)
    (hs : ∀ x, foldedSetIterable iter X.env x = pure x := by intro _; rfl) : CD N X (.ListComp elt [⟨tg, iter, [c], 0⟩] scope pos) σ H (.list ((bs.filter t).map f)) := fun H1 s1 Q q =>
  (pe_lc hc nd hi ok hg (fun s Hb C cl fp => pts_one (blk_t X scope c s Hb C cl fp)) (fun s Hb C cl fp => blk_e X scope elt s Hb C cl fp) hs).w (lc_read1 t f he hz hN hN0 hel s1 q)
/-- a comprehension as it runs (what it makes may change) -/
theorem e_lc0 {elt tg iter : Expr} {scope : Scope} {own : List (Str × Nat)} {wi : TI} {g : TG} {Q : VK} (hc : X.calm = true) (nd : X.N.Nodup) (hi : PI X tg iter wi) (ok : BlkOk X.N X.env.scope scope own) (hg : GB X scope tg g)
    (h : tLc wi g tYes (bE X scope elt) (own.map (·.2)) σ H Q) (hs : ∀ x, foldedSetIterable iter X.env x = pure x := by intro _; rfl) : wE X (.ListComp elt [⟨tg, iter, [], 0⟩] scope pos) σ H Q :=
  (pe_lc hc nd hi ok hg (fun _ _ _ _ _ => pts_nil) (fun s Hb C cl fp => blk_e X scope elt s Hb C cl fp) hs).w h
/-- name = [elt for tg in iter] -/
theorem s_setLc0 {elt tg iter : Expr} {scope : Scope} {own : List (Str × Nat)} {wi : TI} {g : TG} (i : Nat) {y : Str} {py spos : Pos} (hc : X.calm = true) (nd : X.N.Nodup) (hi : PI X tg iter wi) (ok : BlkOk X.N X.env.scope scope own) (hg : GB X scope tg g)
    (h : tLc wi g tYes (bE X scope elt) (own.map (·.2)) σ H fun v H1 => D.nx (σ.set i (some v)) H1)
    (hy : X.N[i]? = some y := by rfl) (hyl : X.env.scope.names.lookup y = some .local := by rfl) (hsw : swapsWith (.ListComp elt [⟨tg, iter, [], 0⟩] scope pos) (some (.Name y py)) spos.line X.env = pure true := by exact sw_true rfl rfl rfl (by decide +kernel)) (hs : ∀ x, foldedSetIterable iter X.env x = pure x := by intro _; rfl) :
    wS X (.Assign [.Name y py] (.ListComp elt [⟨tg, iter, [], 0⟩] scope pos) spos) D σ H :=
  (ps_setLc hc nd hy hyl hsw hi ok hg (fun _ _ _ _ _ => pts_nil) (fun s Hb C cl fp => blk_e X scope elt s Hb C cl fp) hs).w h
theorem s_setLc1 {elt tg iter c : Expr} {scope : Scope} {own : List (Str × Nat)} {wi : TI} {g : TG} (i : Nat) {y : Str} {py spos : Pos} (hc : X.calm = true) (nd : X.N.Nodup) (hi : PI X tg iter wi) (ok : BlkOk X.N X.env.scope scope own) (hg : GB X scope tg g)
    (h : tLc wi g (bT X scope c) (bE X scope elt) (own.map (·.2)) σ H fun v H1 => D.nx (σ.set i (some v)) H1)
    (hy : X.N[i]? = some y := by rfl) (hyl : X.env.scope.names.lookup y = some .local := by rfl) (hsw : swapsWith (.ListComp elt [⟨tg, iter, [c], 0⟩] scope pos) (some (.Name y py)) spos.line X.env = pure true := by exact sw_true rfl rfl rfl (by decide +kernel)) (hs : ∀ x, foldedSetIterable iter X.env x = pure x := by intro _; rfl) :
    wS X (.Assign [.Name y py] (.ListComp elt [⟨tg, iter, [c], 0⟩] scope pos) spos) D σ H :=
  (ps_setLc hc nd hy hyl hsw hi ok hg (fun s Hb C cl fp => pts_one (blk_t X scope c s Hb C cl fp)) (fun s Hb C cl fp => blk_e X scope elt s Hb C cl fp) hs).w h
end

/-! ### the bodies of defs -/
abbrev FnP (K : PySem.W.Frag) (x qual : Str) (st : Stmt) (f : Addr) (fd : FuncData) : Prop := FunD K x qual (defArgs st) (defBody st) (defScope st) [] [] f fd
/-- a def's body, at an entry; nothing that is raised leaves it -/
abbrev bX (P : Program) (w : World) (K : PySem.W.Frag) (mg : Str → Option Value) (base : Heap) (N : List Str) (qual : Str) (st : Stmt) (f : Addr) (cdv : Value) (A : Around) (outer : List Env) (s : Shared) (H : Hp) (E : XK) : Cx :=
  (cxOf CX0 P w K mg base N qual (defScope st) f cdv A outer s H E).nox
section
variable {P : Program} {w : World} {K : PySem.W.Frag} {mg : Str → Option Value} {base : Heap}
theorem fn_body {x qual : Str} {st : Stmt} {f : Addr} {fd : FuncData} {N ps : List Str} {k : Nat} {sp : Sp} (F : FnP K x qual st f fd) (S : FnScope N ps (defScope st)) (len : ∀ vs H Q E, sp vs H Q E → vs.length = ps.length)
    (body : ∀ (cdv : Value) (A : Around) (outer : List Env) (s : Shared) (H : Hp) (vs : List V) (Q : VK) (E : XK), Room k (bX P w K mg base N qual st f cdv A outer s H E).A → sp vs H Q E →
      wB (bX P w K mg base N qual st f cdv A outer s H E) (defBody st) { nx := fun _ H' => Q .non H', rt := Q } (start N vs) H) : FnOk P w K mg base CX0 (k + 1) f fd ps sp :=
  FunD.ok F S len fun cdv A outer s H vs Q E hr h => ⟨_, PSs.nox (bw _ _), body cdv A outer s H vs Q E hr h⟩
/-- a pure def by its body -/
theorem pure_body {x qual : Str} {st : Stmt} {f : Addr} {fd : FuncData} {N ps : List Str} {k : Nat} {pre : List AV → Hp → PyData → Prop} (F : FnP K x qual st f fd) (S : FnScope N ps (defScope st)) (len : ∀ as H d, pre as H d → as.length = ps.length)
    (body : ∀ (cdv : Value) (A : Around) (outer : List Env) (s : Shared) (H : Hp) (vs : List V) (as : List AV) (d : PyData) (Q : VK) (E : XK), Room k (bX P w K mg base N qual st f cdv A outer s H E).A → ARs H vs as → pre as H d → (∀ v H', Same H H' → Dv (Free H) H' v d → Q v H') →
      wB (bX P w K mg base N qual st f cdv A outer s H E) (defBody st) { nx := fun _ H' => Q .non H', rt := Q } (start N vs) H) : FnOk P w K mg base CX0 (k + 1) f fd ps (spF pre) :=
  fn_body F S (fun vs H Q E ⟨as, d, h1, h2, _⟩ => h1.length.trans (len as H d h2)) fun cdv A outer s H vs Q E hr ⟨as, d, h1, h2, h3⟩ => body cdv A outer s H vs as d Q E hr h1 h2 h3
theorem kf_mk {x : Str} {st : Stmt} {f : Addr} {fd : FuncData} {ps : List Str} {j : Nat} {sp : Sp} (F : FnP K x x st f fd) (hm : mg x = some (.ref f)) (ok : FnOk P w K mg base CX0 j f fd ps sp)
    (hb : ∀ (kV doc pm : Value) (an : Option Addr) (cdv ct : Value) (us : List Value), us.length = ps.length → bindArgs (PySem.W.fnOf x x (defArgs st) (defBody st) (defScope st) .none kV doc pm an cdv ct) ⟨us, []⟩ = pure (ps.zip us)) : Kf P w K mg base j x ps sp :=
  ⟨f, fd, ok, hm, F.kp, FunD.bindsN F hb⟩
end
end PY
set_option Elab.async false
set_option autoImplicit false
set_option linter.all false
set_option maxRecDepth 100000
/-! What the top has written. -/
namespace PY
open PySem L2
/-- a def of the module -/
def Is (K : PySem.W.Frag) (mg : Str → Option Value) (x : Str) (st : Stmt) : Prop := ∃ f fd, FnP K x x st f fd ∧ mg x = some (.ref f)
structure Txt (K : PySem.W.Frag) (mg : Str → Option Value) (C : Addr) : Prop where
  f_is_piece : Is K mg "is_piece" s_is_piece
  f_crowns : Is K mg "crowns" s_crowns
  f_is_position : Is K mg "is_position" s_is_position
  f_check_position : Is K mg "check_position" s_check_position
  f_piece_at : Is K mg "piece_at" s_piece_at
  f_turned_step : Is K mg "turned_step" s_turned_step
  f_gone : Is K mg "gone" s_gone
  f_may_end : Is K mg "may_end" s_may_end
  f_ride : Is K mg "ride" s_ride
  f_ways_of : Is K mg "ways_of" s_ways_of
  f_all_ways : Is K mg "all_ways" s_all_ways
  f_on_goal : Is K mg "on_goal" s_on_goal
  f_verdict_of : Is K mg "verdict_of" s_verdict_of
  f_verdict : Is K mg "verdict" s_verdict
  f_moves_of : Is K mg "moves_of" s_moves_of
  f_check_move : Is K mg "check_move" s_check_move
  f_after_of : Is K mg "after_of" s_after_of
  f_after : Is K mg "after" s_after
  f_walked : Is K mg "walked" s_walked
  f_check_many : Is K mg "check_many" s_check_many
  f_lines_of : Is K mg "lines_of" s_lines_of
  f_lines : Is K mg "lines" s_lines
  f_check_asked : Is K mg "check_asked" s_check_asked
  f_wins : Is K mg "wins" s_wins
  f_win_by : Is K mg "win_by" s_win_by
  f_win_tree : Is K mg "win_tree" s_win_tree
  f_is_tree : Is K mg "is_tree" s_is_tree
  f_depth_of : Is K mg "depth_of" s_depth_of
  f_check_either : Is K mg "check_either" s_check_either
  f_depth : Is K mg "depth" s_depth
  f_end_of : Is K mg "end_of" s_end_of
  f_together : Is K mg "together" s_together
  f_rising : Is K mg "rising" s_rising
  f_is_step : Is K mg "is_step" s_is_step
  f_is_kind : Is K mg "is_kind" s_is_kind
  f_law_cell : Is K mg "_law_cell" s_law_cell
  f_law_begin : Is K mg "_law_begin" s_law_begin
  f_law_take : Is K mg "_law_take" s_law_take
  f_law_steps : Is K mg "_law_steps" s_law_steps
  f_law_kind : Is K mg "_law_kind" s_law_kind
  f_law_some_cells : Is K mg "_law_some_cells" s_law_some_cells
  f_law_parts : Is K mg "_law_parts" s_law_parts
  f_law_yard : Is K mg "_law_yard" s_law_yard
  f_law_position : Is K mg "_law_position" s_law_position
  f_law_race : Is K mg "_law_race" s_law_race
  f_law_ends : Is K mg "_law_ends" s_law_ends
  f_law : Is K mg "law" s_law
  b_abs : mg "abs" = none
  b_all : mg "all" = none
  b_any : mg "any" = none
  b_int : mg "int" = none
  b_len : mg "len" = none
  b_list : mg "list" = none
  b_max : mg "max" = none
  b_min : mg "min" = none
  b_range : mg "range" = none
  b_set : mg "set" = none
  b_sorted : mg "sorted" = none
  b_tuple : mg "tuple" = none
  i_MOST_PIECES : ∃ t, mg "MOST_PIECES" = some (.int 10 t)
  i_MOST_LINES : ∃ t, mg "MOST_LINES" = some (.int 4 t)
  i_MOST_MOVES : ∃ t, mg "MOST_MOVES" = some (.int 8 t)
  i_MOST_SIDE : ∃ t, mg "MOST_SIDE" = some (.int 5 t)
  i_MOST_KINDS : ∃ t, mg "MOST_KINDS" = some (.int 6 t)
  i_MOST_STEP : ∃ t, mg "MOST_STEP" = some (.int 4 t)
  i_WON : ∃ t, mg "WON" = some (.str "won" t)
  i_NOT : ∃ t, mg "NOT" = some (.str "not" t)
  i_LETTERS : ∃ t, mg "LETTERS" = some (.str "abcdefghijklmnopqrstuvwxyz" t)
  yC : mg "Yard" = some (.ref C)
  yCl : Cls K C
  y_height : NoAttr K C "height"
  y_width : NoAttr K C "width"
  y_holes : NoAttr K C "holes"
  y_stuck : NoAttr K C "stuck"
  y_goals : NoAttr K C "goals"
  y_kinds : NoAttr K C "kinds"
  m_init : ∃ f fd, FnP K "__init__" "Yard.__init__" s_Yard_init f fd ∧ Mk K C f
  m_on_board : ∃ f fd, FnP K "on_board" "Yard.on_board" s_Yard_on_board f fd ∧ Meth K C "on_board" f
  m_is_free : ∃ f fd, FnP K "is_free" "Yard.is_free" s_Yard_is_free f fd ∧ Meth K C "is_free" f
end PY
set_option Elab.async false
set_option autoImplicit false
set_option linter.all false
set_option maxRecDepth 100000
set_option maxHeartbeats 4000000
/-! The small defs: turned_step, gone, piece_at. -/
namespace PY
open PySem L2
theorem ARs.consD {H : Hp} {vs : List V} {x : PyData} {as : List AV} (h : ARs H vs (.d x :: as)) : ∃ v r, vs = v :: r ∧ Dv All_ H v x ∧ ARs H r as := by
  cases h with
  | cons h t =>
    cases h with
    | d h => exact ⟨_, _, rfl, h, t⟩
theorem ARs.consV {H : Hp} {vs : List V} {x : V} {as : List AV} (h : ARs H vs (.v x :: as)) : ∃ r, vs = x :: r ∧ ARs H r as ∧ True := by
  cases h with
  | cons h t =>
    cases h
    exact ⟨_, rfl, t, trivial⟩
theorem ARs.nilD {H : Hp} {vs : List V} (h : ARs H vs []) : vs = [] := by cases h; rfl
section
variable {P : Program} {w : World} {K : PySem.W.Frag} {mg : Str → Option Value} {base : Heap} {C : Addr}
theorem sc_turned_step : FnScope ["step", "side"] ["step", "side"] (defScope s_turned_step) := ⟨rfl, rfl, rfl, by decide +kernel, rfl, by decide +kernel, by decide +kernel⟩
def pre_turned_step : List AV → Hp → PyData → Prop := fun as _ d => ∃ st s, as = [.d (dCell st), .d (.int s)] ∧ d = dCell (turnedStep st s)
theorem kf_turned_step (T : Txt K mg C) : Kf P w K mg base 1 "turned_step" ["step", "side"] (spF pre_turned_step) := by
  obtain ⟨f, fd, F, hm⟩ := T.f_turned_step
  refine kf_mk F hm (pure_body F sc_turned_step (fun as H d ⟨_, _, e, _⟩ => by rw [e]; rfl) fun cdv A outer s H vs as d Q E hr ha hp q => ?_) (fun _ _ _ _ _ _ us hl => match us, hl with | [_, _], _ => rfl)
  obtain ⟨st, sd, rfl, rfl⟩ := hp
  obtain ⟨v1, _, rfl, h1, ha⟩ := ha.consD
  obtain ⟨v2, _, rfl, h2, ha⟩ := ha.consD
  cases ha.nilD
  refine b_cons (s_ifB (t_cmp eq_i (c_var 1 rfl h2) c_int) (fun e H1 s1 => ?_) fun e H1 s1 => ?_)
  · have e' : turnedStep st sd = st := if_pos (of_decide_eq_true e)
    rw [e'] at q
    exact b_one (s_ret ((c_var 0 rfl (Dv.noL _ _ (noL_cell st) (h1.keep s1))).run fun v H2 s2 hv => q v H2 (s1.trans s2) hv))
  · have e' : turnedStep st sd = (0 - st.1, 0 - st.2) := if_neg (of_decide_eq_false e)
    rw [e'] at q
    refine b_nil (b_one (s_ret (CD.run (d := dCell (0 - st.1, 0 - st.2)) (c_tup (cs_cons (c_sub c_int (c_ixT (c_var 0 rfl (h1.keep s1)) c_int rfl)) (cs_cons (c_sub c_int (c_ixT (c_var 0 rfl (h1.keep s1)) c_int rfl)) cs_nil))) fun v H2 s2 hv => q v H2 (s1.trans s2) hv)))
theorem sc_gone : FnScope ["cell", "step", "count"] ["cell", "step", "count"] (defScope s_gone) := ⟨rfl, rfl, rfl, by decide +kernel, rfl, by decide +kernel, by decide +kernel⟩
/-- a step's numbers are small -/
def SmallStep (st : Step) : Prop := (-100 ≤ st.1 ∧ st.1 ≤ 100) ∧ (-100 ≤ st.2 ∧ st.2 ≤ 100)
def pre_gone : List AV → Hp → PyData → Prop := fun as _ d => ∃ c st n, as = [.d (dCell c), .d (dCell st), .d (.int n)] ∧ (-100 ≤ n ∧ n ≤ 100) ∧ d = dCell (gone c st n)
theorem kf_gone (T : Txt K mg C) : Kf P w K mg base 1 "gone" ["cell", "step", "count"] (spF pre_gone) := by
  obtain ⟨f, fd, F, hm⟩ := T.f_gone
  refine kf_mk F hm (pure_body F sc_gone (fun as H d ⟨_, _, _, e, _⟩ => by rw [e]; rfl) fun cdv A outer s H vs as d Q E hr ha hp q => ?_) (fun _ _ _ _ _ _ us hl => match us, hl with | [_, _, _], _ => rfl)
  obtain ⟨c, st, n, rfl, hn, rfl⟩ := hp
  obtain ⟨v1, _, rfl, h1, ha⟩ := ha.consD
  obtain ⟨v2, _, rfl, h2, ha⟩ := ha.consD
  obtain ⟨v3, _, rfl, h3, ha⟩ := ha.consD
  cases ha.nilD
  have hc : ∀ j, CMul n j := fun j => .inl ⟨by omega, by omega⟩
  exact b_one (s_ret (CD.run (d := dCell (gone c st n)) (c_tup (cs_cons (c_add (c_ixT (c_var 0 rfl h1) c_int rfl) (c_mul (c_var 2 rfl h3) (c_ixT (c_var 1 rfl h2) c_int rfl) (hc _))) (cs_cons (c_add (c_ixT (c_var 0 rfl h1) c_int rfl) (c_mul (c_var 2 rfl h3) (c_ixT (c_var 1 rfl h2) c_int rfl) (hc _))) cs_nil))) fun v H2 s2 hv => q v H2 s2 hv))
theorem sc_piece_at : FnScope ["pieces", "cell", "other", "side", "kind"] ["pieces", "cell"] (defScope s_piece_at) := ⟨rfl, rfl, rfl, by decide +kernel, rfl, by decide +kernel, by decide +kernel⟩
def pre_piece_at : List AV → Hp → PyData → Prop := fun as _ d => ∃ ps c, as = [.d (dPieces ps), .d (dCell c)] ∧ d = dSK (pieceAt ps c)
theorem kf_piece_at (T : Txt K mg C) : Kf P w K mg base 1 "piece_at" ["pieces", "cell"] (spF pre_piece_at) := by
  obtain ⟨f, fd, F, hm⟩ := T.f_piece_at
  refine kf_mk F hm (pure_body F sc_piece_at (fun as H d ⟨_, _, e, _⟩ => by rw [e]; rfl) fun cdv A outer s H vs as d Q E hr ha hp q => ?_) (fun _ _ _ _ _ _ us hl => match us, hl with | [_, _], _ => rfl)
  obtain ⟨ps, c, rfl, rfl⟩ := hp
  obtain ⟨v1, _, rfl, h1, ha⟩ := ha.consD
  obtain ⟨v2, _, rfl, h2, ha⟩ := ha.consD
  cases ha.nilD
  refine b_cons (s_forT (bs := ps) (enc := dPiece) rfl (pg_tup rfl (pgs_cons (g_name 2 sc_piece_at.nd) (pgs_cons (g_name 3 sc_piece_at.nd) (pgs_cons (g_name 4 sc_piece_at.nd) pgs_nil)))) ((v_var 0 rfl).run fun H1 s1 => ⟨All_,
    fun i σ' H' => ∃ o2 o3 o4, σ' = [some v1, some v2, o2, o3, o4] ∧ Same H H' ∧ pieceAt ps c = pieceAt (ps.drop i) c, ⟨none, none, none, rfl, s1, rfl⟩, fun i σ' H' _ ⟨_, _, _, _, s', _⟩ => h1.keep s', ?_, ?_⟩))
  · rintro i p x σ' H' hp ⟨o2, o3, o4, rfl, s', e'⟩ hx
    have ed : ps.drop i = p :: ps.drop (i + 1) := by
      obtain ⟨hlt, e⟩ := List.getElem?_eq_some_iff.mp hp
      rw [List.drop_eq_getElem_cons hlt, e]
    rw [ed] at e'
    refine un3 (d1 := dCell p.1) (d2 := .int p.2.1) (d3 := .str p.2.2) hx fun u1 u2 u3 g1 g2 g3 => ?_
    refine b_one (s_ifB (t_cmp (eq_d (by have := hr.units; exact this) (sh_cell _) (sh_cell _)) (c_var 2 rfl g1) (c_var 1 rfl (h2.keep s'))) (fun e H1 s1 => ?_) fun e H1 s1 => ?_)
    · rw [eqv_cell] at e
      have e2 : pieceAt ps c = some p.2 := by
        rw [e']
        exact if_pos (of_decide_eq_true e)
      rw [e2] at q
      exact b_one (s_ret (CD.run (d := dSK (some p.2)) (c_tup (cs_cons (c_var 3 rfl ((g2.keep s1).noL _ _ (.int _))) (cs_cons (c_var 4 rfl ((g3.keep s1).noL _ _ (.str _))) cs_nil))) fun v H2 s2 hv => q v H2 ((s'.trans s1).trans s2) hv))
    · rw [eqv_cell] at e
      refine b_nil ⟨some u1, some u2, some u3, rfl, s'.trans s1, ?_⟩
      rw [e']
      exact if_neg (of_decide_eq_false e)
  · rintro σ' H' ⟨o2, o3, o4, rfl, s', e'⟩
    have e0 : ps.drop ps.length = [] := by simp
    rw [e0] at e'
    rw [e'] at q
    exact b_one (s_ret (CD.run (d := .none) c_non fun v H2 s2 hv => q v H2 (s'.trans s2) hv))
end
end PY
set_option Elab.async false
set_option autoImplicit false
set_option linter.all false
set_option maxRecDepth 100000
set_option maxHeartbeats 4000000
/-! A yard's fields and methods. -/
namespace PY
open PySem L2
section
variable (Y : Yr) (ho go ki : Addr)
theorem yl_height : (yfs Y ho go ki).lookup ("height" : Str) = some (.int Y.h) := by with_unfolding_all rfl
theorem yl_width : (yfs Y ho go ki).lookup ("width" : Str) = some (.int Y.w) := by with_unfolding_all rfl
theorem yl_holes : (yfs Y ho go ki).lookup ("holes" : Str) = some (.ref ho) := by with_unfolding_all rfl
theorem yl_stuck : (yfs Y ho go ki).lookup ("stuck" : Str) = some (.str (if Y.lost then "lost" else "drawn")) := by with_unfolding_all rfl
theorem yl_goals : (yfs Y ho go ki).lookup ("goals" : Str) = some (.ref go) := by with_unfolding_all rfl
theorem yl_kinds : (yfs Y ho go ki).lookup ("kinds" : Str) = some (.ref ki) := by with_unfolding_all rfl
theorem yl_on_board : (yfs Y ho go ki).lookup ("on_board" : Str) = none := by with_unfolding_all rfl
theorem yl_is_free : (yfs Y ho go ki).lookup ("is_free" : Str) = none := by with_unfolding_all rfl
end
section
variable {N : Addr → Prop} {X : Cx} {e o : Expr} {es : List Expr} {σ : St} {H : Hp} {y C : Addr} {Y : Yr} {pos : Pos} {d : PyData}
theorem c_height (T : Txt X.K X.mg C) (ho : CV X o σ H (.ref y)) (hy : YardAt C H y Y) (hb : attributeBase o "height" X.env (eval o X.env) = eval o X.env := by rfl) : CD N X (.Attribute o "height" pos) σ H (.int Y.h) := by
  obtain ⟨dx, ho', go, ki, h1, h2, h3, h4⟩ := hy.ex
  exact c_val (v_fld ho h1 T.yCl T.y_height (yl_height Y _ _ _) hb) (.int _)
theorem c_width (T : Txt X.K X.mg C) (ho : CV X o σ H (.ref y)) (hy : YardAt C H y Y) (hb : attributeBase o "width" X.env (eval o X.env) = eval o X.env := by rfl) : CD N X (.Attribute o "width" pos) σ H (.int Y.w) := by
  obtain ⟨dx, ho', go, ki, h1, h2, h3, h4⟩ := hy.ex
  exact c_val (v_fld ho h1 T.yCl T.y_width (yl_width Y _ _ _) hb) (.int _)
theorem c_stuck (T : Txt X.K X.mg C) (ho : CV X o σ H (.ref y)) (hy : YardAt C H y Y) (hb : attributeBase o "stuck" X.env (eval o X.env) = eval o X.env := by rfl) : CD N X (.Attribute o "stuck" pos) σ H (.str (if Y.lost then "lost" else "drawn")) := by
  obtain ⟨dx, ho', go, ki, h1, h2, h3, h4⟩ := hy.ex
  exact c_val (v_fld ho h1 T.yCl T.y_stuck (yl_stuck Y _ _ _) hb) (.str _)
theorem c_holes (T : Txt X.K X.mg C) (ho : CV X o σ H (.ref y)) (hy : YardAt C H y Y) (hb : attributeBase o "holes" X.env (eval o X.env) = eval o X.env := by rfl) : CD All_ X (.Attribute o "holes" pos) σ H (dCells Y.holes) := by
  obtain ⟨dx, ho', go, ki, h1, h2, h3, h4⟩ := hy.ex
  exact c_val (v_fld ho h1 T.yCl T.y_holes (yl_holes Y _ _ _) hb) h2
theorem c_goals (T : Txt X.K X.mg C) (ho : CV X o σ H (.ref y)) (hy : YardAt C H y Y) (hb : attributeBase o "goals" X.env (eval o X.env) = eval o X.env := by rfl) : CD All_ X (.Attribute o "goals" pos) σ H (.tuple [dCells Y.g0, dCells Y.g1]) := by
  obtain ⟨dx, ho', go, ki, h1, h2, h3, h4⟩ := hy.ex
  exact c_val (v_fld ho h1 T.yCl T.y_goals (yl_goals Y _ _ _) hb) h3
/-! ### the kinds -/
theorem kinds_val : ∀ {ks : List (Str × Kind)} {kvs : List (Key × V)} {k : Str} {x : Kind}, kvs.map (·.1) = ks.map (fun p => Sum.inr p.1) → Da All_ H (kvs.map (·.2)) (ks.map fun p => dKind p.2) → ks.lookup k = some x →
    ∃ v, valV kvs (Sum.inr k) = some v ∧ Dv All_ H v (dKind x)
  | [], _, _, _, _, _, h => by simp at h
  | (a, z) :: ks, [], _, _, e, _, _ => by simp at e
  | (a, z) :: ks, (b, v) :: kvs, k, x, e, hd, h => by
    simp only [List.map_cons, List.cons.injEq] at e
    obtain ⟨e1, e2⟩ := e
    subst e1
    cases hd with
    | cons d1 d2 =>
      by_cases c : a = k
      · subst c
        simp only [List.lookup, beq_self_eq_true, Option.some.injEq] at h
        subst h
        exact ⟨v, valV_pos rfl, d1⟩
      · have c' : (k == a) = false := by simpa using fun z => c z.symm
        simp only [List.lookup, c'] at h
        obtain ⟨u, h1, h2⟩ := kinds_val e2 d2 h
        exact ⟨u, by rw [valV_neg (fun q => c (Sum.inr.inj q))]; exact h1, h2⟩
theorem kinds_none : ∀ {ks : List (Str × Kind)} {kvs : List (Key × V)} {k : Str}, kvs.map (·.1) = ks.map (fun p => Sum.inr p.1) → (valV kvs (Sum.inr k)).isSome = (ks.lookup k).isSome
  | [], [], _, _ => rfl
  | [], _ :: _, _, e => by simp at e
  | (a, z) :: ks, [], _, e => by simp at e
  | (a, z) :: ks, (b, v) :: kvs, k, e => by
    simp only [List.map_cons, List.cons.injEq] at e
    obtain ⟨e1, e2⟩ := e
    subst e1
    by_cases c : a = k
    · subst c
      rw [valV_pos rfl]
      simp only [List.lookup, beq_self_eq_true, Option.isSome_some]
    · have c' : (k == a) = false := by simpa using fun z => c z.symm
      rw [valV_neg (fun q => c (Sum.inr.inj q))]
      simp only [List.lookup, c']
      exact kinds_none e2
/-- yard.kinds[k] -/
theorem c_kind {i : Expr} {k : Str} {x : Kind} {apos : Pos} (T : Txt X.K X.mg C) (hu : X.A.units + 1 < cLine) (ho : CV X o σ H (.ref y)) (hy : YardAt C H y Y) (hi : CD All_ X i σ H (.str k)) (hk : Y.kinds.lookup k = some x) (hs : NoSl i := by intros; exact fun _ _ => rfl)
    (hb : attributeBase o "kinds" X.env (eval o X.env) = eval o X.env := by rfl) : CD All_ X (.Subscript (.Attribute o "kinds" apos) i pos) σ H (dKind x) := by
  obtain ⟨dx, ho', go, ki, h1, h2, h3, h4⟩ := hy.ex
  intro H1 s1 Q q
  refine (pe_dget hu (ew X _) (ew X i) hs).w ((v_fld ho h1 T.yCl T.y_kinds (yl_kinds Y _ _ _) hb) H1 s1 _ fun H2 s2 => hi H2 (s1.trans s2) _ fun v H3 s3 hv => ?_)
  obtain ⟨kvs, k1, k2, k3⟩ := (h4.keep ((s1.trans s2).trans s3)).ex
  obtain ⟨u, g1, g2⟩ := kinds_val k2 k3 hk
  rw [hv.is_str]
  refine ⟨ki, u, rfl, ?_, q u H3 (s2.trans s3) g2⟩
  have g := DGet.k (k := Sum.inr k) k1
  rw [g1] at g
  exact g
/-- k in yard.kinds -/
theorem c_inKinds {i : Expr} {k : Str} {apos : Pos} (T : Txt X.K X.mg C) (hu : X.A.units + 1 < cLine) (ho : CV X o σ H (.ref y)) (hy : YardAt C H y Y) (hi : CD All_ X i σ H (.str k))
    (hb : attributeBase o "kinds" X.env (eval o X.env) = eval o X.env := by rfl) : CD N X (.Compare i [.In] [.Attribute o "kinds" apos] pos) σ H (.bool (Y.kinds.lookup k).isSome) := by
  obtain ⟨dx, ho', go, ki, h1, h2, h3, h4⟩ := hy.ex
  intro H1 s1 Q q
  refine (pe_cmp (pc_din hu (ew X i) (ew X _)) rfl).w (hi H1 s1 _ fun v H2 s2 hv => (v_fld ho h1 T.yCl T.y_kinds (yl_kinds Y _ _ _) hb) H2 (s1.trans s2) _ fun H3 s3 => ?_)
  obtain ⟨kvs, k1, k2, k3⟩ := (h4.keep ((s1.trans s2).trans s3)).ex
  rw [hv.is_str]
  refine ⟨ki, _, rfl, DGet.k (k := Sum.inr k) k1, ?_⟩
  rw [kinds_none k2]
  exact q _ H3 (s2.trans s3) (.bl _)
end
/-! ### methods -/
section
variable {P : Program} {w : World} {K : PySem.W.Frag} {mg : Str → Option Value} {base : Heap} {C : Addr}
/-- a method that keeps a promise -/
structure Km (P : Program) (w : World) (K : PySem.W.Frag) (mg : Str → Option Value) (base : Heap) (C : Addr) (j : Nat) (m : Str) (ps : List Str) (sp : Sp) : Prop where
  ex : ∃ (f : Addr) (fd : FuncData), FnOk P w K mg base CX0 j f fd ps sp ∧ Meth K C m f ∧ Binds K fd ps []
theorem km_mk {m q : Str} {st : Stmt} {f : Addr} {fd : FuncData} {ps : List Str} {j : Nat} {sp : Sp} (F : FnP K m q st f fd) (hm : Meth K C m f) (ok : FnOk P w K mg base CX0 j f fd ps sp)
    (hb : ∀ (kV doc pm : Value) (an : Option Addr) (cdv ct : Value) (us : List Value), us.length = ps.length → bindArgs (PySem.W.fnOf m q (defArgs st) (defBody st) (defScope st) .none kV doc pm an cdv ct) ⟨us, []⟩ = pure (ps.zip us)) : Km P w K mg base C j m ps sp :=
  ⟨f, fd, ok, hm, FunD.bindsN F hb⟩
end
section
variable {N : Addr → Prop} {X : Cx} {e o : Expr} {es : List Expr} {σ : St} {H : Hp} {y C : Addr} {Y : Yr} {pos apos : Pos} {d : PyData}
/-- o.m(e, ..) of a yard -/
theorem c_meth {pre : List AV → Hp → PyData → Prop} {j : Nat} {m : Str} {ps : List Str} {as : List AV} {pl : Sem Bool} {dx : Addr} {fs : List (Str × V)} (T : Txt X.K X.mg C) (G : Km X.prog X.w X.K X.mg X.base C j m ps (spF pre)) (hr : Room j X.A) (ho : CV X o σ H (.ref y)) (hi : H y = some (.ins C dx fs)) (hl : fs.lookup m = none)
    (args : CAs X (e :: es) σ H as) (hp : ∀ H', Same H H' → pre (.v (.ref y) :: as) H' d) (hN : ∀ p, H p = none → N p) (hst : starEach (e :: es) X.env = (false, eval e X.env) :: starEach es X.env := by rfl) (hpl : (backTo pos (starEach es X.env)).any (·.1) = false := by rfl)
    (ht : eval (.Call (.Attribute o m apos) (e :: es) [] pos) X.env = (do
      let ov ← eval o X.env
      standAt apos.atName
      let (f, first) ← holding [ov] (getMethod ov m pl)
      callWith pos f first (backTo pos (starEach (e :: es) X.env)) (backToKw pos (keywordEach [] X.env))) := by rfl) : CD N X (.Call (.Attribute o m apos) (e :: es) [] pos) σ H d := by
  obtain ⟨f, fd, F, hm, hb⟩ := G.ex
  intro H1 s1 Q q
  refine (pe_meth (ew X o) T.yCl hm F hr hb .nil pass0 (aw X (e :: es)) hst hpl ht).w (ho H1 s1 _ fun H2 s2 => ⟨y, dx, fs, rfl, s2 _ _ (s1 _ _ hi), hl, args H2 (s1.trans s2) _ fun vs H3 s3 hvs => ?_⟩)
  rw [List.append_nil]
  exact ⟨_, d, .cons (.v _) hvs, hp H3 ((s1.trans s2).trans s3), fun v H' s4 hv => q v H' ((s2.trans s3).trans s4) (hv.mono (Same.refl H') fun a ha => hN a (((s1.trans s2).trans s3).free ha))⟩
end
section
variable {P : Program} {w : World} {K : PySem.W.Frag} {mg : Str → Option Value} {base : Heap} {C : Addr}
theorem sc_on_board : FnScope ["self", "cell"] ["self", "cell"] (defScope s_Yard_on_board) := ⟨rfl, rfl, rfl, by decide +kernel, rfl, by decide +kernel, by decide +kernel⟩
def pre_on_board (C : Addr) : List AV → Hp → PyData → Prop := fun as H d => ∃ y Y c, as = [.v (.ref y), .d (dCell c)] ∧ YardAt C H y Y ∧ d = .bool (onBoard Y c)
theorem km_on_board (T : Txt K mg C) : Km P w K mg base C 1 "on_board" ["self", "cell"] (spF (pre_on_board C)) := by
  obtain ⟨f, fd, F, hm⟩ := T.m_on_board
  refine km_mk F hm (pure_body F sc_on_board (fun as H d ⟨_, _, _, e, _⟩ => by rw [e]; rfl) fun cdv A outer s H vs as d Q E hr ha hp q => ?_) (fun _ _ _ _ _ _ us hl => match us, hl with | [_, _], _ => rfl)
  obtain ⟨y, Y, c, rfl, hy, rfl⟩ := hp
  obtain ⟨_, rfl, ha, _⟩ := ha.consV
  obtain ⟨v2, _, rfl, h2, ha⟩ := ha.consD
  cases ha.nilD
  exact b_one (s_ret (CD.run (d := .bool (onBoard Y c)) (c_and2 (c_chain le_i lt_i c_int (c_ixT (c_var 1 rfl h2) c_int rfl) (c_height T (v_var 0 rfl) hy)) fun _ => c_chain le_i lt_i c_int (c_ixT (c_var 1 rfl h2) c_int rfl) (c_width T (v_var 0 rfl) hy)) fun v H2 s2 hv => q v H2 s2 hv))
theorem sc_is_free : FnScope ["self", "cell"] ["self", "cell"] (defScope s_Yard_is_free) := ⟨rfl, rfl, rfl, by decide +kernel, rfl, by decide +kernel, by decide +kernel⟩
def pre_is_free (C : Addr) : List AV → Hp → PyData → Prop := fun as H d => ∃ y Y c, as = [.v (.ref y), .d (dCell c)] ∧ YardAt C H y Y ∧ d = .bool (isFree Y c)
theorem km_is_free (T : Txt K mg C) : Km P w K mg base C 2 "is_free" ["self", "cell"] (spF (pre_is_free C)) := by
  obtain ⟨f, fd, F, hm⟩ := T.m_is_free
  have G : Km P w K mg base C 1 "on_board" ["self", "cell"] (spF (pre_on_board C)) := km_on_board T
  refine km_mk F hm (pure_body F sc_is_free (fun as H d ⟨_, _, _, e, _⟩ => by rw [e]; rfl) fun cdv A outer s H vs as d Q E hr ha hp q => ?_) (fun _ _ _ _ _ _ us hl => match us, hl with | [_, _], _ => rfl)
  obtain ⟨y, Y, c, rfl, hy, rfl⟩ := hp
  obtain ⟨_, rfl, ha, _⟩ := ha.consV
  obtain ⟨v2, _, rfl, h2, ha⟩ := ha.consD
  cases ha.nilD
  obtain ⟨dx, ho', go, ki, e1, _, _, _⟩ := hy.ex
  have hu : (bX P w K mg base ["self", "cell"] "Yard.is_free" s_Yard_is_free f cdv A outer s H E).A.units + 65 < cLine := by have := hr.un; omega
  exact b_one (s_ret (CD.run (d := .bool (isFree Y c)) (c_and2 (c_meth T G hr (v_var 0 rfl) e1 (yl_on_board _ _ _ _) (as_d (c_var 1 rfl h2) as_nil) (fun H' s' => ⟨y, Y, c, rfl, hy.keep s', rfl⟩) (fun _ _ => trivial)) fun _ => c_cmp ((notin_d hu (sh_cell c) (sh_cells _)).is (by rw [any_cell])) (c_var 1 rfl h2) (c_holes T (v_var 0 rfl) hy)) fun v H2 s2 hv => q v H2 s2 hv))
end
end PY
set_option Elab.async false
set_option autoImplicit false
set_option linter.all false
set_option maxRecDepth 100000
set_option maxHeartbeats 4000000
/-! crowns, is_piece, is_position, check_position. -/
namespace PY
open PySem L2
section
variable {P : Program} {w : World} {K : PySem.W.Frag} {mg : Str → Option Value} {base : Heap} {C : Addr}
theorem hu1 {k : Nat} {A : Around} (hr : Room k A) : A.units + 1 < cLine := by have := hr.un; omega
theorem hu64 {k : Nat} {A : Around} (hr : Room k A) : A.units + 64 < cLine := by have := hr.un; omega
theorem hu65 {k : Nat} {A : Around} (hr : Room k A) : A.units + 65 < cLine := by have := hr.un; omega
abbrev N_crowns : List Str := ["yard", "pieces", "side", "cell", "other", "kind"]
theorem sc_crowns : FnScope N_crowns ["yard", "pieces", "side"] (defScope s_crowns) := ⟨rfl, rfl, rfl, by decide +kernel, rfl, by decide +kernel, by decide +kernel⟩
def pre_crowns (C : Addr) : List AV → Hp → PyData → Prop := fun as H d => ∃ y Y ps s, as = [.v (.ref y), .d (dPieces ps), .d (.int s)] ∧ YardAt C H y Y ∧ KindsIn Y ps ∧ ps.length ≤ 1000 ∧ d = dCells (crowns Y ps s)
theorem kf_crowns (T : Txt K mg C) : Kf P w K mg base 1 "crowns" ["yard", "pieces", "side"] (spF (pre_crowns C)) := by
  obtain ⟨f, fd, F, hm⟩ := T.f_crowns
  refine kf_mk F hm (pure_body F sc_crowns (fun as H d ⟨_, _, _, _, e, _⟩ => by rw [e]; rfl) fun cdv A outer s H vs as d Q E hr ha hp q => ?_) (fun _ _ _ _ _ _ us hl => match us, hl with | [_, _, _], _ => rfl)
  obtain ⟨y, Y, ps, sd, rfl, hy, hk, hl, rfl⟩ := hp
  obtain ⟨_, rfl, ha, _⟩ := ha.consV
  obtain ⟨v1, _, rfl, h1, ha⟩ := ha.consD
  obtain ⟨v2, _, rfl, h2, ha⟩ := ha.consD
  cases ha.nilD
  refine b_one (s_ret (CD.run (CD.is (c_lc1 (bs := ps) (enc := dPiece) (own := [("cell", 3), ("other", 4), ("kind", 5)]) (g := gT3 K 3 4 5) (N0 := fun _ => False) (fun p => decide (p.2.1 = sd) && decide ((kindAt Y p.2.2).2.2 = 1)) (fun p => dCell p.1) rfl sc_crowns.nd (pi_tup (ew _ _))
    (ci_tup (c_var 1 rfl (Dv.noL _ _ (noL_pieces ps) h1))) (blkOk_by (N := N_crowns) (sc := defScope s_crowns) (by decide +kernel)) (fun _ _ _ _ _ => pg_tup rfl (pgs_cons (g_name 3 sc_crowns.nd) (pgs_cons (g_name 4 sc_crowns.nd) (pgs_cons (g_name 5 sc_crowns.nd) pgs_nil)))) (by omega) (fun _ h => h) (fun _ h => h.elim) ?_) ?_) fun v H2 s2 hv => q v H2 s2 hv))
  · intro N' p x H' hp s' hx hfr R k
    obtain ⟨kx, hkx⟩ := hk p hp
    refine un3 (d1 := dCell p.1) (d2 := .int p.2.1) (d3 := .str p.2.2) hx fun u1 u2 u3 g1 g2 g3 => k _ rfl (fun s Hb C cl fp => t_and2 (t_cmp eq_i (c_var 4 rfl g2.any) (c_var 2 rfl (h2.keep s'))) fun _ => ?_) fun _ s Hb C cl fp => c_var 3 rfl g1
    rw [kindAt_of hkx]
    exact t_cmp eq_i (c_ixT (c_kind T (hu1 hr) (v_var 0 rfl) (hy.keep s') (c_var 5 rfl g3.any) hkx) c_int rfl) c_int
  · show PyData.list _ = PyData.list _
    rw [crowns, List.map_map]
    rfl
theorem sc_is_piece : FnScope ["yard", "piece", "cell", "side", "kind"] ["yard", "piece"] (defScope s_is_piece) := ⟨rfl, rfl, rfl, by decide +kernel, rfl, by decide +kernel, by decide +kernel⟩
def pre_is_piece (C : Addr) : List AV → Hp → PyData → Prop := fun as H d => ∃ y Y p, as = [.v (.ref y), .d (dPiece p)] ∧ YardAt C H y Y ∧ OkP Y p ∧ d = .bool true
theorem kf_is_piece (T : Txt K mg C) : Kf P w K mg base 3 "is_piece" ["yard", "piece"] (spF (pre_is_piece C)) := by
  obtain ⟨f, fd, F, hm⟩ := T.f_is_piece
  have G : Km P w K mg base C 2 "is_free" ["self", "cell"] (spF (pre_is_free C)) := km_is_free T
  refine kf_mk F hm (pure_body F sc_is_piece (fun as H d ⟨_, _, _, e, _⟩ => by rw [e]; rfl) fun cdv A outer s H vs as d Q E hr ha hp q => ?_) (fun _ _ _ _ _ _ us hl => match us, hl with | [_, _], _ => rfl)
  obtain ⟨y, Y, p, rfl, hy, hp, rfl⟩ := hp
  obtain ⟨_, rfl, ha, _⟩ := ha.consV
  obtain ⟨v1, _, rfl, h1, ha⟩ := ha.consD
  cases ha.nilD
  obtain ⟨kx, hkx⟩ := hp.kind
  refine b_cons (s_asg (pg_tup rfl (pgs_cons (g_name 2 sc_is_piece.nd) (pgs_cons (g_name 3 sc_is_piece.nd) (pgs_cons (g_name 4 sc_is_piece.nd) pgs_nil)))) ((v_var 1 rfl).run fun H1 s1 => un3 (d1 := dCell p.1) (d2 := .int p.2.1) (d3 := .str p.2.2) (h1.keep s1) fun u1 u2 u3 g1 g2 g3 => ?_))
  obtain ⟨dx, ho', go, ki, e1, _, _, _⟩ := (hy.keep s1).ex
  refine b_one (s_ret (CD.run (CD.is (c_and3 (k1 := true) (k2 := true) (k3 := true) (c_meth T G hr (v_var 0 rfl) e1 (yl_is_free _ _ _ _) (as_d (c_var 2 rfl g1) as_nil) (fun H' s' => ⟨y, Y, p.1, rfl, (hy.keep s1).keep s', by rw [hp.free]⟩) (fun _ _ => trivial)) (fun _ => c_cmp ((in_ti (is := [0, 1])).is ?_) (c_var 3 rfl g2) (c_tup (cs_cons c_int (cs_cons c_int cs_nil)))) fun _ _ => (c_inKinds T (hu1 hr) (v_var 0 rfl) (hy.keep s1) (c_var 4 rfl g3)).is ?_) rfl) fun v H2 s2 hv => q v H2 (s1.trans s2) hv))
  · rcases hp.side with e | e <;> rw [e] <;> rfl
  · rw [hkx]; rfl
end
end PY
set_option Elab.async false
set_option autoImplicit false
set_option linter.all false
set_option maxRecDepth 100000
set_option maxHeartbeats 4000000
/-! A list that a def fills. -/
namespace PY
open PySem L2
abbrev Never : Addr → Prop := fun _ => False
/-- behind H0 the new list at l holds the data ds -/
structure Acc (N : Addr → Prop) (H0 H : Hp) (l : Addr) (ds : List PyData) : Prop where
  s : Same H0 H
  n : H0 l = none
  nl : ¬ N l
  ex : ∃ xs, H l = some (.lst xs) ∧ Da N H xs ds
theorem Acc.new {N : Addr → Prop} {H0 H : Hp} {l : Addr} (s : Same H0 H) (h : H l = none) (nl : ¬ N l) : Acc N H0 (upd H l (.lst [])) l [] := ⟨PY.Same.over s (s.free h), s.free h, nl, [], upd_same, .nil⟩
theorem Acc.keep {N : Addr → Prop} {H0 H H' : Hp} {l : Addr} {ds : List PyData} (a : Acc N H0 H l ds) (s : Same H H') : Acc N H0 H' l ds := by
  obtain ⟨xs, h1, h2⟩ := a.ex
  exact ⟨a.s.trans s, a.n, a.nl, xs, s _ _ h1, h2.keep s⟩
theorem Acc.lst {N : Addr → Prop} {H0 H : Hp} {l : Addr} {ds : List PyData} (a : Acc N H0 H l ds) : ∃ xs, H l = some (.lst xs) := let ⟨xs, h, _⟩ := a.ex; ⟨xs, h⟩
theorem Acc.fresh {N : Addr → Prop} {H0 H : Hp} {l : Addr} {ds : List PyData} (a : Acc N H0 H l ds) : ∀ p, H p = none → p ≠ l := fun p hp z => by
  obtain ⟨xs, h⟩ := a.lst
  rw [z, h] at hp
  cases hp
theorem Acc.dv {N N' : Addr → Prop} {H0 H : Hp} {l : Addr} {ds : List PyData} (a : Acc N H0 H l ds) (hl : N' l) (h : ∀ p, N p → N' p) : Dv N' H (.ref l) (.list ds) := by
  obtain ⟨xs, h1, h2⟩ := a.ex
  exact .lst h1 hl (h2.mono (Same.refl H) h)
section
variable {N : Addr → Prop} {X : Cx} {e a : Expr} {σ : St} {H H0 : Hp} {d : PyData} {ds es : List PyData} {pos apos : PySem.Pos} {l : Addr} {Q : VK}
theorem e_appA (ha : CV X a σ H (.ref l)) (he : CD N X e σ H d) (A : Acc N H0 H l ds) (hz : ds.length < 1000000) (q : ∀ H2, Acc N H0 H2 l (ds ++ [d]) → But l H H2 → Q .non H2)
    (h1 : PE X (.Call (.Attribute a "append" apos) [e] [] pos) (tBM X.K "list" rAppend (wE X a) (tCons (wE X e) tNil)) := by exact pe_bm PySem.F.plainAttrs_list PySem.F.slot_list_append PySem.F.type_list_append mt_append (ew _ _) (pa_cons (ew _ _) pa_nil)) : wE X (.Call (.Attribute a "append" apos) [e] [] pos) σ H Q := by
  obtain ⟨xs, k1, k2⟩ := A.ex
  refine e_app ha he k1 (by rw [k2.length, sizeLine_eq]; omega) (fun v H1 s1 hv => q _ ⟨PY.Same.over (A.s.trans s1) A.n, A.n, A.nl, _, upd_same, ((k2.keep s1).snoc hv).over (s1 _ _ k1) A.nl⟩ ((But.of s1).trans But.upd)) h1
theorem e_extA {N1 : Addr → Prop} (ha : CV X a σ H (.ref l)) (he : CD N1 X e σ H (.list es)) (A : Acc N H0 H l ds) (hz : ds.length + es.length ≤ 16000000) (hn : ∀ vs H1, Same H H1 → Da N1 H1 vs es → Da N H1 vs es) (q : ∀ H2, Acc N H0 H2 l (ds ++ es) → But l H H2 → Q .non H2)
    (h1 : PE X (.Call (.Attribute a "extend" apos) [e] [] pos) (tBM X.K "list" rExtend (wE X a) (tCons (wE X e) tNil)) := by exact pe_bm PySem.F.plainAttrs_list PySem.F.slot_list_extend PySem.F.type_list_extend mt_extend (ew _ _) (pa_cons (ew _ _) pa_nil)) : wE X (.Call (.Attribute a "extend" apos) [e] [] pos) σ H Q := by
  obtain ⟨xs, k1, k2⟩ := A.ex
  refine e_ext ha he k1 (by rw [k2.length, sizeLine_eq]; omega) (fun vs H1 s1 hvs => q _ ⟨PY.Same.over (A.s.trans s1) A.n, A.n, A.nl, _, upd_same, ((k2.keep s1).append (hn vs H1 s1 hvs)).over (s1 _ _ k1) A.nl⟩ ((But.of s1).trans But.upd)) h1
end
end PY
set_option Elab.async false
set_option autoImplicit false
set_option linter.all false
set_option maxRecDepth 100000
set_option maxHeartbeats 4000000
/-! is_position, check_position, may_end, ride. -/
namespace PY
open PySem L2
section
variable {P : Program} {w : World} {K : PySem.W.Frag} {mg : Str → Option Value} {base : Heap} {C : Addr}
theorem atI_i {α : Type} {xs : List α} {i : Int} {v : α} (j : Nat) (e : i = (j : Int)) (h : xs[j]? = some v) : atI xs i = some v := by
  rw [e]
  exact atI_nat h
theorem at_map {α β : Type} {l : List α} {f : α → β} {i : Nat} {x : α} (h : l[i]? = some x) : (l.map f)[i]? = some (f x) := by rw [List.getElem?_map, h]; rfl
theorem lexLt_cell {a b : Cell} (h : cellLt a b) : HT.lexLt [a.1, a.2] [b.1, b.2] = true := by
  rw [HT.lexLt_cons, HT.lexLt_cons, HT.lexLt_nil_nil]
  rcases h with h | ⟨e, h⟩
  · rw [if_neg (by omega), decide_eq_true h]
  · rw [if_pos e, if_neg (by omega), decide_eq_true h]
abbrev N_is_position : List Str := ["yard", "position", "turn", "pieces", "piece", "k"]
theorem sc_is_position : FnScope N_is_position ["yard", "position"] (defScope s_is_position) := ⟨rfl, rfl, rfl, by decide +kernel, rfl, by decide +kernel, by decide +kernel⟩
def pre_is_position (C : Addr) : List AV → Hp → PyData → Prop := fun as H d => ∃ y Y p, as = [.v (.ref y), .d (dPos p)] ∧ YardAt C H y Y ∧ OkPos Y p ∧ d = .bool true
theorem kf_is_position (T : Txt K mg C) : Kf P w K mg base 4 "is_position" ["yard", "position"] (spF (pre_is_position C)) := by
  obtain ⟨f, fd, F, hm⟩ := T.f_is_position
  have G1 : Kf P w K mg base 3 "is_piece" ["yard", "piece"] (spF (pre_is_piece C)) := kf_is_piece T
  have G2 : Kf P w K mg base 1 "crowns" ["yard", "pieces", "side"] (spF (pre_crowns C)) := kf_crowns T
  obtain ⟨t10, h10⟩ := T.i_MOST_PIECES
  refine kf_mk F hm (pure_body F sc_is_position (fun as H d ⟨_, _, _, e, _⟩ => by rw [e]; rfl) fun cdv A outer s H vs as d Q E hr ha hp q => ?_) (fun _ _ _ _ _ _ us hl => match us, hl with | [_, _], _ => rfl)
  obtain ⟨y, Y, p, rfl, hy, ok, rfl⟩ := hp
  obtain ⟨_, rfl, ha, _⟩ := ha.consV
  obtain ⟨v1, _, rfl, h1, ha⟩ := ha.consD
  cases ha.nilD
  refine b_cons (s_asg (pg_tup rfl (pgs_cons (g_name 2 sc_is_position.nd) (pgs_cons (g_name 3 sc_is_position.nd) pgs_nil))) ((v_var 1 rfl).run fun H1 s1 => un2 (d1 := .int p.1) (d2 := dPieces p.2) (h1.keep s1) fun u1 u2 g1 g2 => ?_))
  have hy1 := hy.keep s1
  have few := ok.few
  have pos1 : 1 ≤ p.2.length := List.length_pos_iff.mpr ok.one
  -- if turn not in (0, 1) or not 1 <= len(pieces) <= 10
  refine b_cons (s_ifB (t_or2 (t_cmp (notin_ti (is := [0, 1])) (c_var 2 rfl g1) (c_tup (cs_cons c_int (cs_cons c_int cs_nil)))) fun _ => t_not (t_chain le_i le_i c_int (c_lenT T.b_len (c_var 3 rfl g2)) (c_gint h10))) (fun e H2 s2 => ?_) fun _ H2 s2 => b_nil ?_)
  · exfalso
    rw [Bool.or_eq_true, Bool.not_eq_true', Bool.not_eq_true', decide_eq_false_iff_not, List.length_map] at e
    rcases e with e | e
    · rcases ok.turn with z | z <;> rw [z] at e <;> exact e (by decide)
    · rw [Bool.and_eq_false_iff, decide_eq_false_iff_not, decide_eq_false_iff_not] at e
      omega
  have hy2 := hy1.keep s2
  -- if not all([is_piece(yard, piece) for piece in pieces])
  refine b_cons (s_ifB (k := false) ((t_not (t_val (c_all (bs := p.2.map fun _ => true) rfl T.b_all (CD.is (c_lc0 (bs := p.2) (enc := dPiece) (own := [("piece", 4)]) (g := gName 4) (N0 := All_) (fun _ => .bool true) rfl sc_is_position.nd (pi_tup (ew _ _))
    (ci_tup (c_var 3 rfl (g2.keep s2))) (blkOk_by (N := N_is_position) (sc := defScope s_is_position) (by decide +kernel)) (fun _ _ _ _ _ => g_name 4 sc_is_position.nd) (by omega) (fun _ _ => trivial) (fun _ h => h) ?_) ?_)))).is ?_) (fun e H3 s3 => nomatch e) fun _ H3 s3 => b_nil ?_)
  · intro N' pc x H' hpc s' hx hfr R k
    exact k _ rfl fun s Hb Cc cl fp => c_call G1 (hr.mono (by decide)) (as_v (v_var 0 rfl) (as_d (c_var 4 rfl hx.any) as_nil)) (fun H'' s'' => ⟨y, Y, pc, rfl, (hy2.keep s').keep s'', ok.ps pc hpc, rfl⟩) hfr
  · rw [List.map_map]; rfl
  · simp
  have hy3 := hy2.keep s3
  -- if not all([pieces[k - 1][0] < pieces[k][0] for k in range(1, len(pieces))])
  refine b_cons (s_ifB (k := false) ((t_not (t_val (c_all (bs := (List.range (((p.2.map dPiece).length : Int) - 1).toNat).map fun _ => true) rfl T.b_all (CD.is (c_lc0 (bs := List.range (((p.2.map dPiece).length : Int) - 1).toNat) (enc := eUp 1) (own := [("k", 5)]) (g := gName 5) (N0 := All_) (fun _ => .bool true) rfl sc_is_position.nd (pi_range2 (by rfl) T.b_range (pa_cons (ew _ _) (pa_cons (ew _ _) pa_nil)))
    (ci_range2 c_int (c_lenT T.b_len (c_var 3 rfl ((g2.keep s2).keep s3))) (by omega) (by rw [List.length_map]; omega)) (blkOk_by (N := N_is_position) (sc := defScope s_is_position) (by decide +kernel)) (fun _ _ _ _ _ => g_name 5 sc_is_position.nd) (by rw [List.length_range, List.length_map]; omega) (fun _ _ => trivial) (fun _ h => h) ?_) ?_)))).is ?_) (fun e H4 s4 => nomatch e) fun _ H4 s4 => b_nil ?_)
  · intro N' i x H' hi s' hx hfr R k
    rw [List.mem_range, List.length_map] at hi
    have i1 : i + 1 < p.2.length := by omega
    have i0 : i < p.2.length := by omega
    have e0 : p.2[i]? = some p.2[i] := List.getElem?_eq_getElem i0
    have e1 : p.2[i + 1]? = some p.2[i + 1] := List.getElem?_eq_getElem i1
    have lt : cellLt (p.2[i]).1 (p.2[i + 1]).1 := List.pairwise_iff_getElem.mp ok.up i (i + 1) i0 i1 (Nat.lt_succ_self i)
    refine k _ rfl fun s Hb Cc cl fp => c_cmp ((lt_t (is := [(p.2[i]).1.1, (p.2[i]).1.2]) (js := [(p.2[i + 1]).1.1, (p.2[i + 1]).1.2]) (by exact hr.units0)).is (lexLt_cell lt)) ?_ ?_
    · exact c_ixT (ds := [dCell (p.2[i]).1, .int (p.2[i]).2.1, .str (p.2[i]).2.2]) (c_ixT (ds := p.2.map dPiece) (c_var 3 rfl (((g2.keep s2).keep s3).keep s')) (c_sub (c_var 5 rfl (d := .int (1 + (i : Int))) hx.any) c_int) (atI_i i (by omega) (at_map e0))) c_int rfl
    · exact c_ixT (ds := [dCell (p.2[i + 1]).1, .int (p.2[i + 1]).2.1, .str (p.2[i + 1]).2.2]) (c_ixT (ds := p.2.map dPiece) (c_var 3 rfl (((g2.keep s2).keep s3).keep s')) (c_var 5 rfl (d := .int (1 + (i : Int))) hx.any) (atI_i (i + 1) (by omega) (at_map e1))) c_int rfl
  · rw [List.map_map]; rfl
  · simp
  -- return len(crowns(..) + crowns(..)) > 0
  have hy4 := hy3.keep s4
  have g4 := ((g2.keep s2).keep s3).keep s4
  have cl : ∀ sd, (crowns Y p.2 sd).length ≤ 4 := fun sd => by
    unfold crowns
    rw [List.length_map]
    exact Nat.le_trans (List.length_filter_le _ _) few
  refine b_one (s_ret (CD.run (CD.is (c_cmp gt_i (c_lenL T.b_len (c_cat (ds := (crowns Y p.2 0).map dCell) (es' := (crowns Y p.2 1).map dCell) (c_call G2 (hr.mono (by decide)) (as_v (v_var 0 rfl) (as_d (c_var 3 rfl g4) (as_d c_int as_nil))) (fun H'' s'' => ⟨y, Y, p.2, 0, rfl, hy4.keep s'', ok.kin, by omega, rfl⟩) (fun _ _ => trivial)) (c_call G2 (hr.mono (by decide)) (as_v (v_var 0 rfl) (as_d (c_var 3 rfl g4) (as_d c_int as_nil))) (fun H'' s'' => ⟨y, Y, p.2, 1, rfl, hy4.keep s'', ok.kin, by omega, rfl⟩) (fun _ _ => trivial)) (by have := cl 0; have := cl 1; rw [List.length_map, List.length_map, sizeLine_eq]; omega) (fun _ _ => trivial))) c_int) ?_) fun v H5 s5 hv => q v H5 ((((s1.trans s2).trans s3).trans s4).trans s5) hv))
  have c0 : 0 < (crowns Y p.2 0).length + (crowns Y p.2 1).length := by
    rcases ok.crown with z | z
    · have := List.length_pos_iff.mpr z; omega
    · have := List.length_pos_iff.mpr z; omega
  rw [decide_eq_true (by rw [List.length_append, List.length_map, List.length_map]; omega)]
theorem sc_check_position : FnScope ["yard", "position"] ["yard", "position"] (defScope s_check_position) := ⟨rfl, rfl, rfl, by decide +kernel, rfl, by decide +kernel, by decide +kernel⟩
def pre_check_position (C : Addr) : List AV → Hp → PyData → Prop := fun as H d => ∃ y Y p, as = [.v (.ref y), .d (dPos p)] ∧ YardAt C H y Y ∧ OkPos Y p ∧ d = .none
theorem kf_check_position (T : Txt K mg C) : Kf P w K mg base 5 "check_position" ["yard", "position"] (spF (pre_check_position C)) := by
  obtain ⟨f, fd, F, hm⟩ := T.f_check_position
  have G1 : Kf P w K mg base 4 "is_position" ["yard", "position"] (spF (pre_is_position C)) := kf_is_position T
  refine kf_mk F hm (pure_body F sc_check_position (fun as H d ⟨_, _, _, e, _⟩ => by rw [e]; rfl) fun cdv A outer s H vs as d Q E hr ha hp q => ?_) (fun _ _ _ _ _ _ us hl => match us, hl with | [_, _], _ => rfl)
  obtain ⟨y, Y, p, rfl, hy, ok, rfl⟩ := hp
  obtain ⟨_, rfl, ha, _⟩ := ha.consV
  obtain ⟨v1, _, rfl, h1, ha⟩ := ha.consD
  cases ha.nilD
  exact b_one (s_ifB (k := false) ((t_not (t_val (c_call (d := .bool true) G1 hr (as_v (v_var 0 rfl) (as_d (c_var 1 rfl h1) as_nil)) (fun H' s' => ⟨y, Y, p, rfl, hy.keep s', ok, rfl⟩) (fun _ _ => trivial)))).is rfl) (fun e H3 s3 => nomatch e) fun _ H3 s3 => b_nil (q .non H3 s3 .non))
end
end PY
set_option Elab.async false
set_option autoImplicit false
set_option linter.all false
set_option maxRecDepth 100000
set_option maxHeartbeats 4000000
/-! may_end, ride. -/
namespace PY
open PySem L2
theorem onBoard_iff {Y : Yr} {c : Cell} : onBoard Y c = true ↔ ((0 ≤ c.1 ∧ c.1 < Y.h) ∧ (0 ≤ c.2 ∧ c.2 < Y.w)) := by
  unfold onBoard
  simp only [Bool.and_eq_true, decide_eq_true_eq]
theorem isFree_on {Y : Yr} {c : Cell} (h : isFree Y c = true) : onBoard Y c = true := by
  unfold isFree at h
  rw [Bool.and_eq_true] at h
  exact h.1
theorem mayEnd_on {Y : Yr} {ps : List Pc} {s : Int} {c : Cell} (h : mayEnd Y ps s c = true) : onBoard Y c = true := by
  unfold mayEnd at h
  rw [Bool.and_eq_true] at h
  exact isFree_on h.1
/-- a ride ends -/
theorem far_off {Y : Yr} (ok : OkY Y) {ps : List Pc} {s : Int} {c : Cell} {st : Step} (hc : onBoard Y c = true) (g : GoodStep st) : mayEnd Y ps s (gone c st 7) = false := by
  cases h : mayEnd Y ps s (gone c st 7) with
  | false => rfl
  | true =>
    have h1 := onBoard_iff.mp (mayEnd_on h)
    have h2 := onBoard_iff.mp hc
    have h3 := ok.h
    have h4 := ok.w
    obtain ⟨⟨g1, g2⟩, g3⟩ := g
    unfold gone at h1
    dsimp only at h1
    omega
section
variable {P : Program} {w : World} {K : PySem.W.Frag} {mg : Str → Option Value} {base : Heap} {C : Addr}
theorem sc_may_end : FnScope ["yard", "pieces", "side", "cell", "there"] ["yard", "pieces", "side", "cell"] (defScope s_may_end) := ⟨rfl, rfl, rfl, by decide +kernel, rfl, by decide +kernel, by decide +kernel⟩
def pre_may_end (C : Addr) : List AV → Hp → PyData → Prop := fun as H d => ∃ y Y ps s c, as = [.v (.ref y), .d (dPieces ps), .d (.int s), .d (dCell c)] ∧ YardAt C H y Y ∧ d = .bool (mayEnd Y ps s c)
theorem kf_may_end (T : Txt K mg C) : Kf P w K mg base 3 "may_end" ["yard", "pieces", "side", "cell"] (spF (pre_may_end C)) := by
  obtain ⟨f, fd, F, hm⟩ := T.f_may_end
  have G1 : Km P w K mg base C 2 "is_free" ["self", "cell"] (spF (pre_is_free C)) := km_is_free T
  have G2 : Kf P w K mg base 1 "piece_at" ["pieces", "cell"] (spF pre_piece_at) := kf_piece_at T
  refine kf_mk F hm (pure_body F sc_may_end (fun as H d ⟨_, _, _, _, _, e, _⟩ => by rw [e]; rfl) fun cdv A outer s H vs as d Q E hr ha hp q => ?_) (fun _ _ _ _ _ _ us hl => match us, hl with | [_, _, _, _], _ => rfl)
  obtain ⟨y, Y, ps, sd, c, rfl, hy, rfl⟩ := hp
  obtain ⟨_, rfl, ha, _⟩ := ha.consV
  obtain ⟨v1, _, rfl, h1, ha⟩ := ha.consD
  obtain ⟨v2, _, rfl, h2, ha⟩ := ha.consD
  obtain ⟨v3, _, rfl, h3, ha⟩ := ha.consD
  cases ha.nilD
  obtain ⟨dx, ho', go, ki, e1, _, _, _⟩ := hy.ex
  refine b_cons (s_ifB (t_not (t_val (c_meth (d := .bool (isFree Y c)) T G1 hr (v_var 0 rfl) e1 (yl_is_free _ _ _ _) (as_d (c_var 3 rfl h3) as_nil) (fun H' s' => ⟨y, Y, c, rfl, hy.keep s', rfl⟩) (fun _ _ => trivial)))) (fun e H1 s1 => ?_) fun e H1 s1 => b_nil ?_)
  · have e0 : mayEnd Y ps sd c = false := by
      unfold mayEnd
      rw [Bool.not_eq_true'] at e
      rw [e]; rfl
    rw [e0] at q
    exact b_one (s_ret (CD.run (d := .bool false) c_bl fun v H2 s2 hv => q v H2 (s1.trans s2) hv))
  · rw [Bool.not_eq_false'] at e
    refine b_cons (s_set 4 sc_may_end.nd (CD.run (N := All_) (d := dSK (pieceAt ps c)) (c_call G2 (hr.mono (by decide)) (as_d (c_var 1 rfl (h1.keep s1)) (as_d (c_var 3 rfl (h3.keep s1)) as_nil)) (fun H' s' => ⟨ps, c, rfl, rfl⟩) (fun _ _ => trivial)) fun v H2 s2 hv => ?_))
    refine b_one (s_ret (CD.run (N := Free H) (d := .bool (mayEnd Y ps sd c)) ?_ fun v H3 s3 hv => q v H3 ((s1.trans s2).trans s3) hv))
    have hs := (h2.keep s1).keep s2
    unfold mayEnd
    rw [e, Bool.true_and]
    cases hpc : pieceAt ps c with
    | none =>
      rw [hpc] at hv
      exact c_or2 (k1 := true) (k2 := true) (c_cmp is_n (c_var 4 rfl (d := .none) hv) c_non) fun z => nomatch z
    | some sk =>
      rw [hpc] at hv
      exact c_or2 (k1 := false) (k2 := !decide (sk.1 = sd)) (c_cmp (is_n (d := .tuple [.int sk.1, .str sk.2])) (c_var 4 rfl hv) c_non) fun _ => c_cmp ne_i (c_ixT (ds := [.int sk.1, .str sk.2]) (c_var 4 rfl hv) c_int rfl) (c_var 2 rfl hs)
abbrev N_ride : List Str := ["yard", "pieces", "side", "cell", "step", "found", "count"]
theorem sc_ride : FnScope N_ride ["yard", "pieces", "side", "cell", "step"] (defScope s_ride) := ⟨rfl, rfl, rfl, by decide +kernel, rfl, by decide +kernel, by decide +kernel⟩
def dInts (l : List Int) : PyData := .list (l.map .int)
def pre_ride (C : Addr) : List AV → Hp → PyData → Prop := fun as H d => ∃ y Y ps s c st, as = [.v (.ref y), .d (dPieces ps), .d (.int s), .d (dCell c), .d (dCell st)] ∧ YardAt C H y Y ∧ OkY Y ∧ onBoard Y c = true ∧ GoodStep st ∧ d = dInts (ride Y ps s c st)
theorem kf_ride (T : Txt K mg C) : Kf P w K mg base 4 "ride" ["yard", "pieces", "side", "cell", "step"] (spF (pre_ride C)) := by
  obtain ⟨f, fd, F, hm⟩ := T.f_ride
  have G1 : Kf P w K mg base 3 "may_end" ["yard", "pieces", "side", "cell"] (spF (pre_may_end C)) := kf_may_end T
  have G2 : Kf P w K mg base 1 "piece_at" ["pieces", "cell"] (spF pre_piece_at) := kf_piece_at T
  have G3 : Kf P w K mg base 1 "gone" ["cell", "step", "count"] (spF pre_gone) := kf_gone T
  refine kf_mk F hm (pure_body F sc_ride (fun as H d ⟨_, _, _, _, _, _, e, _⟩ => by rw [e]; rfl) fun cdv A outer s H vs as d Q E hr ha hp q => ?_) (fun _ _ _ _ _ _ us hl => match us, hl with | [_, _, _, _, _], _ => rfl)
  obtain ⟨y, Y, ps, sd, c, st, rfl, hy, ok, hc, hst, rfl⟩ := hp
  obtain ⟨_, rfl, ha, _⟩ := ha.consV
  obtain ⟨v1, _, rfl, h1, ha⟩ := ha.consD
  obtain ⟨v2, _, rfl, h2, ha⟩ := ha.consD
  obtain ⟨v3, _, rfl, h3, ha⟩ := ha.consD
  obtain ⟨v4, _, rfl, h4, ha⟩ := ha.consD
  cases ha.nilD
  refine b_cons (s_set 5 sc_ride.nd ((pe_lst pa_nil).w ⟨Nat.zero_le _, fun l hl => ?_⟩))
  refine b_cons (s_set 6 sc_ride.nd (CD.run (N := All_) c_int fun v H1 s1 hv => ?_))
  rw [hv.is_int]
  refine b_cons (s_while (fun m σ' H' => ∃ (n : Int) (xs : List Int), σ' = [some (.ref y), some v1, some v2, some v3, some v4, some (.ref l), some (.int n)] ∧ n = 7 - (m : Int) ∧ m ≤ 6 ∧ xs.length + m = 6 ∧ Acc Never H H' l (xs.map .int) ∧ ride Y ps sd c st = xs ++ rideFrom Y ps sd c st m n) 6
    ⟨1, [], rfl, rfl, Nat.le_refl _, rfl, (Acc.new (Same.refl H) hl id).keep s1, rfl⟩ ?_)
  rintro m σ' H' ⟨n, xs, rfl, hn, hm6, hlx, A', er⟩
  have k1 := h1.keep A'.s
  have k2 := h2.keep A'.s
  have k3 := h3.keep A'.s
  have k4 := h4.keep A'.s
  refine CT.run (k := mayEnd Y ps sd (gone c st n)) (t_val (c_call G1 (hr.mono (by decide)) (as_v (v_var 0 rfl) (as_d (c_var 1 rfl k1) (as_d (c_var 2 rfl k2) (as_d (c_call (d := dCell (gone c st n)) G3 (hr.mono (by decide)) (as_d (c_var 3 rfl k3) (as_d (c_var 4 rfl k4) (as_d (c_var 6 rfl (.int n)) as_nil))) (fun H2 s2 => ⟨c, st, n, rfl, by omega, rfl⟩) (fun _ _ => trivial)) as_nil))))
    (fun H2 s2 => ⟨y, Y, ps, sd, gone c st n, rfl, hy.keep (A'.s.trans s2), rfl⟩) (fun _ _ => trivial))) fun H2 s2 => ?_
  have A2 := A'.keep s2
  by_cases hme : mayEnd Y ps sd (gone c st n) = true
  · rw [hme]
    obtain ⟨m', rfl⟩ : ∃ m', m = m' + 1 := by
      cases m with
      | zero =>
        exfalso
        have e7 : n = 7 := by omega
        rw [e7, far_off ok hc hst] at hme
        cases hme
      | succ m' => exact ⟨m', rfl⟩
    have er' : rideFrom Y ps sd c st (m' + 1) n = n :: (if (pieceAt ps (gone c st n)).isSome then [] else rideFrom Y ps sd c st m' (n + 1)) := by
      rw [rideFrom, if_pos hme]
    rw [er'] at er
    refine b_cons (s_expr (e_appA (v_var 5 rfl) (c_var 6 rfl (.int n)) A2 (by rw [List.length_map]; omega) fun H3 A3 s3 => ?_))
    have k1 := h1.keep A3.s
    have k3 := h3.keep A3.s
    have k4 := h4.keep A3.s
    have ex : xs.map PyData.int ++ [.int n] = (xs ++ [n]).map .int := by rw [List.map_append]; rfl
    rw [ex] at A3
    refine b_cons (s_ifB (k := match dSK (pieceAt ps (gone c st n)) with | .none => false | _ => true) (t_cmp isnot_n (c_call (d := dSK (pieceAt ps (gone c st n))) G2 (hr.mono (by decide)) (as_d (c_var 1 rfl k1) (as_d (c_call (d := dCell (gone c st n)) G3 (hr.mono (by decide)) (as_d (c_var 3 rfl k3) (as_d (c_var 4 rfl k4) (as_d (c_var 6 rfl (.int n)) as_nil))) (fun H2 s2 => ⟨c, st, n, rfl, by omega, rfl⟩) (fun _ _ => trivial)) as_nil)) (fun H2 s2 => ⟨ps, gone c st n, rfl, rfl⟩) (fun _ _ => trivial)) c_non) (fun e H4 s4 => ?_) fun e H4 s4 => b_nil ?_)
    · have e2 : (pieceAt ps (gone c st n)).isSome = true := by
        cases hpc : pieceAt ps (gone c st n) with
        | none => rw [hpc] at e; cases e
        | some z => rfl
      rw [e2] at er
      rw [if_pos rfl] at er
      rw [er] at q
      exact b_one (s_ret ((v_var 5 rfl).run fun H5 s5 => q _ H5 (((A3.keep s4).keep s5).s) (((A3.keep s4).keep s5).dv A3.n fun _ h => h.elim)))
    · have e2 : (pieceAt ps (gone c st n)).isSome = false := by
        cases hpc : pieceAt ps (gone c st n) with
        | none => rfl
        | some z => rw [hpc] at e; cases e
      rw [e2] at er
      rw [if_neg Bool.false_ne_true] at er
      refine b_one (s_set 6 sc_ride.nd (CD.run (N := All_) (c_add (c_var 6 rfl (.int n)) c_int) fun v H5 s5 hv => ?_))
      rw [hv.is_int]
      exact ⟨m', Nat.lt_succ_self _, n + 1, xs ++ [n], rfl, by omega, by omega, by rw [List.length_append, List.length_singleton]; omega, (A3.keep s4).keep s5, by rw [er, List.append_assoc]; rfl⟩
  · have hme' : mayEnd Y ps sd (gone c st n) = false := by
      cases h : mayEnd Y ps sd (gone c st n) with
      | true => exact absurd h hme
      | false => rfl
    rw [hme']
    have er' : rideFrom Y ps sd c st m n = [] := by
      cases m with
      | zero => rfl
      | succ m' => rw [rideFrom, if_neg hme]
    rw [er', List.append_nil] at er
    rw [er] at q
    exact b_one (s_ret ((v_var 5 rfl).run fun H5 s5 => q _ H5 ((A2.keep s5).s) ((A2.keep s5).dv A2.n fun _ h => h.elim)))
end
end PY
set_option Elab.async false
set_option autoImplicit false
set_option linter.all false
set_option maxRecDepth 100000
set_option maxHeartbeats 4000000
/-! ways_of, all_ways. -/
namespace PY
open PySem L2
theorem GoodStep.turned {st : Step} (g : GoodStep st) (s : Int) : GoodStep (turnedStep st s) := by
  unfold turnedStep GoodStep at *
  split
  · exact g
  · dsimp only; omega
def dCW (x : Cell × Way) : PyData := .tuple [dCell x.1, dWay x.2]
def dMW (x : Move × Way) : PyData := .tuple [dMove x.1, dWay x.2]
theorem noL_cw (x : Cell × Way) : NoL (dCW x) := noL_tup2 (noL_cell _) (noL_way _)
theorem noL_mw (x : Move × Way) : NoL (dMW x) := noL_tup2 (noL_move _) (noL_way _)
theorem rideFrom_len (Y : Yr) (ps : List Pc) (s : Int) (c : Cell) (st : Step) : ∀ (f : Nat) (n : Int), (rideFrom Y ps s c st f n).length ≤ f
  | 0, _ => Nat.le_refl _
  | f + 1, n => by
    rw [rideFrom]
    split
    · rw [List.length_cons]
      split
      · simp
      · exact Nat.succ_le_succ (rideFrom_len Y ps s c st f (n + 1))
    · simp
theorem rideFrom_small (Y : Yr) (ps : List Pc) (s : Int) (c : Cell) (st : Step) : ∀ (f : Nat) (n : Int), ∀ m ∈ rideFrom Y ps s c st f n, n ≤ m ∧ m < n + f
  | 0, _ => fun m hm => by cases hm
  | f + 1, n => fun m hm => by
    rw [rideFrom] at hm
    split at hm
    · rcases List.mem_cons.mp hm with e | hm
      · omega
      · split at hm
        · cases hm
        · have := rideFrom_small Y ps s c st f (n + 1) m hm
          omega
    · cases hm
theorem leapsOf_snoc (Y : Yr) (ps : List Pc) (s : Int) (c : Cell) {l : List Step} {i : Nat} {st : Step} (h : l[i]? = some st) : leapsOf Y ps s c (l.take (i + 1)) = leapsOf Y ps s c (l.take i) ++ (if mayEnd Y ps s (gone c (turnedStep st s) 1) then [(gone c (turnedStep st s) 1, (true, turnedStep st s, 1))] else []) := by
  rw [take_succ_get h]
  unfold leapsOf
  rw [List.flatMap_append]
  simp
theorem ridesOf_snoc (Y : Yr) (ps : List Pc) (s : Int) (c : Cell) {l : List Step} {i : Nat} {st : Step} (h : l[i]? = some st) : ridesOf Y ps s c (l.take (i + 1)) = ridesOf Y ps s c (l.take i) ++ (ride Y ps s c (turnedStep st s)).map (fun n => (gone c (turnedStep st s) n, (false, turnedStep st s, n))) := by
  rw [take_succ_get h]
  unfold ridesOf
  rw [List.flatMap_append]
  simp
theorem flat_len {α β : Type} (g : α → List β) (n : Nat) (h : ∀ a, (g a).length ≤ n) : ∀ l : List α, (l.flatMap g).length ≤ n * l.length
  | [] => Nat.le_refl _
  | a :: l => by
    have h1 := flat_len g n h l
    have h2 := h a
    have h3 : (List.flatMap g (a :: l)).length = (g a).length + (List.flatMap g l).length := by rw [List.flatMap_cons, List.length_append]
    rw [h3, List.length_cons, Nat.mul_succ]
    omega
theorem leapsOf_len (Y : Yr) (ps : List Pc) (s : Int) (c : Cell) (l : List Step) : (leapsOf Y ps s c l).length ≤ l.length := by
  have := flat_len (fun st => if mayEnd Y ps s (gone c (turnedStep st s) 1) then [(gone c (turnedStep st s) 1, ((true, turnedStep st s, 1) : Way))] else []) 1 (fun st => by split <;> simp) l
  unfold leapsOf
  omega
theorem ridesOf_len (Y : Yr) (ps : List Pc) (s : Int) (c : Cell) (l : List Step) : (ridesOf Y ps s c l).length ≤ 6 * l.length :=
  flat_len (fun st => (ride Y ps s c (turnedStep st s)).map fun n => (gone c (turnedStep st s) n, ((false, turnedStep st s, n) : Way))) 6 (fun st => by rw [List.length_map]; exact rideFrom_len Y ps s c _ 6 1) l
section
variable {P : Program} {w : World} {K : PySem.W.Frag} {mg : Str → Option Value} {base : Heap} {C : Addr}
abbrev N_ways_of : List Str := ["yard", "pieces", "piece", "cell", "side", "kind", "leaps", "rides", "crown", "found", "step", "count"]
theorem sc_ways_of : FnScope N_ways_of ["yard", "pieces", "piece"] (defScope s_ways_of) := ⟨rfl, rfl, rfl, by decide +kernel, rfl, by decide +kernel, by decide +kernel⟩
def pre_ways_of (C : Addr) : List AV → Hp → PyData → Prop := fun as H d => ∃ y Y ps p, as = [.v (.ref y), .d (dPieces ps), .d (dPiece p)] ∧ YardAt C H y Y ∧ OkY Y ∧ OkP Y p ∧ d = .list ((waysOf Y ps p).map dCW)
theorem kf_ways_of (T : Txt K mg C) : Kf P w K mg base 5 "ways_of" ["yard", "pieces", "piece"] (spF (pre_ways_of C)) := by
  obtain ⟨f, fd, F, hm⟩ := T.f_ways_of
  have G1 : Kf P w K mg base 3 "may_end" ["yard", "pieces", "side", "cell"] (spF (pre_may_end C)) := kf_may_end T
  have G2 : Kf P w K mg base 4 "ride" ["yard", "pieces", "side", "cell", "step"] (spF (pre_ride C)) := kf_ride T
  have G3 : Kf P w K mg base 1 "gone" ["cell", "step", "count"] (spF pre_gone) := kf_gone T
  have G4 : Kf P w K mg base 1 "turned_step" ["step", "side"] (spF pre_turned_step) := kf_turned_step T
  refine kf_mk F hm (pure_body F sc_ways_of (fun as H d ⟨_, _, _, _, e, _⟩ => by rw [e]; rfl) fun cdv A outer s H vs as d Q E hr ha hp q => ?_) (fun _ _ _ _ _ _ us hl => match us, hl with | [_, _, _], _ => rfl)
  obtain ⟨y, Y, ps, p, rfl, hy, ok, okp, rfl⟩ := hp
  obtain ⟨_, rfl, ha, _⟩ := ha.consV
  obtain ⟨v1, _, rfl, h1, ha⟩ := ha.consD
  obtain ⟨v2, _, rfl, h2, ha⟩ := ha.consD
  cases ha.nilD
  obtain ⟨kx, hkx⟩ := okp.kind
  have okk := ok.kinds _ _ hkx
  have hc := isFree_on okp.free
  -- cell, side, kind = piece
  refine b_cons (s_asg (pg_tup rfl (pgs_cons (g_name 3 sc_ways_of.nd) (pgs_cons (g_name 4 sc_ways_of.nd) (pgs_cons (g_name 5 sc_ways_of.nd) pgs_nil)))) ((v_var 2 rfl).run fun H1 s1 => un3 (d1 := dCell p.1) (d2 := .int p.2.1) (d3 := .str p.2.2) (h2.keep s1) fun u1 u2 u3 g1 g2 g3 => ?_))
  have hy1 := hy.keep s1
  -- leaps, rides, crown = yard.kinds[kind]
  refine b_cons (s_asg (pg_tup rfl (pgs_cons (g_name 6 sc_ways_of.nd) (pgs_cons (g_name 7 sc_ways_of.nd) (pgs_cons (g_name 8 sc_ways_of.nd) pgs_nil)))) ((c_kind T (hu1 hr) (v_var 0 rfl) hy1 (c_var 5 rfl g3) hkx).run fun v H2 s2 hv => un3 (d1 := dCells kx.1) (d2 := dCells kx.2.1) (d3 := .int kx.2.2) hv fun u4 u5 u6 g4 g5 g6 => ?_))
  -- found = []
  refine b_cons (s_set 9 sc_ways_of.nd ((pe_lst pa_nil).w ⟨Nat.zero_le _, fun l hl => ?_⟩))
  have A0 : Acc Never H2 (upd H2 l (.lst [])) l [] := Acc.new (Same.refl H2) hl id
  have k1 := (h1.keep s1).keep s2
  have gc := g1.keep s2
  have gs := g2.keep s2
  have hy2 := hy1.keep s2
  -- for step in leaps
  refine b_cons (s_forL (bs := kx.1) (enc := dCell) rfl (g_name 10 sc_ways_of.nd) ((v_var 6 rfl).run fun H3 s3 => ⟨All_, fun i σ' H' => ∃ o10, σ' = [some (.ref y), some v1, some v2, some u1, some u2, some u3, some u4, some u5, some u6, some (.ref l), o10, none] ∧ Acc Never H2 H' l ((leapsOf Y ps p.2.1 p.1 (kx.1.take i)).map dCW),
    ⟨none, rfl, A0.keep s3⟩, fun i σ' H' _ ⟨_, _, A'⟩ => g4.keep A'.s, ?_, ?_⟩))
  · rintro i st x σ' H' hst ⟨o10, rfl, A'⟩ hx
    have ilt : i < kx.1.length := (List.getElem?_eq_some_iff.mp hst).1
    have ll := okk.ll
    have gst : GoodStep (turnedStep st p.2.1) := (okk.leaps st (List.mem_of_getElem? hst)).turned _
    have al : (leapsOf Y ps p.2.1 p.1 (kx.1.take i)).length ≤ 16 := Nat.le_trans (leapsOf_len Y ps p.2.1 p.1 _) (by rw [List.length_take]; omega)
    refine b_cons (s_set 10 sc_ways_of.nd (CD.run (N := All_) (d := dCell (turnedStep st p.2.1)) (c_call G4 (hr.mono (by decide)) (as_d (c_var 10 rfl hx) (as_d (c_var 4 rfl (gs.keep A'.s)) as_nil)) (fun H'' s'' => ⟨st, _, rfl, rfl⟩) (fun _ _ => trivial)) fun v H4 s4 hv => ?_))
    have A4 := A'.keep s4
    refine b_one (s_ifB (k := mayEnd Y ps p.2.1 (gone p.1 (turnedStep st p.2.1) 1)) (t_val (c_call G1 (hr.mono (by decide)) (as_v (v_var 0 rfl) (as_d (c_var 1 rfl (k1.keep A4.s)) (as_d (c_var 4 rfl (gs.keep A4.s)) (as_d (c_call (d := dCell (gone p.1 (turnedStep st p.2.1) 1)) G3 (hr.mono (by decide)) (as_d (c_var 3 rfl (gc.keep A4.s)) (as_d (c_var 10 rfl hv) (as_d c_int as_nil))) (fun H'' s'' => ⟨_, _, _, rfl, by omega, rfl⟩) (fun _ _ => trivial)) as_nil))))
      (fun H'' s'' => ⟨y, Y, ps, _, _, rfl, hy2.keep (A4.s.trans s''), rfl⟩) (fun _ _ => trivial))) (fun e H5 s5 => ?_) fun e H5 s5 => b_nil ?_)
    · have A5 := A4.keep s5
      refine b_one (s_expr (e_appA (d := dCW (gone p.1 (turnedStep st p.2.1) 1, (true, turnedStep st p.2.1, 1))) (v_var 9 rfl) (c_tup (cs_cons (CD.noL (c_call (N := All_) (d := dCell (gone p.1 (turnedStep st p.2.1) 1)) G3 (hr.mono (by decide)) (as_d (c_var 3 rfl (gc.keep A5.s)) (as_d (c_var 10 rfl (hv.keep s5)) (as_d c_int as_nil))) (fun H'' s'' => ⟨_, _, _, rfl, by omega, rfl⟩) (fun _ _ => trivial)) (noL_cell _))
        (cs_cons (c_tup (ds := [.str "leap", dCell (turnedStep st p.2.1), .int 1]) (cs_cons c_str (cs_cons (c_var 10 rfl (Dv.noL _ _ (noL_cell _) (hv.keep s5))) (cs_cons c_int cs_nil)))) cs_nil))) A5 (by rw [List.length_map]; omega) fun H6 A6 s6 => ?_))
      refine ⟨some v, rfl, ?_⟩
      rw [leapsOf_snoc Y ps p.2.1 p.1 hst, if_pos e, List.map_append]
      exact A6
    · refine ⟨some v, rfl, ?_⟩
      rw [leapsOf_snoc Y ps p.2.1 p.1 hst, if_neg (by rw [e]; exact Bool.false_ne_true), List.append_nil]
      exact A4.keep s5
  rintro σ' H4 ⟨o10, rfl, A4⟩
  rw [List.take_length] at A4
  have l16 : (leapsOf Y ps p.2.1 p.1 kx.1).length ≤ 16 := Nat.le_trans (leapsOf_len Y ps p.2.1 p.1 _) okk.ll
  -- for step in rides
  refine b_cons (s_forL (bs := kx.2.1) (enc := dCell) rfl (g_name 10 sc_ways_of.nd) ((v_var 7 rfl).run fun H3 s3 => ⟨All_, fun i σ' H' => ∃ o10 o11, σ' = [some (.ref y), some v1, some v2, some u1, some u2, some u3, some u4, some u5, some u6, some (.ref l), o10, o11] ∧ Acc Never H2 H' l ((leapsOf Y ps p.2.1 p.1 kx.1 ++ ridesOf Y ps p.2.1 p.1 (kx.2.1.take i)).map dCW),
    ⟨o10, none, rfl, by rw [show ridesOf Y ps p.2.1 p.1 (kx.2.1.take 0) = [] from rfl, List.append_nil]; exact A4.keep s3⟩, fun i σ' H' _ ⟨_, _, _, A'⟩ => g5.keep A'.s, ?_, ?_⟩))
  · rintro i st x σ' H' hst ⟨o10, o11, rfl, A'⟩ hx
    have ilt : i < kx.2.1.length := (List.getElem?_eq_some_iff.mp hst).1
    have lr := okk.lr
    have gst : GoodStep (turnedStep st p.2.1) := (okk.rides st (List.mem_of_getElem? hst)).turned _
    have rl : (ridesOf Y ps p.2.1 p.1 (kx.2.1.take i)).length ≤ 96 := Nat.le_trans (ridesOf_len Y ps p.2.1 p.1 _) (by rw [List.length_take]; omega)
    refine b_cons (s_set 10 sc_ways_of.nd (CD.run (N := All_) (d := dCell (turnedStep st p.2.1)) (c_call G4 (hr.mono (by decide)) (as_d (c_var 10 rfl hx) (as_d (c_var 4 rfl (gs.keep A'.s)) as_nil)) (fun H'' s'' => ⟨st, _, rfl, rfl⟩) (fun _ _ => trivial)) fun v H5 s5 hv => ?_))
    have A5 := A'.keep s5
    obtain ⟨xs5, hx5, _⟩ := A5.ex
    -- for count in ride(..)
    refine b_one (s_forL (bs := ride Y ps p.2.1 p.1 (turnedStep st p.2.1)) (enc := .int) rfl (g_name 11 sc_ways_of.nd) (CD.run (N := fun a => a ≠ l) (d := dInts (ride Y ps p.2.1 p.1 (turnedStep st p.2.1))) (c_call G2 (hr.mono (by decide)) (as_v (v_var 0 rfl) (as_d (c_var 1 rfl (k1.keep A5.s)) (as_d (c_var 4 rfl (gs.keep A5.s)) (as_d (c_var 3 rfl (gc.keep A5.s)) (as_d (c_var 10 rfl hv) as_nil)))))
      (fun H'' s'' => ⟨y, Y, ps, _, _, _, rfl, hy2.keep (A5.s.trans s''), ok, hc, gst, rfl⟩) (fun a ha z => by rw [z, hx5] at ha; cases ha)) fun v7 H6 s6 hv7 => ⟨fun a => a ≠ l, fun j σ' H' => ∃ o11, σ' = [some (.ref y), some v1, some v2, some u1, some u2, some u3, some u4, some u5, some u6, some (.ref l), some v, o11] ∧ Dv (fun a => a ≠ l) H' v7 (dInts (ride Y ps p.2.1 p.1 (turnedStep st p.2.1))) ∧ Dv Never H' v (dCell (turnedStep st p.2.1)) ∧
        Acc Never H2 H' l ((leapsOf Y ps p.2.1 p.1 kx.1 ++ (ridesOf Y ps p.2.1 p.1 (kx.2.1.take i) ++ ((ride Y ps p.2.1 p.1 (turnedStep st p.2.1)).take j).map (fun n => (gone p.1 (turnedStep st p.2.1) n, (false, turnedStep st p.2.1, n))))).map dCW), ⟨o11, rfl, hv7, Dv.noL _ _ (noL_cell _) (hv.keep s6), by rw [List.take_zero, List.map_nil, List.append_nil]; exact A5.keep s6⟩, fun j σ' H' _ ⟨_, _, h, _⟩ => h, ?_, ?_⟩))
    · rintro j n xn σ' H7 hn ⟨o11', rfl, hv8, hv9, A7⟩ hxn
      have e1 := hxn.is_int
      subst e1
      have nb := rideFrom_small Y ps p.2.1 p.1 (turnedStep st p.2.1) 6 1 n (List.mem_of_getElem? hn)
      have jb : j < (ride Y ps p.2.1 p.1 (turnedStep st p.2.1)).length := (List.getElem?_eq_some_iff.mp hn).1
      have rb := rideFrom_len Y ps p.2.1 p.1 (turnedStep st p.2.1) 6 1
      refine b_one (s_expr (e_appA (d := dCW (gone p.1 (turnedStep st p.2.1) n, (false, turnedStep st p.2.1, n))) (v_var 9 rfl) (c_tup (cs_cons (CD.noL (c_call (N := All_) (d := dCell (gone p.1 (turnedStep st p.2.1) n)) G3 (hr.mono (by decide)) (as_d (c_var 3 rfl (gc.keep A7.s)) (as_d (c_var 10 rfl hv9.any) (as_d (c_var 11 rfl (.int n)) as_nil))) (fun H'' s'' => ⟨_, _, _, rfl, by omega, rfl⟩) (fun _ _ => trivial)) (noL_cell _))
        (cs_cons (c_tup (ds := [.str "ride", dCell (turnedStep st p.2.1), .int n]) (cs_cons c_str (cs_cons (c_var 10 rfl hv9) (cs_cons (c_var 11 rfl (.int n)) cs_nil)))) cs_nil))) A7 (by rw [List.length_map, List.length_append, List.length_append, List.length_map, List.length_take]; unfold ride at *; omega) fun H8 A8 s8 => ?_))
      obtain ⟨xs7, hx7⟩ := A7.lst
      refine ⟨some (.int n), rfl, hv8.but s8 hx7 (fun z => z rfl), hv9.but s8 hx7 id, ?_⟩
      have e2 : (leapsOf Y ps p.2.1 p.1 kx.1 ++ (ridesOf Y ps p.2.1 p.1 (kx.2.1.take i) ++ ((ride Y ps p.2.1 p.1 (turnedStep st p.2.1)).take (j + 1)).map (fun n => (gone p.1 (turnedStep st p.2.1) n, ((false, turnedStep st p.2.1, n) : Way))))) =
          (leapsOf Y ps p.2.1 p.1 kx.1 ++ (ridesOf Y ps p.2.1 p.1 (kx.2.1.take i) ++ ((ride Y ps p.2.1 p.1 (turnedStep st p.2.1)).take j).map (fun n => (gone p.1 (turnedStep st p.2.1) n, ((false, turnedStep st p.2.1, n) : Way))))) ++ [(gone p.1 (turnedStep st p.2.1) n, (false, turnedStep st p.2.1, n))] := by
        rw [take_succ_get hn, List.map_append, List.append_assoc, List.append_assoc]
        rfl
      rw [e2, List.map_append]
      exact A8
    · rintro σ' H7 ⟨o11', rfl, _, _, A7⟩
      refine ⟨some v, o11', rfl, ?_⟩
      rw [List.take_length] at A7
      rw [ridesOf_snoc Y ps p.2.1 p.1 hst]
      exact A7
  rintro σ' H5 ⟨o10', o11, rfl, A5⟩
  rw [List.take_length] at A5
  have e0 : waysOf Y ps p = leapsOf Y ps p.2.1 p.1 kx.1 ++ ridesOf Y ps p.2.1 p.1 kx.2.1 := by unfold waysOf; rw [kindAt_of hkx]
  rw [e0] at q
  exact b_one (s_ret ((v_var 9 rfl).run fun H6 s6 => q _ H6 ((s1.trans s2).trans (A5.keep s6).s) ((A5.keep s6).dv ((s1.trans s2).free A5.n) fun _ h => h.elim)))
end
end PY
set_option Elab.async false
set_option autoImplicit false
set_option linter.all false
set_option maxRecDepth 100000
set_option maxHeartbeats 4000000
/-! all_ways, on_goal, verdict_of, verdict. -/
namespace PY
open PySem L2
theorem waysOf_len (Y : Yr) (ok : OkY Y) (ps : List Pc) (p : Pc) (h : ∃ x, Y.kinds.lookup p.2.2 = some x) : (waysOf Y ps p).length ≤ 112 := by
  obtain ⟨x, hx⟩ := h
  have o := ok.kinds _ _ hx
  have h1 := leapsOf_len Y ps p.2.1 p.1 x.1
  have h2 := ridesOf_len Y ps p.2.1 p.1 x.2.1
  have := o.ll
  have := o.lr
  unfold waysOf
  rw [kindAt_of hx, List.length_append]
  omega
theorem waysFrom_snoc (Y : Yr) (t : Int) (ps : List Pc) {qs : List Pc} {i : Nat} {p : Pc} (h : qs[i]? = some p) : waysFrom Y t ps (qs.take (i + 1)) = waysFrom Y t ps (qs.take i) ++ (if p.2.1 = t then pieceWays Y ps p else []) := by
  rw [take_succ_get h]
  unfold waysFrom
  rw [List.flatMap_append]
  simp
theorem waysFrom_len (Y : Yr) (ok : OkY Y) (t : Int) (ps : List Pc) : ∀ qs : List Pc, (∀ q ∈ qs, OkP Y q) → (waysFrom Y t ps qs).length ≤ 112 * qs.length
  | [], _ => Nat.le_refl _
  | q :: qs, h => by
    have h1 := waysFrom_len Y ok t ps qs fun x hx => h x (List.mem_cons_of_mem _ hx)
    have h2 := waysOf_len Y ok ps q (h q List.mem_cons_self).kind
    have h3 : (waysFrom Y t ps (q :: qs)).length = (if q.2.1 = t then pieceWays Y ps q else []).length + (waysFrom Y t ps qs).length := by unfold waysFrom; rw [List.flatMap_cons, List.length_append]
    rw [h3, List.length_cons, Nat.mul_succ]
    split
    · unfold pieceWays
      rw [List.length_map]
      omega
    · simp; omega
section
variable {P : Program} {w : World} {K : PySem.W.Frag} {mg : Str → Option Value} {base : Heap} {C : Addr}
abbrev N_all_ways : List Str := ["yard", "position", "turn", "pieces", "found", "piece", "cell", "way"]
theorem sc_all_ways : FnScope N_all_ways ["yard", "position"] (defScope s_all_ways) := ⟨rfl, rfl, rfl, by decide +kernel, rfl, by decide +kernel, by decide +kernel⟩
def pre_all_ways (C : Addr) : List AV → Hp → PyData → Prop := fun as H d => ∃ y Y p, as = [.v (.ref y), .d (dPos p)] ∧ YardAt C H y Y ∧ OkY Y ∧ OkPos Y p ∧ d = .list ((allWays Y p).map dMW)
theorem kf_all_ways (T : Txt K mg C) : Kf P w K mg base 6 "all_ways" ["yard", "position"] (spF (pre_all_ways C)) := by
  obtain ⟨f, fd, F, hm⟩ := T.f_all_ways
  have G1 : Kf P w K mg base 5 "ways_of" ["yard", "pieces", "piece"] (spF (pre_ways_of C)) := kf_ways_of T
  refine kf_mk F hm (pure_body F sc_all_ways (fun as H d ⟨_, _, _, e, _⟩ => by rw [e]; rfl) fun cdv A outer s H vs as d Q E hr ha hp q => ?_) (fun _ _ _ _ _ _ us hl => match us, hl with | [_, _], _ => rfl)
  obtain ⟨y, Y, p, rfl, hy, ok, okp, rfl⟩ := hp
  obtain ⟨_, rfl, ha, _⟩ := ha.consV
  obtain ⟨v1, _, rfl, h1, ha⟩ := ha.consD
  cases ha.nilD
  refine b_cons (s_asg (pg_tup rfl (pgs_cons (g_name 2 sc_all_ways.nd) (pgs_cons (g_name 3 sc_all_ways.nd) pgs_nil))) ((v_var 1 rfl).run fun H1 s1 => un2 (d1 := .int p.1) (d2 := dPieces p.2) (h1.keep s1) fun u1 u2 g1 g2 => ?_))
  refine b_cons (s_set 4 sc_all_ways.nd ((pe_lst pa_nil).w ⟨Nat.zero_le _, fun l hl => ?_⟩))
  have A0 : Acc Never H1 (upd H1 l (.lst [])) l [] := Acc.new (Same.refl H1) hl id
  have hy1 := hy.keep s1
  have few := okp.few
  refine b_cons (s_forT (bs := p.2) (enc := dPiece) rfl (g_name 5 sc_all_ways.nd) ((v_var 3 rfl).run fun H2 s2 => ⟨All_, fun i σ' H' => ∃ o5, σ' = [some (.ref y), some v1, some u1, some u2, some (.ref l), o5, none, none] ∧ Acc Never H1 H' l ((waysFrom Y p.1 p.2 (p.2.take i)).map dMW),
    ⟨none, rfl, A0.keep s2⟩, fun i σ' H' _ ⟨_, _, A'⟩ => g2.keep A'.s, ?_, ?_⟩))
  · rintro i pc x σ' H' hpc ⟨o5, rfl, A'⟩ hx
    have ilt : i < p.2.length := (List.getElem?_eq_some_iff.mp hpc).1
    have mem := List.mem_of_getElem? hpc
    have okq := okp.ps pc mem
    have wl := waysOf_len Y ok p.2 pc okq.kind
    have fl : (waysFrom Y p.1 p.2 (p.2.take i)).length ≤ 112 * 4 := Nat.le_trans (waysFrom_len Y ok p.1 p.2 _ fun q hq => okp.ps q (List.mem_of_mem_take hq)) (Nat.mul_le_mul_left _ (by rw [List.length_take]; omega))
    refine b_one (s_ifB (t_cmp eq_i (c_ixT (ds := [dCell pc.1, .int pc.2.1, .str pc.2.2]) (c_var 5 rfl hx) c_int rfl) (c_var 2 rfl (g1.keep A'.s))) (fun e H3 s3 => ?_) fun e H3 s3 => b_nil ?_)
    · have A3 := A'.keep s3
      refine b_one (s_expr (e_extA (N1 := All_) (es := (waysOf Y p.2 pc).map fun x => dMW ((pc.1, x.1), x.2)) (v_var 4 rfl) (c_lc0 (bs := waysOf Y p.2 pc) (enc := dCW) (own := [("cell", 6), ("way", 7)]) (g := gT2 K 6 7) (N0 := All_) (fun x => dMW ((pc.1, x.1), x.2)) rfl sc_all_ways.nd (pi_list (ew _ _))
        (ci_list (c_call G1 hr (as_v (v_var 0 rfl) (as_d (c_var 3 rfl (g2.keep A3.s)) (as_d (c_var 5 rfl (hx.keep s3)) as_nil))) (fun H'' s'' => ⟨y, Y, p.2, pc, rfl, hy1.keep (A3.s.trans s''), ok, okq, rfl⟩) (fun _ _ => trivial))) (blkOk_by (N := N_all_ways) (sc := defScope s_all_ways) (by decide +kernel)) (fun _ _ _ _ _ => pg_tup rfl (pgs_cons (g_name 6 sc_all_ways.nd) (pgs_cons (g_name 7 sc_all_ways.nd) pgs_nil))) (by omega) (fun _ _ => trivial) (fun _ h => h) ?_)
        A3 (by rw [List.length_map, List.length_map]; omega) (fun vs H4 s4 hvs => Da.noL _ _ (fun d hd => by obtain ⟨z, _, rfl⟩ := List.mem_map.mp hd; exact noL_mw _) hvs) fun H4 A4 s4 => ?_))
      · intro N' cw x' H' hcw s' hx' hfr R k
        exact un2 (d1 := dCell cw.1) (d2 := dWay cw.2) hx' fun w1 w2 j1 j2 => k _ rfl fun s Hb Cc cl fp => c_tup (ds := [dMove (pc.1, cw.1), dWay cw.2]) (cs_cons (c_tup (ds := [dCell pc.1, dCell cw.1]) (cs_cons (c_ixT (ds := [dCell pc.1, .int pc.2.1, .str pc.2.2]) (c_var 5 rfl (Dv.noL _ _ (noL_piece pc) ((hx.keep s3).keep s'))) c_int rfl) (cs_cons (c_var 6 rfl j1) cs_nil))) (cs_cons (c_var 7 rfl j2) cs_nil))
      · refine ⟨some x, rfl, ?_⟩
        rw [waysFrom_snoc Y p.1 p.2 hpc, if_pos (of_decide_eq_true e), List.map_append]
        unfold pieceWays
        rw [List.map_map]
        exact A4
    · refine ⟨some x, rfl, ?_⟩
      rw [waysFrom_snoc Y p.1 p.2 hpc, if_neg (of_decide_eq_false e), List.append_nil]
      exact A'.keep s3
  rintro σ' H4 ⟨o5, rfl, A4⟩
  rw [List.take_length] at A4
  exact b_one (s_ret ((v_var 4 rfl).run fun H6 s6 => q _ H6 (s1.trans (A4.keep s6).s) ((A4.keep s6).dv (s1.free A4.n) fun _ h => h.elim)))
abbrev N_on_goal : List Str := ["yard", "pieces", "side", "cell"]
theorem sc_on_goal : FnScope N_on_goal ["yard", "pieces", "side"] (defScope s_on_goal) := ⟨rfl, rfl, rfl, by decide +kernel, rfl, by decide +kernel, by decide +kernel⟩
def pre_on_goal (C : Addr) : List AV → Hp → PyData → Prop := fun as H d => ∃ y Y ps s, as = [.v (.ref y), .d (dPieces ps), .d (.int s)] ∧ YardAt C H y Y ∧ KindsIn Y ps ∧ ps.length ≤ 1000 ∧ (s = 0 ∨ s = 1) ∧ d = .bool (onGoal Y ps s)
theorem kf_on_goal (T : Txt K mg C) : Kf P w K mg base 2 "on_goal" ["yard", "pieces", "side"] (spF (pre_on_goal C)) := by
  obtain ⟨f, fd, F, hm⟩ := T.f_on_goal
  have G1 : Kf P w K mg base 1 "crowns" ["yard", "pieces", "side"] (spF (pre_crowns C)) := kf_crowns T
  refine kf_mk F hm (pure_body F sc_on_goal (fun as H d ⟨_, _, _, _, e, _⟩ => by rw [e]; rfl) fun cdv A outer s H vs as d Q E hr ha hp q => ?_) (fun _ _ _ _ _ _ us hl => match us, hl with | [_, _, _], _ => rfl)
  obtain ⟨y, Y, ps, sd, rfl, hy, hk, hl, hs, rfl⟩ := hp
  obtain ⟨_, rfl, ha, _⟩ := ha.consV
  obtain ⟨v1, _, rfl, h1, ha⟩ := ha.consD
  obtain ⟨v2, _, rfl, h2, ha⟩ := ha.consD
  cases ha.nilD
  have cl : (crowns Y ps sd).length ≤ 1000 := by
    unfold crowns
    rw [List.length_map]
    exact Nat.le_trans (List.length_filter_le _ _) hl
  refine b_one (s_ret (CD.run (d := .bool (onGoal Y ps sd)) (CD.is (c_any (bs := (crowns Y ps sd).map fun c => decide (c ∈ goals Y sd)) rfl T.b_any (CD.is (c_lc0 (bs := crowns Y ps sd) (enc := dCell) (own := [("cell", 3)]) (g := gName 3) (N0 := All_) (fun c => .bool (decide (c ∈ goals Y sd))) rfl sc_on_goal.nd (pi_list (ew _ _))
    (ci_list (c_call G1 (hr.mono (by decide)) (as_v (v_var 0 rfl) (as_d (c_var 1 rfl h1) (as_d (c_var 2 rfl h2) as_nil))) (fun H'' s'' => ⟨y, Y, ps, sd, rfl, hy.keep s'', hk, hl, rfl⟩) (fun _ _ => trivial))) (blkOk_by (N := N_on_goal) (sc := defScope s_on_goal) (by decide +kernel)) (fun _ _ _ _ _ => g_name 3 sc_on_goal.nd) (by omega) (fun _ _ => trivial) (fun _ h => h) ?_) ?_)) ?_) fun v H2 s2 hv => q v H2 s2 hv))
  · intro N' c x H' hc s' hx hfr R k
    refine k _ rfl fun s Hb Cc cl fp => c_cmp ((in_d (by exact hu65 hr) (sh_cell c) (sh_cells (goals Y sd))).is (any_cell _ _)) (c_var 3 rfl hx.any) ?_
    rcases hs with rfl | rfl
    · exact c_ixT (ds := [dCells Y.g0, dCells Y.g1]) (c_goals T (v_var 0 rfl) (hy.keep s')) (c_var 2 rfl (h2.keep s')) rfl
    · exact c_ixT (ds := [dCells Y.g0, dCells Y.g1]) (c_goals T (v_var 0 rfl) (hy.keep s')) (c_var 2 rfl (h2.keep s')) rfl
  · rw [List.map_map]; rfl
  · rw [List.any_map]; rfl
abbrev N_verdict_of : List Str := ["yard", "position", "turn", "pieces", "side"]
theorem sc_verdict_of : FnScope N_verdict_of ["yard", "position"] (defScope s_verdict_of) := ⟨rfl, rfl, rfl, by decide +kernel, rfl, by decide +kernel, by decide +kernel⟩
def pre_verdict_of (C : Addr) : List AV → Hp → PyData → Prop := fun as H d => ∃ y Y p, as = [.v (.ref y), .d (dPos p)] ∧ YardAt C H y Y ∧ OkY Y ∧ OkPos Y p ∧ d = dVd (verdict Y p)
theorem kf_verdict_of (T : Txt K mg C) : Kf P w K mg base 7 "verdict_of" ["yard", "position"] (spF (pre_verdict_of C)) := by
  obtain ⟨f, fd, F, hm⟩ := T.f_verdict_of
  have G1 : Kf P w K mg base 1 "crowns" ["yard", "pieces", "side"] (spF (pre_crowns C)) := kf_crowns T
  have G2 : Kf P w K mg base 2 "on_goal" ["yard", "pieces", "side"] (spF (pre_on_goal C)) := kf_on_goal T
  have G3 : Kf P w K mg base 6 "all_ways" ["yard", "position"] (spF (pre_all_ways C)) := kf_all_ways T
  refine kf_mk F hm (pure_body F sc_verdict_of (fun as H d ⟨_, _, _, e, _⟩ => by rw [e]; rfl) fun cdv A outer s H vs as d Q E hr ha hp q => ?_) (fun _ _ _ _ _ _ us hl => match us, hl with | [_, _], _ => rfl)
  obtain ⟨y, Y, p, rfl, hy, ok, okp, rfl⟩ := hp
  obtain ⟨_, rfl, ha, _⟩ := ha.consV
  obtain ⟨v1, _, rfl, h1, ha⟩ := ha.consD
  cases ha.nilD
  refine b_cons (s_asg (pg_tup rfl (pgs_cons (g_name 2 sc_verdict_of.nd) (pgs_cons (g_name 3 sc_verdict_of.nd) pgs_nil))) ((v_var 1 rfl).run fun H1 s1 => un2 (d1 := .int p.1) (d2 := dPieces p.2) (h1.keep s1) fun u1 u2 g1 g2 => ?_))
  have hy1 := hy.keep s1
  have few := okp.few
  have kin := okp.kin
  -- for side in (0, 1): if len(crowns(yard, pieces, side)) == 0: return 1 - side
  refine b_cons (s_forT (bs := [(0 : Int), 1]) (enc := .int) rfl (g_name 4 sc_verdict_of.nd) ((c_tup (N := All_) (ds := [.int 0, .int 1]) (cs_cons c_int (cs_cons c_int cs_nil))).run fun v H2 s2 hv => ⟨All_, fun i σ' H' => ∃ o4, σ' = [some (.ref y), some v1, some u1, some u2, o4] ∧ Same H2 H' ∧ (1 ≤ i → crowns Y p.2 0 ≠ []) ∧ (2 ≤ i → crowns Y p.2 1 ≠ []),
    ⟨none, rfl, Same.refl H2, by omega, by omega⟩, fun i σ' H' _ ⟨_, _, s', _⟩ => hv.keep s', ?_, ?_⟩))
  · rintro i sd x σ' H' hsd ⟨o4, rfl, s', c0, c1⟩ hx
    have i2 : i < 2 := (List.getElem?_eq_some_iff.mp hsd).1
    refine b_one (s_ifB (t_cmp eq_i (c_lenL T.b_len (c_call (d := dCells (crowns Y p.2 sd)) G1 (hr.mono (by decide)) (as_v (v_var 0 rfl) (as_d (c_var 3 rfl ((g2.keep s2).keep s')) (as_d (c_var 4 rfl hx) as_nil))) (fun H'' s'' => ⟨y, Y, p.2, sd, rfl, hy1.keep ((s2.trans s').trans s''), kin, by omega, rfl⟩) (fun _ _ => trivial))) c_int) (fun e H3 s3 => ?_) fun e H3 s3 => b_nil ?_)
    · have e0 : crowns Y p.2 sd = [] := by
        have e1 := of_decide_eq_true e
        rw [List.length_map] at e1
        exact List.eq_nil_of_length_eq_zero (by omega)
      have ev : verdict Y p = .won (1 - sd) := by
        unfold verdict
        rcases (by omega : i = 0 ∨ i = 1) with rfl | rfl
        · have es : (0 : Int) = sd := Option.some.inj hsd
          subst es
          rw [if_pos e0]; rfl
        · have es : (1 : Int) = sd := Option.some.inj hsd
          subst es
          rw [if_neg (c0 (by omega)), if_pos e0]; rfl
      rw [ev] at q
      exact b_one (s_ret (CD.run (d := .int (1 - sd)) (c_sub c_int (c_var 4 rfl (hx.keep s3))) fun v H4 s4 hv => q v H4 ((((s1.trans s2).trans s').trans s3).trans s4) hv))
    · have e0 : crowns Y p.2 sd ≠ [] := fun z => by
        rw [z] at e
        exact of_decide_eq_false e rfl
      refine ⟨some x, rfl, s'.trans s3, fun _ => ?_, fun h2 => ?_⟩
      · rcases (by omega : i = 0 ∨ i = 1) with rfl | rfl
        · have es : (0 : Int) = sd := Option.some.inj hsd
          rw [es]; exact e0
        · exact c0 (by omega)
      · rcases (by omega : i = 0 ∨ i = 1) with rfl | rfl
        · omega
        · have es : (1 : Int) = sd := Option.some.inj hsd
          rw [es]; exact e0
  rintro σ' H3 ⟨o4, rfl, s3, c0, c1⟩
  have c0 := c0 (by decide)
  have c1 := c1 (by decide)
  have sH3 : Same H H3 := (s1.trans s2).trans s3
  have g13 := (g1.keep s2).keep s3
  have g23 := (g2.keep s2).keep s3
  have hy3 := hy.keep sH3
  have ev0 : verdict Y p = if onGoal Y p.2 (1 - p.1) then .won (1 - p.1) else if onGoal Y p.2 p.1 then .won p.1 else if allWays Y p = [] then (if Y.lost then .won (1 - p.1) else .drawn) else .open_ := by
    unfold verdict
    rw [if_neg c0, if_neg c1]
  -- for side in (1 - turn, turn): if on_goal(yard, pieces, side): return side
  refine b_cons (s_forT (bs := [1 - p.1, p.1]) (enc := .int) rfl (g_name 4 sc_verdict_of.nd) ((c_tup (N := All_) (ds := [.int (1 - p.1), .int p.1]) (cs_cons (c_sub c_int (c_var 2 rfl g13)) (cs_cons (c_var 2 rfl g13) cs_nil))).run fun v H4 s4 hv => ⟨All_, fun i σ' H' => ∃ o4, σ' = [some (.ref y), some v1, some u1, some u2, o4] ∧ Same H4 H' ∧ (1 ≤ i → onGoal Y p.2 (1 - p.1) = false) ∧ (2 ≤ i → onGoal Y p.2 p.1 = false),
    ⟨o4, rfl, Same.refl H4, by omega, by omega⟩, fun i σ' H' _ ⟨_, _, s', _⟩ => hv.keep s', ?_, ?_⟩))
  · rintro i sd x σ' H' hsd ⟨o4, rfl, s', d0, d1⟩ hx
    have i2 : i < 2 := (List.getElem?_eq_some_iff.mp hsd).1
    have sd01 : sd = 0 ∨ sd = 1 := by
      have := okp.turn
      rcases (by omega : i = 0 ∨ i = 1) with rfl | rfl
      · have es : 1 - p.1 = sd := Option.some.inj hsd
        omega
      · have es : p.1 = sd := Option.some.inj hsd
        omega
    refine b_one (s_ifB (k := onGoal Y p.2 sd) (t_val (c_call G2 (hr.mono (by decide)) (as_v (v_var 0 rfl) (as_d (c_var 3 rfl ((g23.keep s4).keep s')) (as_d (c_var 4 rfl hx) as_nil))) (fun H'' s'' => ⟨y, Y, p.2, sd, rfl, hy3.keep ((s4.trans s').trans s''), kin, by omega, sd01, rfl⟩) (fun _ _ => trivial))) (fun e H5 s5 => ?_) fun e H5 s5 => b_nil ?_)
    · have ev : verdict Y p = .won sd := by
        rw [ev0]
        rcases (by omega : i = 0 ∨ i = 1) with rfl | rfl
        · have es : 1 - p.1 = sd := Option.some.inj hsd
          subst es
          rw [if_pos e]
        · have es : p.1 = sd := Option.some.inj hsd
          subst es
          rw [if_neg (by rw [d0 (by omega)]; exact Bool.false_ne_true), if_pos e]
      rw [ev] at q
      exact b_one (s_ret (CD.run (d := .int sd) (c_var 4 rfl (Dv.noL _ _ (.int _) (hx.keep s5))) fun v H6 s6 hv => q v H6 ((((sH3.trans s4).trans s').trans s5).trans s6) hv))
    · refine ⟨some x, rfl, s'.trans s5, fun _ => ?_, fun h2 => ?_⟩
      · rcases (by omega : i = 0 ∨ i = 1) with rfl | rfl
        · have es : 1 - p.1 = sd := Option.some.inj hsd
          rw [es]; exact e
        · exact d0 (by omega)
      · rcases (by omega : i = 0 ∨ i = 1) with rfl | rfl
        · omega
        · have es : p.1 = sd := Option.some.inj hsd
          rw [es]; exact e
  rintro σ' H5 ⟨o4', rfl, s5, d0, d1⟩
  have d0 := d0 (by simp)
  have d1 := d1 (by simp)
  have sH5 : Same H H5 := (sH3.trans s4).trans s5
  rw [if_neg (by rw [d0]; exact Bool.false_ne_true), if_neg (by rw [d1]; exact Bool.false_ne_true)] at ev0
  -- if len(all_ways(yard, position)) == 0
  refine b_cons (s_ifB (t_cmp eq_i (c_lenL T.b_len (c_call (d := .list ((allWays Y p).map dMW)) G3 hr (as_v (v_var 0 rfl) (as_d (c_var 1 rfl (h1.keep sH5)) as_nil)) (fun H'' s'' => ⟨y, Y, p, rfl, hy.keep (sH5.trans s''), ok, okp, rfl⟩) (fun _ _ => trivial))) c_int) (fun e H6 s6 => ?_) fun e H6 s6 => b_nil ?_)
  · have e0 : allWays Y p = [] := by
      have e1 := of_decide_eq_true e
      rw [List.length_map] at e1
      exact List.eq_nil_of_length_eq_zero (by omega)
    rw [if_pos e0] at ev0
    rw [ev0] at q
    refine b_one (s_ret (CD.run (N := Free H) (d := dVd (if Y.lost = true then .won (1 - p.1) else .drawn)) ?_ fun v H7 s7 hv => q v H7 ((sH5.trans s6).trans s7) hv))
    have hst := hy.keep (sH5.trans s6)
    have g16 := ((g13.keep s4).keep s5).keep s6
    cases hlo : Y.lost with
    | true =>
      exact c_ifExp (k := true) (t_cmp ((eq_d (d1 := .str "lost") (d2 := .str "lost") (by exact hu64 hr) (by decide +kernel) (by decide +kernel)).is (by decide +kernel)) ((c_stuck T (v_var 0 rfl) hst).is (by rw [hlo]; rfl)) c_str) (fun _ => c_sub c_int (c_var 2 rfl g16)) fun z => nomatch z
    | false =>
      exact c_ifExp (k := false) (t_cmp ((eq_d (d1 := .str "drawn") (d2 := .str "lost") (by exact hu64 hr) (by decide +kernel) (by decide +kernel)).is (by decide +kernel)) ((c_stuck T (v_var 0 rfl) hst).is (by rw [hlo]; rfl)) c_str) (fun z => nomatch z) fun _ => c_str
  · have e0 : allWays Y p ≠ [] := fun z => by
      rw [z] at e
      exact of_decide_eq_false e rfl
    rw [if_neg e0] at ev0
    rw [ev0] at q
    exact b_one (s_ret (CD.run (d := .none) c_non fun v H7 s7 hv => q v H7 ((sH5.trans s6).trans s7) hv))
theorem sc_verdict : FnScope ["yard", "position"] ["yard", "position"] (defScope s_verdict) := ⟨rfl, rfl, rfl, by decide +kernel, rfl, by decide +kernel, by decide +kernel⟩
theorem kf_verdict (T : Txt K mg C) : Kf P w K mg base 8 "verdict" ["yard", "position"] (spF (pre_verdict_of C)) := by
  obtain ⟨f, fd, F, hm⟩ := T.f_verdict
  have G1 : Kf P w K mg base 5 "check_position" ["yard", "position"] (spF (pre_check_position C)) := kf_check_position T
  have G2 : Kf P w K mg base 7 "verdict_of" ["yard", "position"] (spF (pre_verdict_of C)) := kf_verdict_of T
  refine kf_mk F hm (pure_body F sc_verdict (fun as H d ⟨_, _, _, e, _⟩ => by rw [e]; rfl) fun cdv A outer s H vs as d Q E hr ha hp q => ?_) (fun _ _ _ _ _ _ us hl => match us, hl with | [_, _], _ => rfl)
  obtain ⟨y, Y, p, rfl, hy, ok, okp, rfl⟩ := hp
  obtain ⟨_, rfl, ha, _⟩ := ha.consV
  obtain ⟨v1, _, rfl, h1, ha⟩ := ha.consD
  cases ha.nilD
  refine b_cons (s_expr (CD.run (N := All_) (d := .none) (c_call G1 (hr.mono (by decide)) (as_v (v_var 0 rfl) (as_d (c_var 1 rfl h1) as_nil)) (fun H' s' => ⟨y, Y, p, rfl, hy.keep s', okp, rfl⟩) (fun _ _ => trivial)) fun v H1 s1 hv => ?_))
  exact b_one (s_ret (CD.run (c_call G2 hr (as_v (v_var 0 rfl) (as_d (c_var 1 rfl (h1.keep s1)) as_nil)) (fun H' s' => ⟨y, Y, p, rfl, hy.keep (s1.trans s'), ok, okp, rfl⟩) (fun _ h => s1.free h)) fun v H2 s2 hv => q v H2 (s1.trans s2) hv))
end
end PY
set_option Elab.async false
set_option autoImplicit false
set_option linter.all false
/-! Plain laws: positions behind moves, how many moves and lines there are. -/
namespace PY
open PySem L2
/-! ### sorting pieces -/
theorem pput_perm (x : Pc) : ∀ l : List Pc, (pput x l).Perm (x :: l)
  | [] => .refl _
  | y :: r => by
    unfold pput
    by_cases h : pieceLt x y
    · rw [if_pos h]
    · rw [if_neg h]
      exact ((pput_perm x r).cons y).trans (.swap x y r)
theorem psort_perm : ∀ l : List Pc, (psort l).Perm l
  | [] => .refl _
  | x :: r => (pput_perm x (psort r)).trans ((psort_perm r).cons x)
theorem pput_up (x : Pc) : ∀ l : List Pc, l.Pairwise pieceLt → (∀ y ∈ l, y.1 ≠ x.1) → (pput x l).Pairwise pieceLt
  | [], _, _ => List.pairwise_singleton _ _
  | y :: r, h, n => by
    obtain ⟨h1, h2⟩ := List.pairwise_cons.mp h
    unfold pput
    by_cases c : pieceLt x y
    · rw [if_pos c]
      refine List.pairwise_cons.mpr ⟨fun z hz => ?_, h⟩
      rcases List.mem_cons.mp hz with e | hz
      · rw [e]; exact c
      · exact cellLt_trans (show cellLt x.1 y.1 from c) (h1 z hz)
    · rw [if_neg c]
      have cy : pieceLt y x := by
        rcases cellLt_tri x.1 y.1 with q | q | q
        · exact absurd q c
        · exact absurd q.symm (n y List.mem_cons_self)
        · exact q
      refine List.pairwise_cons.mpr ⟨fun z hz => ?_, pput_up x r h2 fun z hz => n z (List.mem_cons_of_mem _ hz)⟩
      rcases List.mem_cons.mp ((pput_perm x r).mem_iff.mp hz) with e | hz
      · rw [e]; exact cy
      · exact h1 z hz
theorem psort_up : ∀ l : List Pc, (l.map Prod.fst).Nodup → (psort l).Pairwise pieceLt
  | [], _ => .nil
  | x :: r, h => by
    rw [List.map_cons] at h
    obtain ⟨h1, h2⟩ := List.nodup_cons.mp h
    exact pput_up x (psort r) (psort_up r h2) fun y hy e => h1 (List.mem_map.mpr ⟨y, (psort_perm r).mem_iff.mp hy, e⟩)
theorem up_cells {l : List Pc} (h : l.Pairwise pieceLt) : (l.map Prod.fst).Nodup := List.pairwise_map.mpr (h.imp fun {a b} (q : cellLt a.1 b.1) (e : a.1 = b.1) => cellLt_irrefl b.1 (by
  rw [e] at q
  exact q))
/-! ### pieces behind a move -/
theorem mem_moved {m : Move} {ps : List Pc} {q : Pc} : q ∈ moved m ps ↔ ∃ p ∈ ps, (p.1 = m.1 ∧ q = (m.2, p.2)) ∨ (p.1 ≠ m.1 ∧ p.1 ≠ m.2 ∧ q = p) := by
  unfold moved
  rw [List.mem_flatMap]
  constructor
  · rintro ⟨p, hp, h⟩
    refine ⟨p, hp, ?_⟩
    by_cases c1 : p.1 = m.1
    · rw [if_pos c1] at h
      exact .inl ⟨c1, List.mem_singleton.mp h⟩
    · rw [if_neg c1] at h
      by_cases c2 : p.1 = m.2
      · rw [if_pos c2] at h; cases h
      · rw [if_neg c2] at h
        exact .inr ⟨c1, c2, List.mem_singleton.mp h⟩
  · rintro ⟨p, hp, h⟩
    refine ⟨p, hp, ?_⟩
    rcases h with ⟨c1, e⟩ | ⟨c1, c2, e⟩
    · rw [if_pos c1, e]; exact List.mem_singleton.mpr rfl
    · rw [if_neg c1, if_neg c2, e]; exact List.mem_singleton.mpr rfl
theorem moved_cons (m : Move) (p : Pc) (ps : List Pc) : moved m (p :: ps) = (if p.1 = m.1 then [(m.2, p.2)] else if p.1 = m.2 then [] else [p]) ++ moved m ps := by
  unfold moved
  rw [List.flatMap_cons]
theorem moved_cells (m : Move) : ∀ ps : List Pc, (ps.map Prod.fst).Nodup → ((moved m ps).map Prod.fst).Nodup
  | [], _ => .nil
  | p :: ps, h => by
    rw [List.map_cons] at h
    obtain ⟨h1, h2⟩ := List.nodup_cons.mp h
    have ih := moved_cells m ps h2
    have h1' : ∀ q ∈ ps, q.1 ≠ p.1 := fun q hq e => h1 (e ▸ List.mem_map.mpr ⟨q, hq, rfl⟩)
    rw [moved_cons]
    by_cases c1 : p.1 = m.1
    · rw [if_pos c1]
      refine List.nodup_cons.mpr ⟨fun hm => ?_, ih⟩
      obtain ⟨q, hq, e⟩ := List.mem_map.mp hm
      obtain ⟨r, hr, ⟨d1, d2⟩ | ⟨d1, d2, d3⟩⟩ := mem_moved.mp hq
      · exact h1' r hr (d1.trans c1.symm)
      · rw [d3] at e
        exact d2 e
    · rw [if_neg c1]
      by_cases c2 : p.1 = m.2
      · rw [if_pos c2]; exact ih
      · rw [if_neg c2]
        refine List.nodup_cons.mpr ⟨fun hm => ?_, ih⟩
        obtain ⟨q, hq, e⟩ := List.mem_map.mp hm
        obtain ⟨r, hr, ⟨d1, d2⟩ | ⟨d1, d2, d3⟩⟩ := mem_moved.mp hq
        · rw [d2] at e
          exact c2 e.symm
        · rw [d3] at e
          exact h1' r hr e
theorem moved_len (m : Move) : ∀ ps : List Pc, (moved m ps).length ≤ ps.length
  | [] => Nat.le_refl _
  | p :: ps => by
    have ih := moved_len m ps
    rw [moved_cons, List.length_append, List.length_cons]
    by_cases c1 : p.1 = m.1
    · rw [if_pos c1, List.length_singleton]; omega
    · rw [if_neg c1]
      by_cases c2 : p.1 = m.2
      · rw [if_pos c2, List.length_nil]; omega
      · rw [if_neg c2, List.length_singleton]; omega
/-! ### what a move is -/
theorem rideFrom_may {Y : Yr} {ps : List Pc} {s : Int} {c : Cell} {st : Step} : ∀ (f : Nat) (n : Int), ∀ k ∈ rideFrom Y ps s c st f n, mayEnd Y ps s (gone c st k) = true
  | 0, _, k, hk => nomatch hk
  | f + 1, n, k, hk => by
    unfold rideFrom at hk
    by_cases h : mayEnd Y ps s (gone c st n) = true
    · rw [if_pos h] at hk
      rcases List.mem_cons.mp hk with e | hk
      · rw [e]; exact h
      · by_cases h2 : (pieceAt ps (gone c st n)).isSome = true
        · rw [if_pos h2] at hk; cases hk
        · rw [if_neg h2] at hk
          exact rideFrom_may f (n + 1) k hk
    · rw [if_neg h] at hk; cases hk
theorem ways_may {Y : Yr} {ps : List Pc} {p : Pc} {x : Cell × Way} (h : x ∈ waysOf Y ps p) : mayEnd Y ps p.2.1 x.1 = true := by
  unfold waysOf at h
  rcases List.mem_append.mp h with h | h
  · obtain ⟨st, _, h⟩ := List.mem_flatMap.mp h
    by_cases c : mayEnd Y ps p.2.1 (gone p.1 (turnedStep st p.2.1) 1) = true
    · rw [if_pos c] at h
      rw [List.mem_singleton.mp h]
      exact c
    · rw [if_neg c] at h; cases h
  · obtain ⟨st, _, h⟩ := List.mem_flatMap.mp h
    obtain ⟨n, hn, e⟩ := List.mem_map.mp h
    rw [← e]
    exact rideFrom_may 6 1 n hn
theorem move_in {Y : Yr} {p : Ps} {m : Move} (h : m ∈ (allWays Y p).map Prod.fst) : ∃ q ∈ p.2, (q.2.1 = p.1 ∧ m.1 = q.1) ∧ mayEnd Y p.2 p.1 m.2 = true := by
  obtain ⟨x, hx, rfl⟩ := List.mem_map.mp h
  obtain ⟨q, hq, hx⟩ := List.mem_flatMap.mp hx
  by_cases c : q.2.1 = p.1
  · rw [if_pos c] at hx
    obtain ⟨y, hy, e⟩ := List.mem_map.mp hx
    refine ⟨q, hq, ⟨c, by rw [← e]⟩, ?_⟩
    rw [← e, ← c]
    exact ways_may hy
  · rw [if_neg c] at hx; cases hx
theorem mem_moves {Y : Yr} {p : Ps} {m : Move} (h : m ∈ moves Y p) : verdict Y p = .open_ ∧ m ∈ (allWays Y p).map Prod.fst := by
  unfold moves at h
  by_cases c : verdict Y p = .open_
  · rw [if_pos c] at h
    exact ⟨c, (mem_rise _ _).mp h⟩
  · rw [if_neg c] at h; cases h
theorem open_crowns {Y : Yr} {p : Ps} (h : verdict Y p = .open_) : (crowns Y p.2 0 ≠ [] ∧ crowns Y p.2 1 ≠ []) ∧ allWays Y p ≠ [] := by
  unfold verdict at h
  by_cases c0 : crowns Y p.2 0 = []
  · rw [if_pos c0] at h; cases h
  rw [if_neg c0] at h
  by_cases c1 : crowns Y p.2 1 = []
  · rw [if_pos c1] at h; cases h
  rw [if_neg c1] at h
  refine ⟨⟨c0, c1⟩, fun e => ?_⟩
  by_cases c2 : onGoal Y p.2 (1 - p.1) = true
  · rw [if_pos c2] at h; cases h
  rw [if_neg c2] at h
  by_cases c3 : onGoal Y p.2 p.1 = true
  · rw [if_pos c3] at h; cases h
  rw [if_neg c3, if_pos e] at h
  cases hl : Y.lost <;> rw [hl] at h <;> simp at h
theorem moves_some {Y : Yr} {p : Ps} (h : verdict Y p = .open_) : moves Y p ≠ [] := by
  unfold moves
  rw [if_pos h]
  intro e
  have h1 := (open_crowns h).2
  cases hw : allWays Y p with
  | nil => exact h1 hw
  | cons x r =>
    have : x.1 ∈ rise moveLt ((allWays Y p).map Prod.fst) := (mem_rise _ _).mpr (by rw [hw]; exact List.mem_cons_self)
    rw [e] at this
    cases this
theorem mayEnd_free {Y : Yr} {ps : List Pc} {s : Int} {c : Cell} (h : mayEnd Y ps s c = true) : isFree Y c = true := by
  unfold mayEnd at h
  rw [Bool.and_eq_true] at h
  exact h.1
theorem pieceAt_of {ps : List Pc} {q : Pc} (n : (ps.map Prod.fst).Nodup) (h : q ∈ ps) : pieceAt ps q.1 = some q.2 := by
  induction ps with
  | nil => cases h
  | cons p ps ih =>
    rw [List.map_cons] at n
    obtain ⟨n1, n2⟩ := List.nodup_cons.mp n
    unfold pieceAt
    rcases List.mem_cons.mp h with e | h
    · rw [e, if_pos rfl]
    · rw [if_neg fun e : p.1 = q.1 => n1 (List.mem_map.mpr ⟨q, h, e.symm⟩)]
      exact ih n2 h
theorem mayEnd_foe {Y : Yr} {ps : List Pc} {s : Int} {q : Pc} (n : (ps.map Prod.fst).Nodup) (h : q ∈ ps) (hm : mayEnd Y ps s q.1 = true) : q.2.1 ≠ s := by
  unfold mayEnd at hm
  rw [pieceAt_of n h, Bool.and_eq_true, Bool.not_eq_true', decide_eq_false_iff_not] at hm
  exact hm.2
theorem mem_crowns {Y : Yr} {ps : List Pc} {s : Int} {c : Cell} : c ∈ crowns Y ps s ↔ ∃ q ∈ ps, q.1 = c ∧ q.2.1 = s ∧ (kindAt Y q.2.2).2.2 = 1 := by
  unfold crowns
  rw [List.mem_map]
  constructor
  · rintro ⟨q, hq, e⟩
    rw [List.mem_filter, Bool.and_eq_true, decide_eq_true_eq, decide_eq_true_eq] at hq
    exact ⟨q, hq.1, e, hq.2⟩
  · rintro ⟨q, hq, e, h⟩
    exact ⟨q, by rw [List.mem_filter, Bool.and_eq_true, decide_eq_true_eq, decide_eq_true_eq]; exact ⟨hq, h⟩, e⟩
/-- behind a move stands a position -/
theorem ok_after {Y : Yr} {p : Ps} {m : Move} (ok : OkPos Y p) (h : m ∈ moves Y p) : OkPos Y (after p m) := by
  obtain ⟨ho, hw⟩ := mem_moves h
  obtain ⟨q, hq, ⟨hs, hc⟩, hm⟩ := move_in hw
  have nd := up_cells ok.up
  have pm := psort_perm (moved m p.2)
  have mem : ∀ r, r ∈ (after p m).2 ↔ r ∈ moved m p.2 := fun r => pm.mem_iff
  refine ⟨?_, fun r hr => ?_, psort_up _ (moved_cells m p.2 nd), fun e => ?_, ?_, ?_⟩
  · have := ok.turn
    show (1 - p.1 = 0) ∨ (1 - p.1 = 1)
    omega
  · obtain ⟨x, hx, ⟨d1, d2⟩ | ⟨d1, d2, d3⟩⟩ := mem_moved.mp ((mem r).mp hr)
    · rw [d2]
      exact ⟨mayEnd_free hm, (ok.ps x hx).side, (ok.ps x hx).kind⟩
    · rw [d3]; exact ok.ps x hx
  · have : (m.2, q.2) ∈ (after p m).2 := (mem _).mpr (mem_moved.mpr ⟨q, hq, .inl ⟨hc.symm, rfl⟩⟩)
    rw [e] at this
    cases this
  · have h1 := pm.length_eq
    have h2 := moved_len m p.2
    have h3 := ok.few
    show (psort (moved m p.2)).length ≤ 4
    omega
  · have own : crowns Y p.2 p.1 ≠ [] → crowns Y (after p m).2 p.1 ≠ [] := fun hne e => by
      obtain ⟨c, hcc⟩ := List.exists_mem_of_ne_nil _ hne
      obtain ⟨x, hx, e1, e2, e3⟩ := mem_crowns.mp hcc
      by_cases d : x.1 = m.1
      · have : m.2 ∈ crowns Y (after p m).2 p.1 := mem_crowns.mpr ⟨(m.2, x.2), (mem _).mpr (mem_moved.mpr ⟨x, hx, .inl ⟨d, rfl⟩⟩), rfl, e2, e3⟩
        rw [e] at this
        cases this
      · have d2 : x.1 ≠ m.2 := fun z => mayEnd_foe nd hx (by rw [z]; exact hm) e2
        have : x.1 ∈ crowns Y (after p m).2 p.1 := mem_crowns.mpr ⟨x, (mem _).mpr (mem_moved.mpr ⟨x, hx, .inr ⟨d, d2, rfl⟩⟩), rfl, e2, e3⟩
        rw [e] at this
        cases this
    have oc := (open_crowns ho).1
    rcases ok.turn with t | t
    · rw [t] at own
      exact .inl (own oc.1)
    · rw [t] at own
      exact .inr (own oc.2)
/-! ### how many -/
def board (Y : Yr) : List Cell := (List.range Y.h.toNat).flatMap fun r : Nat => (List.range Y.w.toNat).map fun c : Nat => ((r : Int), (c : Int))
theorem flat_le {α β : Type} (f : α → List β) (n : Nat) : ∀ l : List α, (∀ a ∈ l, (f a).length ≤ n) → (l.flatMap f).length ≤ l.length * n
  | [], _ => by simp
  | a :: l, h => by
    rw [List.flatMap_cons, List.length_append, List.length_cons, Nat.succ_mul]
    have h1 := h a List.mem_cons_self
    have h2 := flat_le f n l fun b hb => h b (List.mem_cons_of_mem _ hb)
    omega
theorem board_len {Y : Yr} (ok : OkY Y) : (board Y).length ≤ 12 := by
  have h := flat_le (fun r : Nat => (List.range Y.w.toNat).map fun c : Nat => ((r : Int), (c : Int))) Y.w.toNat (List.range Y.h.toNat) fun a _ => by simp
  have ha := ok.area
  obtain ⟨h1, h2⟩ := ok.h
  obtain ⟨w1, w2⟩ := ok.w
  have e : ((Y.h.toNat * Y.w.toNat : Nat) : Int) = Y.h * Y.w := by rw [Int.natCast_mul, Int.toNat_of_nonneg (by omega), Int.toNat_of_nonneg (by omega)]
  rw [List.length_range] at h
  unfold board
  omega
theorem on_board_mem {Y : Yr} {c : Cell} (h : onBoard Y c = true) : c ∈ board Y := by
  unfold onBoard at h
  simp only [Bool.and_eq_true, decide_eq_true_eq] at h
  obtain ⟨⟨h1, h2⟩, h3, h4⟩ := h
  refine List.mem_flatMap.mpr ⟨c.1.toNat, List.mem_range.mpr (by omega), List.mem_map.mpr ⟨c.2.toNat, List.mem_range.mpr (by omega), ?_⟩⟩
  rw [Int.toNat_of_nonneg h1, Int.toNat_of_nonneg h3]
theorem isFree_on2 {Y : Yr} {c : Cell} (h : isFree Y c = true) : onBoard Y c = true := by
  unfold isFree at h
  rw [Bool.and_eq_true] at h
  exact h.1
/-- all the moves there could be -/
def could (Y : Yr) (p : Ps) : List Move := p.2.flatMap fun q => (board Y).map fun c => (q.1, c)
theorem could_len {Y : Yr} {p : Ps} (ok : OkY Y) (okp : OkPos Y p) : (could Y p).length ≤ 48 := by
  have h1 := board_len ok
  have h2 := flat_le (fun q : Pc => (board Y).map fun c => (q.1, c)) 12 p.2 fun a _ => by rw [List.length_map]; exact h1
  have h3 := okp.few
  refine Nat.le_trans h2 ?_
  omega
theorem ways_could {Y : Yr} {p : Ps} {m : Move} (h : m ∈ (allWays Y p).map Prod.fst) : m ∈ could Y p := by
  obtain ⟨q, hq, ⟨_, hc⟩, hm⟩ := move_in h
  exact List.mem_flatMap.mpr ⟨q, hq, List.mem_map.mpr ⟨m.2, on_board_mem (isFree_on2 (mayEnd_free hm)), by rw [← hc]⟩⟩
theorem moves_up (Y : Yr) (p : Ps) : (moves Y p).Pairwise moveLt := by
  unfold moves
  split
  · exact rise_rising (lt := moveLt) (fun {a b c} => moveLt_trans) moveLt_tri _
  · exact .nil
theorem moves_len {Y : Yr} {p : Ps} (ok : OkY Y) (okp : OkPos Y p) : (moves Y p).length ≤ 48 := Nat.le_trans (nodup_len _ _ (rising_nodup moveLt_irrefl (moves_up Y p)) fun m hm => ways_could (mem_moves hm).2) (could_len ok okp)
theorem lines_len {Y : Yr} (ok : OkY Y) : ∀ (n : Nat) (p : Ps), OkPos Y p → (linesOf Y n p).length ≤ 48 ^ n
  | 0, p, _ => Nat.le_refl _
  | n + 1, p, okp => by
    have h1 := flat_le (fun m => (linesOf Y n (after p m)).map fun l => m :: l) (48 ^ n) (moves Y p) fun m hm => by rw [List.length_map]; exact lines_len ok n _ (ok_after okp hm)
    have h2 := moves_len ok okp
    show ((moves Y p).flatMap _).length ≤ _
    rw [Nat.pow_succ, Nat.mul_comm]
    exact Nat.le_trans h1 (Nat.mul_le_mul_right _ h2)
theorem lines_take {Y : Yr} (ok : OkY Y) (n : Nat) (p : Ps) (okp : OkPos Y p) (i : Nat) : (((moves Y p).take i).flatMap fun m => (linesOf Y n (after p m)).map fun l => m :: l).length ≤ 48 ^ (n + 1) := by
  have h1 := flat_le (fun m => (linesOf Y n (after p m)).map fun l => m :: l) (48 ^ n) ((moves Y p).take i) fun m hm => by rw [List.length_map]; exact lines_len ok n _ (ok_after okp (List.mem_of_mem_take hm))
  have h2 := moves_len ok okp
  have h3 : ((moves Y p).take i).length ≤ 48 := by rw [List.length_take]; omega
  rw [Nat.pow_succ, Nat.mul_comm]
  exact Nat.le_trans h1 (Nat.mul_le_mul_right _ h3)
end PY
set_option Elab.async false
set_option autoImplicit false
set_option linter.all false
set_option maxRecDepth 100000
set_option maxHeartbeats 4000000
/-! sorted of a list of data. -/
namespace PY
open PySem L2 PySem.W
section
variable {N : Addr → Prop} {X : Cx} {H : Hp}
/-- the values stand for what is listed; the abstract values of them -/
theorem each_abs {β : Type} {enc : β → PyData} : ∀ {us : List Value} {bs : List β}, EachIs (fun (u : Value) (b : β) => ∃ x : V, RelV x u ∧ Dv N H x (enc b)) us bs → ∃ xs, Vals xs us ∧ Da N H xs (bs.map enc)
  | _, _, .nil => ⟨[], .nil, .nil⟩
  | _, _, .cons ⟨x, r, d⟩ t => by
    obtain ⟨xs, r', d'⟩ := each_abs t
    exact ⟨x :: xs, .cons r r', .cons d d'⟩
theorem abs_each {β : Type} {enc : β → PyData} : ∀ {xs : List V} {us : List Value} {bs : List β}, Vals xs us → Da N H xs (bs.map enc) → EachIs (fun (u : Value) (b : β) => ∃ x : V, RelV x u ∧ Dv N H x (enc b)) us bs
  | _, _, [], r, d => by
    cases d
    cases r
    exact .nil
  | _, _, b :: bs, r, d => by
    cases d with
    | cons d1 d2 =>
      cases r with
      | cons r1 r2 => exact .cons ⟨_, r1, d1⟩ (abs_each r2 d2)
theorem abs_reads {β : Type} {enc : β → PyData} {pins : List (Addr × Obj)} {σ : St} {s : Shared} (I : Inv X pins σ H s) {us : List Value} {bs : List β} (e : EachIs (fun (u : Value) (b : β) => ∃ x : V, RelV x u ∧ Dv N H x (enc b)) us bs) :
    EachIs (fun u b => ∃ as, Reads s.heap u (enc b) as) us bs := e.mono fun u b ⟨x, r, d⟩ => Dp.reads I (enc b) x u d.dp r
/-- sorted(xs) -/
def rSortD {β : Type} (bs : List β) (enc : β → PyData) : List V → Hp → VK → Prop := fun vs H Q => ∃ (N : Addr → Prop) (v : V), vs = [v] ∧ Dv N H v (.list (bs.map enc)) ∧ ∀ p ys, H p = none → Da N H ys ((bs.mergeSort (dataLe false enc)).map enc) → Q (.ref p) (upd H p (.lst ys))
theorem cr_sortD {β : Type} {bs : List β} {enc : β → PyData} (hal : AllAlike (bs.map enc)) (hk : Sortable (bs.map enc)) (hu : ∀ b ∈ bs, X.A.units + 2 + (enc b).depth < cLine) (hL : bs.length ≤ 1000000) : CallR X (.builtin "sorted") (rSortD bs enc) := by
  intro pins s σ H vs us Q I r h
  obtain ⟨N, v, rfl, hv, q⟩ := h
  obtain ⟨l, xs, rfl, hl, _, dl⟩ := hv.is_lst
  obtain ⟨its, rv, hli, hz⟩ := I.list (SqL.of (K := X.K) hl)
  rw [Vals.ref1 r]
  have e := abs_each rv dl
  refine sorted_data (R := fun (u : Value) (b : β) => ∃ x : V, RelV x u ∧ Dv N H x (enc b)) hli.isList e (abs_reads I e) hal hk (by rw [sizeLine_eq]; omega) hu fun out ho eo => ?_
  obtain ⟨ys, ry, dy⟩ := each_abs eo
  obtain ⟨c, hc⟩ := PyProof.Rows.sortedAll_at s.heap its out.toArray
  have hlen : ys.length ≤ sizeLine := by rw [ry.length, ho, sizeLine_eq]; omega
  refine ⟨.ref _, upd H (s.heap.objs.size + 1) (.lst ys), I.laid (t' := s.toks) (fun _ _ => PyProof.Rows.sortedAll_old) (Nat.le_succ _) ⟨hlen, out, c, ry, hc⟩, rfl, q _ _ (I.hok.fresh (Nat.le_succ _)) dy⟩
end
section
variable {N : Addr → Prop} {X : Cx} {a : Expr} {σ : St} {H : Hp} {pos : Pos}
theorem c_sorted {β : Type} {bs : List β} {enc : β → PyData} {p : Pos} (hm : X.mg "sorted" = none) (ha : CD N X a σ H (.list (bs.map enc))) (hal : AllAlike (bs.map enc)) (hk : Sortable (bs.map enc)) (hu : ∀ b ∈ bs, X.A.units + 2 + (enc b).depth < cLine) (hL : bs.length ≤ 1000000)
    (hN : ∀ p, H p = none → N p) (hg : Gl X "sorted" := by rfl) (he : starEach [a] X.env = [(false, eval a X.env)] := by rfl) : CD N X (.Call (.Name "sorted" p) [a] [] pos) σ H (.list ((bs.mergeSort (dataLe false enc)).map enc)) :=
  cb_one (cr_sortD hal hk hu hL) hm (by decide +kernel) ha hg (he := he) (hr' := fun v H2 s2 hv Q q => ⟨N, v, rfl, hv, fun p ys hp dy => q _ _ (same_new hp) (.lst upd_same (hN p (s2.free hp)) (dy.keep (same_new hp)))⟩)
end
/-! ### the orders -/
theorem dataLt_cell (a b : Cell) : dataLt (dCell a) (dCell b) = decide (cellLt a b) := dataLt_ii _ _ _ _
theorem alike_cell (a b : Cell) : alike (dCell a) (dCell b) = true := by simp [dCell, alike, alikeAll]
theorem dataLt_move (a b : Move) : dataLt (dMove a) (dMove b) = decide (moveLt a b) := by
  unfold dMove
  rw [dataLt_pair (alike_cell _ _) (alike_cell _ _), dataLt_cell, dataLt_cell, eqv_cell, eqv_cell]
  unfold moveLt
  by_cases h1 : a.1 = b.1
  · by_cases h2 : a.2 = b.2
    · have := cellLt_irrefl b.1
      have := cellLt_irrefl b.2
      simp [h1, h2, *]
    · have := cellLt_irrefl b.1
      simp [h1, h2, this]
  · simp [h1]
theorem dataLt_piece {a b : Pc} (h : a.1 ≠ b.1) : dataLt (dPiece a) (dPiece b) = decide (cellLt a.1 b.1) := by
  unfold dPiece
  rw [dataLt_tuple, dataLt_cons (alike_cell _ _), eqv_cell, dataLt_cell, decide_eq_false h]
  rfl
theorem alike_piece (a b : Pc) : alike (dPiece a) (dPiece b) = true := by simp [dPiece, alike, alikeAll, alike_cell]
theorem alike_move (a b : Move) : alike (dMove a) (dMove b) = true := by simp [dMove, alike, alikeAll, alike_cell]
theorem allAlike_of {β : Type} {enc : β → PyData} (bs : List β) (h : ∀ a b, alike (enc a) (enc b) = true) : AllAlike (bs.map enc) := AllAlike.of h
/-- what is in order is the list sorted -/
theorem sort_is {β : Type} {le : β → β → Bool} (l m : List β) (pm : m.Perm l) (hs : m.Pairwise fun a b => le a b = true) (an : ∀ a b, a ∈ l → b ∈ l → le a b = true → le b a = true → a = b) (tr : ∀ a b c, le a b = true → le b c = true → le a c = true) (to : ∀ a b, (le a b || le b a) = true) : l.mergeSort le = m := by
  refine List.Perm.eq_of_pairwise (le := fun a b => le a b = true) (fun a b ha hb => an a b (((List.mergeSort_perm l le).mem_iff).mp ha) (pm.mem_iff.mp hb)) ?_ hs ((List.mergeSort_perm l le).trans pm.symm)
  exact List.pairwise_mergeSort tr to l
end PY
set_option Elab.async false
set_option autoImplicit false
set_option linter.all false
set_option maxRecDepth 100000
set_option maxHeartbeats 4000000
/-! Sets of nested tuples of ints: the search, adding, the table laid anew. -/
namespace PY
open PySem L2 PySem.Spec PyProof.Rows
mutual
/-- ints only -/
def numK : NestedKey → Bool
  | .num _ => true
  | .tup ks => numKs ks
  | .none => false
  | .text _ => false
def numKs : List NestedKey → Bool
  | [] => true
  | k :: ks => numK k && numKs ks
end
/-- at the address stands the key -/
structure Ky (h : Heap) (k : NestedKey) (a : Addr) : Prop where
  at_ : NestedIs h k (.ref a)
  dp : k.depth ≤ 8
  nm : numK k = true
section
variable {P : Program} {w : World} {E : Value → Shared → Prop} {s : Shared}
/-- no class statement's, by value -/
def NoCl (P : Program) (w : World) (n : Nat) (s : Shared) (v : Value) : Prop := ∀ (A : Around) (E : Value → Shared → Prop) (Q : Bool → Shared → Prop), Q false s → wpAny (model P w) A (ofAClassStatement n v) Q E s
def ByVal (P : Program) (w : World) (n : Nat) (s : Shared) (v : Value) : Prop := ∀ (A : Around) (E : Value → Shared → Prop) (Q : Bool → Shared → Prop), Q true s → wpAny (model P w) A (hashByValue n v) Q E s
theorem noCl_tup {n : Nat} {a : Addr} {o : Obj} {vs : Array Value} {m : Nat} (ho : s.heap.get? a = some o) (hc : o.cls = .type "tuple") (hd : o.data = .seq vs m) (hq : ∀ v ∈ vs.toList, NoCl P w n s v) : NoCl P w (n + 1) s (.ref a) := fun A E Q h => by
  unfold ofAClassStatement
  refine wpAny_bind (wpAny_typeOf (show s.TypeIs (.ref a) "tuple" from ⟨o, ho, hc⟩) ?_)
  dsimp only
  simp only [show (("tuple" : String) == "tuple") = true by decide, if_true, Bool.not_true, Bool.false_eq_true, if_false]
  try refine wpAny_bind (wpAny_pure ?_)
  try simp only [Bool.not_true, Bool.false_eq_true, if_false]
  show wpAny _ _ (seqItems? (.ref a) >>= _) _ _ s
  refine wpAny_bind (wpAny_seqItems ho hd ?_)
  dsimp only
  refine wpAny_bind ?_
  show wpAny _ _ (forIn vs _ _) _ _ s
  rw [← Array.forIn_toList]
  refine wpAny_forIn_list _ (fun rest r s' => (r.1 = none ∧ s' = s) ∧ ∀ v ∈ rest, NoCl P w n s v) _ ?_ ?_ _ _ ⟨⟨rfl, rfl⟩, hq⟩
  · rintro v rest r s' ⟨⟨hr, rfl⟩, all⟩
    refine wpAny_bind (all v List.mem_cons_self _ _ _ ?_)
    simp only [Bool.false_eq_true, if_false]
    exact wpAny_pure ⟨⟨rfl, rfl⟩, fun u hu => all u (List.mem_cons_of_mem _ hu)⟩
  · rintro ⟨r1, r2⟩ s' ⟨⟨hr, rfl⟩, _⟩
    simp only at hr
    subst hr
    exact wpAny_pure h
theorem byVal_tup {n : Nat} {a : Addr} {o : Obj} {vs : Array Value} {m : Nat} (ho : s.heap.get? a = some o) (hc : o.cls = .type "tuple") (hd : o.data = .seq vs m) (hq : ∀ v ∈ vs.toList, ByVal P w n s v) : ByVal P w (n + 1) s (.ref a) := fun A E Q h => by
  unfold hashByValue
  refine wpAny_bind (wpAny_specialOf (show s.TypeIs (.ref a) "tuple" from ⟨o, ho, hc⟩) F.slot_tuple_hash.lookup ?_)
  show wpAny _ _ (seqItems? (.ref a) >>= _) _ _ s
  refine wpAny_bind (wpAny_seqItems ho hd ?_)
  refine wpAny_bind ?_
  show wpAny _ _ (forIn vs _ _) _ _ s
  rw [← Array.forIn_toList]
  refine wpAny_forIn_list _ (fun rest r s' => (r.1 = none ∧ s' = s) ∧ ∀ v ∈ rest, ByVal P w n s v) _ ?_ ?_ _ _ ⟨⟨rfl, rfl⟩, hq⟩
  · rintro v rest r s' ⟨⟨hr, rfl⟩, all⟩
    refine wpAny_bind (all v List.mem_cons_self _ _ _ ?_)
    simp only [Bool.not_true, Bool.false_eq_true, if_false]
    exact wpAny_pure ⟨⟨rfl, rfl⟩, fun u hu => all u (List.mem_cons_of_mem _ hu)⟩
  · rintro ⟨r1, r2⟩ s' ⟨⟨hr, rfl⟩, _⟩
    simp only at hr
    subst hr
    exact wpAny_pure h
theorem noCl_atom {n : Nat} {v : Value} (h : (∃ i t, v = .int i t) ∨ ∃ b, v = .bool b) : NoCl P w n s v := fun A E Q q => by
  rcases h with ⟨i, t, rfl⟩ | ⟨b, rfl⟩ <;> cases n <;> exact wpAny_pure q
theorem byVal_atom {n : Nat} {v : Value} (h : (∃ i t, v = .int i t) ∨ ∃ b, v = .bool b) : ByVal P w n s v := fun A E Q q => by
  rcases h with ⟨i, t, rfl⟩ | ⟨b, rfl⟩ <;> cases n <;> exact wpAny_pure q
mutual
theorem calm_key : ∀ (k : NestedKey) (v : Value) (n : Nat), NestedIs s.heap k v → k.depth ≤ n → numK k = true → NoCl P w n s v ∧ ByVal P w n s v
  | .none, _, _, _, _, q => absurd q (by simp [numK])
  | .text y, _, _, _, _, q => absurd q (by simp [numK])
  | .num i, _, n, x, _, _ => by
    cases x with
    | bool e => exact ⟨noCl_atom (.inr ⟨_, rfl⟩), byVal_atom (.inr ⟨_, rfl⟩)⟩
    | int _ t => exact ⟨noCl_atom (.inl ⟨_, _, rfl⟩), byVal_atom (.inl ⟨_, _, rfl⟩)⟩
  | .tup ks, _, n, x, hn, q => by
    cases x with
    | tup hg hc hd hk =>
      simp only [NestedKey.depth] at hn
      simp only [numK] at q
      cases n with
      | zero => omega
      | succ n =>
        have z := calm_keys ks _ n hk (by omega) q
        exact ⟨noCl_tup hg hc hd fun v hv => (z v hv).1, byVal_tup hg hc hd fun v hv => (z v hv).2⟩
theorem calm_keys : ∀ (ks : List NestedKey) (vs : List Value) (n : Nat), NestedAll s.heap ks vs → NestedKey.depthAll ks ≤ n → numKs ks = true → ∀ v ∈ vs, NoCl P w n s v ∧ ByVal P w n s v
  | [], _, _, x, _, _, v, hv => by cases x; cases hv
  | k :: ks, _, n, x, hn, q, v, hv => by
    cases x with
    | cons x1 x2 =>
      simp only [NestedKey.depthAll] at hn
      simp only [numKs, Bool.and_eq_true] at q
      rcases List.mem_cons.mp hv with e | hv
      · rw [e]; exact calm_key k _ n x1 (by omega) q.1
      · exact calm_keys ks _ n x2 (by omega) q.2 v hv
end
variable {A : Around}
theorem Ky.inj {h : Heap} {a : Addr} {k k' : NestedKey} (x : Ky h k a) (y : Ky h k' a) : k = k' := NestedIs.inj _ _ _ x.at_ y.at_
theorem Ky.keep {h h' : Heap} {k : NestedKey} {a : Addr} (x : Ky h k a) (q : ∀ b o vs n, h.get? b = some o → o.data = .seq vs n → h'.get? b = some o) : Ky h' k a := ⟨NestedIs.at q k _ x.at_, x.dp, x.nm⟩
theorem Ky.but {h h' : Heap} {k : NestedKey} {a b : Addr} {o : Obj} {es : Array (Int × Value)} {ep : Nat} {t : SetTable} (x : Ky h k b) (ho : h.get? a = some o) (hd : o.data = .set es ep t) (hs : Heap.SameBut a h h') : Ky h' k b :=
  x.keep fun c u vs n e q => (hs.2 c fun z => by
    rw [z, ho] at e
    cases e
    rw [hd] at q
    exact nomatch q).trans e
/-- nothing is shown by a search among keys -/
theorem ky_seen {k : NestedKey} {b : Addr} {Q : Bool → Shared → Prop} (hk : Ky s.heap k b) {ys : List Value} (hy : ∀ y ∈ ys, ∃ k' c, y = Value.ref c ∧ Ky s.heap k' c) (h : Q false s) : wpAny (model P w) A (searchCouldBeSeen (.ref b) ys) Q E s := by
  unfold searchCouldBeSeen
  refine wpAny_bind ?_
  refine wpAny_forIn_list _ (fun rest r s' => (r.1 = none ∧ s' = s) ∧ ∀ y ∈ rest, ∃ k' c, y = Value.ref c ∧ Ky s.heap k' c) _ ?_ ?_ _ _ ⟨⟨rfl, rfl⟩, hy⟩
  · rintro v rest r s' ⟨⟨hr, rfl⟩, all⟩
    obtain ⟨k', c, rfl, hc⟩ := all v List.mem_cons_self
    have tl : ∀ y ∈ rest, ∃ k' c, y = Value.ref c ∧ Ky s'.heap k' c := fun u hu => all u (List.mem_cons_of_mem _ hu)
    dsimp only
    by_cases hv : (b == c || (carriedByValue (.ref b) && carriedByValue (.ref c))) = true
    · exact wp_if_pos hv (wpAny_pure ⟨⟨rfl, rfl⟩, tl⟩)
    · refine wp_if_neg hv (wpAny_bind (quiet_key k _ 8 _ hk.at_ hk.dp _ _ _ ?_))
      simp only [Bool.not_true, Bool.false_eq_true, if_false]
      refine wpAny_bind (quiet_key k' _ 8 _ hc.at_ hc.dp _ _ _ ?_)
      simp only [Bool.not_true, Bool.false_eq_true, if_false]
      refine wpAny_bind ((calm_key (P := P) (w := w) k _ 8 hk.at_ hk.dp hk.nm).1 _ _ _ ?_)
      simp only [Bool.false_eq_true, if_false]
      refine wpAny_bind ((calm_key (P := P) (w := w) k' _ 8 hc.at_ hc.dp hc.nm).1 _ _ _ ?_)
      simp only [Bool.false_eq_true, if_false]
      exact wpAny_pure ⟨⟨rfl, rfl⟩, tl⟩
  · rintro ⟨r1, r2⟩ s' ⟨⟨hr, rfl⟩, _⟩
    simp only at hr
    subst hr
    exact wpAny_pure h
theorem ky_eq {x y : NestedKey} {a b : Addr} {Q : Bool → Shared → Prop} (hu : A.units + 8 < cLine) (hx : Ky s.heap x a) (hy : Ky s.heap y b) (h : Q (decide (x = y)) s) : wpAny (model P w) A (eqBool (.ref a) (.ref b)) Q E s :=
  (nestedKind P w).eqBool hu ⟨hx.at_, hx.dp⟩ ⟨hy.at_, hy.dp⟩ h
end
/-! ### the set -/
abbrev Mem := List (Addr × NestedKey)
def rowsN (w : World) (L : Mem) : List (Int × Value) := L.map fun p => (p.2.hash w, Value.ref p.1)
def hsN (w : World) (L : Mem) : List Int := L.map fun p => p.2.hash w
/-- the set at a has the members L -/
structure SetN (w : World) (h : Heap) (a : Addr) (L : Mem) (es : Array (Int × Value)) (ep : Nat) (t : SetTable) : Prop where
  ob : ∃ o, (h.get? a = some o ∧ o.ExactSet) ∧ o.data = .set es ep t
  rows : es.toList = rowsN w L
  tab : TabOk t (hsN w L)
  nd : (L.map Prod.snd).Nodup
  ky : ∀ p ∈ L, Ky h p.2 p.1
  plain : t.plain = true
  led : w.params.followText "set-order" = true ∨ t.led = true
  room : L.length * 5 < t.mask * 3
  few : L.length < 64
section
variable {P : Program} {w : World} {A : Around} {E : Value → Shared → Prop} {s : Shared} {a : Addr} {L : Mem} {es : Array (Int × Value)} {ep : Nat} {t : SetTable}
theorem rowsN_len {es : Array (Int × Value)} {L : Mem} (h : es.toList = rowsN w L) : es.size = L.length := by
  rw [← Array.length_toList, h, rowsN, List.length_map]
theorem SetN.size {h : Heap} (R : SetN w h a L es ep t) : es.size = L.length := rowsN_len R.rows
theorem SetN.fits {h : Heap} (R : SetN w h a L es ep t) : t.fits es.size = true := by
  have h1 : t.place.size = L.length := by rw [R.tab.sz, hsN, List.length_map]
  have h2 := R.size
  have h3 := R.room
  unfold SetTable.fits SetTable.fill
  rw [R.tab.dm, Bool.and_eq_true, beq_iff_eq, decide_eq_true_eq]
  show t.place.size = es.size ∧ t.place.size + 0 ≤ t.mask
  omega
theorem SetN.entry {h : Heap} (R : SetN w h a L es ep t) {i : Nat} {p : Addr × NestedKey} (e : L[i]? = some p) : es[i]? = some (p.2.hash w, Value.ref p.1) := by
  rw [← Array.getElem?_toList, R.rows, rowsN, List.getElem?_map, e]; rfl
theorem SetN.keep {h h' : Heap} (R : SetN w h a L es ep t) (ha : ∀ o, h.get? a = some o → h'.get? a = some o) (hk : ∀ p ∈ L, Ky h' p.2 p.1) : SetN w h' a L es ep t := by
  obtain ⟨o, ⟨h1, h2⟩, h3⟩ := R.ob
  exact ⟨⟨o, ⟨ha o h1, h2⟩, h3⟩, R.rows, R.tab, R.nd, hk, R.plain, R.led, R.room, R.few⟩
/-- the way of a key's search -/
abbrev wy (w : World) (t : SetTable) (k : NestedKey) (c : Nat) : SetTable.Probe := nth t.mask (runAt t.mask (SetTable.bits (k.hash w) % (t.mask + 1)) (SetTable.bits (k.hash w))) c
theorem nth_dummy (m : Nat) : ∀ (n : Nat) (p : SetTable.Probe), p.dummy = none → (nth m p n).dummy = none
  | 0, _, h => h
  | n + 1, p, h => nth_dummy m n (adv m p) (by unfold adv; split <;> exact h)
/-- the search for a key, from the c-th step of its way -/
theorem find_from (R : SetN w s.heap a L es ep t) {x : Addr} {k : NestedKey} (hx : Ky s.heap k x) (hu : A.units + 8 < cLine) {K : Nat} (hKf : K < 10 * SetTable.turns t.mask) (hK : (wy w t k K).j ∉ t.place.toList) (hKb : ∀ c, c < K → (wy w t k c).j ∈ t.place.toList)
    {Q : SetFound → Shared → Prop} (hin : k ∈ L.map Prod.snd → Q (.there none) s) (hout : k ∉ L.map Prod.snd → Q (.free (wy w t k K).j false) s) :
    ∀ (f c : Nat) (stand : Option SetTable.Probe), stand.getD (t.probeStart (k.hash w)) = wy w t k c → c ≤ K → K - c < f →
      (∀ (i : Nat) p, L[i]? = some p → p.2 = k → ∃ c', c ≤ c' ∧ c' < K ∧ t.place.toList[i]? = some (wy w t k c').j) →
      wpAny (model P w) A (setSearchFrom a (.ref x) (k.hash w) true f stand) Q E s
  | 0, _, _, _, _, hf, _ => absurd hf (Nat.not_lt_zero _)
  | f + 1, c, stand, hst, hc, hf, hre => by
    obtain ⟨o, ⟨ho, hex⟩, hd⟩ := R.ob
    have nogw : ¬ t.gaveWay = true := by
      unfold SetTable.gaveWay
      rw [mask_odd R.tab.mok]
      decide
    rw [setSearchFrom_succ]
    refine wpAny_bind (wpAny_setState_of ho hd R.fits ?_)
    dsimp only
    refine wp_if_neg nogw ?_
    try refine wpAny_bind (wpAny_pure ?_)
    have sh : ∀ q, nth t.mask (wy w t k c) q = wy w t k (c + q) := fun q => (nth_add t.mask c _ q).symm
    have shj : ∀ q, (nth t.mask (wy w t k c) q).j = (wy w t k (c + q)).j := fun q => congrArg SetTable.Probe.j (sh q)
    have hH : ∀ (i : Nat) p, L[i]? = some p → ((es[i]?.map (·.1)).getD 0) = p.2.hash w := fun i p hp => by rw [R.entry hp]; rfl
    have hKK : c + (K - c) = K := by omega
    rcases go_spec t R.tab.ris R.tab.dm (fun i => (es[i]?.map (·.1)).getD 0) (k.hash w) (10 * SetTable.turns t.mask) (K - c) (wy w t k c) (nth_dummy _ _ _ rfl) (by omega) (fun q hq => by rw [shj]; exact hKb (c + q) (by omega)) (by rw [shj, hKK]; exact hK) with ⟨q, i, hq, hi, hh, hno, hpr⟩ | ⟨hno, hpr⟩
    · have hpr' : t.probe (fun i => (es[i]?.map (·.1)).getD 0) (k.hash w) (stand.getD (t.probeStart (k.hash w))) = some (.candidate (wy w t k (c + q)).j i (wy w t k (c + (q + 1)))) := by
        rw [hst, ← shj, ← sh]
        exact hpr
      rw [hpr']
      dsimp only
      rw [shj] at hi
      have hil : i < L.length := by
        have h1 : i < t.place.toList.length := (List.getElem?_eq_some_iff.mp hi).1
        have h2 : t.place.size = L.length := by rw [R.tab.sz, hsN, List.length_map]
        rw [Array.length_toList] at h1
        omega
      obtain ⟨p, hp⟩ : ∃ p, L[i]? = some p := ⟨L[i], List.getElem?_eq_getElem hil⟩
      have pm : p ∈ L := List.mem_of_getElem? hp
      have rest : wpAny (model P w) A (searchRest a (.ref x) (k.hash w) true f es t (wy w t k (c + q)).j i (wy w t k (c + (q + 1)))) Q E s := by
        unfold searchRest
        rw [R.entry hp]
        dsimp only
        refine wpAny_bind (wpAny_holding (ky_eq hu (R.ky p pm) hx ?_))
        refine wpAny_bind (wpAny_setState_of ho hd R.fits ?_)
        dsimp only
        by_cases hkk : p.2 = k
        · exact wp_if_pos (by simp [hkk]) (wpAny_pure (hin (List.mem_map.mpr ⟨p, pm, hkk⟩)))
        · refine wp_if_neg (by simp [hkk]) ?_
          try refine wpAny_bind (wpAny_pure ?_)
          rw [sameMem]
          dsimp only
          have hsl : t.slot (wy w t k (c + q)).j = .live i := slot_live R.tab.ris hi
          simp only [if_true, hsl, R.entry hp]
          refine wpAny_bind (wpAny_isSame_ref_self (wpAny_bind (wpAny_pure ?_)))
          simp only [if_true]
          refine wp_if_neg (by simp [hkk]) ?_
          refine find_from R hx hu hKf hK hKb hin hout f (c + (q + 1)) _ rfl (by omega) (by omega) fun i0 p0 h0 hk0 => ?_
          obtain ⟨c', a1, a2, a3⟩ := hre i0 p0 h0 hk0
          refine ⟨c', ?_, a2, a3⟩
          rcases Nat.lt_trichotomy c' (c + q) with z | z | z
          · exact absurd ((hH i0 p0 h0).trans (congrArg (NestedKey.hash w) hk0)) (hno (c' - c) i0 (by omega) (by rw [shj, show c + (c' - c) = c' by omega]; exact a3))
          · exfalso
            rw [z] at a3
            have s0 := slot_live R.tab.ris a3
            rw [hsl] at s0
            injection s0 with s0
            rw [← s0, hp] at h0
            exact hkk ((congrArg Prod.snd (Option.some.inj h0)).trans hk0)
          · omega
      by_cases hl : t.led = true
      · refine wp_if_neg (by simp [hl]) ?_
        try refine wpAny_bind (wpAny_pure ?_)
        exact rest
      · refine wp_if_pos (by simp [hl]) (wpAny_bind (ky_seen hx (fun y hy => ?_) ?_))
        · obtain ⟨e, he, ee⟩ := List.mem_map.mp hy
          have he1 : e ∈ es.toList := by
            have : e ∈ es ∧ e.1 = k.hash w := by simpa using he
            simpa using this.1
          rw [R.rows] at he1
          obtain ⟨p2, hp2, e2⟩ := List.mem_map.mp he1
          exact ⟨p2.2, p2.1, by rw [← ee, ← e2], R.ky p2 hp2⟩
        · refine wp_if_neg (by decide) ?_
          try refine wpAny_bind (wpAny_pure ?_)
          exact rest
    · have hpr' : t.probe (fun i => (es[i]?.map (·.1)).getD 0) (k.hash w) (stand.getD (t.probeStart (k.hash w))) = some (.empty (wy w t k K).j none) := by
        rw [hst, show (wy w t k K).j = (nth t.mask (wy w t k c) (K - c)).j by rw [shj, hKK]]
        exact hpr
      rw [hpr']
      dsimp only
      refine wpAny_pure (hout fun hm => ?_)
      obtain ⟨p0, h0, hk0⟩ := List.mem_map.mp hm
      obtain ⟨i0, h00⟩ := List.getElem?_of_mem h0
      obtain ⟨c', a1, a2, a3⟩ := hre i0 p0 h00 hk0
      exact hno (c' - c) i0 (by omega) (by rw [shj, show c + (c' - c) = c' by omega]; exact a3) ((hH i0 p0 h00).trans (congrArg (NestedKey.hash w) hk0))
/-- the search of adding -/
theorem find_at (R : SetN w s.heap a L es ep t) {x : Addr} {k : NestedKey} (hx : Ky s.heap k x) (hu : A.units + 8 < cLine) {Q : SetFound → Shared → Prop} (hin : k ∈ L.map Prod.snd → Q (.there none) s)
    (hout : ∀ K, k ∉ L.map Prod.snd → (wy w t k K).j ∉ t.place.toList → (∀ c, c < K → (wy w t k c).j ∈ t.place.toList) → Q (.free (wy w t k K).j false) s) : wpAny (model P w) A (setSearch a (.ref x) (k.hash w) true) Q E s := by
  have hroom := R.room
  have hsz : t.place.size = L.length := by rw [R.tab.sz, hsN, List.length_map]
  obtain ⟨K, hKf, hK, hKb⟩ := R.tab.first (by rw [hsN, List.length_map]; omega) (k.hash w)
  have hbig : K < 100000 := by
    have : 10 * SetTable.turns t.mask ≤ 1420 := by
      unfold SetTable.turns
      rcases R.tab.mok with e | e | e <;> omega
    omega
  unfold setSearch
  refine find_from R hx hu hKf hK hKb hin (fun hn => hout K hn hK hKb) 100000 0 none rfl (Nat.zero_le _) (by omega) fun i p hp hk => ?_
  have hi : (hsN w L)[i]? = some (k.hash w) := by rw [hsN, List.getElem?_map, hp, ← hk]; rfl
  have hil : i < t.place.toList.length := by
    rw [Array.length_toList, hsz]
    exact (List.getElem?_eq_some_iff.mp hp).1
  have hj := List.getElem?_eq_getElem hil
  obtain ⟨c, hc, e⟩ := R.tab.before hK hi hj
  exact ⟨c, Nat.zero_le _, hc, hj.trans (congrArg some e.symm)⟩
/-- rows in another order -/
theorem rows_in_order (L : Mem) (es : Array (Int × Value)) (order : Array Nat) (hr : es.toList = rowsN w L) (hp : order.toList.Perm (List.range L.length)) :
    ∃ L2, (order.filterMap (es[·]?)).toList = rowsN w L2 ∧ L2.Perm L ∧ hsN w L2 = order.toList.map fun i => (es.map (·.1)).getD i 0 := by
  have hsz := rowsN_len hr
  have ent : ∀ i (h : i < L.length), es[i]? = some ((L[i]).2.hash w, Value.ref (L[i]).1) := fun i h => by
    rw [← Array.getElem?_toList, hr, rowsN, List.getElem?_map, List.getElem?_eq_getElem h]; rfl
  have key : ∀ l : List Nat, (∀ i ∈ l, i < L.length) → l.filterMap (fun i => es[i]?) = rowsN w (l.filterMap fun i => L[i]?) ∧ hsN w (l.filterMap fun i => L[i]?) = l.map fun i => (es.map (·.1)).getD i 0 := by
    intro l hl
    induction l with
    | nil => exact ⟨rfl, rfl⟩
    | cons i l ih =>
      have hi := hl i List.mem_cons_self
      obtain ⟨e1, e2⟩ := ih fun j hj => hl j (List.mem_cons_of_mem _ hj)
      have e5 : (es.map (·.1))[i]? = some ((L[i]).2.hash w) := by rw [Array.getElem?_map, ent i hi]; rfl
      rw [List.filterMap_cons_some (ent i hi), List.filterMap_cons_some (List.getElem?_eq_getElem hi), e1, List.map_cons, ← e2]
      refine ⟨rfl, ?_⟩
      have e6 : (es.map (·.1)).getD i 0 = (L[i]).2.hash w := by simp [Array.getD_eq_getD_getElem?, e5]
      rw [e6]
      rfl
  obtain ⟨e1, e2⟩ := key order.toList fun i hi => List.mem_range.mp (hp.mem_iff.mp hi)
  refine ⟨_, by rw [Array.toList_filterMap]; exact e1, ?_, e2⟩
  have h2 : ∀ n, n ≤ L.length → (List.range n).filterMap (fun i => L[i]?) = L.take n := by
    intro n hn
    induction n with
    | zero => rfl
    | succ n ih =>
      have hlt : n < L.length := hn
      rw [List.range_succ, List.filterMap_append, ih (Nat.le_of_lt hlt), List.take_succ, List.getElem?_eq_getElem hlt, List.filterMap_cons_some (List.getElem?_eq_getElem hlt)]
      rfl
  have h1 := hp.filterMap fun i => L[i]?
  rw [h2 L.length (Nat.le_refl _), List.take_length] at h1
  exact h1
/-- what a put leaves -/
theorem ins_perm {α : Type} (L : List α) (p : Nat) (x : α) : (L.take p ++ x :: L.drop p).Perm (x :: L) := put_perm L p x
/-- the table laid anew -/
theorem lay_anew {o : Obj} (ho : s.heap.get? a = some o) (hex : o.ExactSet) (hd : o.data = .set es ep t) (hrows : es.toList = rowsN w L) (hsz : t.place.size = es.size) (hdm : t.dummies = #[]) (hfl : es.size ≤ t.mask) (nd : (L.map Prod.snd).Nodup) (ky : ∀ p ∈ L, Ky s.heap p.2 p.1)
    (pl : t.plain = true) (ld : w.params.followText "set-order" = true ∨ t.led = true) (few : L.length < 64) {wanted M : Nat} (hw : SetTable.sizeAbove wanted - 1 = M) (hM : MaskOk M) (hw2 : SetTable.sizeAbove wanted ≤ 128) (hn : L.length * 5 < M * 3) {Q : Unit → Shared → Prop}
    (hQ : ∀ h' L' es' ep' t', Heap.SameBut a s.heap h' → SetN w h' a L' es' ep' t' → L'.Perm L → Q () { s with heap := h' }) : wpAny (model P w) A (setRelay a wanted) Q E s := by
  have hsl := rowsN_len hrows
  have hfits : t.fits es.size = true := by
    unfold SetTable.fits SetTable.fill
    rw [hdm, Bool.and_eq_true, beq_iff_eq, decide_eq_true_eq]
    show t.place.size = es.size ∧ t.place.size + 0 ≤ t.mask
    omega
  obtain ⟨t', order, e, hp, T, em, el, ep', ed⟩ := relaid_ok t (hs := es.map (·.1)) (wanted := wanted) hw hM (by rw [Array.size_map, hsl]; omega)
  rw [Array.size_map, hsl] at hp
  obtain ⟨L2, r1, r2, r3⟩ := rows_in_order L es order hrows hp
  rw [← r3] at T
  have hs2 : (order.filterMap (es[·]?)).size = es.size := by rw [rowsN_len r1, r2.length_eq, hsl]
  rw [setRelay_eq]
  refine wpAny_bind (wpAny_setState_of ho hd hfits ?_)
  dsimp only
  refine wp_if_neg (by rw [sizeLine_eq]; omega) ?_
  try refine wpAny_bind (wpAny_pure ?_)
  rw [e]
  dsimp only
  refine wpAny_bind (wp_if_neg (by rw [hs2]; simp) ?_)
  try refine wpAny_bind (wpAny_pure ?_)
  refine wpAny_pure ?_
  dsimp only
  refine wpAny_storeSet_of ho hd ?_ (by rw [hs2, hsl, sizeLine_eq]; omega)
  have sb : Heap.SameBut a s.heap (s.heap.update a (Obj.putSet (order.filterMap (es[·]?)) t')) := Heap.SameBut.update ..
  refine hQ _ L2 _ (ep + 1) t' sb ⟨⟨_, ⟨store_at ho hd, ⟨hex.1, hex.2.1, hex.2.2⟩⟩, rfl⟩, r1, T, ((r2.map Prod.snd).nodup_iff).mpr nd, fun p hpm => (ky p (r2.mem_iff.mp hpm)).but ho hd sb, ep'.trans pl, by rw [el]; exact ld, ?_, by rw [r2.length_eq]; exact few⟩ r2
  rw [r2.length_eq, em]
  exact hn
/-- a member is added -/
theorem add_key (R : SetN w s.heap a L es ep t) {x : Addr} {k : NestedKey} (hx : Ky s.heap k x) (hu : A.units + 8 < cLine) (hfew : k ∉ L.map Prod.snd → L.length + 1 < 64) {Q : Bool → Shared → Prop}
    (hQ : ∀ b h' L' es' ep' t', Heap.SameBut a s.heap h' → SetN w h' a L' es' ep' t' → (k ∈ L.map Prod.snd → L' = L) → (k ∉ L.map Prod.snd → L'.Perm ((x, k) :: L)) → Q b { s with heap := h' }) : wpAny (model P w) A (setAddHashed a (.ref x) (k.hash w)) Q E s := by
  obtain ⟨o, ⟨ho, hex⟩, hd⟩ := R.ob
  have hsl := R.size
  have hroom := R.room
  unfold setAddHashed
  refine wpAny_holding ?_
  rw [show (100000 : Nat) = 99999 + 1 from rfl, setAddHashedIn_succ]
  refine wpAny_bind (wpAny_setState_of ho hd R.fits ?_)
  dsimp only
  refine wp_if_neg (by simp [byScan, Value.scannable]) ?_
  try refine wpAny_bind (wpAny_pure ?_)
  refine wpAny_bind (find_at R hx hu (fun hm => ?_) fun K hm hK hb => ?_)
  · exact wpAny_pure (hQ false s.heap L es ep t (Heap.SameBut.refl a s.heap) R (fun _ => rfl) fun z => absurd hm z)
  dsimp only
  have hfew := hfew hm
  refine wpAny_bind (wpAny_setState_of ho hd R.fits ?_)
  dsimp only
  obtain ⟨q1, q2, q3, q4, q5, q6, q7, q8, q9⟩ := R.tab.put hK hb
  have hp1 : (t.put (wy w t k K).j).1.plain = true := q6.trans R.plain
  generalize hpt : t.put (wy w t k K).j = pt at q1 q3 q4 q5 q6 q7 q8 q9 hp1 ⊢
  obtain ⟨t1, p⟩ := pt
  dsimp only at q1 q3 q4 q5 q6 q7 q8 q9 hp1 ⊢
  subst q1
  have byv := (calm_key (P := P) (w := w) (s := s) k _ 8 hx.at_ hx.dp hx.nm).2
  first
    | (refine wpAny_bind ?_; refine wp_if_pos hp1 ?_; refine byv _ _ _ ?_)
    | refine wp_if_pos hp1 (wpAny_bind (byv _ _ _ ?_))
  simp only [if_true]
  generalize hpp : SetTable.below t.place (wy w t k K).j = p at q2 q3 ⊢
  have hin : (SetTable.insertAt es p (k.hash w, Value.ref x)).toList = rowsN w (L.take p ++ (x, k) :: L.drop p) := by
    rw [SetTable.toList_insertAt, R.rows]
    unfold rowsN
    rw [List.map_append, List.map_cons, List.map_take, List.map_drop]
  have pm := ins_perm L p (x, k)
  have hlen : (L.take p ++ (x, k) :: L.drop p).length = L.length + 1 := pm.length_eq
  have hhs : hsN w (L.take p ++ (x, k) :: L.drop p) = (hsN w L).take p ++ k.hash w :: (hsN w L).drop p := by
    unfold hsN
    rw [List.map_append, List.map_cons, List.map_take, List.map_drop]
  rw [← hhs] at q3
  have nd1 : ((L.take p ++ (x, k) :: L.drop p).map Prod.snd).Nodup := (pm.map Prod.snd).nodup_iff.mpr (List.nodup_cons.mpr ⟨hm, R.nd⟩)
  have hes : (SetTable.insertAt es p (k.hash w, Value.ref x)).size = L.length + 1 := (rowsN_len hin).trans hlen
  generalize SetTable.insertAt es p (k.hash w, Value.ref x) = es1 at hin hes ⊢
  generalize L.take p ++ (x, k) :: L.drop p = L1 at pm hlen q3 nd1 hin
  refine wpAny_bind (wpAny_storeSet_of ho hd ?_ (by rw [hes, sizeLine_eq]; omega))
  have sb : Heap.SameBut a s.heap (s.heap.update a (Obj.putSet es1 t1)) := Heap.SameBut.update ..
  have ho1 := store_at (es' := es1) (t' := t1) ho hd
  generalize s.heap.update a (Obj.putSet es1 t1) = h1 at sb ho1 ⊢
  have ky1 : ∀ p ∈ L1, Ky h1 p.2 p.1 := fun p hp => by
    rcases List.mem_cons.mp (pm.mem_iff.mp hp) with e | hp
    · rw [e]; exact hx.but ho hd sb
    · exact (R.ky p hp).but ho hd sb
  have ld1 : w.params.followText "set-order" = true ∨ t1.led = true := by rw [q5]; exact R.led
  have hfl : t1.fill = L.length + 1 := by rw [q9, hsN, List.length_map]
  have hsz1 : t1.place.size = es1.size := by rw [q3.sz, hsN, List.length_map, hlen, hes]
  by_cases hf : t1.tooFull = true
  · first
      | (refine wpAny_bind ?_; refine wp_if_pos (by simp [hf]) ?_)
      | (refine wp_if_pos (by simp [hf]) ?_; refine wpAny_bind ?_)
    have hfull : (L.length + 1) * 5 ≥ t1.mask * 3 := by
      unfold SetTable.tooFull at hf
      rw [decide_eq_true_eq, hfl] at hf
      exact hf
    rw [hsl]
    rw [q4] at hfull
    have cases2 : (t.mask = 7 ∧ L.length = 4) ∨ (t.mask = 31 ∧ L.length = 18) := by
      rcases R.tab.mok with e | e | e <;> rw [e] at hfull hroom
      · exact .inl ⟨e, by omega⟩
      · exact .inr ⟨e, by omega⟩
      · omega
    have go : ∀ M, SetTable.sizeAbove (SetTable.grown (L.length + 1)) - 1 = M → MaskOk M → SetTable.sizeAbove (SetTable.grown (L.length + 1)) ≤ 128 → (L.length + 1) * 5 < M * 3 →
        wpAny (model P w) A (setRelay a (SetTable.grown (L.length + 1))) (fun _ s' => wpAny (model P w) A (pure true) Q E s') E { s with heap := h1 } := fun M b1 b2 b3 b4 =>
      lay_anew (s := { s with heap := h1 }) ho1 ⟨hex.1, hex.2.1, hex.2.2⟩ rfl hin hsz1 q3.dm (by rw [hes, q4]; rcases cases2 with ⟨e, e2⟩ | ⟨e, e2⟩ <;> omega) nd1 ky1 hp1 ld1 (by rw [hlen]; exact hfew) b1 b2 b3 (by rw [hlen]; exact b4)
        fun h2 L2 es2 ep2 t2 sb2 R2 pm2 => wpAny_pure (hQ true h2 L2 es2 ep2 t2 (sb.trans sb2) R2 (fun z => absurd z hm) fun _ => pm2.trans pm)
    rcases cases2 with ⟨_, e2⟩ | ⟨_, e2⟩
    · refine go 31 (by rw [e2, size_20]) (.inr (.inl rfl)) (by rw [e2, size_20]; decide) (by omega)
    · refine go 127 (by rw [e2, size_76]) (.inr (.inr rfl)) (by rw [e2, size_76]; decide) (by omega)
  · first
      | refine wp_if_neg (by simp [hf]) ?_
      | (refine wpAny_bind ?_; refine wp_if_neg (by simp [hf]) ?_; refine wpAny_pure ?_)
    refine wpAny_pure (hQ true h1 L1 es1 (ep + 1) t1 sb ⟨⟨_, ⟨ho1, ⟨hex.1, hex.2.1, hex.2.2⟩⟩, rfl⟩, hin, q3, nd1, ky1, hp1, ld1, ?_, by rw [hlen]; exact hfew⟩ (fun z => absurd z hm) fun _ => pm)
    unfold SetTable.tooFull at hf
    rw [decide_eq_true_eq, hfl] at hf
    rw [hlen]
    omega
end
end PY
set_option Elab.async false
set_option autoImplicit false
set_option linter.all false
set_option maxRecDepth 100000
set_option maxHeartbeats 4000000
/-! set(xs) of nested tuples; sorted(set). -/
namespace PY
open PySem L2 PySem.Spec PyProof.Rows PySem.W
/-- what the set has of the first i -/
structure Has (ks : Mem) (i : Nat) (L : Mem) : Prop where
  sub : ∀ p ∈ L, p ∈ ks.take i
  all : ∀ p ∈ ks.take i, p.2 ∈ L.map Prod.snd
theorem Has.zero (ks : Mem) : Has ks 0 [] := ⟨nofun, fun p h => by rw [List.take_zero] at h; exact nomatch h⟩
theorem Has.same {ks L : Mem} {i : Nat} {x : Addr × NestedKey} (g : Has ks i L) (h : ks[i]? = some x) (hm : x.2 ∈ L.map Prod.snd) : Has ks (i + 1) L := by
  have e : ks.take (i + 1) = ks.take i ++ [x] := take_next h
  refine ⟨fun p hp => by rw [e]; exact List.mem_append_left _ (g.sub p hp), fun p hp => ?_⟩
  rw [e] at hp
  rcases List.mem_append.mp hp with z | z
  · exact g.all p z
  · rw [List.mem_singleton.mp z]; exact hm
theorem Has.more {ks L L' : Mem} {i : Nat} {x : Addr × NestedKey} (g : Has ks i L) (h : ks[i]? = some x) (pm : L'.Perm (x :: L)) : Has ks (i + 1) L' := by
  have e : ks.take (i + 1) = ks.take i ++ [x] := take_next h
  refine ⟨fun p hp => ?_, fun p hp => ?_⟩
  · rw [e]
    rcases List.mem_cons.mp (pm.mem_iff.mp hp) with z | z
    · exact List.mem_append_right _ (List.mem_singleton.mpr z)
    · exact List.mem_append_left _ (g.sub p z)
  · rw [(pm.map Prod.snd).mem_iff, List.map_cons, List.mem_cons]
    rw [e] at hp
    rcases List.mem_append.mp hp with z | z
    · exact .inr (g.all p z)
    · exact .inl (by rw [List.mem_singleton.mp z])
/-- a set as it is made -/
abbrev bornSet (w : World) : Obj := { cls := .type "set", dict := none, data := .set #[] 0 (.fresh 0 0 (!w.params.followText "set-order")) }
section
variable {P : Program} {w : World} {A : Around} {E : Value → Shared → Prop} {s : Shared}
theorem setN_born {h : Heap} {a : Addr} (ho : h.get? a = some (bornSet w)) : SetN w h a [] #[] 0 (.fresh 0 0 (!w.params.followText "set-order")) where
  ob := ⟨_, ⟨ho, rfl, rfl, rfl⟩, rfl⟩
  rows := rfl
  tab := ⟨List.Pairwise.nil, rfl, rfl, .inl rfl, nofun, fun i h j hi => by simp [hsN] at hi⟩
  nd := List.nodup_nil
  ky := nofun
  plain := rfl
  led := by
    show _ ∨ (!w.params.followText "set-order") = true
    cases w.params.followText "set-order" <;> simp
  room := show 0 * 5 < 7 * 3 by decide
  few := show 0 < 64 by decide
theorem key_few {ks L : Mem} {D : List NestedKey} {i : Nat} (g : Has ks i L) (nd : (L.map Prod.snd).Nodup) (hD : ∀ p ∈ ks, p.2 ∈ D) (h64 : D.length < 64) {x : Addr × NestedKey} (hx : ks[i]? = some x) (hn : x.2 ∉ L.map Prod.snd) : L.length + 1 < 64 := by
  have h := nodup_len (x.2 :: L.map Prod.snd) D (List.nodup_cons.mpr ⟨hn, nd⟩) fun k hk => by
    rcases List.mem_cons.mp hk with e | hk
    · rw [e]; exact hD x (List.mem_of_getElem? hx)
    · obtain ⟨p, hp, rfl⟩ := List.mem_map.mp hk
      exact hD p (List.mem_of_mem_take (g.sub p hp))
  rw [List.length_cons, List.length_map] at h
  omega
end
end PY
namespace PY
open PySem L2 PySem.Spec PyProof.Rows PySem.W
section
variable {P : Program} {w : World} {A : Around} {E : Value → Shared → Prop} {s : Shared}
/-- the loop of set.update -/
theorem upd_loop {I : Addr} {fp wr : List Addr} {G : Array GenState → Array GenState → Prop} {n : Nat} {Pv : Nat → Value → Prop} {St : Nat → Shared → Prop} {R : Result → Shared → Prop} (W : WalksS P w A.in1 I fp wr G n Pv St) (S : Addr) (hSf : S ∉ fp) (ks : Mem) (D : List NestedKey)
    (hn : n = ks.length) (hD : ∀ p ∈ ks, p.2 ∈ D) (h64 : D.length < 64) (hval : ∀ i v, Pv i v → ∃ p, ks[i]? = some p ∧ v = .ref p.1) (h0 : Heap) (hk : ∀ p ∈ ks, Ky h0 p.2 p.1) (hS0 : h0.get? S = none) (hw0 : ∀ b ∈ wr, h0.get? b = none) (hu : A.in1.units + 8 < cLine)
    (hR : ∀ s0 s' L es ep t, Moved (S :: wr) G s0 s' → SetN w s'.heap S L es ep t → Has ks n L → (∀ b o, h0.get? b = some o → s'.heap.get? b = some o) → s0 = s → R (.ok (.ret .none)) s') :
    ∀ (k i : Nat) (s1 : Shared), n - i = k → i ≤ n → St i s1 → (∀ b o, h0.get? b = some o → s1.heap.get? b = some o) → (∃ L es ep t, SetN w s1.heap S L es ep t ∧ Has ks i L) → Moved (S :: wr) G s s1 →
      codeAny (model P w) A (.builtin "set.update.loop" ⟨[.ref S, .ref I], []⟩) R s1 := by
  have hSw : S ∉ wr := fun h => hSf (W.sub _ h)
  have wide : ∀ b ∈ wr, b ∈ S :: wr := fun b hb => List.mem_cons_of_mem _ hb
  have stay : ∀ {s2 s3 : Shared}, Moved wr G s2 s3 → (∀ b o, h0.get? b = some o → s2.heap.get? b = some o) → ∀ b o, h0.get? b = some o → s3.heap.get? b = some o := fun hm hkp b o e =>
    hm.heap b o (fun hb => by rw [hw0 b hb] at e; cases e) (hkp b o e)
  have kyk : ∀ {h : Heap}, (∀ b o, h0.get? b = some o → h.get? b = some o) → ∀ p ∈ ks, Ky h p.2 p.1 := fun q p hp => (hk p hp).keep fun b o vs m e _ => q b o e
  intro k
  induction k with
  | zero =>
    intro i s1 hk' hi hst hkp ⟨L, es, ep, t, hS, g⟩ hmv
    obtain rfl : i = n := by omega
    refine codeAny_builtin F.entry_set_update_loop ?_
    rw [Around.under_plainId F.plain_set_update_loop _]
    show wpAny _ A.in1 (pyNext (.ref I) >>= _) _ _ s1
    refine wpAny_bind (W.done s1 _ _ hst fun s' hm => ?_)
    show wpAny _ A.in1 (ret Value.none) _ _ s'
    have hkp' := stay hm hkp
    exact wpAny_pure (hR s s' L es ep t (Moved.trans W.gtrans hmv (hm.mono wide)) (hS.keep (fun o e => hm.heap S o hSw e) fun p hp => kyk hkp' p (List.mem_of_mem_take (g.sub p hp))) g hkp' rfl)
  | succ k ih =>
    intro i s1 hk' hi hst hkp ⟨L, es, ep, t, hS, g⟩ hmv
    have hlt : i < n := by omega
    refine codeAny_builtin F.entry_set_update_loop ?_
    rw [Around.under_plainId F.plain_set_update_loop _]
    show wpAny _ A.in1 (pyNext (.ref I) >>= _) _ _ s1
    refine wpAny_bind (W.item i s1 _ _ hlt hst fun v s' hP hst' hm => ?_)
    obtain ⟨p, hp, rfl⟩ := hval i v hP
    have hkp' := stay hm hkp
    have hS' : SetN w s'.heap S L es ep t := hS.keep (fun o e => hm.heap S o hSw e) fun q hq => kyk hkp' q (List.mem_of_mem_take (g.sub q hq))
    have hx : Ky s'.heap p.2 p.1 := kyk hkp' p (List.mem_of_getElem? hp)
    show wpAny _ A.in1 (holding [Value.ref p.1] (setAdd S (.ref p.1)) >>= _) _ _ s'
    refine wpAny_bind (wpAny_holding ?_)
    unfold setAdd
    refine wpAny_holding (wpAny_bind ((nestedKind P w).pyHash hu ⟨hx.at_, hx.dp⟩ ?_))
    refine add_key (s := { s' with toks := s'.toks + p.2.draws }) hS' hx hu (fun hn => key_few g hS.nd hD h64 hp hn) fun b h' L' es' ep' t' sb hS2 c1 c2 => ?_
    have g' : Has ks (i + 1) L' := by
      rcases Classical.em (p.2 ∈ L.map Prod.snd) with c | c
      · rw [c1 c]; exact g.same hp c
      · exact g.more hp (c2 c)
    have hkp2 : ∀ b o, h0.get? b = some o → h'.get? b = some o := fun b o e => (sb.2 b fun z => by rw [z, hS0] at e; cases e).trans (hkp' b o e)
    refine wpAny_pure ⟨plainId_quiet F.plain_set_update_loop _, ih (i + 1) _ (by omega) hlt (W.frame _ s' _ _ hst' (Nat.le_add_right _ _) fun b hb o e => ?_) hkp2 ⟨L', es', ep', t', hS2, g'⟩ (Moved.trans W.gtrans hmv ((hm.mono wide).then_heap (Nat.le_add_right _ _) fun b o hb e => ?_))⟩
    · rw [sb.2 b fun z : b = S => hSf (by rw [← z]; exact hb)]; exact e
    · rw [sb.2 b fun z : b = S => hb (by rw [z]; exact List.mem_cons_self)]; exact e
/-- set(xs), xs a list of keys -/
theorem call_set_keys {l : Addr} {items : Array Value} (ks : Mem) (D : List NestedKey) {Q : Value → Shared → Prop} (hh : A.handled = none) (hl : s.heap.IsList l items) (hit : items.toList = ks.map fun p => Value.ref p.1) (hk : ∀ p ∈ ks, Ky s.heap p.2 p.1) (hD : ∀ p ∈ ks, p.2 ∈ D) (h64 : D.length < 64)
    (hu : A.units + 16 < cLine) (h : ∀ (h' : Heap) (tk : Nat) L es ep t, SetN w h' s.heap.objs.size L es ep t → Has ks ks.length L → (∀ b o, s.heap.get? b = some o → h'.get? b = some o) → Q (.ref s.heap.objs.size) { s with heap := h', toks := tk }) : wpAny (model P w) A (call (.type "set") [.ref l]) Q E s := by
  have hisz : items.size = ks.length := by
    have q := congrArg List.length hit
    rw [Array.length_toList, List.length_map] at q
    exact q
  have none_at : ∀ b, s.heap.objs.size ≤ b → s.heap.get? b = none := fun b hb => by
    cases q : s.heap.get? b with
    | none => rfl
    | some o => exact absurd (Nat.lt_of_lt_of_le (Heap.lt_size q) hb) (Nat.lt_irrefl _)
  obtain ⟨c, tl, hmro⟩ := F.called_set.mro
  have hmade := F.called_set.made
  have hsub := F.called_set.sub
  have h1 := F.called_set.notType
  have h2 := F.called_set.canCreate
  have hct := F.typeCall_set_1 (.ref l)
  refine wpAny_call (codeAny_of_tree ?_)
  show wpAny _ _ (callAny (.type "set") _) _ _ _
  refine wpAny_pure ⟨Code.quiet_builtin _ (by decide +kernel), codeAny_builtin F.entry_type_call ?_⟩
  rw [Around.under_plain (weight_type_call_type "set" [.ref l] []) rfl]
  repeat (any_goals (first | assumption | wp_step))
  refine codeAny_mono (code_set_led1 (.ref l) (E := E) (Q₁ := fun obj s₁ => obj = .ref s.heap.objs.size ∧ s₁ = { s with heap := s.heap.push (bornSet w) }) ⟨rfl, rfl⟩) fun r s₁ hr => ?_
  cases r with
  | error e => exact hr
  | ok fl =>
    cases fl with
    | ret obj =>
      obtain ⟨rfl, rfl⟩ := hr
      have hS : (s.heap.push (bornSet w)).get? s.heap.objs.size = some (bornSet w) := Heap.get?_push_size _ rfl
      have hT : Shared.TypeIs { s with heap := s.heap.push (bornSet w) } (.ref s.heap.objs.size) "set" := ⟨_, hS, rfl⟩
      have hli := F.called_set.init.lookup
      have hbi := F.called_set.init.bind (.ref s.heap.objs.size)
      repeat (any_goals (first | assumption | wp_step))
      refine codeAny_mono (codeAny_call_builtin (R := wants (fun r s₂ => r = .none ∧ ∃ h' tk L es ep t, s₂ = { s with heap := h', toks := tk } ∧ SetN w h' s.heap.objs.size L es ep t ∧ Has ks ks.length L ∧ (∀ b o, s.heap.get? b = some o → h'.get? b = some o)) E) F.called_set.init.plain F.entry_set_init (check_set_init_1 hT ?_)) fun r₂ s₂ hr₂ => ?_
      · obtain ⟨ol, hol, hcl, nl, hdl⟩ := hl
        obtain ⟨ocls, odict, odata, oslots⟩ := ol
        simp only at hcl hdl
        subst hcl; subst hdl
        have hol' : (s.heap.push (bornSet w)).get? l = some { cls := .type "list", dict := odict, data := .seq items nl, slots := oslots } := Heap.get?_push_of_some _ hol
        have hsls := F.sub_list_set
        have hslf := F.sub_list_frozenset
        have hne : (Value.type "list" == Value.type "dict") = false := by decide
        have hl1 : (s.heap.push (bornSet w)).IsList l items := ⟨_, hol', rfl, nl, rfl⟩
        unfold Builtin.«set.__init__» noKeywords Builtin.Frozenset.updateFrom
        generalize hPI : pyIter = PI
        wp_walk
        subst hPI
        refine wpAny_pyIter_list hl1 (wpAny_bind (wpAny_runValue ?_))
        have hlS : l < s.heap.objs.size := Heap.lt_size hol
        have hz1 : (s.heap.push (bornSet w)).objs.size = s.heap.objs.size + 1 := Heap.size_push ..
        have hneI : l ≠ (s.heap.push (bornSet w)).objs.size := by rw [hz1]; exact Nat.ne_of_lt (Nat.lt_succ_of_lt hlS)
        have hSf : s.heap.objs.size ∉ [(s.heap.push (bornSet w)).objs.size, l] := by
          rw [hz1, List.mem_cons, List.mem_singleton, not_or]
          exact ⟨Nat.ne_of_lt (Nat.lt_succ_self _), Nat.ne_of_gt hlS⟩
        have hval : ∀ (i : Nat) (v : Value), items[i]? = some v → ∃ p, ks[i]? = some p ∧ v = .ref p.1 := fun i v hv => by
          have q : items.toList[i]? = some v := by rw [Array.getElem?_toList]; exact hv
          rw [hit, List.getElem?_map] at q
          cases hq : ks[i]? with
          | none => rw [hq] at q; cases q
          | some p =>
            rw [hq] at q
            exact ⟨p, rfl, (Option.some.inj q).symm⟩
        have hget : ((s.heap.push (bornSet w)).push { cls := .type "list_iterator", data := .fields #[.ref l, .int 0 0] }).get? s.heap.objs.size = some (bornSet w) := Heap.get?_push_of_some _ hS
        refine upd_loop (s := { s with heap := (s.heap.push (bornSet w)).push { cls := .type "list_iterator", data := .fields #[.ref l, .int 0 0] } }) ((Walks.list (show A.in1.in1.in1.handled = none by simp [hh]) _ l hneI items).toS) s.heap.objs.size hSf ks D hisz hD h64 hval s.heap hk (none_at _ (Nat.le_refl _))
          (fun b hb => none_at b (by rw [List.mem_singleton.mp hb, hz1]; exact Nat.le_succ _)) (by simp only [Around.in1_units] at hu ⊢; omega) ?hR (items.size - 0) 0 _ rfl (Nat.zero_le _) ⟨⟨_, Heap.get?_push_size _ rfl, rfl, rfl⟩, (hl1.push _)⟩ (fun b o e => Heap.get?_push_of_some _ (Heap.get?_push_of_some _ e)) ⟨[], #[], 0, _, setN_born hget, Has.zero ks⟩ ?hM
        case hM => exact ⟨fun _ _ _ e => e, rfl, rfl, rfl, Nat.le_refl _⟩
        case hR =>
          intro s0 s' L es ep t hm hS' g' hkp e0
          subst e0
          obtain ⟨h', g2, d', tk', os'⟩ := s'
          have eg : g2 = s.gens := hm.gens
          have ed : d' = s.drawn := hm.drawn
          have eo : os' = s.os := hm.os
          subst eg; subst ed; subst eo
          show wpAny _ _ _ _ _ _
          refine wpAny_pure ?_
          show wpAny _ _ (ret Value.none) _ _ _
          rw [hisz] at g'
          exact wpAny_pure ⟨rfl, h', tk', L, es, ep, t, rfl, hS', g', hkp⟩
      · cases r₂ with
        | error e => exact hr₂
        | ok fl₂ =>
          cases fl₂ with
          | ret r =>
            obtain ⟨rfl, h', tk, L, es, ep, t, rfl, hS', g', hk'⟩ := hr₂
            repeat (any_goals (first | assumption | wp_step))
            exact h _ _ _ _ _ _ hS' g' hk'
          | _ => exact hr₂.elim
    | _ => exact hr.elim
end
end PY
set_option Elab.async false
set_option autoImplicit false
set_option linter.all false
set_option maxRecDepth 100000
set_option maxHeartbeats 4000000
/-! Data as keys; set(xs), sorted(set(xs)) of data. -/
namespace PY
open PySem L2 PySem.Spec PyProof.Rows PySem.W
mutual
/-- the key of a data -/
def kOf : PyData → NestedKey
  | .none => .none
  | .bool b => .num (if b = true then 1 else 0)
  | .int i => .num i
  | .str x => .text x
  | .list _ => .none
  | .tuple ds => .tup (kOfs ds)
  | .dict _ => .none
def kOfs : List PyData → List NestedKey
  | [] => []
  | d :: ds => kOf d :: kOfs ds
end
section
variable {N : Addr → Prop} {X : Cx} {H : Hp} {pins : List (Addr × Obj)} {σ : L2.St} {s : Shared}
mutual
theorem nest_of (I : Inv X pins σ H s) : ∀ (d : PyData) (v : V) (u : Value), NoL d → Dv N H v d → RelV v u → NestedIs s.heap (kOf d) u
  | .none, _, _, _, h, r => by
    cases h
    cases r
    rw [kOf]; exact .none
  | .bool b, _, _, _, h, r => by
    cases h
    cases r
    rw [kOf]; exact .bool rfl
  | .int i, _, _, _, h, r => by
    cases h
    obtain ⟨t, rfl⟩ := r
    rw [kOf]; exact .int _ _
  | .str x, _, _, _, h, r => by
    cases h
    obtain ⟨t, rfl⟩ := r
    rw [kOf]; exact .text _ _
  | .list ds, _, _, n, _, _ => by cases n
  | .dict _, _, _, n, _, _ => by cases n
  | .tuple ds, _, _, n, h, r => by
    cases h with
    | tup h1 h3 =>
      cases n with
      | tup n =>
        cases r
        obtain ⟨its, rv, ⟨o, ho, hc, m, hd⟩, _⟩ := I.tuple (SqT.of (K := X.K) h1)
        rw [kOf]
        exact .tup ho hc hd (by simpa using nests_of I ds _ its n h3 rv)
theorem nests_of (I : Inv X pins σ H s) : ∀ (ds : List PyData) (vs : List V) (us : List Value), (∀ d ∈ ds, NoL d) → Da N H vs ds → Vals vs us → NestedAll s.heap (kOfs ds) us
  | [], _, _, _, h, r => by
    cases h
    cases r
    rw [kOfs]; exact .nil
  | d :: ds, _, _, n, h, r => by
    cases h with
    | cons h1 h2 =>
      cases r with
      | cons r1 r2 =>
        rw [kOfs]
        exact .cons (nest_of I d _ _ (n d List.mem_cons_self) h1 r1) (nests_of I ds _ _ (fun x hx => n x (List.mem_cons_of_mem _ hx)) h2 r2)
end
end
mutual
/-- without lists nothing but tuples is read -/
theorem reads_nil {h : Heap} : ∀ (d : PyData) (v : Value) (as : List Addr), NoL d → Reads h v d as → as = []
  | .none, _, _, _, r => by cases r; rfl
  | .bool _, _, _, _, r => by cases r; rfl
  | .int _, _, _, _, r => by cases r; rfl
  | .str _, _, _, _, r => by cases r; rfl
  | .list _, _, _, n, _ => by cases n
  | .dict _, _, _, n, _ => by cases n
  | .tuple ds, _, _, n, r => by
    cases n with
    | tup n =>
      cases r with
      | tuple _ _ _ r => exact readsAll_nil ds _ _ n r
theorem readsAll_nil {h : Heap} : ∀ (ds : List PyData) (vs : List Value) (as : List Addr), (∀ d ∈ ds, NoL d) → ReadsAll h vs ds as → as = []
  | [], _, _, _, r => by cases r; rfl
  | d :: ds, _, _, n, r => by
    cases r with
    | cons r1 r2 => rw [reads_nil d _ _ (n d List.mem_cons_self) r1, readsAll_nil ds _ _ (fun x hx => n x (List.mem_cons_of_mem _ hx)) r2]; rfl
end
/-- things that can stand in a set: tuples of ints and of such tuples, told apart by their keys -/
structure Setty {β : Type} (enc : β → PyData) : Prop where
  nol : ∀ b, NoL (enc b)
  tup : ∀ b, ∃ ds, enc b = .tuple ds
  dp : ∀ b, (kOf (enc b)).depth ≤ 8
  nm : ∀ b, numK (kOf (enc b)) = true
  inj : ∀ a b, kOf (enc a) = kOf (enc b) → a = b
theorem Setty.is_ref {β : Type} {enc : β → PyData} (S : Setty enc) {N : Addr → Prop} {H : Hp} {v : V} {b : β} (h : Dv N H v (enc b)) : ∃ a, v = .ref a := by
  obtain ⟨ds, e⟩ := S.tup b
  rw [e] at h
  obtain ⟨a, xs, e, _⟩ := h.is_tup
  exact ⟨a, e⟩
theorem Setty.ky {β : Type} {enc : β → PyData} (S : Setty enc) {N : Addr → Prop} {X : Cx} {H : Hp} {pins : List (Addr × Obj)} {σ : L2.St} {s : Shared} (I : Inv X pins σ H s) {a : Addr} {b : β} (h : Dv N H (.ref a) (enc b)) : Ky s.heap (kOf (enc b)) a :=
  ⟨nest_of I _ _ _ (S.nol b) h rfl, S.dp b, S.nm b⟩
/-- members as data -/
def Memb {β : Type} (enc : β → PyData) (N : Addr → Prop) (H : Hp) (L : Mem) (cs : List β) : Prop := Da N H (L.map fun p => V.ref p.1) (cs.map enc) ∧ L.map Prod.snd = cs.map fun b => kOf (enc b)
theorem memb_of {β : Type} {enc : β → PyData} (S : Setty enc) {N : Addr → Prop} {H : Hp} : ∀ {xs : List V} {bs : List β}, Da N H xs (bs.map enc) → ∃ L : Mem, xs = L.map (fun p => V.ref p.1) ∧ Memb enc N H L bs
  | _, [], h => by
    cases h
    exact ⟨[], rfl, .nil, rfl⟩
  | _, b :: bs, h => by
    cases h with
    | cons h1 h2 =>
      obtain ⟨a, rfl⟩ := S.is_ref h1
      obtain ⟨L, rfl, m1, m2⟩ := memb_of S h2
      exact ⟨(a, kOf (enc b)) :: L, rfl, .cons h1 m1, by rw [List.map_cons, m2]; rfl⟩
theorem Memb.get {β : Type} {enc : β → PyData} {N : Addr → Prop} {H : Hp} : ∀ {L : Mem} {cs : List β}, Memb enc N H L cs → ∀ p ∈ L, ∃ b ∈ cs, p.2 = kOf (enc b) ∧ Dv N H (.ref p.1) (enc b)
  | [], _, _, p, hp => nomatch hp
  | q :: L, [], ⟨h1, h2⟩, p, hp => by simp at h2
  | q :: L, b :: cs, ⟨h1, h2⟩, p, hp => by
    cases h1 with
    | cons d1 d2 =>
      rw [List.map_cons, List.map_cons, List.cons.injEq] at h2
      rcases List.mem_cons.mp hp with e | hp
      · rw [e]; exact ⟨b, List.mem_cons_self, h2.1, d1⟩
      · obtain ⟨c, hc, r⟩ := Memb.get (L := L) (cs := cs) ⟨d2, h2.2⟩ p hp
        exact ⟨c, List.mem_cons_of_mem _ hc, r⟩
theorem memb_sel {β : Type} {enc : β → PyData} {N : Addr → Prop} {H : Hp} {bs : List β} : ∀ {L : Mem}, (∀ p ∈ L, ∃ b ∈ bs, p.2 = kOf (enc b) ∧ Dv N H (.ref p.1) (enc b)) → ∃ cs : List β, Memb enc N H L cs ∧ ∀ c ∈ cs, c ∈ bs
  | [], _ => ⟨[], ⟨.nil, rfl⟩, nofun⟩
  | p :: L, h => by
    obtain ⟨b, hb, e, d⟩ := h p List.mem_cons_self
    obtain ⟨cs, ⟨m1, m2⟩, m3⟩ := memb_sel fun q hq => h q (List.mem_cons_of_mem _ hq)
    exact ⟨b :: cs, ⟨.cons d m1, by rw [List.map_cons, e, m2]; rfl⟩, fun c hc => (List.mem_cons.mp hc).elim (fun z => z ▸ hb) (m3 c)⟩
/-- the set at a, without its members -/
structure Set0 (w : World) (h : Heap) (a : Addr) (L : Mem) : Prop where
  ex : ∃ (es : Array (Int × Value)) (ep : Nat) (t : SetTable), (∃ o, h.get? a = some o ∧ o.ExactSet ∧ o.data = .set es ep t) ∧ (es.toList = rowsN w L ∧ TabOk t (hsN w L)) ∧ ((L.map Prod.snd).Nodup ∧ t.plain = true) ∧ (w.params.followText "set-order" = true ∨ t.led = true) ∧ L.length * 5 < t.mask * 3 ∧ L.length < 64
def SetNO (w : World) (a : Addr) (L : Mem) : HO := .ext fun h => Set0 w h a L
theorem SetN.s0 {w : World} {h : Heap} {a : Addr} {L : Mem} {es : Array (Int × Value)} {ep : Nat} {t : SetTable} (R : SetN w h a L es ep t) : Set0 w h a L := by
  obtain ⟨o, ⟨h1, h2⟩, h3⟩ := R.ob
  exact ⟨es, ep, t, ⟨o, h1, h2, h3⟩, ⟨R.rows, R.tab⟩, ⟨R.nd, R.plain⟩, R.led, R.room, R.few⟩
theorem Set0.whole {w : World} {h : Heap} {a : Addr} {L : Mem} (R : Set0 w h a L) (hk : ∀ p ∈ L, Ky h p.2 p.1) : ∃ es ep t, SetN w h a L es ep t := by
  obtain ⟨es, ep, t, ⟨o, h1, h2, h3⟩, ⟨r1, r2⟩, ⟨r3, r4⟩, r5, r6, r7⟩ := R.ex
  exact ⟨es, ep, t, ⟨o, ⟨h1, h2⟩, h3⟩, r1, r2, r3, hk, r4, r5, r6, r7⟩
theorem setNO_new {P : Program} {w : World} {H : Hp} {h : Heap} {a : Addr} {L : Mem} (R : Set0 w h a L) : ObjOk P w H h a (SetNO w a L) := by
  have ⟨es, ep, t, ⟨o, ho, r⟩, q⟩ := R.ex
  refine ⟨R, ⟨o, ho⟩, fun h1 h2 p k => ?_⟩
  have ⟨es', ep', t', ⟨o', ho', r'⟩, q'⟩ := Set0.ex p
  exact ⟨es', ep', t', ⟨o', k o' ho', r'⟩, q'⟩
theorem vals_refs : ∀ (L : Mem), Vals (L.map fun p => V.ref p.1) (L.map fun p => Value.ref p.1)
  | [] => .nil
  | p :: L => .cons rfl (vals_refs L)
theorem refs_vals : ∀ {L : Mem} {us : List Value}, Vals (L.map fun p => V.ref p.1) us → us = L.map fun p => Value.ref p.1
  | [], _, .nil => rfl
  | p :: L, _, .cons r t => by
    cases r
    rw [refs_vals t]; rfl
theorem each_perm {α β : Type} {R : α → β → Prop} {us vs : List α} (pm : vs.Perm us) : ∀ {bs : List β}, EachIs R us bs → ∃ cs, cs.Perm bs ∧ EachIs R vs cs := by
  induction pm with
  | nil => intro bs e; exact ⟨bs, .refl _, e⟩
  | cons x _ ih =>
    intro bs e
    cases e with
    | cons r t =>
      obtain ⟨cs, p, e⟩ := ih t
      exact ⟨_ :: cs, p.cons _, .cons r e⟩
  | swap x y l =>
    intro bs e
    cases e with
    | cons r t =>
      cases t with
      | cons r' t => exact ⟨_, .swap _ _ _, .cons r' (.cons r t)⟩
  | trans _ _ ih1 ih2 =>
    intro bs e
    obtain ⟨cs, p, e⟩ := ih2 e
    obtain ⟨ds, p', e'⟩ := ih1 e
    exact ⟨ds, p'.trans p, e'⟩
section
variable {X : Cx}
/-- set(xs) -/
def rSetD (w : World) {β : Type} (bs : List β) (enc : β → PyData) : List V → Hp → VK → Prop := fun vs H Q => ∃ (N : Addr → Prop) (v : V), vs = [v] ∧ Dv N H v (.list (bs.map enc)) ∧ ∀ a L cs, H a = none → Memb enc N H L cs → (∀ c, c ∈ cs ↔ c ∈ bs) → Q (.ref a) (upd H a (SetNO w a L))
theorem cr_setD {β : Type} {bs : List β} {enc : β → PyData} (S : Setty enc) (D : List β) (hD : ∀ b ∈ bs, b ∈ D) (h64 : D.length < 64) (hc : X.calm = true) (hu : X.A.units + 64 < cLine) : CallR X (.type "set") (rSetD X.w bs enc) := by
  intro pins s σ H vs us Q I r h
  obtain ⟨N, v, rfl, hv, q⟩ := h
  obtain ⟨l, xs, rfl, hl, _, dl⟩ := hv.is_lst
  obtain ⟨its, rv, pl, hz⟩ := I.list (SqL.of (K := X.K) hl)
  rw [Vals.ref1 r]
  obtain ⟨ks, rfl, mb⟩ := memb_of S dl
  have hn : H s.heap.objs.size = none := I.hok.fresh (Nat.le_refl _)
  refine call_set_keys (P := X.prog) (w := X.w) ks (D.map fun b => kOf (enc b)) (I.ok.hd hc) pl.isList (by simpa using refs_vals rv) (fun p hp => ?_) (fun p hp => ?_) (by rw [List.length_map]; exact h64) (by omega) fun h' tk L es ep t R g k => ?_
  · obtain ⟨b, _, e, d⟩ := mb.get p hp
    rw [e]
    exact S.ky I d
  · obtain ⟨b, hb, e, _⟩ := mb.get p hp
    exact List.mem_map.mpr ⟨b, hD b hb, e.symm⟩
  · obtain ⟨cs, m1, m2⟩ := memb_sel (enc := enc) (bs := bs) (N := N) (H := H) (L := L) fun p hp => mb.get p (List.mem_of_mem_take (g.sub p hp))
    refine ⟨.ref s.heap.objs.size, upd H s.heap.objs.size (SetNO X.w s.heap.objs.size L), I.laid (t' := tk) k (Nat.le_refl _) (setNO_new R.s0), rfl, q _ L cs hn m1 fun c => ⟨m2 c, fun hc => ?_⟩⟩
    have h1 : kOf (enc c) ∈ ks.map Prod.snd := by rw [mb.2]; exact List.mem_map.mpr ⟨c, hc, rfl⟩
    obtain ⟨p, hp, e⟩ := List.mem_map.mp h1
    have h2 := g.all p (by rw [List.take_length]; exact hp)
    rw [e, m1.2] at h2
    obtain ⟨c', hc', e'⟩ := List.mem_map.mp h2
    rw [← S.inj _ _ e']
    exact hc'
/-- sorted(set) -/
def rSortSet (w : World) {β : Type} (enc : β → PyData) : List V → Hp → VK → Prop := fun vs H Q => ∃ (N : Addr → Prop) (a : Addr) (L : Mem) (cs : List β), (vs = [.ref a] ∧ H a = some (SetNO w a L)) ∧ Memb enc N H L cs ∧ ∀ p ys (cs' : List β), H p = none → cs'.Perm cs → cs'.Nodup → Da N H ys ((cs'.mergeSort (dataLe false enc)).map enc) → Q (.ref p) (upd H p (.lst ys))
theorem cr_sortSet {β : Type} {enc : β → PyData} (S : Setty enc) (hal : ∀ a b, alike (enc a) (enc b) = true) (hks : ∀ b, ∃ x r, enc b = .tuple (x :: r)) (hd : ∀ b, (enc b).depth ≤ 8) (hc : X.calm = true) (hu : X.A.units + 64 < cLine) : CallR X (.builtin "sorted") (rSortSet X.w enc) := by
  intro pins s σ H vs us Q I r h
  obtain ⟨N, a, L, cs, ⟨rfl, ha⟩, mb, q⟩ := h
  obtain ⟨es, ep, t, R⟩ := ((I.hok a _ ha).1 : Set0 X.w s.heap a L).whole fun p hp => by
    obtain ⟨b, _, e, d⟩ := mb.get p hp
    rw [e]
    exact S.ky I d
  rw [Vals.ref1 r]
  obtain ⟨o, ⟨ho, hex⟩, hd0⟩ := R.ob
  have hsz := R.size
  have hfew := R.few
  have nd : cs.Nodup := by
    have := R.nd
    rw [mb.2] at this
    exact nodup_of_map this
  refine Calls.call_function_entry kind_sorted plain_sorted entry_sorted (args_sorted1 _) ?_
  unfold Builtin.«sorted»
  refine wpAny_bind (m := checkCount "sorted" 1 1 _) (wpAny_pure ?_)
  refine wpAny_bind (collect_set (A := X.A.in1) (I.ok.hd hc) ⟨o, ho, hex.1, hd0⟩ R.fits (by unfold scanBound; omega) R.tab.ris R.led fun s1 vs k1 hz g1 o1 pm => ?_)
  rw [R.rows, rowsN, List.map_map] at pm
  have e0 : EachIs (fun (u : Value) (b : β) => ∃ x : V, RelV x u ∧ Dv N H x (enc b)) (L.map fun p => Value.ref p.1) cs := abs_each (vals_refs L) mb.1
  obtain ⟨cs', pc, e1⟩ := each_perm pm e0
  have hvl : vs.length < 64 := by rw [pm.length_eq, List.length_map]; exact hfew
  have hcl : cs'.length < 64 := by rw [← e1.length]; exact hvl
  refine wpAny_bind (wpAny_newList ?_ (by rw [sizeLine_eq]; omega))
  have hoL : (s1.heap.push (seqObj "list" vs.toArray 0)).get? s1.heap.objs.size = some (seqObj "list" vs.toArray 0) := Heap.get?_push_size _ rfl
  have er : EachIs (fun v b => ∃ as, Reads (s1.heap.push (seqObj "list" vs.toArray 0)) v (enc b) as ∧ s1.heap.objs.size ∉ as) vs cs' := e1.mono fun u b ⟨x, r, d⟩ => by
    obtain ⟨as, ra⟩ := Dp.reads I (enc b) x u d.dp r
    have ra' := PyProof.Rows.Reads.keeps (h' := s1.heap.push (seqObj "list" vs.toArray 0)) (fun b u e => Heap.get?_push_of_some _ (k1 b u e)) ra
    exact ⟨as, ra', by rw [reads_nil _ _ _ (S.nol b) ra']; exact nofun⟩
  refine wpAny_bind (wpAny_holding (list_sort_data (s := { s1 with heap := s1.heap.push (seqObj "list" vs.toArray 0) }) (R := fun (u : Value) (b : β) => ∃ x : V, RelV x u ∧ Dv N H x (enc b)) hoL e1 er (allAlike_of cs' hal) (Sortable.tuples hks) (by rw [sizeLine_eq]; omega) (fun b _ => by have := hd b; simp only [Around.in1_units]; omega) fun out lo eo => ?_))
  obtain ⟨ys, ry, dy⟩ := each_abs eo
  obtain ⟨c, hc2⟩ := sortedHeap_at (vs := vs) (out := out.toArray) hoL
  have keep : ∀ b u, s.heap.get? b = some u → (sortedHeap (s1.heap.push (seqObj "list" vs.toArray 0)) s1.heap.objs.size vs out.toArray).get? b = some u := fun b u e => by
    have q := k1 b u e
    have hlt := Heap.lt_size q
    rw [sortedHeap_old (Nat.ne_of_lt hlt) (by rw [size_push']; exact Nat.lt_succ_of_lt hlt)]
    exact Heap.get?_push_of_some _ q
  have hn : H s1.heap.objs.size = none := I.hok.fresh hz
  have hlen : ys.length ≤ sizeLine := by rw [ry.length, lo, sizeLine_eq]; omega
  refine wpAny_pure ⟨_, rfl, .ref s1.heap.objs.size, upd H s1.heap.objs.size (.lst ys), ?_, rfl, q _ ys cs' hn pc (pc.nodup_iff.mpr nd) dy⟩
  exact I.call' (ch := []) o1 (Un.laid keep hz hn) (I.hok.laid keep hz ⟨hlen, out, c, ry, hc2⟩) (by show AllBare s1.gens; rw [g1]; exact I.bare) fun _ z => nomatch z
end
section
variable {N : Addr → Prop} {X : Cx} {a : Expr} {σ : L2.St} {H : Hp} {pos : Pos}
/-- sorted(set(xs)): the members, each once, in their order -/
theorem c_sortedSet {β : Type} {bs ms : List β} {enc : β → PyData} {p p1 pos1 : Pos} (S : Setty enc) (hal : ∀ a b, alike (enc a) (enc b) = true) (hks : ∀ b, ∃ x r, enc b = .tuple (x :: r)) (hd : ∀ b, (enc b).depth ≤ 8) (D : List β) (hD : ∀ b ∈ bs, b ∈ D) (h64 : D.length < 64) (hc : X.calm = true) (hu : X.A.units + 64 < cLine)
    (hms : ∀ l : List β, l.Nodup → (∀ b, b ∈ l ↔ b ∈ bs) → l.mergeSort (dataLe false enc) = ms)
    (hm1 : X.mg "sorted" = none) (hm2 : X.mg "set" = none) (ha : CD N X a σ H (.list (bs.map enc))) (hN : ∀ p, H p = none → N p) (hg1 : Gl X "sorted" := by rfl) (hg2 : Gl X "set" := by rfl)
    (he : starEach [a] X.env = [(false, eval a X.env)] := by rfl) (he1 : starEach [Expr.Call (.Name "set" p1) [a] [] pos1] X.env = [(false, eval (Expr.Call (.Name "set" p1) [a] [] pos1) X.env)] := by rfl) : CD N X (.Call (.Name "sorted" p) [.Call (.Name "set" p1) [a] [] pos1] [] pos) σ H (.list (ms.map enc)) := fun H1 s1 Q q =>
  (pe_callB (cr_sortSet S hal hks hd hc hu) hg1 hm1 (by decide +kernel) (pa_cons (pe_callTy (cr_setD S D hD h64 hc hu) hg2 hm2 PyProof.Rows.boot_set (pa_cons (ew X a) pa_nil (by rw [he]; rfl)) (by decide) (by decide) (by rw [he]; rfl) rfl) pa_nil (by rw [he1]; rfl)) (by decide) (by decide) (by rw [he1]; rfl) rfl).w
    (ha H1 s1 _ fun v H2 s2 hv => ⟨N, v, rfl, hv, fun p L cs hp mb hb => by
      have sp : Same H2 (upd H2 p (SetNO X.w p L)) := same_new hp
      refine ⟨N, p, L, cs, ⟨rfl, upd_same⟩, ⟨mb.1.keep sp, mb.2⟩, fun p' ys cs' hp' pm nd dy => ?_⟩
      rw [hms cs' nd fun b => (pm.mem_iff).trans (hb b)] at dy
      exact q _ _ ((s2.trans sp).trans (same_new hp')) (.lst upd_same (hN p' (((s1.trans s2).trans sp).free hp')) (dy.keep (same_new hp')))⟩)
end
end PY
set_option Elab.async false
set_option autoImplicit false
set_option linter.all false
set_option maxRecDepth 100000
set_option maxHeartbeats 4000000
/-! The dict known: from (position, number) to a truth. -/
namespace PY
open PySem L2 PySem.Spec
abbrev Ent := Ps × Nat
def dKey (k : Ent) : PyData := .tuple [dPos k.1, .int (k.2 : Int)]
theorem noL_key (k : Ent) : NoL (dKey k) := noL_tup2 (noL_pos _) (.int _)
theorem kOf_cell_inj {a b : Cell} (h : kOf (dCell a) = kOf (dCell b)) : a = b := by
  obtain ⟨a1, a2⟩ := a
  obtain ⟨b1, b2⟩ := b
  simp only [dCell, kOf, kOfs, NestedKey.tup.injEq, List.cons.injEq, NestedKey.num.injEq, and_true] at h
  rw [h.1, h.2]
theorem kOf_piece_inj {a b : Pc} (h : kOf (dPiece a) = kOf (dPiece b)) : a = b := by
  obtain ⟨a1, a2, a3⟩ := a
  obtain ⟨b1, b2, b3⟩ := b
  simp only [dPiece, kOf, kOfs, NestedKey.tup.injEq, List.cons.injEq, NestedKey.num.injEq, NestedKey.text.injEq, and_true] at h
  rw [kOf_cell_inj h.1, h.2.1, h.2.2]
theorem kOfs_map_inj {α : Type} {f : α → PyData} (inj : ∀ a b, kOf (f a) = kOf (f b) → a = b) : ∀ {l m : List α}, kOfs (l.map f) = kOfs (m.map f) → l = m
  | [], [], _ => rfl
  | [], _ :: _, h => by simp [kOfs] at h
  | _ :: _, [], h => by simp [kOfs] at h
  | a :: l, b :: m, h => by
    simp only [List.map_cons, kOfs, List.cons.injEq] at h
    rw [inj a b h.1, kOfs_map_inj inj h.2]
theorem kOf_key_inj {a b : Ent} (h : kOf (dKey a) = kOf (dKey b)) : a = b := by
  obtain ⟨⟨a1, a2⟩, a3⟩ := a
  obtain ⟨⟨b1, b2⟩, b3⟩ := b
  simp only [dKey, dPos, dPieces, kOf, kOfs, NestedKey.tup.injEq, List.cons.injEq, NestedKey.num.injEq, and_true] at h
  obtain ⟨⟨h1, h2⟩, h3⟩ := h
  rw [h1, kOfs_map_inj (fun a b => kOf_piece_inj) h2, Int.ofNat.inj h3]
theorem kOfs_depth {α : Type} {f : α → PyData} {n : Nat} (h : ∀ a, (kOf (f a)).depth ≤ n) : ∀ l : List α, NestedKey.depthAll (kOfs (l.map f)) ≤ n
  | [] => Nat.zero_le _
  | a :: l => by
    have h1 := h a
    have h2 := kOfs_depth h l
    simp only [List.map_cons, kOfs, NestedKey.depthAll]
    omega
theorem kd_cell (c : Cell) : (kOf (dCell c)).depth = 1 := by simp [dCell, kOf, kOfs, NestedKey.depth, NestedKey.depthAll]
theorem kd_move (m : Move) : (kOf (dMove m)).depth = 2 := by simp [dMove, kOf, kOfs, NestedKey.depth, NestedKey.depthAll, kd_cell]
theorem kd_piece (p : Pc) : (kOf (dPiece p)).depth = 2 := by simp [dPiece, kOf, kOfs, NestedKey.depth, NestedKey.depthAll, kd_cell]
theorem kd_key (k : Ent) : (kOf (dKey k)).depth ≤ 8 := by
  have := kOfs_depth (fun p => Nat.le_of_eq (kd_piece p)) k.1.2
  simp only [dKey, dPos, dPieces, kOf, kOfs, NestedKey.depth, NestedKey.depthAll]
  omega
theorem setty_cell : Setty dCell := ⟨noL_cell, fun b => ⟨_, rfl⟩, fun b => by rw [kd_cell]; decide, fun b => by simp [dCell, kOf, kOfs, numK, numKs], fun a b => kOf_cell_inj⟩
theorem nm_cell (c : Cell) : numK (kOf (dCell c)) = true := setty_cell.nm c
theorem setty_move : Setty dMove := ⟨noL_move, fun b => ⟨_, rfl⟩, fun b => by rw [kd_move]; decide, fun b => by simp [dMove, kOf, kOfs, numK, numKs, nm_cell], fun a b h => by
  obtain ⟨a1, a2⟩ := a
  obtain ⟨b1, b2⟩ := b
  simp only [dMove, kOf, kOfs, NestedKey.tup.injEq, List.cons.injEq, and_true] at h
  rw [kOf_cell_inj h.1, kOf_cell_inj h.2]⟩
/-! ### the dict -/
abbrev Rws := List (Addr × Ent)
def rowOf (f : Ent → Bool) (e : Addr × Ent) : NestedKey × Addr × Value := (kOf (dKey e.2), e.1, .bool (f e.2))
structure Kn0 (P : Program) (w : World) (f : Ent → Bool) (h : Heap) (a : Addr) (xs : Rws) : Prop where
  sm : (a == sysModules) = false
  ex : ∃ o es ep, h.get? a = some o ∧ o.ExactDict ∧ o.data = .dict es ep ∧ es.toList = (xs.map (rowOf f)).map (entryOfKey (nestedKind P w)) ∧ ((xs.map (rowOf f)).map (·.1)).Nodup
def KnO (P : Program) (w : World) (f : Ent → Bool) (a : Addr) (xs : Rws) : HO := .ext fun h => Kn0 P w f h a xs
theorem kn_ok {P : Program} {w : World} {H : Hp} {h : Heap} {f : Ent → Bool} {a : Addr} {xs : Rws} (R : Kn0 P w f h a xs) : ObjOk P w H h a (KnO P w f a xs) := by
  have ⟨o, es, ep, ho, r⟩ := R.ex
  refine ⟨R, ⟨o, ho⟩, fun h1 h2 p k => ?_⟩
  have p' : Kn0 P w f h1 a xs := p
  have ⟨o', es', ep', ho', r'⟩ := p'.ex
  exact (⟨p'.sm, o', es', ep', k o' ho', r'⟩ : Kn0 P w f h2 a xs)
/-- known holds xs, all keys of D -/
structure KnX (P : Program) (w : World) (f : Ent → Bool) (D : List Ent) (H : Hp) (a : Addr) (xs : Rws) : Prop where
  at_ : H a = some (KnO P w f a xs)
  dv : ∀ e ∈ xs, Dv All_ H (.ref e.1) (dKey e.2)
  nd : (xs.map Prod.snd).Nodup
  sub : ∀ e ∈ xs, e.2 ∈ D
def KnAt (P : Program) (w : World) (f : Ent → Bool) (D : List Ent) (H : Hp) (a : Addr) : Prop := ∃ xs, KnX P w f D H a xs
/-- .. and the key k -/
def KnHas (P : Program) (w : World) (f : Ent → Bool) (D : List Ent) (H : Hp) (a : Addr) (k : Ent) : Prop := ∃ xs, KnX P w f D H a xs ∧ k ∈ xs.map Prod.snd
section
variable {P : Program} {w : World} {f : Ent → Bool} {D : List Ent} {H H' : Hp} {a b : Addr} {xs : Rws} {k : Ent}
theorem KnX.keep (x : KnX P w f D H a xs) (s : Same H H') : KnX P w f D H' a xs := ⟨s _ _ x.at_, fun e he => (x.dv e he).keep s, x.nd, x.sub⟩
theorem KnAt.keep (x : KnAt P w f D H a) (s : Same H H') : KnAt P w f D H' a := let ⟨xs, h⟩ := x; ⟨xs, h.keep s⟩
theorem KnHas.keep (x : KnHas P w f D H a k) (s : Same H H') : KnHas P w f D H' a k := let ⟨xs, h, m⟩ := x; ⟨xs, h.keep s, m⟩
theorem KnHas.kn (x : KnHas P w f D H a k) : KnAt P w f D H a := let ⟨xs, h, _⟩ := x; ⟨xs, h⟩
theorem row_nodup (nd : (xs.map Prod.snd).Nodup) : ((xs.map (rowOf f)).map (·.1)).Nodup := by
  rw [List.map_map]
  have e : ((fun x : NestedKey × Addr × Value => x.1) ∘ rowOf f) = (fun k => kOf (dKey k)) ∘ Prod.snd := rfl
  rw [e, ← List.map_map]
  exact List.pairwise_map.mpr (nd.imp fun {a b} h q => h (kOf_key_inj q))
theorem row_at (nd : (xs.map Prod.snd).Nodup) (m : k ∈ xs.map Prod.snd) : ∃ b', atKey (xs.map (rowOf f)) (kOf (dKey k)) = some (b', .bool (f k)) := by
  obtain ⟨e, he, rfl⟩ := List.mem_map.mp m
  obtain ⟨i, hi⟩ := List.getElem?_of_mem he
  exact ⟨e.1, atKey_of_get (row_nodup nd) (i := i) (by rw [List.getElem?_map, hi]; rfl)⟩
theorem row_no (m : k ∉ xs.map Prod.snd) : atKey (xs.map (rowOf f)) (kOf (dKey k)) = none := by
  unfold atKey
  rw [List.find?_eq_none.mpr fun x hx => ?_]
  · rfl
  · obtain ⟨e, he, rfl⟩ := List.mem_map.mp hx
    intro q
    exact m (List.mem_map.mpr ⟨e, he, (kOf_key_inj (of_decide_eq_true q))⟩)
end
section
variable {X : Cx} {pins : List (Addr × Obj)} {σ : St} {H : Hp} {s : Shared} {f : Ent → Bool} {D : List Ent} {a b : Addr} {xs : Rws} {k : Ent} {Nn : Addr → Prop}
theorem key_is (I : Inv X pins σ H s) (h : Dv Nn H (.ref b) (dKey k)) : (nestedKind X.prog X.w).is s.heap (kOf (dKey k)) b := ⟨nest_of I _ _ _ (noL_key k) h rfl, kd_key k⟩
theorem kn_dict (I : Inv X pins σ H s) (x : KnX X.prog X.w f D H a xs) : (a == sysModules) = false ∧ s.heap.DictOfH (nestedKind X.prog X.w) a (xs.map (rowOf f)) := by
  have R : Kn0 X.prog X.w f s.heap a xs := (I.hok a _ x.at_).1
  obtain ⟨o, es, ep, h1, h2, h3, h4, h5⟩ := R.ex
  refine ⟨R.sm, o, es, ep, h1, h2, h3, h4, fun y hy => ?_, h5⟩
  obtain ⟨e, he, rfl⟩ := List.mem_map.mp hy
  exact key_is I (x.dv e he)
end
section
variable {X : Cx} {σ : St} {H : Hp} {f : Ent → Bool} {D : List Ent} {a b : Addr} {k : Ent}
theorem room8 (hu : X.A.units + 64 < cLine) : (nestedKind X.prog X.w).room X.A.in1 := by
  show X.A.in1.units + 8 < cLine
  simp only [Around.in1_units]
  omega
/-- {}, that is to be known -/
theorem e_knew {pos : Pos} {Q : VK} (q : ∀ p, H p = none → KnAt X.prog X.w f D (upd H p (KnO X.prog X.w f p [])) p → Q (.ref p) (upd H p (KnO X.prog X.w f p []))) : wE X (.Dict [] [] pos) σ H Q := ⟨fun pins s I =>
  wpAny_Dict_empty ⟨.ref s.heap.objs.size, _, I.laid (a := s.heap.objs.size) (o := KnO X.prog X.w f s.heap.objs.size []) (t' := s.toks) (fun _ _ q => Heap.get?_push_of_some _ q) (Nat.le_refl _)
    (kn_ok ⟨beq_eq_false_iff_ne.mpr (Ne.symm (Nat.ne_of_lt I.big)), _, #[], 0, Heap.get?_push_size _ rfl, ⟨rfl, rfl, rfl⟩, rfl, rfl, List.nodup_nil⟩), rfl, q _ (I.hok.fresh (Nat.le_refl _)) ⟨[], upd_same, nofun, List.nodup_nil, nofun⟩⟩⟩
/-- key not in known -/
def rKnNot (P : Program) (w : World) (f : Ent → Bool) (D : List Ent) : R2 := fun x y H Q => ∃ (N : Addr → Prop) (b a : Addr) (k : Ent), (x = .ref b ∧ y = .ref a) ∧ Dv N H (.ref b) (dKey k) ∧ KnAt P w f D H a ∧ (KnHas P w f D H a k → Q (.bl false) H) ∧ Q (.bl true) H
theorem op_knNot (hu : X.A.units + 64 < cLine) : OpR X (compareOp .NotIn) (rKnNot X.prog X.w f D) := by
  intro pins s σ H x y v u Q I rx ry h
  obtain ⟨N, b, a, k, ⟨rfl, rfl⟩, hk, ⟨xs, x⟩, q1, q2⟩ := h
  cases rx
  cases ry
  obtain ⟨hd, dd⟩ := kn_dict I x
  refine notIn_keyed (room8 hu) (key_is I hk) hd ⟨_, dd, rfl⟩ ?_
  rw [valueAt_pairsH]
  by_cases m : k ∈ xs.map Prod.snd
  · obtain ⟨b', e⟩ := row_at (f := f) x.nd m
    rw [e]
    exact ⟨.bl false, H, I.tok _, rfl, q1 ⟨xs, x, m⟩⟩
  · rw [row_no (f := f) m]
    exact ⟨.bl true, H, I.tok _, rfl, q2⟩
/-- known[key] -/
theorem pe_knGet {o i : Expr} {pos : Pos} {td ty : TE} {Q : VK} (hu : X.A.units + 64 < cLine) (ho : PE X o td) (hi : PE X i ty) (h : td σ H fun x H1 => ty σ H1 fun y H2 => ∃ (N : Addr → Prop) (a b : Addr) (k : Ent), (x = .ref a ∧ y = .ref b) ∧ Dv N H2 (.ref b) (dKey k) ∧ KnHas X.prog X.w f D H2 a k ∧ Q (.bl (f k)) H2)
    (hs : NoSl i := by intros; exact fun _ _ => rfl) : wE X (.Subscript o i pos) σ H Q := ⟨fun pins s I => by
  refine subD_of PySem.F.slot_dict_getitem.lookup hs (thn (ho.run pins s σ H _ I h) fun u s1 ⟨x, H1, I1, rx, q1⟩ => thn (hi.run pins s1 σ H1 _ I1 q1) fun iv s2 ⟨y, H2, I2, ry, N, a, b, k, ⟨ex, ey⟩, hk, ⟨xs, kx, m⟩, q2⟩ => ?_)
  subst ex
  subst ey
  cases rx
  cases ry
  obtain ⟨hd, dd⟩ := kn_dict I2 kx
  obtain ⟨b', e⟩ := row_at (f := f) kx.nd m
  exact ⟨dd.typeIs, wpAny_getItem_heap (room8 hu) (key_is I2 hk) dd e ⟨.bl (f k), H2, I2.tok _, rfl, q2⟩⟩⟩
/-- known[key] = value -/
def rKnSet (P : Program) (w : World) (f : Ent → Bool) (D : List Ent) : V → V → V → Hp → (Hp → Prop) → Prop := fun o i v H Q => ∃ (N : Addr → Prop) (a b : Addr) (k : Ent), (o = .ref a ∧ i = .ref b ∧ v = .bl (f k)) ∧ Dv N H (.ref b) (dKey k) ∧ KnAt P w f D H a ∧ (k ∈ D ∧ D.length ≤ 16000000) ∧
  ∀ H', But a H H' → KnHas P w f D H' a k → Q H'
theorem kn_apart {N : Addr → Prop} {P : Program} {w : World} {xs : Rws} (x : KnX P w f D H a xs) {v : V} {d : PyData} {o : HO} (h : Dv N H v d) (n : NoL d) : Dv N (upd H a o) v d :=
  (Dv.noL (N' := Never) _ _ n h).go (fun b ys e => by rw [upd_ne (ne_of e x.at_ (by intro q; cases q))]; exact e) (fun _ _ z => z.elim)
theorem set_kn (hu : X.A.units + 64 < cLine) : PSet X (rKnSet X.prog X.w f D) := by
  intro pins s σ H o i v ov iv u Q I ro ri rv h
  obtain ⟨N, a, b, k, ⟨rfl, rfl, rfl⟩, hk, ⟨xs, x⟩, ⟨hkD, hDl⟩, q⟩ := h
  cases ro
  cases ri
  cases rv
  obtain ⟨hd, dd⟩ := kn_dict I x
  have hxl : xs.length ≤ D.length := by
    letI : DecidableEq Ent := fun a b => Classical.propDecidable (a = b)
    have := nodup_len (xs.map Prod.snd) D x.nd fun e he => by
      obtain ⟨e, h1, rfl⟩ := List.mem_map.mp he
      exact x.sub e h1
    rw [List.length_map] at this
    exact this
  refine wpAny_setItem_heap (hsz := by rw [List.length_map, sizeLine_eq]; omega) (room8 hu) (key_is I hk) dd fun h' hm' hs => ?_
  have put : ∀ xs' : Rws, storedH (xs.map (rowOf f)) (kOf (dKey k)) b (.bool (f k)) = xs'.map (rowOf f) → (∀ e ∈ xs', e ∈ xs ∨ e = (b, k)) → (xs'.map Prod.snd).Nodup → k ∈ xs'.map Prod.snd →
      ∃ H', Inv X pins σ H' { s with heap := h', toks := s.toks + (nestedKind X.prog X.w).draws (kOf (dKey k)) } ∧ Q H' := fun xs' e1 e2 e3 e4 => by
    rw [e1] at hm'
    obtain ⟨o', es, ep, h1, h2, h3, h4, h5, h6⟩ := hm'
    refine ⟨upd H a (KnO X.prog X.w f a xs'), I.write (x := a) (e := a) (by rw [x.at_]; exact trivial) (.inl rfl) (fun b u hb e => (hs.2 b hb).trans e) ⟨o', h1⟩ (kn_ok ⟨hd, o', es, ep, h1, h2, h3, h4, h6⟩), q _ But.upd ⟨xs', ⟨upd_same, fun e he => ?_, e3, fun e he => ?_⟩, e4⟩⟩
    · rcases e2 e he with z | z
      · exact kn_apart x (x.dv e z) (noL_key _)
      · rw [z]
        exact (kn_apart x hk (noL_key _)).any
    · rcases e2 e he with z | z
      · exact x.sub e z
      · rw [z]; exact hkD
  by_cases m : k ∈ xs.map Prod.snd
  · obtain ⟨b', e⟩ := row_at (f := f) x.nd m
    refine put xs ?_ (fun e he => .inl he) x.nd m
    rw [storedH_old e, List.map_map]
    refine List.map_congr_left fun y _ => ?_
    show putAt _ _ (rowOf f y) = rowOf f y
    unfold putAt
    by_cases c : (rowOf f y).1 = kOf (dKey k)
    · rw [if_pos c]
      have : y.2 = k := kOf_key_inj c
      unfold rowOf
      rw [this]
    · rw [if_neg c]
  · refine put (xs ++ [(b, k)]) ?_ (fun e he => ?_) ?_ ?_
    · rw [storedH_new (row_no (f := f) m), List.map_append]
      rfl
    · rcases List.mem_append.mp he with z | z
      · exact .inl z
      · exact .inr (List.mem_singleton.mp z)
    · rw [List.map_append]
      exact List.nodup_append.mpr ⟨x.nd, by simp, fun a ha b hb e => m (by
        rw [List.map_cons, List.map_nil, List.mem_singleton] at hb
        rw [e, hb] at ha
        exact ha)⟩
    · rw [List.map_append]
      exact List.mem_append_right _ (by simp)
end
end PY
set_option Elab.async false
set_option autoImplicit false
set_option linter.all false
set_option maxRecDepth 100000
set_option maxHeartbeats 4000000
/-! after_of, moves_of, check_move, after, walked. -/
namespace PY
open PySem L2 PySem.W
/-- sorted by a key that tells apart: what stands in order is it -/
theorem sorted_as {β γ : Type} {enc : β → PyData} (key : β → γ) {klt : γ → γ → Prop} [DecidableRel klt] (irr : ∀ a, ¬ klt a a) (tr : ∀ {a b c}, klt a b → klt b c → klt a c) (tri : ∀ a b, klt a b ∨ a = b ∨ klt b a) (l m : List β) (pm : m.Perm l) (up : m.Pairwise fun a b => klt (key a) (key b))
    (h : ∀ a b, a ∈ l → b ∈ l → dataLt (enc a) (enc b) = decide (klt (key a) (key b))) : l.mergeSort (dataLe false enc) = m := by
  have e : l.mergeSort (dataLe false enc) = l.mergeSort fun a b => !decide (klt (key b) (key a)) := sort_congr fun a ha b hb => by
    show (!dataLt (enc b) (enc a)) = _
    rw [h b a hb ha]
  have one : ∀ a b, a ∈ m → b ∈ m → key a = key b → a = b := fun a b ha hb q => by
    obtain ⟨i, hi⟩ := List.getElem?_of_mem ha
    obtain ⟨j, hj⟩ := List.getElem?_of_mem hb
    obtain ⟨i1, i2⟩ := List.getElem?_eq_some_iff.mp hi
    obtain ⟨j1, j2⟩ := List.getElem?_eq_some_iff.mp hj
    have pw := List.pairwise_iff_getElem.mp up
    rcases Nat.lt_trichotomy i j with z | z | z
    · have := pw i j i1 j1 z
      rw [i2, j2, q] at this
      exact absurd this (irr _)
    · subst z
      exact i2.symm.trans j2
    · have := pw j i j1 i1 z
      rw [i2, j2, q] at this
      exact absurd this (irr _)
  rw [e]
  refine sort_is l m pm (up.imp fun {a b} q => ?_) (fun a b ha hb h1 h2 => ?_) (fun a b c h1 h2 => ?_) fun a b => ?_
  · rw [Bool.not_eq_true', decide_eq_false_iff_not]
    exact fun z => irr _ (tr q z)
  · rw [Bool.not_eq_true', decide_eq_false_iff_not] at h1 h2
    rcases tri (key a) (key b) with z | z | z
    · exact absurd z h2
    · exact one a b (pm.mem_iff.mpr ha) (pm.mem_iff.mpr hb) z
    · exact absurd z h1
  · rw [Bool.not_eq_true', decide_eq_false_iff_not] at h1 h2 ⊢
    intro z
    rcases tri (key a) (key b) with q | q | q
    · exact h2 (tr z q)
    · rw [q] at z; exact h2 z
    · exact h1 q
  · rw [Bool.or_eq_true, Bool.not_eq_true', Bool.not_eq_true', decide_eq_false_iff_not, decide_eq_false_iff_not]
    by_cases z : klt (key b) (key a)
    · exact .inr fun q => irr _ (tr z q)
    · exact .inl z
theorem sorted_pieces {l : List Pc} (n : (l.map Prod.fst).Nodup) : l.mergeSort (dataLe false dPiece) = psort l := by
  refine sorted_as Prod.fst cellLt_irrefl (fun {a b c} => cellLt_trans) cellLt_tri l (psort l) (psort_perm l) (psort_up l n) fun a b ha hb => ?_
  by_cases c : a.1 = b.1
  · have e : a = b := by
      obtain ⟨i, hi⟩ := List.getElem?_of_mem ha
      obtain ⟨j, hj⟩ := List.getElem?_of_mem hb
      have q1 : (l.map Prod.fst)[i]? = some a.1 := by rw [List.getElem?_map, hi]; rfl
      have q2 : (l.map Prod.fst)[j]? = some a.1 := by rw [List.getElem?_map, hj, c]; rfl
      have := (List.getElem?_inj (List.getElem?_eq_some_iff.mp q1).1 n).mp (q1.trans q2.symm)
      subst this
      exact Option.some.inj (hi.symm.trans hj)
    subst e
    rw [decide_eq_false (cellLt_irrefl _)]
    exact PyProof.Rows.lex_irrefl _
  · exact dataLt_piece c
theorem sorted_moves {l : List Move} (n : l.Nodup) (ms : List Move) (h : ∀ m, m ∈ l ↔ m ∈ ms) : l.mergeSort (dataLe false dMove) = rise moveLt ms := by
  have up := rise_rising (lt := moveLt) (fun {a b c} => moveLt_trans) moveLt_tri ms
  exact sorted_as id moveLt_irrefl (fun {a b c} => moveLt_trans) moveLt_tri l _ ((List.perm_ext_iff_of_nodup (rising_nodup moveLt_irrefl up) n).mpr fun m => (mem_rise m ms).trans (h m).symm) up fun a b _ _ => dataLt_move a b
theorem sorted_cells {l : List Cell} (n : l.Nodup) (ms : List Cell) (h : ∀ m, m ∈ l ↔ m ∈ ms) : l.mergeSort (dataLe false dCell) = rise cellLt ms := by
  have up := rise_rising (lt := cellLt) (fun {a b c} => cellLt_trans) cellLt_tri ms
  exact sorted_as id cellLt_irrefl (fun {a b c} => cellLt_trans) cellLt_tri l _ ((List.perm_ext_iff_of_nodup (rising_nodup cellLt_irrefl up) n).mpr fun m => (mem_rise m ms).trans (h m).symm) up fun a b _ _ => dataLt_cell a b
theorem dd_piece (p : Pc) : (dPiece p).depth = 2 := by simp [dPiece, PyData.depth, PyData.depthAll, depth_cell]
theorem moved_snoc (m : Move) {l : List Pc} {i : Nat} {p : Pc} (h : l[i]? = some p) : moved m (l.take (i + 1)) = moved m (l.take i) ++ (if p.1 = m.1 then [(m.2, p.2)] else if p.1 = m.2 then [] else [p]) := by
  rw [take_succ_get h]
  unfold moved
  rw [List.flatMap_append]
  simp
section
variable {P : Program} {w : World} {K : PySem.W.Frag} {mg : Str → Option Value} {base : Heap} {C : Addr}
abbrev N_after_of : List Str := ["position", "move", "turn", "pieces", "found", "cell", "side", "kind"]
theorem sc_after_of : FnScope N_after_of ["position", "move"] (defScope s_after_of) := ⟨rfl, rfl, rfl, by decide +kernel, rfl, by decide +kernel, by decide +kernel⟩
def pre_after_of : List AV → Hp → PyData → Prop := fun as H d => ∃ (p : Ps) (m : Move), as = [.d (dPos p), .d (dMove m)] ∧ p.2.Pairwise pieceLt ∧ p.2.length ≤ 1000 ∧ d = dPos (after p m)
theorem kf_after_of (T : Txt K mg C) : Kf P w K mg base 1 "after_of" ["position", "move"] (spF pre_after_of) := by
  obtain ⟨f, fd, F, hm⟩ := T.f_after_of
  refine kf_mk F hm (pure_body F sc_after_of (fun as H d ⟨_, _, e, _⟩ => by rw [e]; rfl) fun cdv A outer s H vs as d Q E hr ha hp q => ?_) (fun _ _ _ _ _ _ us hl => match us, hl with | [_, _], _ => rfl)
  obtain ⟨p, m, rfl, up, few, rfl⟩ := hp
  obtain ⟨v0, _, rfl, h0, ha⟩ := ha.consD
  obtain ⟨v1, _, rfl, h1, ha⟩ := ha.consD
  cases ha.nilD
  have nd := sc_after_of.nd
  refine b_cons (s_asg (pg_tup rfl (pgs_cons (g_name 2 nd) (pgs_cons (g_name 3 nd) pgs_nil))) ((v_var 0 rfl).run fun H1 s1 => un2 (d1 := .int p.1) (d2 := dPieces p.2) (h0.keep s1) fun u1 u2 g1 g2 => ?_))
  refine b_cons (s_set 4 nd ((c_lst (N := fun a => H1 a = none) (ds := []) cs_nil fun _ h => h).run fun v H2 s2 hv => ?_))
  obtain ⟨l, xs, rfl, hl, nl, dl⟩ := hv.is_lst
  cases dl
  have A2 : Acc Never H1 H2 l [] := ⟨s2, nl, fun z => z, [], hl, .nil⟩
  refine b_cons (s_forT (bs := p.2) (enc := dPiece) rfl (pg_tup rfl (pgs_cons (g_name 5 nd) (pgs_cons (g_name 6 nd) (pgs_cons (g_name 7 nd) pgs_nil)))) ((v_var 3 rfl).run fun H3 s3 => ⟨All_,
    fun i σ' H' => ∃ o5 o6 o7, σ' = [some v0, some v1, some u1, some u2, some (.ref l), o5, o6, o7] ∧ Acc Never H1 H' l ((moved m (p.2.take i)).map dPiece), ⟨none, none, none, rfl, A2.keep s3⟩, fun i σ' H' _ ⟨_, _, _, _, A'⟩ => (g2.keep A'.s), ?_, ?_⟩))
  · rintro i pc x σ' H' hpc ⟨o5, o6, o7, rfl, A'⟩ hx
    refine un3 (d1 := dCell pc.1) (d2 := .int pc.2.1) (d3 := .str pc.2.2) hx fun w1 w2 w3 k1 k2 k3 => ?_
    have sH : Same H H' := s1.trans A'.s
    have hlen : (moved m (p.2.take i)).length ≤ 1000 := Nat.le_trans (moved_len m _) (by rw [List.length_take]; omega)
    have h1' := h1.keep sH
    refine b_one (s_ifB (t_cmp ((eq_d (by exact hu64 hr) (sh_cell _) (sh_cell _)).is (eqv_cell _ _)) (c_var 5 rfl k1) (c_ixT (ds := [dCell m.1, dCell m.2]) (c_var 1 rfl h1') c_int rfl)) (fun e H4 s4 => ?_) fun e H4 s4 => ?_)
    · refine b_one (s_expr (e_appA (d := dPiece (m.2, pc.2)) (v_var 4 rfl) (c_tup (ds := [dCell m.2, .int pc.2.1, .str pc.2.2]) (cs_cons (c_ixT (ds := [dCell m.1, dCell m.2]) (c_var 1 rfl ((h1'.keep s4).noL _ _ (noL_move _))) c_int rfl) (cs_cons (c_var 6 rfl ((k2.keep s4).noL _ _ (.int _))) (cs_cons (c_var 7 rfl ((k3.keep s4).noL _ _ (.str _))) cs_nil)))) (A'.keep s4) (by rw [List.length_map]; omega) fun H5 A5 _ => ⟨_, _, _, rfl, ?_⟩))
      rw [moved_snoc m hpc, if_pos (of_decide_eq_true e), List.map_append]
      exact A5
    · refine b_one (s_ifB (t_cmp ((ne_d (by exact hu64 hr) (sh_cell _) (sh_cell _)).is (by rw [eqv_cell])) (c_var 5 rfl (k1.keep s4)) (c_ixT (ds := [dCell m.1, dCell m.2]) (c_var 1 rfl (h1'.keep s4)) c_int rfl)) (fun e2 H5 s5 => ?_) fun e2 H5 s5 => b_nil ⟨_, _, _, rfl, ?_⟩)
      · rw [Bool.not_eq_true', decide_eq_false_iff_not] at e2
        refine b_one (s_expr (e_appA (d := dPiece pc) (v_var 4 rfl) (c_tup (ds := [dCell pc.1, .int pc.2.1, .str pc.2.2]) (cs_cons (c_var 5 rfl (((k1.keep s4).keep s5).noL _ _ (noL_cell _))) (cs_cons (c_var 6 rfl (((k2.keep s4).keep s5).noL _ _ (.int _))) (cs_cons (c_var 7 rfl (((k3.keep s4).keep s5).noL _ _ (.str _))) cs_nil)))) ((A'.keep s4).keep s5) (by rw [List.length_map]; omega) fun H6 A6 _ => ⟨_, _, _, rfl, ?_⟩))
        rw [moved_snoc m hpc, if_neg (of_decide_eq_false e), if_neg e2, List.map_append]
        exact A6
      · rw [Bool.not_eq_false', decide_eq_true_eq] at e2
        rw [moved_snoc m hpc, if_neg (of_decide_eq_false e), if_pos e2, List.append_nil]
        exact (A'.keep s4).keep s5
  rintro σ' H4 ⟨o5, o6, o7, rfl, A4⟩
  rw [List.take_length] at A4
  have nc := moved_cells m p.2 (up_cells up)
  have lm : (moved m p.2).length ≤ 1000 := Nat.le_trans (moved_len m _) few
  have hd : ∀ b ∈ moved m p.2, (bX P w K mg base N_after_of "after_of" s_after_of f cdv A outer s H E).A.units + 2 + (dPiece b).depth < cLine := fun b _ => by
    rw [dd_piece]
    have := hu64 hr
    omega
  refine b_one (s_ret (CD.run (CD.is (c_tup (ds := [.int (1 - p.1), .tuple (((moved m p.2).mergeSort (dataLe false dPiece)).map dPiece)]) (cs_cons (c_sub c_int (c_var 2 rfl (g1.keep A4.s))) (cs_cons (c_tupleL T.b_tuple ((c_sorted (N := All_) (bs := moved m p.2) (enc := dPiece) T.b_sorted (c_var 4 rfl (A4.dv trivial fun _ h => h.elim)) (allAlike_of _ alike_piece) (Sortable.tuples fun b => ⟨_, _, rfl⟩) hd (by omega) (fun _ _ => trivial)))) cs_nil))) ?_) fun v H5 s5 hv => q v H5 ((s1.trans A4.s).trans s5) (hv.noL _ _ (noL_pos _))))
  rw [sorted_pieces nc]
  rfl
end
end PY
set_option Elab.async false
set_option autoImplicit false
set_option linter.all false
set_option maxRecDepth 100000
set_option maxHeartbeats 4000000
/-! moves_of, check_move, after, walked, check_many, check_asked, end_of. -/
namespace PY
open PySem L2 PySem.W
theorem atI_m1 {α : Type} {xs : List α} {v : α} {n : Nat} (e : xs.length = n + 1) (h : xs[n]? = some v) : atI xs (-1) = some v := by
  have e2 : ixN xs.length (-1) = some n := by
    unfold ixN
    rw [if_neg (by decide), if_pos (by omega)]
    congr 1
    omega
  unfold atI
  rw [e2]
  exact h
theorem dd_move (m : Move) : (dMove m).depth = 2 := depth_move m
section
variable {P : Program} {w : World} {K : PySem.W.Frag} {mg : Str → Option Value} {base : Heap} {C : Addr}
theorem sh_pos_vd (v : Vd) : (match dVd v with | .none => false | _ => true) = !decide (v = .open_) := by
  cases v <;> simp [dVd]
abbrev N_moves_of : List Str := ["yard", "position", "move", "way"]
theorem sc_moves_of : FnScope N_moves_of ["yard", "position"] (defScope s_moves_of) := ⟨rfl, rfl, rfl, by decide +kernel, rfl, by decide +kernel, by decide +kernel⟩
def dMoves (ms : List Move) : PyData := .list (ms.map dMove)
def pre_moves_of (C : Addr) : List AV → Hp → PyData → Prop := fun as H d => ∃ y Y p, as = [.v (.ref y), .d (dPos p)] ∧ YardAt C H y Y ∧ OkY Y ∧ OkPos Y p ∧ d = dMoves (moves Y p)
theorem kf_moves_of (T : Txt K mg C) : Kf P w K mg base 8 "moves_of" ["yard", "position"] (spF (pre_moves_of C)) := by
  obtain ⟨f, fd, F, hm⟩ := T.f_moves_of
  have G1 : Kf P w K mg base 7 "verdict_of" ["yard", "position"] (spF (pre_verdict_of C)) := kf_verdict_of T
  have G2 : Kf P w K mg base 6 "all_ways" ["yard", "position"] (spF (pre_all_ways C)) := kf_all_ways T
  refine kf_mk F hm (pure_body F sc_moves_of (fun as H d ⟨_, _, _, e, _⟩ => by rw [e]; rfl) fun cdv A outer s H vs as d Q E hr ha hp q => ?_) (fun _ _ _ _ _ _ us hl => match us, hl with | [_, _], _ => rfl)
  obtain ⟨y, Y, p, rfl, hy, ok, okp, rfl⟩ := hp
  obtain ⟨_, rfl, ha, _⟩ := ha.consV
  obtain ⟨v1, _, rfl, h1, ha⟩ := ha.consD
  cases ha.nilD
  have nd := sc_moves_of.nd
  refine b_cons (s_ifB (t_cmp (isnot_n.is (sh_pos_vd (verdict Y p))) (c_call (d := dVd (verdict Y p)) G1 hr (as_v (v_var 0 rfl) (as_d (c_var 1 rfl h1) as_nil)) (fun H' s' => ⟨y, Y, p, rfl, hy.keep s', ok, okp, rfl⟩) (fun _ _ => trivial)) c_non) (fun e H1 s1 => ?_) fun e H1 s1 => b_nil ?_)
  · rw [Bool.not_eq_true', decide_eq_false_iff_not] at e
    have e0 : moves Y p = [] := by unfold moves; rw [if_neg e]
    rw [e0] at q
    exact b_one (s_ret (CD.run (d := .list []) (c_lst (ds := []) cs_nil fun p hp => s1.free hp) fun v H2 s2 hv => q v H2 (s1.trans s2) hv))
  · rw [Bool.not_eq_false', decide_eq_true_eq] at e
    have e0 : moves Y p = rise moveLt ((allWays Y p).map Prod.fst) := by unfold moves; rw [if_pos e]
    have lw : (allWays Y p).length ≤ 1000 := by
      have h1 := waysFrom_len Y ok p.1 p.2 p.2 okp.ps
      have h2 := okp.few
      unfold allWays
      omega
    refine b_one (s_ret (CD.run (CD.is (c_sortedSet (N := Free H) (bs := (allWays Y p).map Prod.fst) (ms := rise moveLt ((allWays Y p).map Prod.fst)) (enc := dMove) setty_move alike_move (fun b => ⟨_, _, rfl⟩) (fun b => by rw [dd_move]; decide) (could Y p) (fun b hb => ways_could hb) (by have := could_len ok okp; omega) rfl (by exact hu64 hr)
      (fun l n h => sorted_moves n _ h) T.b_sorted T.b_set (CD.is (c_lc0 (bs := allWays Y p) (enc := dMW) (own := [("move", 2), ("way", 3)]) (g := gT2 K 2 3) (N0 := fun a => H1 a = none) (fun x => dMove x.1) rfl nd (pi_list (ew _ _))
        (ci_list (c_call G2 (hr.mono (by decide)) (as_v (v_var 0 rfl) (as_d (c_var 1 rfl (h1.keep s1)) as_nil)) (fun H'' s'' => ⟨y, Y, p, rfl, hy.keep (s1.trans s''), ok, okp, rfl⟩) (fun _ h => h))) (blkOk_by (N := N_moves_of) (sc := defScope s_moves_of) (by decide +kernel)) (fun _ _ _ _ _ => pg_tup rfl (pgs_cons (g_name 2 nd) (pgs_cons (g_name 3 nd) pgs_nil))) (by omega) (fun p hp => s1.free hp) (fun p hp => s1.free hp) ?_) ?_) (fun p hp => s1.free hp)) ?_) fun v H2 s2 hv => q v H2 (s1.trans s2) hv))
    · intro N' x v H' hx s' hv hfr R k
      exact un2 (d1 := dMove x.1) (d2 := dWay x.2) hv fun w1 w2 j1 j2 => k _ rfl fun s Hb Cc cl fp => c_var 2 rfl j1
    · rw [List.map_map]; rfl
    · rw [e0]; rfl
abbrev N_check_move : List Str := ["yard", "position", "move"]
theorem sc_check_move : FnScope N_check_move ["yard", "position", "move"] (defScope s_check_move) := ⟨rfl, rfl, rfl, by decide +kernel, rfl, by decide +kernel, by decide +kernel⟩
def pre_check_move (C : Addr) : List AV → Hp → PyData → Prop := fun as H d => ∃ y Y p m, as = [.v (.ref y), .d (dPos p), .d (dMove m)] ∧ YardAt C H y Y ∧ OkY Y ∧ OkPos Y p ∧ m ∈ moves Y p ∧ d = .none
theorem kf_check_move (T : Txt K mg C) : Kf P w K mg base 9 "check_move" ["yard", "position", "move"] (spF (pre_check_move C)) := by
  obtain ⟨f, fd, F, hm⟩ := T.f_check_move
  have G0 : Kf P w K mg base 5 "check_position" ["yard", "position"] (spF (pre_check_position C)) := kf_check_position T
  have G1 : Kf P w K mg base 7 "verdict_of" ["yard", "position"] (spF (pre_verdict_of C)) := kf_verdict_of T
  have G2 : Kf P w K mg base 8 "moves_of" ["yard", "position"] (spF (pre_moves_of C)) := kf_moves_of T
  refine kf_mk F hm (pure_body F sc_check_move (fun as H d ⟨_, _, _, _, e, _⟩ => by rw [e]; rfl) fun cdv A outer s H vs as d Q E hr ha hp q => ?_) (fun _ _ _ _ _ _ us hl => match us, hl with | [_, _, _], _ => rfl)
  obtain ⟨y, Y, p, m, rfl, hy, ok, okp, hmv, rfl⟩ := hp
  obtain ⟨_, rfl, ha, _⟩ := ha.consV
  obtain ⟨v1, _, rfl, h1, ha⟩ := ha.consD
  obtain ⟨v2, _, rfl, h2, ha⟩ := ha.consD
  cases ha.nilD
  refine b_cons (s_expr (CD.run (N := All_) (d := .none) (c_call G0 (hr.mono (by decide)) (as_v (v_var 0 rfl) (as_d (c_var 1 rfl h1) as_nil)) (fun H' s' => ⟨y, Y, p, rfl, hy.keep s', okp, rfl⟩) (fun _ _ => trivial)) fun v H1 s1 hv => ?_))
  refine b_cons (s_ifB (k := false) (t_cmp (isnot_n.is ?_) (c_call (d := dVd (verdict Y p)) G1 (hr.mono (by decide)) (as_v (v_var 0 rfl) (as_d (c_var 1 rfl (h1.keep s1)) as_nil)) (fun H' s' => ⟨y, Y, p, rfl, hy.keep (s1.trans s'), ok, okp, rfl⟩) (fun _ _ => trivial)) c_non) (fun e H2 s2 => nomatch e) fun e H2 s2 => b_nil ?_)
  · rw [(mem_moves hmv).1]; rfl
  refine b_one (s_ifB (k := false) (t_cmp ((notin_d (by exact hu65 hr) (sh_move m) (sh_moves (moves Y p))).is (by rw [any_move, decide_eq_true hmv]; rfl)) (c_var 2 rfl ((h2.keep s1).keep s2)) (c_call G2 hr (as_v (v_var 0 rfl) (as_d (c_var 1 rfl ((h1.keep s1).keep s2)) as_nil)) (fun H' s' => ⟨y, Y, p, rfl, hy.keep ((s1.trans s2).trans s'), ok, okp, rfl⟩) (fun _ _ => trivial))) (fun e H3 s3 => nomatch e) fun e H3 s3 => b_nil ?_)
  exact q .non H3 ((s1.trans s2).trans s3) .non
theorem sc_after : FnScope N_check_move ["yard", "position", "move"] (defScope s_after) := ⟨rfl, rfl, rfl, by decide +kernel, rfl, by decide +kernel, by decide +kernel⟩
def pre_after (C : Addr) : List AV → Hp → PyData → Prop := fun as H d => ∃ y Y p m, as = [.v (.ref y), .d (dPos p), .d (dMove m)] ∧ YardAt C H y Y ∧ OkY Y ∧ OkPos Y p ∧ m ∈ moves Y p ∧ d = dPos (after p m)
theorem kf_after (T : Txt K mg C) : Kf P w K mg base 10 "after" ["yard", "position", "move"] (spF (pre_after C)) := by
  obtain ⟨f, fd, F, hm⟩ := T.f_after
  have G0 : Kf P w K mg base 9 "check_move" ["yard", "position", "move"] (spF (pre_check_move C)) := kf_check_move T
  have G1 : Kf P w K mg base 1 "after_of" ["position", "move"] (spF pre_after_of) := kf_after_of T
  refine kf_mk F hm (pure_body F sc_after (fun as H d ⟨_, _, _, _, e, _⟩ => by rw [e]; rfl) fun cdv A outer s H vs as d Q E hr ha hp q => ?_) (fun _ _ _ _ _ _ us hl => match us, hl with | [_, _, _], _ => rfl)
  obtain ⟨y, Y, p, m, rfl, hy, ok, okp, hmv, rfl⟩ := hp
  obtain ⟨_, rfl, ha, _⟩ := ha.consV
  obtain ⟨v1, _, rfl, h1, ha⟩ := ha.consD
  obtain ⟨v2, _, rfl, h2, ha⟩ := ha.consD
  cases ha.nilD
  have few := okp.few
  refine b_cons (s_expr (CD.run (N := All_) (d := .none) (c_call G0 hr (as_v (v_var 0 rfl) (as_d (c_var 1 rfl h1) (as_d (c_var 2 rfl h2) as_nil))) (fun H' s' => ⟨y, Y, p, m, rfl, hy.keep s', ok, okp, hmv, rfl⟩) (fun _ _ => trivial)) fun v H1 s1 hv => ?_))
  exact b_one (s_ret (CD.run (c_call G1 (hr.mono (by decide)) (as_d (c_var 1 rfl (h1.keep s1)) (as_d (c_var 2 rfl (h2.keep s1)) as_nil)) (fun H' s' => ⟨p, m, rfl, okp.up, by omega, rfl⟩) (fun _ h => s1.free h)) fun v H2 s2 hv => q v H2 (s1.trans s2) hv))
end
/-- the positions of a line -/
def walk : Ps → List Move → List Ps
  | p, [] => [p]
  | p, m :: l => p :: walk (after p m) l
/-- a line of moves, each there where it is made -/
def Legal (Y : Yr) : Ps → List Move → Prop
  | _, [] => True
  | p, m :: l => m ∈ moves Y p ∧ Legal Y (after p m) l
theorem walk_snoc : ∀ (p : Ps) (l : List Move) (m : Move), walk p (l ++ [m]) = walk p l ++ [after (endOf p l) m]
  | p, [], m => rfl
  | p, n :: l, m => by
    show p :: walk (after p n) (l ++ [m]) = _
    rw [walk_snoc (after p n) l m]
    rfl
theorem walk_len : ∀ (p : Ps) (l : List Move), (walk p l).length = l.length + 1
  | _, [] => rfl
  | p, m :: l => by rw [walk, List.length_cons, walk_len]; rfl
theorem walk_last : ∀ (p : Ps) (l : List Move), (walk p l)[l.length]? = some (endOf p l)
  | _, [] => rfl
  | p, m :: l => by
    rw [walk, List.length_cons, List.getElem?_cons_succ, walk_last]
    rfl
theorem endOf_snoc (p : Ps) (l : List Move) (m : Move) : endOf p (l ++ [m]) = after (endOf p l) m := by
  unfold endOf
  rw [List.foldl_append]
  rfl
theorem legal_at {Y : Yr} : ∀ {l : List Move} {p : Ps} {i : Nat} {m : Move}, OkPos Y p → Legal Y p l → l[i]? = some m → OkPos Y (endOf p (l.take i)) ∧ m ∈ moves Y (endOf p (l.take i))
  | [], _, _, _, _, _, h => by simp at h
  | n :: l, p, 0, m, ok, lg, h => by
    simp at h
    rw [← h]
    exact ⟨ok, lg.1⟩
  | n :: l, p, i + 1, m, ok, lg, h => legal_at (l := l) (p := after p n) (i := i) (ok_after ok lg.1) lg.2 (by simpa using h)
theorem legal_end {Y : Yr} : ∀ {l : List Move} {p : Ps}, OkPos Y p → Legal Y p l → OkPos Y (endOf p l)
  | [], _, ok, _ => ok
  | n :: l, p, ok, lg => legal_end (l := l) (ok_after ok lg.1) lg.2
theorem legal_walk {Y : Yr} : ∀ {l : List Move} {p : Ps}, OkPos Y p → Legal Y p l → ∀ q ∈ walk p l, OkPos Y q
  | [], p, ok, _, q, hq => by rw [List.mem_singleton.mp hq]; exact ok
  | n :: l, p, ok, lg, q, hq => by
    rcases List.mem_cons.mp hq with e | hq
    · rw [e]; exact ok
    · exact legal_walk (ok_after ok lg.1) lg.2 q hq
theorem lines_legal {Y : Yr} : ∀ {n : Nat} {p : Ps} {l : List Move}, l ∈ linesOf Y n p → l.length = n ∧ Legal Y p l
  | 0, p, l, h => by
    rw [List.mem_singleton.mp (show l ∈ [[]] from h)]
    exact ⟨rfl, trivial⟩
  | n + 1, p, l, h => by
    obtain ⟨m, hm, h⟩ := List.mem_flatMap.mp (show l ∈ (moves Y p).flatMap _ from h)
    obtain ⟨r, hr, rfl⟩ := List.mem_map.mp h
    have ih := lines_legal hr
    exact ⟨by rw [List.length_cons, ih.1], hm, ih.2⟩
def dPoss (ps : List Ps) : PyData := .list (ps.map dPos)
section
variable {P : Program} {w : World} {K : PySem.W.Frag} {mg : Str → Option Value} {base : Heap} {C : Addr}
abbrev N_walked : List Str := ["yard", "position", "line", "found", "move"]
theorem sc_walked : FnScope N_walked ["yard", "position", "line"] (defScope s_walked) := ⟨rfl, rfl, rfl, by decide +kernel, rfl, by decide +kernel, by decide +kernel⟩
def pre_walked (C : Addr) : List AV → Hp → PyData → Prop := fun as H d => ∃ y Y p l, as = [.v (.ref y), .d (dPos p), .d (dMoves l)] ∧ YardAt C H y Y ∧ OkY Y ∧ OkPos Y p ∧ Legal Y p l ∧ l.length ≤ 1000 ∧ d = dPoss (walk p l)
theorem kf_walked (T : Txt K mg C) : Kf P w K mg base 11 "walked" ["yard", "position", "line"] (spF (pre_walked C)) := by
  obtain ⟨f, fd, F, hm⟩ := T.f_walked
  have G0 : Kf P w K mg base 5 "check_position" ["yard", "position"] (spF (pre_check_position C)) := kf_check_position T
  have G1 : Kf P w K mg base 10 "after" ["yard", "position", "move"] (spF (pre_after C)) := kf_after T
  refine kf_mk F hm (pure_body F sc_walked (fun as H d ⟨_, _, _, _, e, _⟩ => by rw [e]; rfl) fun cdv A outer s H vs as d Q E hr ha hp q => ?_) (fun _ _ _ _ _ _ us hl => match us, hl with | [_, _, _], _ => rfl)
  obtain ⟨y, Y, p, l, rfl, hy, ok, okp, lg, ll, rfl⟩ := hp
  obtain ⟨_, rfl, ha, _⟩ := ha.consV
  obtain ⟨v1, _, rfl, h1, ha⟩ := ha.consD
  obtain ⟨v2, _, rfl, h2, ha⟩ := ha.consD
  cases ha.nilD
  have nd := sc_walked.nd
  refine b_cons (s_expr (CD.run (N := All_) (d := .none) (c_call G0 (hr.mono (by decide)) (as_v (v_var 0 rfl) (as_d (c_var 1 rfl h1) as_nil)) (fun H' s' => ⟨y, Y, p, rfl, hy.keep s', okp, rfl⟩) (fun _ _ => trivial)) fun v H1 s1 hv => ?_))
  refine b_cons (s_set 3 nd ((c_lst (N := fun a => H1 a = none) (ds := [dPos p]) (cs_cons (c_var 1 rfl ((h1.keep s1).noL _ _ (noL_pos p))) cs_nil) fun _ h => h).run fun v H2 s2 hv => ?_))
  obtain ⟨a, xs, rfl, hl, nl, dl⟩ := hv.is_lst
  have A2 : Acc Never H1 H2 a ((walk p (l.take 0)).map dPos) := ⟨s2, nl, fun z => z, xs, hl, Da.noL [dPos p] _ (fun d hd => by rw [List.mem_singleton.mp hd]; exact noL_pos p) dl⟩
  refine b_cons (s_forL (bs := l) (enc := dMove) rfl (g_name 4 nd) ((v_var 2 rfl).run fun H3 s3 => ⟨All_, fun i σ' H' => ∃ o4, σ' = [some (.ref y), some v1, some v2, some (.ref a), o4] ∧ Acc Never H1 H' a ((walk p (l.take i)).map dPos), ⟨none, rfl, A2.keep s3⟩, fun i σ' H' _ ⟨_, _, A'⟩ => h2.keep (s1.trans A'.s), ?_, ?_⟩))
  · rintro i m x σ' H' him ⟨o4, rfl, A'⟩ hx
    obtain ⟨okq, hmq⟩ := legal_at okp lg him
    have sH : Same H H' := s1.trans A'.s
    have hlt : i < l.length := (List.getElem?_eq_some_iff.mp him).1
    have hti : (l.take i).length = i := by rw [List.length_take]; omega
    have wl : (walk p (l.take i)).length = i + 1 := by rw [walk_len, hti]
    refine b_one (s_expr (e_appA (d := dPos (endOf p (l.take (i + 1)))) (v_var 3 rfl) (CD.noL (N := All_) (CD.is (c_call G1 hr (as_v (v_var 0 rfl) (as_d (c_ixL (N := All_) (ds := (walk p (l.take i)).map dPos) (d := dPos (endOf p (l.take i))) (c_var 3 rfl (A'.dv trivial fun _ h => h.elim)) (c_neg c_int) ?_) (as_d (c_var 4 rfl hx) as_nil))) (fun H'' s'' => ⟨y, Y, endOf p (l.take i), m, rfl, hy.keep (sH.trans s''), ok, okq, hmq, rfl⟩) (fun _ _ => trivial)) (by rw [take_succ_get him, endOf_snoc])) (noL_pos _)) A' (by rw [List.length_map, wl]; omega) fun H5 A5 _ => ⟨_, rfl, ?_⟩))
    · refine atI_m1 (n := i) (by rw [List.length_map, wl]) ?_
      have wla := walk_last p (l.take i)
      rw [hti] at wla
      rw [List.getElem?_map, wla]
      rfl
    · rw [take_succ_get him, walk_snoc, List.map_append] at *
      rw [endOf_snoc] at A5
      exact A5
  rintro σ' H4 ⟨o4, rfl, A4⟩
  rw [List.take_length] at A4
  exact b_one (s_ret ((v_var 3 rfl).run fun H6 s6 => q _ H6 (s1.trans (A4.keep s6).s) ((A4.keep s6).dv (s1.free A4.n) fun _ h => h.elim)))
theorem sc_check_many : FnScope ["many", "most"] ["many", "most"] (defScope s_check_many) := ⟨rfl, rfl, rfl, by decide +kernel, rfl, by decide +kernel, by decide +kernel⟩
def pre_check_many : List AV → Hp → PyData → Prop := fun as H d => ∃ i j : Int, as = [.d (.int i), .d (.int j)] ∧ 0 ≤ i ∧ i ≤ j ∧ d = .none
theorem kf_check_many (T : Txt K mg C) : Kf P w K mg base 1 "check_many" ["many", "most"] (spF pre_check_many) := by
  obtain ⟨f, fd, F, hm⟩ := T.f_check_many
  refine kf_mk F hm (pure_body F sc_check_many (fun as H d ⟨_, _, e, _⟩ => by rw [e]; rfl) fun cdv A outer s H vs as d Q E hr ha hp q => ?_) (fun _ _ _ _ _ _ us hl => match us, hl with | [_, _], _ => rfl)
  obtain ⟨i, j, rfl, h1, h2, rfl⟩ := hp
  obtain ⟨v0, _, rfl, g0, ha⟩ := ha.consD
  obtain ⟨v1, _, rfl, g1, ha⟩ := ha.consD
  cases ha.nilD
  refine b_one (s_ifB (k := false) (CT.is (t_not (t_chain le_i le_i c_int (c_var 0 rfl g0) (c_var 1 rfl g1))) (by simp [h1, h2])) (fun e H1 s1 => nomatch e) fun _ H1 s1 => b_nil (q .non H1 s1 .non))
abbrev N_check_asked : List Str := ["yard", "position", "side", "many"]
theorem sc_check_asked : FnScope N_check_asked ["yard", "position", "side", "many"] (defScope s_check_asked) := ⟨rfl, rfl, rfl, by decide +kernel, rfl, by decide +kernel, by decide +kernel⟩
def pre_check_asked (C : Addr) : List AV → Hp → PyData → Prop := fun as H d => ∃ y Y p s n, as = [.v (.ref y), .d (dPos p), .d (.int s), .d (.int n)] ∧ YardAt C H y Y ∧ OkPos Y p ∧ (s = 0 ∨ s = 1) ∧ 0 ≤ n ∧ n ≤ 8 ∧ d = .none
theorem kf_check_asked (T : Txt K mg C) : Kf P w K mg base 6 "check_asked" ["yard", "position", "side", "many"] (spF (pre_check_asked C)) := by
  obtain ⟨f, fd, F, hm⟩ := T.f_check_asked
  have G0 : Kf P w K mg base 5 "check_position" ["yard", "position"] (spF (pre_check_position C)) := kf_check_position T
  obtain ⟨t8, h8⟩ := T.i_MOST_MOVES
  refine kf_mk F hm (pure_body F sc_check_asked (fun as H d ⟨_, _, _, _, _, e, _⟩ => by rw [e]; rfl) fun cdv A outer s H vs as d Q E hr ha hp q => ?_) (fun _ _ _ _ _ _ us hl => match us, hl with | [_, _, _, _], _ => rfl)
  obtain ⟨y, Y, p, sd, n, rfl, hy, okp, hs, n0, n8, rfl⟩ := hp
  obtain ⟨_, rfl, ha, _⟩ := ha.consV
  obtain ⟨v1, _, rfl, h1, ha⟩ := ha.consD
  obtain ⟨v2, _, rfl, h2, ha⟩ := ha.consD
  obtain ⟨v3, _, rfl, h3, ha⟩ := ha.consD
  cases ha.nilD
  refine b_cons (s_expr (CD.run (N := All_) (d := .none) (c_call G0 hr (as_v (v_var 0 rfl) (as_d (c_var 1 rfl h1) as_nil)) (fun H' s' => ⟨y, Y, p, rfl, hy.keep s', okp, rfl⟩) (fun _ _ => trivial)) fun v H1 s1 hv => ?_))
  refine b_cons (s_ifB (k := false) (t_cmp ((notin_ti (is := [0, 1])).is ?_) (c_var 2 rfl (h2.keep s1)) (c_tup (cs_cons c_int (cs_cons c_int cs_nil)))) (fun e H2 s2 => nomatch e) fun e H2 s2 => b_nil ?_)
  · rcases hs with e | e <;> rw [e] <;> rfl
  exact b_one (s_ifB (k := false) (CT.is (t_not (t_chain le_i le_i c_int (c_var 3 rfl ((h3.keep s1).keep s2)) (c_gint h8))) (by simp [n0, n8])) (fun e H3 s3 => nomatch e) fun _ H3 s3 => b_nil (q .non H3 ((s1.trans s2).trans s3) .non))
abbrev N_end_of : List Str := ["position", "line", "move"]
theorem sc_end_of : FnScope N_end_of ["position", "line"] (defScope s_end_of) := ⟨rfl, rfl, rfl, by decide +kernel, rfl, by decide +kernel, by decide +kernel⟩
def pre_end_of : List AV → Hp → PyData → Prop := fun as H d => ∃ Y p l, as = [.d (dPos p), .d (dMoves l)] ∧ OkPos Y p ∧ Legal Y p l ∧ d = dPos (endOf p l)
theorem kf_end_of (T : Txt K mg C) : Kf P w K mg base 2 "end_of" ["position", "line"] (spF pre_end_of) := by
  obtain ⟨f, fd, F, hm⟩ := T.f_end_of
  have G1 : Kf P w K mg base 1 "after_of" ["position", "move"] (spF pre_after_of) := kf_after_of T
  refine kf_mk F hm (pure_body F sc_end_of (fun as H d ⟨_, _, _, e, _⟩ => by rw [e]; rfl) fun cdv A outer s H vs as d Q E hr ha hp q => ?_) (fun _ _ _ _ _ _ us hl => match us, hl with | [_, _], _ => rfl)
  obtain ⟨Y, p, l, rfl, okp, lg, rfl⟩ := hp
  obtain ⟨v0, _, rfl, h0, ha⟩ := ha.consD
  obtain ⟨v1, _, rfl, h1, ha⟩ := ha.consD
  cases ha.nilD
  have nd := sc_end_of.nd
  refine b_cons (s_forL (bs := l) (enc := dMove) rfl (g_name 2 nd) ((v_var 1 rfl).run fun H1 s1 => ⟨All_, fun i σ' H' => ∃ v o2, σ' = [some v, some v1, o2] ∧ Same H H' ∧ Dv All_ H' v (dPos (endOf p (l.take i))), ⟨v0, none, rfl, s1, h0.keep s1⟩, fun i σ' H' _ ⟨_, _, _, s', _⟩ => h1.keep s', ?_, ?_⟩))
  · rintro i m x σ' H' him ⟨v, o2, rfl, s', hv⟩ hx
    obtain ⟨okq, hmq⟩ := legal_at okp lg him
    have few := okq.few
    refine b_one (s_set 0 nd (CD.run (N := All_) (d := dPos (endOf p (l.take (i + 1)))) (CD.is (c_call G1 hr (as_d (c_var 0 rfl hv) (as_d (c_var 2 rfl hx) as_nil)) (fun H'' s'' => ⟨endOf p (l.take i), m, rfl, okq.up, by omega, rfl⟩) (fun _ _ => trivial)) (by rw [take_succ_get him, endOf_snoc])) fun u H2 s2 hu => ⟨u, _, rfl, s'.trans s2, hu⟩))
  rintro σ' H2 ⟨v, o2, rfl, s2, hv⟩
  rw [List.take_length] at hv
  exact b_one (s_ret (CD.run (N := All_) (d := dPos (endOf p l)) (c_var 0 rfl hv) fun u H3 s3 hu => q u H3 (s2.trans s3) (hu.noL _ _ (noL_pos _))))
end
end PY
set_option Elab.async false
set_option autoImplicit false
set_option linter.all false
set_option maxRecDepth 100000
set_option maxHeartbeats 4000000
/-! lines_of, lines, together, _law_ends. -/
namespace PY
open PySem L2 PySem.W
section
variable {N : Addr → Prop} {X : Cx} {a b : Expr} {σ : L2.St} {H : Hp} {ds : List PyData} {pos : Pos}
/-- xs[:e] -/
theorem c_upTo {i : Int} {p2 : Pos} (ha : CD N X a σ H (.list ds)) (hb : CD All_ X b σ H (.int i)) (hN : ∀ p, H p = none → N p) : CD N X (.Subscript a (.Slice none (some b) none p2) pos) σ H (.list (ds.take (HT.sIx ds.length ds.length (some i)))) := fun H1 s1 Q q =>
  (pe_slice sl_list (ew X a) po_none (po_some (ew X b))).w (c_two ha hb s1 fun x y H2 s2 hx hy => by
    obtain ⟨l, xs, rfl, hl, nl, dl⟩ := hx.is_lst
    refine ⟨i, hy.is_int, l, xs, rfl, SqL.of hl, fun p hp => ?_⟩
    refine q _ _ (s2.trans (same_new hp)) (.lst upd_same (hN p ((s1.trans s2).free hp)) ?_)
    have e : cutV xs none (some i) = xs.take (HT.sIx ds.length ds.length (some i)) := by
      unfold cutV
      rw [dl.length]
      rfl
    rw [e]
    exact (dl.take _).keep (same_new hp))
theorem nones_da : ∀ n : Nat, Da N H (List.replicate n [V.non]).flatten ((List.replicate n ()).map fun _ => .none)
  | 0 => .nil
  | n + 1 => .cons .non (nones_da n)
/-- [None] * n -/
theorem c_nones {n : Nat} (ha : CD N X a σ H (.list [.none])) (hb : CD All_ X b σ H (.int n)) (hn : n ≤ 1000) (hN : ∀ p, H p = none → N p) : CD N X (.BinOp a .Mult b pos) σ H (.list ((List.replicate n ()).map fun _ => .none)) := fun H1 s1 Q q =>
  (pe_op op_rep (ew X a) (ew X b)).w (c_two ha hb s1 fun x y H2 s2 hx hy => by
    obtain ⟨l, xs, rfl, hl, nl, dl⟩ := hx.is_lst
    cases dl with
    | cons d1 d2 =>
      cases d2
      rw [d1.is_non] at hl
      refine ⟨l, n, [.non], rfl, hy.is_int, hl, by omega, by omega, ?_, fun p hp => ?_⟩
      · rw [Int.toNat_natCast, sizeLine_eq, List.length_singleton]; omega
      · refine q _ _ (s2.trans (same_new hp)) (.lst upd_same (hN p ((s1.trans s2).free hp)) ?_)
        rw [Int.toNat_natCast]
        exact nones_da n)
end
section
variable {P : Program} {w : World} {K : PySem.W.Frag} {mg : Str → Option Value} {base : Heap} {C : Addr}
abbrev N_lines_of : List Str := ["yard", "position", "many", "found", "move", "line"]
theorem sc_lines_of : FnScope N_lines_of ["yard", "position", "many"] (defScope s_lines_of) := ⟨rfl, rfl, rfl, by decide +kernel, rfl, by decide +kernel, by decide +kernel⟩
def dLines (ls : List (List Move)) : PyData := .list (ls.map dMoves)
def pre_lines_of (C : Addr) (n : Nat) : List AV → Hp → PyData → Prop := fun as H d => ∃ y Y p, as = [.v (.ref y), .d (dPos p), .d (.int (n : Int))] ∧ YardAt C H y Y ∧ OkY Y ∧ OkPos Y p ∧ d = dLines (linesOf Y n p)
theorem pow48 {n : Nat} (h : n ≤ 4) : 48 ^ n ≤ 5308416 := Nat.le_trans (Nat.pow_le_pow_right (by decide) h) (by decide)
theorem lines_snoc (Y : Yr) (n : Nat) (p : Ps) {l : List Move} {i : Nat} {m : Move} (h : l[i]? = some m) : ((l.take (i + 1)).flatMap fun m => (linesOf Y n (after p m)).map fun r => m :: r) = ((l.take i).flatMap fun m => (linesOf Y n (after p m)).map fun r => m :: r) ++ (linesOf Y n (after p m)).map fun r => m :: r := by
  rw [take_succ_get h, List.flatMap_append]
  simp
theorem kf_lines_of (T : Txt K mg C) : ∀ n : Nat, n ≤ 4 → Kf P w K mg base (9 + n) "lines_of" ["yard", "position", "many"] (spF (pre_lines_of C n))
  | 0, _ => by
    obtain ⟨f, fd, F, hm⟩ := T.f_lines_of
    refine kf_mk F hm (pure_body (k := 8) F sc_lines_of (fun as H d ⟨_, _, _, e, _⟩ => by rw [e]; rfl) fun cdv A outer s H vs as d Q E hr ha hp q => ?_) (fun _ _ _ _ _ _ us hl => match us, hl with | [_, _, _], _ => rfl)
    obtain ⟨y, Y, p, rfl, hy, ok, okp, rfl⟩ := hp
    obtain ⟨_, rfl, ha, _⟩ := ha.consV
    obtain ⟨v1, _, rfl, h1, ha⟩ := ha.consD
    obtain ⟨v2, _, rfl, h2, ha⟩ := ha.consD
    cases ha.nilD
    refine b_cons (s_ifB (k := true) (t_cmp eq_i (c_var 2 rfl h2) c_int) (fun _ H1 s1 => ?_) fun e => nomatch e)
    exact b_one (s_ret (CD.run (d := .list [.list []]) (c_lst (ds := [.list []]) (cs_cons (c_lst (ds := []) cs_nil fun p hp => s1.free hp) cs_nil) fun p hp => s1.free hp) fun v H2 s2 hv => q v H2 (s1.trans s2) hv))
  | n + 1, hn4 => by
    obtain ⟨f, fd, F, hm⟩ := T.f_lines_of
    have G0 : Kf P w K mg base 8 "moves_of" ["yard", "position"] (spF (pre_moves_of C)) := kf_moves_of T
    have G1 : Kf P w K mg base 1 "after_of" ["position", "move"] (spF pre_after_of) := kf_after_of T
    have G2 : Kf P w K mg base (9 + n) "lines_of" ["yard", "position", "many"] (spF (pre_lines_of C n)) := kf_lines_of T n (by omega)
    refine kf_mk F hm (pure_body (k := 9 + n) F sc_lines_of (fun as H d ⟨_, _, _, e, _⟩ => by rw [e]; rfl) fun cdv A outer s H vs as d Q E hr ha hp q => ?_) (fun _ _ _ _ _ _ us hl => match us, hl with | [_, _, _], _ => rfl)
    obtain ⟨y, Y, p, rfl, hy, ok, okp, rfl⟩ := hp
    obtain ⟨_, rfl, ha, _⟩ := ha.consV
    obtain ⟨v1, _, rfl, h1, ha⟩ := ha.consD
    obtain ⟨v2, _, rfl, h2, ha⟩ := ha.consD
    cases ha.nilD
    have nd := sc_lines_of.nd
    have few := okp.few
    refine b_cons (s_ifB (k := false) (CT.is (t_cmp eq_i (c_var 2 rfl h2) c_int) (decide_eq_false (by omega))) (fun e => nomatch e) fun _ H1 s1 => b_nil ?_)
    refine b_cons (s_set 3 nd ((c_lst (N := fun a => H1 a = none) (ds := []) cs_nil fun _ h => h).run fun v H2 s2 hv => ?_))
    obtain ⟨l, xs, rfl, hl, nl, dl⟩ := hv.is_lst
    cases dl
    have A2 : Acc (fun a => H1 a = none ∧ a ≠ l) H1 H2 l [] := ⟨s2, nl, fun z => z.2 rfl, [], hl, .nil⟩
    refine b_cons (s_forL (bs := moves Y p) (enc := dMove) rfl (g_name 4 nd) ((c_call (N := fun a => H2 a = none) (d := dMoves (moves Y p)) G0 (hr.mono (by omega)) (as_v (v_var 0 rfl) (as_d (c_var 1 rfl (h1.keep (s1.trans s2))) as_nil)) (fun H'' s'' => ⟨y, Y, p, rfl, hy.keep ((s1.trans s2).trans s''), ok, okp, rfl⟩) (fun _ h => h)).run fun v H3 s3 hv => ⟨fun a => H2 a = none, fun i σ' H' => ∃ o4, σ' = [some (.ref y), some v1, some v2, some (.ref l), o4, none] ∧ (Acc (fun a => H1 a = none ∧ a ≠ l) H1 H' l (((((moves Y p).take i).flatMap fun m => (linesOf Y n (after p m)).map fun r => m :: r)).map dMoves) ∧ Dv (fun a => H2 a = none) H' v (dMoves (moves Y p))), ⟨none, rfl, A2.keep s3, hv⟩, fun i σ' H' _ ⟨_, _, _, h⟩ => h, ?_, ?_⟩))
    · rintro i m x σ' H' him ⟨o4, rfl, A', hv'⟩ hx
      have sH : Same H H' := s1.trans A'.s
      have hmm : m ∈ moves Y p := List.mem_of_getElem? him
      have oka := ok_after okp hmm
      have hbig := lines_take ok n p okp (i + 1)
      rw [lines_snoc Y n p him, List.length_append] at hbig
      have hp48 := pow48 hn4
      have frN : ∀ a, H' a = none → H1 a = none ∧ a ≠ l := fun a ha => ⟨A'.s.free ha, A'.fresh a ha⟩
      have hle := lines_len ok n _ oka
      have hp48' := pow48 (show n ≤ 4 by omega)
      refine b_one (s_expr (e_extA (N1 := fun a => H1 a = none ∧ a ≠ l) (es := (linesOf Y n (after p m)).map fun r => dMoves (m :: r)) (v_var 3 rfl) (c_lc0 (bs := linesOf Y n (after p m)) (enc := dMoves) (own := [("line", 5)]) (g := gName 5) (N0 := fun a => H1 a = none ∧ a ≠ l) (fun r => dMoves (m :: r)) rfl nd (pi_list (ew _ _))
        (ci_list (c_call G2 hr (as_v (v_var 0 rfl) (as_d (c_call (d := dPos (after p m)) G1 (hr.mono (by omega)) (as_d (c_var 1 rfl (h1.keep sH)) (as_d (c_var 4 rfl hx.any) as_nil)) (fun H'' s'' => ⟨p, m, rfl, okp.up, by omega, rfl⟩) (fun _ _ => trivial)) (as_d (d := .int (n : Int)) (CD.is (c_sub (c_var 2 rfl (h2.keep sH)) c_int) (by rw [show ((n + 1 : Nat) : Int) - 1 = (n : Int) by omega])) as_nil))) (fun H'' s'' => ⟨y, Y, after p m, rfl, hy.keep (sH.trans s''), ok, oka, rfl⟩) frN)) (blkOk_by (N := N_lines_of) (sc := defScope s_lines_of) (by decide +kernel)) (fun _ _ _ _ _ => g_name 5 nd) ?_ frN (fun _ h => h) ?_)
        A' (by rw [List.length_map, List.length_map]; rw [List.length_map] at hbig; omega) (fun vs H4 s4 hvs => hvs) fun H4 A4 s4 => ⟨_, rfl, ?_, ?_⟩))
      · omega
      · intro N' r x' H5 hr5 s5 hx5 hfr R k
        exact k _ rfl fun s Hb Cc cl fp => c_cat (ds := [dMove m]) (es' := r.map dMove) (c_lst (ds := [dMove m]) (cs_cons (c_var 4 rfl ((hx.keep s5).noL _ _ (noL_move m))) cs_nil) hfr) (c_var 5 rfl hx5) (by
          have := (lines_legal hr5).1
          rw [List.length_map, this, List.length_singleton, sizeLine_eq]
          omega) hfr
      · rw [lines_snoc Y n p him, List.map_append, List.map_map]
        exact A4
      · obtain ⟨xs, hxs, _⟩ := A'.ex
        exact hv'.but s4 hxs fun z => by
          rw [hl] at z
          cases z
    rintro σ' H4 ⟨o4, rfl, A4, _⟩
    rw [List.take_length] at A4
    exact b_one (s_ret ((v_var 3 rfl).run fun H6 s6 => q _ H6 (s1.trans (A4.keep s6).s) ((A4.keep s6).dv (s1.free A4.n) fun a h => s1.free h.1)))
end
end PY
set_option Elab.async false
set_option autoImplicit false
set_option linter.all false
set_option maxRecDepth 100000
set_option maxHeartbeats 4000000
/-! lines, together, _law_ends. -/
namespace PY
open PySem L2 PySem.W
/-- the lines of k moves that end won by s -/
def winLines (Y : Yr) (s : Int) (k : Nat) (p : Ps) : List (List Move) := (linesOf Y k p).filter fun l => decide (verdict Y (endOf p l) = .won s)
/-- what together tells -/
def Tog (Y : Yr) (s : Int) (n : Nat) (p : Ps) (d : PyData) : Prop :=
  (∃ k, (k ≤ n ∧ winLines Y s k p ≠ []) ∧ (∀ j, j < k → winLines Y s j p = []) ∧ d = .tuple [.int (k : Int), dLines (winLines Y s k p)]) ∨ ((∀ k, k ≤ n → winLines Y s k p = []) ∧ d = .none)
theorem line_sh (l : List Move) : SeqAt.shaped (dMoves l) = true := sh_moves l
section
variable {P : Program} {w : World} {K : PySem.W.Frag} {mg : Str → Option Value} {base : Heap} {C : Addr}
abbrev N_lines : List Str := ["yard", "position", "many"]
theorem sc_lines : FnScope N_lines ["yard", "position", "many"] (defScope s_lines) := ⟨rfl, rfl, rfl, by decide +kernel, rfl, by decide +kernel, by decide +kernel⟩
def pre_lines (C : Addr) : List AV → Hp → PyData → Prop := fun as H d => ∃ y Y p, ∃ n : Nat, as = [.v (.ref y), .d (dPos p), .d (.int (n : Int))] ∧ YardAt C H y Y ∧ OkY Y ∧ OkPos Y p ∧ n ≤ 4 ∧ d = dLines (linesOf Y n p)
theorem kf_lines (T : Txt K mg C) : Kf P w K mg base 14 "lines" ["yard", "position", "many"] (spF (pre_lines C)) := by
  obtain ⟨f, fd, F, hm⟩ := T.f_lines
  have G0 : Kf P w K mg base 5 "check_position" ["yard", "position"] (spF (pre_check_position C)) := kf_check_position T
  have G1 : Kf P w K mg base 1 "check_many" ["many", "most"] (spF pre_check_many) := kf_check_many T
  obtain ⟨t4, h4⟩ := T.i_MOST_LINES
  refine kf_mk F hm (pure_body F sc_lines (fun as H d ⟨_, _, _, _, e, _⟩ => by rw [e]; rfl) fun cdv A outer s H vs as d Q E hr ha hp q => ?_) (fun _ _ _ _ _ _ us hl => match us, hl with | [_, _, _], _ => rfl)
  obtain ⟨y, Y, p, n, rfl, hy, ok, okp, hn, rfl⟩ := hp
  obtain ⟨_, rfl, ha, _⟩ := ha.consV
  obtain ⟨v1, _, rfl, h1, ha⟩ := ha.consD
  obtain ⟨v2, _, rfl, h2, ha⟩ := ha.consD
  cases ha.nilD
  have G2 : Kf P w K mg base (9 + n) "lines_of" ["yard", "position", "many"] (spF (pre_lines_of C n)) := kf_lines_of T n hn
  refine b_cons (s_expr (CD.run (N := All_) (d := .none) (c_call G0 (hr.mono (by decide)) (as_v (v_var 0 rfl) (as_d (c_var 1 rfl h1) as_nil)) (fun H' s' => ⟨y, Y, p, rfl, hy.keep s', okp, rfl⟩) (fun _ _ => trivial)) fun v H1 s1 hv => ?_))
  refine b_cons (s_expr (CD.run (N := All_) (d := .none) (c_call G1 (hr.mono (by decide)) (as_d (c_var 2 rfl (h2.keep s1)) (as_d (c_gint h4) as_nil)) (fun H' s' => ⟨n, 4, rfl, by omega, by omega, rfl⟩) (fun _ _ => trivial)) fun v H2 s2 hv => ?_))
  exact b_one (s_ret (CD.run (c_call G2 (hr.mono (by omega)) (as_v (v_var 0 rfl) (as_d (c_var 1 rfl (h1.keep (s1.trans s2))) (as_d (c_var 2 rfl (h2.keep (s1.trans s2))) as_nil))) (fun H' s' => ⟨y, Y, p, rfl, hy.keep ((s1.trans s2).trans s'), ok, okp, rfl⟩) (fun _ h => (s1.trans s2).free h)) fun v H3 s3 hv => q v H3 ((s1.trans s2).trans s3) hv))
abbrev N_together : List Str := ["yard", "position", "side", "many", "number", "some", "found", "line"]
theorem sc_together : FnScope N_together ["yard", "position", "side", "many"] (defScope s_together) := ⟨rfl, rfl, rfl, by decide +kernel, rfl, by decide +kernel, by decide +kernel⟩
def pre_together (C : Addr) : List AV → Hp → PyData → Prop := fun as H d => ∃ y Y p s, ∃ n : Nat, as = [.v (.ref y), .d (dPos p), .d (.int s), .d (.int (n : Int))] ∧ YardAt C H y Y ∧ OkY Y ∧ OkPos Y p ∧ (s = 0 ∨ s = 1) ∧ n ≤ 4 ∧ Tog Y s n p d
theorem kf_together (T : Txt K mg C) : Kf P w K mg base 14 "together" ["yard", "position", "side", "many"] (spF (pre_together C)) := by
  obtain ⟨f, fd, F, hm⟩ := T.f_together
  have G0 : Kf P w K mg base 5 "check_position" ["yard", "position"] (spF (pre_check_position C)) := kf_check_position T
  have G1 : Kf P w K mg base 1 "check_many" ["many", "most"] (spF pre_check_many) := kf_check_many T
  have G3 : Kf P w K mg base 7 "verdict_of" ["yard", "position"] (spF (pre_verdict_of C)) := kf_verdict_of T
  have G4 : Kf P w K mg base 2 "end_of" ["position", "line"] (spF pre_end_of) := kf_end_of T
  obtain ⟨t4, h4⟩ := T.i_MOST_LINES
  refine kf_mk F hm (pure_body F sc_together (fun as H d ⟨_, _, _, _, _, e, _⟩ => by rw [e]; rfl) fun cdv A outer s H vs as d Q E hr ha hp q => ?_) (fun _ _ _ _ _ _ us hl => match us, hl with | [_, _, _, _], _ => rfl)
  obtain ⟨y, Y, p, sd, n, rfl, hy, ok, okp, hs, hn, hT⟩ := hp
  obtain ⟨_, rfl, ha, _⟩ := ha.consV
  obtain ⟨v1, _, rfl, h1, ha⟩ := ha.consD
  obtain ⟨v2, _, rfl, h2, ha⟩ := ha.consD
  obtain ⟨v3, _, rfl, h3, ha⟩ := ha.consD
  cases ha.nilD
  have nd := sc_together.nd
  refine b_cons (s_expr (CD.run (N := All_) (d := .none) (c_call G0 (hr.mono (by decide)) (as_v (v_var 0 rfl) (as_d (c_var 1 rfl h1) as_nil)) (fun H' s' => ⟨y, Y, p, rfl, hy.keep s', okp, rfl⟩) (fun _ _ => trivial)) fun v H1 s1 hv => ?_))
  refine b_cons (s_ifB (k := false) (t_cmp ((notin_ti (is := [0, 1])).is ?_) (c_var 2 rfl (h2.keep s1)) (c_tup (cs_cons c_int (cs_cons c_int cs_nil)))) (fun e H2 s2 => nomatch e) fun e H2 s2 => b_nil ?_)
  · rcases hs with e | e <;> rw [e] <;> rfl
  refine b_cons (s_expr (CD.run (N := All_) (d := .none) (c_call G1 (hr.mono (by decide)) (as_d (c_var 3 rfl ((h3.keep s1).keep s2)) (as_d (c_gint h4) as_nil)) (fun H' s' => ⟨n, 4, rfl, by omega, by omega, rfl⟩) (fun _ _ => trivial)) fun v H3 s3 hv => ?_))
  have sH3 : Same H H3 := (s1.trans s2).trans s3
  refine b_cons (s_forR rfl T.b_range (g_name 4 nd) (CD.run (N := All_) (d := .int ((n : Int) + 1)) (c_add (c_var 3 rfl (h3.keep sH3)) c_int) fun v H4 s4 hv => ⟨n + 1, fun i σ' H' => ∃ o4 o5 o6, σ' = [some (.ref y), some v1, some v2, some v3, o4, o5, o6, none] ∧ Same H H' ∧ ∀ j, j < i → winLines Y sd j p = [], by rw [hv.is_int]; rfl, by omega, ⟨none, none, none, rfl, sH3.trans s4, by omega⟩, ?_, ?_⟩))
  · rintro i σ' H' hi ⟨o4, o5, o6, rfl, s', hj⟩
    have G2 : Kf P w K mg base (9 + i) "lines_of" ["yard", "position", "many"] (spF (pre_lines_of C i)) := kf_lines_of T i (by omega)
    have hp48 := pow48 (show i ≤ 4 by omega)
    have hle := lines_len ok i p okp
    show wB _ _ _ _ _
    refine b_cons (s_set 5 nd (CD.run (N := fun a => H a = none) (d := dLines (linesOf Y i p)) (c_call G2 (hr.mono (by omega)) (as_v (v_var 0 rfl) (as_d (c_var 1 rfl (h1.keep s')) (as_d (c_var 4 rfl (d := .int (i : Int)) (.int _)) as_nil))) (fun H'' s'' => ⟨y, Y, p, rfl, hy.keep (s'.trans s''), ok, okp, rfl⟩) (fun _ h => s'.free h)) fun v H5 s5 hv5 => ?_))
    refine b_cons (s_setLc1 (own := [("line", 7)]) 6 rfl nd (pi_list (ew _ _)) (blkOk_by (N := N_together) (sc := defScope s_together) (by decide +kernel)) (fun _ _ _ _ _ => g_name 7 nd) (lc_read1 (bs := linesOf Y i p) (enc := dMoves) (N := fun a => H a = none) (N0 := fun a => H a = none) (fun l => decide (verdict Y (endOf p l) = .won sd)) dMoves (ci_list (c_var 5 rfl hv5)) (by omega) (fun a ha => (s'.trans s5).free ha) (fun _ h => h) ?_ (Same.refl _) fun v' H6 s6 hv6 => ?_))
    · intro N' l x H7 hl s7 hx hfr R k
      have lg := (lines_legal hl).2
      have s7' := (s'.trans s5).trans s7
      refine k _ rfl (fun s Hb Cc cl fp => ?_) fun _ s Hb Cc cl fp => c_var 7 rfl hx
      exact t_cmp ((eq_d (by exact hu64 hr) (sh_vd _) (sh_int _)).is (eqv_vd _ _)) (c_call (d := dVd (verdict Y (endOf p l))) G3 (by exact hr.mono (by decide)) (as_v (v_var 0 rfl) (as_d (c_call (d := dPos (endOf p l)) G4 (by exact hr.mono (by decide)) (as_d (c_var 1 rfl (h1.keep s7')) (as_d (c_var 7 rfl hx.any) as_nil)) (fun H'' s'' => ⟨Y, p, l, rfl, okp, lg, rfl⟩) (fun _ _ => trivial)) as_nil)) (fun H'' s'' => ⟨y, Y, endOf p l, rfl, hy.keep (s7'.trans s''), ok, legal_end okp lg, rfl⟩) (fun _ _ => trivial)) (c_var 2 rfl (h2.keep s7'))
    · have hv6' : Dv (fun a => H a = none) H6 v' (dLines (winLines Y sd i p)) := hv6
      have s6' := (s'.trans s5).trans s6
      refine b_one (s_ifB (t_cmp gt_i (c_lenL T.b_len (c_var 6 rfl hv6'.any)) c_int) (fun e H7 s7 => ?_) fun e H7 s7 => b_nil ?_)
      · have e0 : winLines Y sd i p ≠ [] := fun z => by
          rw [z] at e
          exact absurd (of_decide_eq_true e) (by decide)
        have ed : d = .tuple [.int (i : Int), dLines (winLines Y sd i p)] := by
          rcases hT with ⟨k, ⟨hk, hw⟩, hlt, hd⟩ | ⟨hno, _⟩
          · rcases Nat.lt_trichotomy k i with z | z | z
            · exact absurd (hj k z) hw
            · rw [← z]; exact hd
            · exact absurd (hlt i z) e0
          · exact absurd (hno i (by omega)) e0
        rw [ed] at q
        exact b_one (s_ret (CD.run (d := .tuple [.int (i : Int), dLines (winLines Y sd i p)]) (c_tup (cs_cons (c_var 4 rfl (.int _)) (cs_cons (c_var 6 rfl (hv6'.keep s7)) cs_nil))) fun v H8 s8 hv8 => q v H8 ((s6'.trans s7).trans s8) hv8))
      · have e0 : winLines Y sd i p = [] := by
          have e1 := of_decide_eq_false e
          rw [List.length_map] at e1
          exact List.eq_nil_of_length_eq_zero (by omega)
        refine ⟨_, _, _, rfl, s6'.trans s7, fun j hj' => ?_⟩
        rcases Nat.lt_or_ge j i with z | z
        · exact hj j z
        · rw [show j = i by omega]; exact e0
  rintro σ' H4 ⟨o4, o5, o6, rfl, s4, hj⟩
  have ed : d = .none := by
    rcases hT with ⟨k, ⟨hk, hw⟩, _, _⟩ | ⟨_, hd⟩
    · exact absurd (hj k (by omega)) hw
    · exact hd
  rw [ed] at q
  exact b_one (s_ret (CD.run (d := .none) c_non fun v H5 s5 hv => q v H5 (s4.trans s5) hv))
end
end PY
set_option Elab.async false
set_option autoImplicit false
set_option linter.all false
set_option maxRecDepth 100000
set_option maxHeartbeats 4000000
/-! _law_ends. -/
namespace PY
open PySem L2 PySem.W
theorem sIx_m1 (n : Nat) : HT.sIx (n + 1) (n + 1) (some (-1)) = n := by
  show (if (-1 : Int) < 0 then ((-1 : Int) + ((n + 1 : Nat) : Int)).toNat else min (-1 : Int).toNat (n + 1)) = n
  rw [if_pos (by decide)]
  omega
theorem told_take {Y : Yr} : ∀ {l : List Move} {p : Ps}, Legal Y p l → ((walk p l).map fun q => dVd (verdict Y q)).take l.length = (List.replicate l.length ()).map fun _ => .none
  | [], _, _ => rfl
  | m :: l, p, lg => by
    rw [walk, List.map_cons, List.length_cons, List.take_succ_cons, told_take lg.2, (mem_moves lg.1).1]
    rfl
theorem nones_eqv : ∀ n : Nat, PyData.eqvAll ((List.replicate n ()).map fun _ => PyData.none) ((List.replicate n ()).map fun _ => PyData.none) = true
  | 0 => by simp [PyData.eqvAll]
  | n + 1 => by
    have ih := nones_eqv n
    rw [List.replicate_succ, List.map_cons, PyData.eqvAll, ih]
    simp [PyData.eqv]
section
variable {P : Program} {w : World} {K : PySem.W.Frag} {mg : Str → Option Value} {base : Heap} {C : Addr}
abbrev N_law_ends : List Str := ["yard", "position", "line", "way", "told", "one"]
theorem sc_law_ends : FnScope N_law_ends ["yard", "position", "line"] (defScope s_law_ends) := ⟨rfl, rfl, rfl, by decide +kernel, rfl, by decide +kernel, by decide +kernel⟩
def pre_law_ends (C : Addr) : List AV → Hp → PyData → Prop := fun as H d => ∃ y Y p l, as = [.v (.ref y), .d (dPos p), .d (dMoves l)] ∧ YardAt C H y Y ∧ OkY Y ∧ OkPos Y p ∧ Legal Y p l ∧ l.length ≤ 1000 ∧ d = dVd (verdict Y (endOf p l))
theorem kf_law_ends (T : Txt K mg C) : Kf P w K mg base 12 "_law_ends" ["yard", "position", "line"] (spF (pre_law_ends C)) := by
  obtain ⟨f, fd, F, hm⟩ := T.f_law_ends
  have G0 : Kf P w K mg base 11 "walked" ["yard", "position", "line"] (spF (pre_walked C)) := kf_walked T
  have G1 : Kf P w K mg base 8 "verdict" ["yard", "position"] (spF (pre_verdict_of C)) := kf_verdict T
  refine kf_mk F hm (pure_body F sc_law_ends (fun as H d ⟨_, _, _, _, e, _⟩ => by rw [e]; rfl) fun cdv A outer s H vs as d Q E hr ha hp q => ?_) (fun _ _ _ _ _ _ us hl => match us, hl with | [_, _, _], _ => rfl)
  obtain ⟨y, Y, p, l, rfl, hy, ok, okp, lg, ll, rfl⟩ := hp
  obtain ⟨_, rfl, ha, _⟩ := ha.consV
  obtain ⟨v1, _, rfl, h1, ha⟩ := ha.consD
  obtain ⟨v2, _, rfl, h2, ha⟩ := ha.consD
  cases ha.nilD
  have nd := sc_law_ends.nd
  refine b_cons (s_set 3 nd (CD.run (N := All_) (d := dPoss (walk p l)) (c_call G0 hr (as_v (v_var 0 rfl) (as_d (c_var 1 rfl h1) (as_d (c_var 2 rfl h2) as_nil))) (fun H'' s'' => ⟨y, Y, p, l, rfl, hy.keep s'', ok, okp, lg, ll, rfl⟩) (fun _ _ => trivial)) fun v H1 s1 hv1 => ?_))
  refine b_cons (s_setLc0 (own := [("one", 5)]) 4 rfl nd (pi_list (ew _ _)) (blkOk_by (N := N_law_ends) (sc := defScope s_law_ends) (by decide +kernel)) (fun _ _ _ _ _ => g_name 5 nd) (lc_read0 (bs := walk p l) (enc := dPos) (N := All_) (N0 := All_) (fun q => dVd (verdict Y q)) (ci_list (c_var 3 rfl hv1)) (by rw [walk_len]; omega) (fun _ _ => trivial) (fun _ h => h) ?_ (Same.refl _) fun v' H2 s2 hv2 => ?_))
  · intro N' q' x H7 hq' s7 hx hfr R k
    exact k _ rfl fun s Hb Cc cl fp => c_call (d := dVd (verdict Y q')) G1 (by exact hr.mono (by decide)) (as_v (v_var 0 rfl) (as_d (c_var 5 rfl hx.any) as_nil)) (fun H'' s'' => ⟨y, Y, q', rfl, hy.keep ((s1.trans s7).trans s''), ok, legal_walk okp lg q' hq', rfl⟩) hfr
  have eT : (((walk p l).map fun q => dVd (verdict Y q)).length) = l.length + 1 := by rw [List.length_map, walk_len]
  have sH := s1.trans s2
  refine b_one (s_ret (CD.run (d := dVd (verdict Y (endOf p l))) (c_ifExp (k := true) (t_cmp (CmpR.is (eq_d (d1 := .list ((List.replicate l.length ()).map fun _ => .none)) (d2 := .list ((List.replicate l.length ()).map fun _ => .none)) (by exact hu64 hr) (sh_list (n := 0) (fun _ => by simp [PyData.canLay0]) (fun _ => by simp [PyData.depth]) (by decide) _) (sh_list (n := 0) (fun _ => by simp [PyData.canLay0]) (fun _ => by simp [PyData.depth]) (by decide) _)) (by rw [PyData.eqv]; exact nones_eqv _))
    (CD.is (c_upTo (c_var 4 rfl hv2) (c_neg c_int) (fun _ _ => trivial)) ?_) (c_nones (n := l.length) (c_lst (ds := [.none]) (cs_cons c_non cs_nil) (fun _ _ => trivial)) (CD.is (c_lenL T.b_len (c_var 2 rfl (h2.keep sH))) (by rw [List.length_map])) ll (fun _ _ => trivial))) (fun _ => CD.noL (N := All_) (c_ixL (ds := (walk p l).map fun q => dVd (verdict Y q)) (c_var 4 rfl hv2) (c_neg c_int) ?_) (noL_vd _)) fun e => nomatch e) fun v H3 s3 hv3 => q v H3 (sH.trans s3) hv3))
  · rw [eT, sIx_m1, told_take lg]
  · refine atI_m1 (n := l.length) eT ?_
    rw [List.getElem?_map, walk_last]
    rfl
end
end PY
set_option Elab.async false
set_option autoImplicit false
set_option linter.all false
set_option maxRecDepth 100000
set_option maxHeartbeats 4000000
/-! wins, with what it knows. -/
namespace PY
open PySem L2 PySem.W
/-! ### while known grows -/
section
variable {P : Program} {w : World} {F : Ent → Bool} {D : List Ent} {H H' : Hp} {kn : Addr} {N : Addr → Prop}
theorem KnAt.is (k : KnAt P w F D H kn) : ∃ xs, H kn = some (KnO P w F kn xs) := let ⟨xs, x⟩ := k; ⟨xs, x.at_⟩
theorem Dv.evo {v : V} {d : PyData} (h : Dv N H v d) (k : KnAt P w F D H kn) (b : But kn H H') : Dv N H' v d := by
  obtain ⟨xs, e⟩ := k.is
  exact Dv.go (fun a ys q => b a _ (ne_of q e (by intro z; cases z)) q) (fun a ys n q => ⟨b a _ (ne_of q e (by intro z; cases z)) q, n⟩) d v h
theorem Da.evo {v : List V} {d : List PyData} (h : Da N H v d) (k : KnAt P w F D H kn) (b : But kn H H') : Da N H' v d := by
  obtain ⟨xs, e⟩ := k.is
  exact Da.go (fun a ys q => b a _ (ne_of q e (by intro z; cases z)) q) (fun a ys n q => ⟨b a _ (ne_of q e (by intro z; cases z)) q, n⟩) d v h
theorem YardAt.evo {C y : Addr} {Y : Yr} (h : YardAt C H y Y) (k : KnAt P w F D H kn) (b : But kn H H') : YardAt C H' y Y := by
  obtain ⟨xs, e⟩ := k.is
  obtain ⟨dx, ho, go, ki, h1, h2, h3, h4⟩ := h.ex
  obtain ⟨kvs, k1, k2, k3⟩ := h4.ex
  exact ⟨dx, ho, go, ki, b y _ (ne_of h1 e (by intro z; cases z)) h1, h2.evo k b, h3.evo k b, kvs, b ki _ (ne_of k1 e (by intro z; cases z)) k1, k2, k3.evo k b⟩
theorem KnX.lst {xs : Rws} {l : Addr} {ys zs : List V} (x : KnX P w F D H kn xs) (hl : H l = some (.lst ys)) : KnX P w F D (upd H l (.lst zs)) kn xs :=
  ⟨by rw [upd_ne (ne_of x.at_ hl (by intro z; cases z))]; exact x.at_, fun e he => (Dv.noL (N' := Never) _ _ (noL_key _) (x.dv e he)).go (fun a ts q => by rw [upd_ne (ne_of q hl (by intro z; cases z))]; exact q) (fun _ _ z => z.elim), x.nd, x.sub⟩
theorem KnAt.lst {l : Addr} {ys zs : List V} (k : KnAt P w F D H kn) (hl : H l = some (.lst ys)) : KnAt P w F D (upd H l (.lst zs)) kn := let ⟨xs, x⟩ := k; ⟨xs, x.lst hl⟩
end
section
variable {X : Cx} {σ : L2.St} {H : Hp} {F : Ent → Bool} {D : List Ent} {kn p : Addr}
/-- [elt for tg in it], while known grows: truths -/
theorem lc_ev {β : Type} {bs : List β} {enc : β → PyData} {elt it : Expr} {scope : Scope} {j : Nat} {Q : VK} (t : β → Bool) (hv : CV X it σ H (.ref p)) (hd : Dv All_ H (.ref p) (.list (bs.map enc))) (hk : KnAt X.prog X.w F D H kn) (hb : bs.length ≤ 1000) (hw : ∀ x, wipe ((wipe σ [j]).set j (some x)) [j] = wipe σ [j])
    (hel : ∀ d x H', d ∈ bs → But kn H H' → KnAt X.prog X.w F D H' kn → Dv All_ H' x (enc d) → ∀ (s : Shared) (Hb : Hp) (C : Addr) (cl : List (Str × Addr)) (fp : List Addr), wE (X.blk s Hb scope (compEnvC scope cl C X.env) fp) elt ((wipe σ [j]).set j (some x)) H' fun v H4 => (But kn H' H4 ∧ KnAt X.prog X.w F D H4 kn) ∧ v = .bl (t d))
    (q : ∀ a H', But kn H H' → KnAt X.prog X.w F D H' kn → H' a = some (.lst ((bs.map t).map .bl)) → Q (.ref a) H') : tLc (iList X.K (wE X it)) (gName j) tYes (bE X scope elt) [j] σ H Q := by
  obtain ⟨p', xs, e, hp, _, dl⟩ := hd.is_lst
  cases e
  refine hv.run fun H1 s1 => ⟨p, rfl, ⟨xs, SqL.of (s1 _ _ hp)⟩, fun A hA => ?_⟩
  obtain ⟨ks, ek⟩ := hk.is
  have pk : p ≠ kn := ne_of hp ek (by intro z; cases z)
  have hlen := dl.length
  rw [List.length_map] at hlen
  have W : Walk (Itl X.K p) bs.length (fun H' => But kn H H') (fun i H' x H'' => H'' = H' ∧ xs[i]? = some x) := by
    rw [← hlen]
    exact walk_list.mono (fun H' b => SqL.of (b p _ pk hp)) fun i H' x H'' hi b y => y
  have A0 : H A = none := s1.free hA
  refine lc_it W (fun i H' => But kn H H' ∧ KnAt X.prog X.w F D H' kn ∧ H' A = some (.lst (((bs.take i).map t).map .bl))) ⟨But.of (s1.trans (same_new hA)), (hk.keep s1).keep (same_new hA), upd_same⟩ (fun i H' _ h => h.1) ?_ fun H' ⟨b, k, h⟩ => by
    rw [List.take_length] at h
    exact q A H' b k h
  rintro i x H' H'' hi ⟨b, k, h⟩ ⟨rfl, hx⟩
  obtain ⟨d', e1, dx⟩ := dl.get hx
  rw [List.getElem?_map] at e1
  obtain ⟨d, e2⟩ : ∃ d, bs[i]? = some d := ⟨bs[i], List.getElem?_eq_getElem hi⟩
  rw [e2] at e1
  cases e1
  refine ⟨hw x, ?_⟩
  show bE X scope elt _ _ _
  intro s Hb C cl fp
  have Ak : A ≠ kn := fun z => by rw [z, ek] at A0; cases A0
  refine wE_mono (hel d x _ (List.mem_of_getElem? e2) b k (dx.evo hk b) s Hb C cl fp) fun v H4 ⟨⟨b4, k4⟩, ev⟩ => ?_
  have h4 : H4 A = some (.lst (((bs.take i).map t).map .bl)) := b4 A _ Ak h
  refine ⟨_, h4, ?_, ?_, k4.lst h4, ?_⟩
  · rw [List.length_map, List.length_map, List.length_take, sizeLine_eq]; omega
  · exact fun c o n e => by
      rw [upd_ne (ne_of_none e A0)]
      exact b4 c o n (b c o n e)
  · rw [upd_same, ev, take_succ_get e2, List.map_append, List.map_append]
    rfl
end
/-! ### the keys there can be -/
def keysOf (Y : Yr) : Nat → Ps → List Ent
  | 0, p => [(p, 0)]
  | n + 1, p => (p, n + 1) :: (moves Y p).flatMap fun m => keysOf Y n (after p m)
def keyMost : Nat → Nat
  | 0 => 1
  | n + 1 => 1 + 48 * keyMost n
theorem keys_len {Y : Yr} (ok : OkY Y) : ∀ (n : Nat) (p : Ps), OkPos Y p → (keysOf Y n p).length ≤ keyMost n
  | 0, p, _ => Nat.le_refl _
  | n + 1, p, okp => by
    have h1 := flat_le (fun m => keysOf Y n (after p m)) (keyMost n) (moves Y p) fun m hm => keys_len ok n _ (ok_after okp hm)
    have h2 := moves_len ok okp
    show ((moves Y p).flatMap _).length + 1 ≤ 1 + 48 * keyMost n
    have h3 := Nat.mul_le_mul_right (keyMost n) h2
    omega
theorem keyMost_le : ∀ {n : Nat}, n ≤ 4 → keyMost n ≤ 16000000
  | 0, _ => by decide
  | 1, _ => by decide
  | 2, _ => by decide
  | 3, _ => by decide
  | 4, _ => by decide
  | n + 5, h => by omega
def winF (Y : Yr) (s : Int) : Ent → Bool := fun k => wins Y s k.2 k.1
section
variable {P : Program} {w : World} {K : PySem.W.Frag} {mg : Str → Option Value} {base : Heap} {C : Addr}
abbrev N_wins : List Str := ["yard", "position", "side", "many", "known", "verdict", "key", "behind", "move", "other"]
theorem sc_wins : FnScope N_wins ["yard", "position", "side", "many", "known"] (defScope s_wins) := ⟨rfl, rfl, rfl, by decide +kernel, rfl, by decide +kernel, by decide +kernel⟩
theorem wins_end {Y : Yr} {s : Int} {n : Nat} {p : Ps} (h : verdict Y p ≠ .open_ ∨ n = 0) : wins Y s n p = decide (verdict Y p = .won s) := by
  cases n with
  | zero => rfl
  | succ n =>
    rcases h with h | h
    · unfold wins; rw [if_neg h]
    · cases h
theorem wins_own {Y : Yr} {s : Int} {n : Nat} {p : Ps} (h : verdict Y p = .open_) (c : p.1 = s) : wins Y s (n + 1) p = (moves Y p).any fun m => wins Y s n (after p m) := by
  conv => lhs; unfold wins
  rw [if_pos h, if_pos c]
theorem wins_foe {Y : Yr} {s : Int} {n : Nat} {p : Ps} (h : verdict Y p = .open_) (c : p.1 ≠ s) : wins Y s (n + 1) p = (moves Y p).all fun m => wins Y s n (after p m) := by
  conv => lhs; unfold wins
  rw [if_pos h, if_neg c]
def spWin (P : Program) (w : World) (C : Addr) (n : Nat) : Sp := fun vs H Q _ => ∃ y Y p s kn D, ARs H vs [.v (.ref y), .d (dPos p), .d (.int s), .d (.int (n : Int)), .v (.ref kn)] ∧ (YardAt C H y Y ∧ OkY Y ∧ OkPos Y p) ∧ (KnAt P w (winF Y s) D H kn ∧ (∀ k ∈ keysOf Y n p, k ∈ D) ∧ D.length ≤ 16000000) ∧
  ∀ H', But kn H H' → KnAt P w (winF Y s) D H' kn → Q (.bl (wins Y s n p)) H'
section
variable {X : Cx} {e : Expr} {σ : L2.St} {H : Hp} {pos : Pos} {Dn : Ends}
/-- known[key] = e -/
theorem s_setK {o i : Expr} {tpos : Pos} {F : Ent → Bool} {D : List Ent} (hu : X.A.units + 64 < cLine) (h : wE X e σ H fun v H1 => wE X o σ H1 fun x H2 => wE X i σ H2 fun y H3 => rKnSet X.prog X.w F D x y v H3 fun H4 => Dn.nx σ H4)
    (hs : swapsWithSole [.Subscript o i tpos] e pos.line X.env = pure false := by rfl) (hw : swappedStores [.Subscript o i tpos] e X.env = pure none := by rfl)
    (h1 : (assignEach [.Subscript o i tpos] X.env).map (·.2) = [assign (.Subscript o i tpos) X.env] := by rfl) (ha : ∀ v, assign (.Subscript o i tpos) X.env v = (do
      let ov ← holding [v] (eval o X.env)
      let iv ← holding [v, ov] (eval i X.env)
      standAt tpos
      holding [v, ov, iv] (setItem ov iv v)
      release [v, ov, iv] []) := by intro _; rfl) : wS X (.Assign [.Subscript o i tpos] e pos) Dn σ H :=
  (ps_asg (ew X e) (pg_sub (ew X o) (ew X i) (set_kn (f := F) (D := D) hu) ha) hs hw h1).w h
end
section
variable {X : Cx} {σ : L2.St} {H : Hp} {pos pos1 : Pos}
/-- x([elt for tg in iter]), x built in -/
theorem cb_lc {elt tg iter : Expr} {scope : Scope} {own : List (Str × Nat)} {wi : TI} {g : TG} {Q : VK} {id : String} {r : List V → Hp → VK → Prop} {x : Str} {p : Pos} (hr : CallR X (.builtin id) r) (hm : X.mg x = none) (hv : bootBuiltins x = some (.builtin id)) (hc : X.calm = true) (nd : X.N.Nodup) (hi : PI X tg iter wi) (ok : BlkOk X.N X.env.scope scope own) (hg : GB X scope tg g)
    (h : tLc wi g tYes (bE X scope elt) (own.map (·.2)) σ H fun v H1 => r [v] H1 Q) (hgl : Gl X x := by rfl) (hn : x ≠ "__name__" := by decide) (hdb : (x == ("__debug__" : Str)) = false := by decide) (hs : ∀ x, foldedSetIterable iter X.env x = pure x := by intro _; rfl)
    (he : starEach [Expr.ListComp elt [⟨tg, iter, [], 0⟩] scope pos1] X.env = [(false, eval (Expr.ListComp elt [⟨tg, iter, [], 0⟩] scope pos1) X.env)] := by rfl) : wE X (.Call (.Name x p) [.ListComp elt [⟨tg, iter, [], 0⟩] scope pos1] [] pos) σ H Q :=
  (pe_callB hr hgl hm hv (pa_cons (pe_lc hc nd hi ok hg (fun _ _ _ _ _ => pts_nil) (fun s Hb C cl fp => blk_e X scope elt s Hb C cl fp) hs) pa_nil (by rw [he]; rfl)) hn hdb (by rw [he]; rfl) rfl).w h
end
theorem kf_wins (T : Txt K mg C) : ∀ n : Nat, n ≤ 4 → Kf P w K mg base (9 + n) "wins" ["yard", "position", "side", "many", "known"] (spWin P w C n) := by
  intro n
  induction n with
  | zero =>
    intro _
    obtain ⟨f, fd, F, hm⟩ := T.f_wins
    have G1 : Kf P w K mg base 7 "verdict_of" ["yard", "position"] (spF (pre_verdict_of C)) := kf_verdict_of T
    refine kf_mk F hm (fn_body (k := 8) F sc_wins (fun vs H Q E ⟨_, _, _, _, _, _, a, _⟩ => by rw [a.length]; rfl) fun cdv A outer s H vs Q E hr hsp => ?_) (fun _ _ _ _ _ _ us hl => match us, hl with | [_, _, _, _, _], _ => rfl)
    obtain ⟨y, Y, p, sd, kn, D, ha, ⟨hy, ok, okp⟩, ⟨hk, hkeys, hD⟩, q⟩ := hsp
    obtain ⟨_, rfl, ha, _⟩ := ha.consV
    obtain ⟨v1, _, rfl, h1, ha⟩ := ha.consD
    obtain ⟨v2, _, rfl, h2, ha⟩ := ha.consD
    obtain ⟨v3, _, rfl, h3, ha⟩ := ha.consD
    obtain ⟨_, rfl, ha, _⟩ := ha.consV
    cases ha.nilD
    have nd := sc_wins.nd
    refine b_cons (s_set 5 nd (CD.run (N := All_) (d := dVd (verdict Y p)) (c_call G1 (hr.mono (by decide)) (as_v (v_var 0 rfl) (as_d (c_var 1 rfl h1) as_nil)) (fun H' s' => ⟨y, Y, p, rfl, hy.keep s', ok, okp, rfl⟩) (fun _ _ => trivial)) fun v H1 s1 hv => ?_))
    refine b_cons (s_ifB (k := true) (CT.is (t_or2 (k2 := true) (t_cmp (isnot_n.is (sh_pos_vd (verdict Y p))) (c_var 5 rfl hv) c_non) fun _ => t_cmp (eq_i (i := 0)) (c_var 3 rfl (h3.keep s1)) c_int) (by simp)) (fun _ H2 s2 => ?_) fun e => nomatch e)
    refine b_one (s_ret (CD.run (N := All_) (d := .bool (decide (verdict Y p = .won sd))) (c_cmp ((eq_d (by exact hu64 hr) (sh_vd _) (sh_int _)).is (eqv_vd _ _)) (c_var 5 rfl (hv.keep s2)) (c_var 2 rfl ((h2.keep s1).keep s2))) fun u H3 s3 hu => ?_))
    rw [hu.is_bl, ← wins_end (n := 0) (.inr rfl)]
    exact q H3 (But.of ((s1.trans s2).trans s3)) (hk.keep ((s1.trans s2).trans s3))
  | succ m IH =>
    intro hm4
    obtain ⟨f, fd, F, hm⟩ := T.f_wins
    have G1 : Kf P w K mg base 7 "verdict_of" ["yard", "position"] (spF (pre_verdict_of C)) := kf_verdict_of T
    have G2 : Kf P w K mg base 8 "moves_of" ["yard", "position"] (spF (pre_moves_of C)) := kf_moves_of T
    have G3 : Kf P w K mg base 1 "after_of" ["position", "move"] (spF pre_after_of) := kf_after_of T
    have G4 : Kf P w K mg base (9 + m) "wins" ["yard", "position", "side", "many", "known"] (spWin P w C m) := IH (by omega)
    refine kf_mk F hm (fn_body (k := 9 + m) F sc_wins (fun vs H Q E ⟨_, _, _, _, _, _, a, _⟩ => by rw [a.length]; rfl) fun cdv A outer s H vs Q E hr hsp => ?_) (fun _ _ _ _ _ _ us hl => match us, hl with | [_, _, _, _, _], _ => rfl)
    obtain ⟨y, Y, p, sd, kn, D, ha, ⟨hy, ok, okp⟩, ⟨hk, hkeys, hD⟩, q⟩ := hsp
    obtain ⟨_, rfl, ha, _⟩ := ha.consV
    obtain ⟨v1, _, rfl, h1, ha⟩ := ha.consD
    obtain ⟨v2, _, rfl, h2, ha⟩ := ha.consD
    obtain ⟨v3, _, rfl, h3, ha⟩ := ha.consD
    obtain ⟨_, rfl, ha, _⟩ := ha.consV
    cases ha.nilD
    have nd := sc_wins.nd
    have few := okp.few
    refine b_cons (s_set 5 nd (CD.run (N := All_) (d := dVd (verdict Y p)) (c_call G1 (hr.mono (by omega)) (as_v (v_var 0 rfl) (as_d (c_var 1 rfl h1) as_nil)) (fun H' s' => ⟨y, Y, p, rfl, hy.keep s', ok, okp, rfl⟩) (fun _ _ => trivial)) fun v H1 s1 hv => ?_))
    refine b_cons (s_ifB (k := !decide (verdict Y p = .open_)) (CT.is (t_or2 (k2 := false) (t_cmp (isnot_n.is (sh_pos_vd (verdict Y p))) (c_var 5 rfl hv) c_non) fun _ => CT.is (t_cmp eq_i (c_var 3 rfl (h3.keep s1)) c_int) (decide_eq_false (by omega))) (by simp)) (fun e H2 s2 => ?_) fun e H2 s2 => b_nil ?_)
    · rw [Bool.not_eq_true', decide_eq_false_iff_not] at e
      refine b_one (s_ret (CD.run (N := All_) (d := .bool (decide (verdict Y p = .won sd))) (c_cmp ((eq_d (by exact hu64 hr) (sh_vd _) (sh_int _)).is (eqv_vd _ _)) (c_var 5 rfl (hv.keep s2)) (c_var 2 rfl ((h2.keep s1).keep s2))) fun u H3 s3 hu => ?_))
      rw [hu.is_bl, ← wins_end (n := m + 1) (.inl e)]
      exact q H3 (But.of ((s1.trans s2).trans s3)) (hk.keep ((s1.trans s2).trans s3))
    rw [Bool.not_eq_false', decide_eq_true_eq] at e
    have sH2 := s1.trans s2
    refine b_cons (s_set 6 nd (CD.run (N := All_) (d := dKey (p, m + 1)) (c_tup (ds := [dPos p, .int ((m + 1 : Nat) : Int)]) (cs_cons (c_var 1 rfl (h1.keep sH2)) (cs_cons (c_var 3 rfl (h3.keep sH2)) cs_nil))) fun vk H3 s3 hvk => ?_))
    have sH3 := sH2.trans s3
    obtain ⟨b, xsk, rfl, _, _⟩ := hvk.is_tup
    have hk3 := hk.keep sH3
    have fin : ∀ o7 H', But kn H H' → KnHas P w (winF Y sd) D H' kn (p, m + 1) → Dv All_ H' (.ref b) (dKey (p, m + 1)) → wB (bX P w K mg base N_wins "wins" s_wins f cdv A outer s H E) [(defBody s_wins).getLast (by decide)] { nx := fun _ H' => Q .non H', rt := Q } [some (.ref y), some v1, some v2, some v3, some (.ref kn), some v, some (.ref b), o7, none, none] H' := fun o7 H' b' kh dv =>
      b_one (s_ret (pe_knGet (f := winF Y sd) (D := D) (by exact hu64 hr) (ew _ _) (ew _ _) ((v_var 4 rfl).run fun H4 s4 => (v_var 6 rfl).run fun H5 s5 => ⟨All_, kn, b, (p, m + 1), ⟨rfl, rfl⟩, dv.keep (s4.trans s5), kh.keep (s4.trans s5), q H5 (b'.trans (But.of (s4.trans s5))) ((kh.keep (s4.trans s5)).kn)⟩)))
    refine b_cons (s_if ((pt_cmpR (op_knNot (f := winF Y sd) (D := D) (by exact hu64 hr)) (ew _ _) (ew _ _) (by rfl)).w ((v_var 6 rfl).run fun H4 s4 => (v_var 4 rfl).run fun H5 s5 => ⟨All_, b, kn, (p, m + 1), ⟨rfl, rfl⟩, hvk.keep (s4.trans s5), hk3.keep (s4.trans s5), fun kh => ⟨false, rfl, b_nil (fin none H5 (But.of (sH3.trans (s4.trans s5))) kh (hvk.keep (s4.trans s5)))⟩, ⟨true, rfl, ?_⟩⟩)))
    have sH5 := sH3.trans (s4.trans s5)
    refine b_cons (s_setLc0 (own := [("move", 8)]) 7 rfl nd (pi_list (ew _ _)) (blkOk_by (N := N_wins) (sc := defScope s_wins) (by decide +kernel)) (fun _ _ _ _ _ => g_name 8 nd) (lc_read0 (bs := moves Y p) (enc := dMove) (N := All_) (N0 := All_) (fun mv => dPos (after p mv)) (ci_list (c_call G2 (hr.mono (by omega)) (as_v (v_var 0 rfl) (as_d (c_var 1 rfl (h1.keep sH5)) as_nil)) (fun H' s' => ⟨y, Y, p, rfl, hy.keep (sH5.trans s'), ok, okp, rfl⟩) (fun _ _ => trivial))) (by have := moves_len ok okp; omega) (fun _ _ => trivial) (fun _ h => h) ?_ (Same.refl _) fun vb H7 s7 hvb => ?_))
    · intro N' mv x H8 hmv s8 hx hfr R k
      exact k _ rfl fun s Hb Cc cl fp => c_call (d := dPos (after p mv)) G3 (by exact hr.mono (by omega)) (as_d (c_var 1 rfl (h1.keep (sH5.trans s8))) (as_d (c_var 8 rfl hx.any) as_nil)) (fun H'' s'' => ⟨p, mv, rfl, okp.up, by omega, rfl⟩) hfr
    have sH7 := sH5.trans s7
    obtain ⟨pb, xsb, rfl, hpb, _, _⟩ := hvb.is_lst
    have eb : (moves Y p).map (fun mv => dPos (after p mv)) = ((moves Y p).map (after p)).map dPos := by rw [List.map_map]; rfl
    rw [eb] at hvb
    refine b_one (s_ifB (k := decide (p.1 = sd)) (t_cmp eq_i (c_ixT (ds := [.int p.1, dPieces p.2]) (c_var 1 rfl (h1.keep sH7)) c_int rfl) (c_var 2 rfl (h2.keep sH7))) (fun e2 H8 s8 => ?_) fun e2 H8 s8 => ?_)
    all_goals
      have sH8 := sH7.trans s8
      have hk8 := hk.keep sH8
      have hvk8 : Dv All_ H8 (.ref b) (dKey (p, m + 1)) := hvk.keep (((s4.trans s5).trans s7).trans s8)
      have ml : ((moves Y p).map (after p)).length ≤ 1000 := by
        have := moves_len ok okp
        rw [List.length_map]; omega
      have key : ∀ q ∈ (moves Y p).map (after p), OkPos Y q ∧ ∀ k ∈ keysOf Y m q, k ∈ D := fun q hq => by
        obtain ⟨mv, hmv, rfl⟩ := List.mem_map.mp hq
        exact ⟨ok_after okp hmv, fun k hk => hkeys k (List.mem_cons_of_mem _ (List.mem_flatMap.mpr ⟨mv, hmv, hk⟩))⟩
    · refine b_one (s_setK (F := winF Y sd) (D := D) (by exact hu64 hr) (cb_lc (cr_any rfl) T.b_any (by decide +kernel) rfl nd (pi_list (ew _ _)) (own := [("other", 9)]) (blkOk_by (N := N_wins) (sc := defScope s_wins) (by decide +kernel)) (fun _ _ _ _ _ => g_name 9 nd) (lc_ev (bs := (moves Y p).map (after p)) (enc := dPos) (F := winF Y sd) (D := D) (kn := kn) (fun q => wins Y sd m q) (v_var 7 rfl) (hvb.keep s8) hk8 ml (by intro _; rfl) ?_ fun a H9 b9 k9 h9 => ?_)))
      · intro q' x H' hq b' k dx s Hb Cc cl fp
        exact e_call G4 (by exact hr) ((as_v (v_var 0 rfl) (as_d (c_var 9 rfl dx) (as_d (c_var 2 rfl ((h2.keep sH8).evo hk8 b')) (as_d (d := .int (m : Int)) (CD.is (c_sub (c_var 3 rfl ((h3.keep sH8).evo hk8 b')) c_int) (by rw [show ((m + 1 : Nat) : Int) - 1 = (m : Int) by omega])) (as_v (v_var 4 rfl) as_nil))))) H' (Same.refl _) _ fun vs H9 s9 hvs => ⟨y, Y, q', sd, kn, D, hvs, ⟨((hy.keep sH8).evo hk8 b').keep s9, ok, (key q' hq).1⟩, ⟨k.keep s9, (key q' hq).2, hD⟩, fun H10 b10 k10 => ⟨⟨(But.of s9).trans b10, k10⟩, rfl⟩⟩)
      · refine ⟨a, ((moves Y p).map (after p)).map fun q => wins Y sd m q, rfl, SqL.of h9, (v_var 4 rfl).run fun H10 s10 => (v_var 6 rfl).run fun H11 s11 => ⟨All_, kn, b, (p, m + 1), ⟨rfl, rfl, congrArg V.bl ?_⟩, (hvk8.evo hk8 b9).keep (s10.trans s11), k9.keep (s10.trans s11), ⟨hkeys _ List.mem_cons_self, hD⟩, fun H12 b12 kh => fin (some (.ref pb)) H12 ((((But.of sH8).trans b9).trans (But.of (s10.trans s11))).trans b12) kh (((hvk8.evo hk8 b9).keep (s10.trans s11)).evo (k9.keep (s10.trans s11)) b12)⟩⟩
        show _ = wins Y sd (m + 1) p
        rw [wins_own e (of_decide_eq_true e2), List.map_map, List.any_map]
        rfl
    · refine b_one (s_setK (F := winF Y sd) (D := D) (by exact hu64 hr) (cb_lc (cr_all rfl) T.b_all (by decide +kernel) rfl nd (pi_list (ew _ _)) (own := [("other", 9)]) (blkOk_by (N := N_wins) (sc := defScope s_wins) (by decide +kernel)) (fun _ _ _ _ _ => g_name 9 nd) (lc_ev (bs := (moves Y p).map (after p)) (enc := dPos) (F := winF Y sd) (D := D) (kn := kn) (fun q => wins Y sd m q) (v_var 7 rfl) (hvb.keep s8) hk8 ml (by intro _; rfl) ?_ fun a H9 b9 k9 h9 => ?_)))
      · intro q' x H' hq b' k dx s Hb Cc cl fp
        exact e_call G4 (by exact hr) ((as_v (v_var 0 rfl) (as_d (c_var 9 rfl dx) (as_d (c_var 2 rfl ((h2.keep sH8).evo hk8 b')) (as_d (d := .int (m : Int)) (CD.is (c_sub (c_var 3 rfl ((h3.keep sH8).evo hk8 b')) c_int) (by rw [show ((m + 1 : Nat) : Int) - 1 = (m : Int) by omega])) (as_v (v_var 4 rfl) as_nil))))) H' (Same.refl _) _ fun vs H9 s9 hvs => ⟨y, Y, q', sd, kn, D, hvs, ⟨((hy.keep sH8).evo hk8 b').keep s9, ok, (key q' hq).1⟩, ⟨k.keep s9, (key q' hq).2, hD⟩, fun H10 b10 k10 => ⟨⟨(But.of s9).trans b10, k10⟩, rfl⟩⟩)
      · refine ⟨a, ((moves Y p).map (after p)).map fun q => wins Y sd m q, rfl, SqL.of h9, (v_var 4 rfl).run fun H10 s10 => (v_var 6 rfl).run fun H11 s11 => ⟨All_, kn, b, (p, m + 1), ⟨rfl, rfl, congrArg V.bl ?_⟩, (hvk8.evo hk8 b9).keep (s10.trans s11), k9.keep (s10.trans s11), ⟨hkeys _ List.mem_cons_self, hD⟩, fun H12 b12 kh => fin (some (.ref pb)) H12 ((((But.of sH8).trans b9).trans (But.of (s10.trans s11))).trans b12) kh (((hvk8.evo hk8 b9).keep (s10.trans s11)).evo (k9.keep (s10.trans s11)) b12)⟩⟩
        show _ = wins Y sd (m + 1) p
        rw [wins_foe e (of_decide_eq_false e2), List.map_map, List.all_map]
        rfl
end
end PY
set_option Elab.async false
set_option autoImplicit false
set_option linter.all false
set_option maxRecDepth 100000
set_option maxHeartbeats 4000000
/-! win_by, win_tree. -/
namespace PY
open PySem L2 PySem.W
mutual
def dTr : Tr → PyData
  | .won => .tuple [.str "won"]
  | .mv m t => .tuple [.str "move", dMove m, dTr t]
  | .all rows => .tuple [.str "all", .list (dRows rows)]
def dRows : List (Move × Tr) → List PyData
  | [] => []
  | r :: rs => .tuple [dMove r.1, dTr r.2] :: dRows rs
end
def dRow (r : Move × Tr) : PyData := .tuple [dMove r.1, dTr r.2]
theorem dRows_map : ∀ rs : List (Move × Tr), dRows rs = rs.map dRow
  | [] => by rw [dRows]; rfl
  | r :: rs => by rw [dRows, dRows_map rs]; rfl
theorem find_first {α : Type} {t : α → Bool} : ∀ {l : List α} {i : Nat} {m : α}, l[i]? = some m → (∀ j x, j < i → l[j]? = some x → t x = false) → t m = true → l.find? t = some m
  | [], _, _, h, _, _ => by simp at h
  | a :: l, 0, m, h, _, e => by
    simp at h
    rw [← h] at e
    rw [List.find?_cons, e, h]
  | a :: l, i + 1, m, h, f, e => by
    rw [List.find?_cons, f 0 a (Nat.succ_pos _) rfl]
    exact find_first (l := l) (i := i) (by simpa using h) (fun j x hj hx => f (j + 1) x (Nat.succ_lt_succ hj) (by simpa using hx)) e
section
variable {X : Cx} {a b c : Expr} {e : Expr} {σ : L2.St} {H : Hp} {pos : Pos} {Q : VK}
/-- (a, b), (a, b, c), as they run -/
theorem e_tup2 {x1} (h : wE X a σ H fun x H1 => wE X b σ H1 fun y H2 => ∀ p, H2 p = none → Q (.ref p) (upd H2 p (.tup [x, y]))) (hs1 : starEach [a, b] X.env = (false, eval a X.env) :: starEach [b] X.env := by rfl) (hs2 : starEach [b] X.env = (false, eval b X.env) :: starEach [] X.env := by rfl) : wE X (.Tuple [a, b] x1 pos) σ H Q :=
  (pe_tup (pa_cons (ew X a) (pa_cons (ew X b) pa_nil hs2) hs1)).w (wE_mono h fun x H1 q => wE_mono q fun y H2 q => ⟨by rw [sizeLine_eq]; exact Nat.le_of_ble_eq_true rfl, q⟩)
theorem e_tup3 {x1} (h : wE X a σ H fun x H1 => wE X b σ H1 fun y H2 => wE X c σ H2 fun z H3 => ∀ p, H3 p = none → Q (.ref p) (upd H3 p (.tup [x, y, z]))) (hs1 : starEach [a, b, c] X.env = (false, eval a X.env) :: starEach [b, c] X.env := by rfl) (hs2 : starEach [b, c] X.env = (false, eval b X.env) :: starEach [c] X.env := by rfl) (hs3 : starEach [c] X.env = (false, eval c X.env) :: starEach [] X.env := by rfl) : wE X (.Tuple [a, b, c] x1 pos) σ H Q :=
  (pe_tup (pa_cons (ew X a) (pa_cons (ew X b) (pa_cons (ew X c) pa_nil hs3) hs2) hs1)).w (wE_mono h fun x H1 q => wE_mono q fun y H2 q => wE_mono q fun z H3 q => ⟨by rw [sizeLine_eq]; exact Nat.le_of_ble_eq_true rfl, q⟩)
/-- xs.append(e), as it runs -/
theorem e_appW {apos : Pos} {l : Addr} (ha : CV X a σ H (.ref l)) {xs : List V} (hl : H l = some (.lst xs)) (he : ∀ H1, Same H H1 → wE X e σ H1 fun v H2 => ∃ ys, H2 l = some (.lst ys) ∧ ys.length < sizeLine ∧ Q .non (upd H2 l (.lst (ys ++ [v]))))
    (h1 : PE X (.Call (.Attribute a "append" apos) [e] [] pos) (tBM X.K "list" rAppend (wE X a) (tCons (wE X e) tNil)) := by exact pe_bm PySem.F.plainAttrs_list PySem.F.slot_list_append PySem.F.type_list_append mt_append (ew _ _) (pa_cons (ew _ _) pa_nil)) : wE X (.Call (.Attribute a "append" apos) [e] [] pos) σ H Q :=
  h1.w (ha.run fun H1 s1 => ⟨.inl ⟨rfl, xs, SqL.of (s1 _ _ hl)⟩, wE_mono (he H1 s1) fun v H2 ⟨ys, g1, g2, g3⟩ => ⟨l, ys, v, rfl, rfl, g1, g2, g3⟩⟩)
/-- a test by what it gives -/
theorem e_test {Qt : Bool → Hp → Prop} (h : wE X e σ H fun v H1 => ∃ k, v = .bl k ∧ Qt k H1) (he : ∀ whole, isTrue e X.env whole = (do let v ← whole; standAt e.pos; holding [v] (truthy v)) := by intro _; rfl) : wT X e σ H Qt := (pt_val (ew X e) he).w h
end
theorem But.free_ {l a : Addr} {H H' : Hp} (b : But l H H') (hl : H' l ≠ none) (h : H' a = none) : H a = none := by
  cases e : H a with
  | none => rfl
  | some o =>
    by_cases n : a = l
    · rw [n] at h; exact absurd h hl
    · rw [b a o n e] at h; cases h
section
variable {P : Program} {w : World} {K : PySem.W.Frag} {mg : Str → Option Value} {base : Heap} {C : Addr}
theorem KnAt.some_ {F : Ent → Bool} {D : List Ent} {H : Hp} {kn : Addr} (k : KnAt P w F D H kn) : H kn ≠ none := by
  obtain ⟨xs, e⟩ := k.is
  rw [e]
  exact nofun
abbrev N_win_by : List Str := ["yard", "position", "side", "many", "known", "move", "other", "rows"]
theorem sc_win_by : FnScope N_win_by ["yard", "position", "side", "many", "known"] (defScope s_win_by) := ⟨rfl, rfl, rfl, by decide +kernel, rfl, by decide +kernel, by decide +kernel⟩
def spBy (P : Program) (w : World) (C : Addr) (n : Nat) : Sp := fun vs H Q _ => ∃ y Y p s kn D, ARs H vs [.v (.ref y), .d (dPos p), .d (.int s), .d (.int (n : Int)), .v (.ref kn)] ∧ (YardAt C H y Y ∧ OkY Y ∧ OkPos Y p) ∧ (KnAt P w (winF Y s) D H kn ∧ (∀ k ∈ keysOf Y n p, k ∈ D) ∧ D.length ≤ 16000000) ∧ wins Y s n p = true ∧
  ∀ v H', But kn H H' → KnAt P w (winF Y s) D H' kn → Dv (Free H) H' v (dTr (winBy Y s n p)) → Q v H'
theorem by_end {Y : Yr} {s : Int} {n : Nat} {p : Ps} (h : verdict Y p ≠ .open_) : winBy Y s n p = .won := by
  cases n with
  | zero => rfl
  | succ n => unfold winBy; rw [if_neg h]
theorem by_own {Y : Yr} {s : Int} {n : Nat} {p : Ps} {m : Move} (h : verdict Y p = .open_) (c : p.1 = s) (e : (moves Y p).find? (fun m => wins Y s n (after p m)) = some m) : winBy Y s (n + 1) p = .mv m (winBy Y s n (after p m)) := by
  conv => lhs; unfold winBy
  rw [if_pos h, if_pos c, e]
theorem by_foe {Y : Yr} {s : Int} {n : Nat} {p : Ps} (h : verdict Y p = .open_) (c : p.1 ≠ s) : winBy Y s (n + 1) p = .all ((moves Y p).map fun m => (m, winBy Y s n (after p m))) := by
  conv => lhs; unfold winBy
  rw [if_pos h, if_neg c]
theorem kf_win_by (T : Txt K mg C) : ∀ n : Nat, n ≤ 4 → Kf P w K mg base (10 + n) "win_by" ["yard", "position", "side", "many", "known"] (spBy P w C n) := by
  intro n
  induction n with
  | zero =>
    intro _
    obtain ⟨f, fd, F, hm⟩ := T.f_win_by
    have G1 : Kf P w K mg base 7 "verdict_of" ["yard", "position"] (spF (pre_verdict_of C)) := kf_verdict_of T
    obtain ⟨tw, hw⟩ := T.i_WON
    refine kf_mk F hm (fn_body (k := 9) F sc_win_by (fun vs H Q E ⟨_, _, _, _, _, _, a, _⟩ => by rw [a.length]; rfl) fun cdv A outer s H vs Q E hr hsp => ?_) (fun _ _ _ _ _ _ us hl => match us, hl with | [_, _, _, _, _], _ => rfl)
    obtain ⟨y, Y, p, sd, kn, D, ha, ⟨hy, ok, okp⟩, ⟨hk, hkeys, hD⟩, hwin, q⟩ := hsp
    obtain ⟨_, rfl, ha, _⟩ := ha.consV
    obtain ⟨v1, _, rfl, h1, ha⟩ := ha.consD
    obtain ⟨v2, _, rfl, h2, ha⟩ := ha.consD
    obtain ⟨v3, _, rfl, h3, ha⟩ := ha.consD
    obtain ⟨_, rfl, ha, _⟩ := ha.consV
    cases ha.nilD
    have ev : verdict Y p ≠ .open_ := fun z => by
      rw [wins_end (n := 0) (.inr rfl), z] at hwin
      cases hwin
    refine b_cons (s_ifB (k := true) (t_cmp (isnot_n.is ((sh_pos_vd (verdict Y p)).trans (by rw [decide_eq_false ev]; rfl))) (c_call (d := dVd (verdict Y p)) G1 (hr.mono (by decide)) (as_v (v_var 0 rfl) (as_d (c_var 1 rfl h1) as_nil)) (fun H' s' => ⟨y, Y, p, rfl, hy.keep s', ok, okp, rfl⟩) (fun _ _ => trivial)) c_non) (fun _ H1 s1 => ?_) fun e => nomatch e)
    refine b_one (s_ret (CD.run (N := Free H) (d := .tuple [.str "won"]) (c_tup (cs_cons (c_gstr hw) cs_nil)) fun v H2 s2 hv => q v H2 (But.of (s1.trans s2)) (hk.keep (s1.trans s2)) ?_))
    rw [by_end ev, dTr]
    exact hv
  | succ m IH =>
    intro hm4
    obtain ⟨f, fd, F, hm⟩ := T.f_win_by
    have G1 : Kf P w K mg base 7 "verdict_of" ["yard", "position"] (spF (pre_verdict_of C)) := kf_verdict_of T
    have G2 : Kf P w K mg base 8 "moves_of" ["yard", "position"] (spF (pre_moves_of C)) := kf_moves_of T
    have G3 : Kf P w K mg base 1 "after_of" ["position", "move"] (spF pre_after_of) := kf_after_of T
    have G4 : Kf P w K mg base (9 + m) "wins" ["yard", "position", "side", "many", "known"] (spWin P w C m) := kf_wins T m (by omega)
    have G5 : Kf P w K mg base (10 + m) "win_by" ["yard", "position", "side", "many", "known"] (spBy P w C m) := IH (by omega)
    obtain ⟨tw, hw⟩ := T.i_WON
    refine kf_mk F hm (fn_body (k := 10 + m) F sc_win_by (fun vs H Q E ⟨_, _, _, _, _, _, a, _⟩ => by rw [a.length]; rfl) fun cdv A outer s H vs Q E hr hsp => ?_) (fun _ _ _ _ _ _ us hl => match us, hl with | [_, _, _, _, _], _ => rfl)
    obtain ⟨y, Y, p, sd, kn, D, ha, ⟨hy, ok, okp⟩, ⟨hk, hkeys, hD⟩, hwin, q⟩ := hsp
    obtain ⟨_, rfl, ha, _⟩ := ha.consV
    obtain ⟨v1, _, rfl, h1, ha⟩ := ha.consD
    obtain ⟨v2, _, rfl, h2, ha⟩ := ha.consD
    obtain ⟨v3, _, rfl, h3, ha⟩ := ha.consD
    obtain ⟨_, rfl, ha, _⟩ := ha.consV
    cases ha.nilD
    have nd := sc_win_by.nd
    have few := okp.few
    have key : ∀ mv ∈ moves Y p, OkPos Y (after p mv) ∧ ∀ k ∈ keysOf Y m (after p mv), k ∈ D := fun mv hmv => ⟨ok_after okp hmv, fun k hk => hkeys k (List.mem_cons_of_mem _ (List.mem_flatMap.mpr ⟨mv, hmv, hk⟩))⟩
    refine b_cons (s_ifB (k := !decide (verdict Y p = .open_)) (t_cmp (isnot_n.is (sh_pos_vd _)) (c_call (d := dVd (verdict Y p)) G1 (hr.mono (by omega)) (as_v (v_var 0 rfl) (as_d (c_var 1 rfl h1) as_nil)) (fun H' s' => ⟨y, Y, p, rfl, hy.keep s', ok, okp, rfl⟩) (fun _ _ => trivial)) c_non) (fun e H1 s1 => ?_) fun e H1 s1 => b_nil ?_)
    · rw [Bool.not_eq_true', decide_eq_false_iff_not] at e
      refine b_one (s_ret (CD.run (N := Free H) (d := .tuple [.str "won"]) (c_tup (cs_cons (c_gstr hw) cs_nil)) fun v H2 s2 hv => q v H2 (But.of (s1.trans s2)) (hk.keep (s1.trans s2)) ?_))
      rw [by_end e, dTr]
      exact hv
    rw [Bool.not_eq_false', decide_eq_true_eq] at e
    have eM : ((m + 1 : Nat) : Int) - 1 = (m : Int) := by omega
    refine b_cons (s_ifB (k := decide (p.1 = sd)) (t_cmp eq_i (c_ixT (ds := [.int p.1, dPieces p.2]) (c_var 1 rfl (h1.keep s1)) c_int rfl) (c_var 2 rfl (h2.keep s1))) (fun e2 H2 s2 => ?_) fun e2 H2 s2 => b_nil ?_)
    · -- own move
      have e2 := of_decide_eq_true e2
      have sH2 := s1.trans s2
      rw [wins_own e e2] at hwin
      refine b_one (s_forL (bs := moves Y p) (enc := dMove) rfl (g_name 5 nd) ((c_call (N := All_) (d := dMoves (moves Y p)) G2 (hr.mono (by omega)) (as_v (v_var 0 rfl) (as_d (c_var 1 rfl (h1.keep sH2)) as_nil)) (fun H'' s'' => ⟨y, Y, p, rfl, hy.keep (sH2.trans s''), ok, okp, rfl⟩) (fun _ _ => trivial)).run fun v H3 s3 hv => ⟨All_, fun i σ' H' => ∃ o5 o6, σ' = [some (.ref y), some v1, some v2, some v3, some (.ref kn), o5, o6, none] ∧ (But kn H H' ∧ KnAt P w (winF Y sd) D H' kn) ∧ Dv All_ H' v (dMoves (moves Y p)) ∧ ∀ j x, j < i → (moves Y p)[j]? = some x → wins Y sd m (after p x) = false,
        ⟨none, none, rfl, ⟨But.of (sH2.trans s3), hk.keep (sH2.trans s3)⟩, hv, by omega⟩, fun i σ' H' _ ⟨_, _, _, _, h, _⟩ => h, ?_, ?_⟩))
      · rintro i mv x σ' H' him ⟨o5, o6, rfl, ⟨b', k'⟩, hv', hno⟩ hx
        have hmv : mv ∈ moves Y p := List.mem_of_getElem? him
        have h1' := h1.evo hk b'
        refine b_cons (s_set 6 nd (CD.run (N := All_) (d := dPos (after p mv)) (c_call G3 (hr.mono (by omega)) (as_d (c_var 1 rfl h1') (as_d (c_var 5 rfl hx) as_nil)) (fun H'' s'' => ⟨p, mv, rfl, okp.up, by omega, rfl⟩) (fun _ _ => trivial)) fun vo H5 s5 hvo => ?_))
        have k5 := k'.keep s5
        have b5 := b'.trans (But.of s5)
        refine b_one (s_if (e_test (e_call G4 (hr.mono (by omega)) ((as_v (v_var 0 rfl) (as_d (c_var 6 rfl hvo) (as_d (c_var 2 rfl (h2.evo hk b5)) (as_d (d := .int (m : Int)) (CD.is (c_sub (c_var 3 rfl (h3.evo hk b5)) c_int) (by rw [eM])) (as_v (v_var 4 rfl) as_nil))))) H5 (Same.refl _) _ fun vs H6 s6 hvs => ⟨y, Y, after p mv, sd, kn, D, hvs, ⟨(hy.evo hk b5).keep s6, ok, (key mv hmv).1⟩, ⟨k5.keep s6, (key mv hmv).2, hD⟩, fun H7 b7 k7 => ⟨_, rfl, ?_⟩⟩))))
        have b7' : But kn H5 H7 := (But.of s6).trans b7
        have bH7 := b5.trans b7'
        cases ew : wins Y sd m (after p mv) with
        | true =>
          rw [if_pos rfl]
          have ef := find_first (t := fun m' => wins Y sd m (after p m')) him hno ew
          have eb := by_own e e2 ef
          refine b_one (s_ret (e_tup3 (c_str.run (N := All_) fun u1 H8 s8 hu1 => (c_var (N := All_) 5 rfl (((hx.keep s5).evo k5 b7').keep s8)).run fun u2 H9 s9 hu2 => e_call G5 hr ((as_v (v_var 0 rfl) (as_d (c_var 6 rfl ((hvo.evo k5 b7').keep (s8.trans s9))) (as_d (c_var 2 rfl ((h2.evo hk bH7).keep (s8.trans s9))) (as_d (d := .int (m : Int)) (CD.is (c_sub (c_var 3 rfl ((h3.evo hk bH7).keep (s8.trans s9))) c_int) (by rw [eM])) (as_v (v_var 4 rfl) as_nil))))) H9 (Same.refl _) _ fun vs H10 s10 hvs =>
            ⟨y, Y, after p mv, sd, kn, D, hvs, ⟨(hy.evo hk bH7).keep ((s8.trans s9).trans s10), ok, (key mv hmv).1⟩, ⟨k7.keep ((s8.trans s9).trans s10), (key mv hmv).2, hD⟩, ew, fun v3' H11 b11 k11 hv11 p' hp' => ?_⟩))))
          have k9 := k7.keep ((s8.trans s9).trans s10)
          have bH10 : But kn H H10 := bH7.trans (But.of ((s8.trans s9).trans s10))
          have bH11 := bH10.trans b11
          refine q _ _ (bH11.trans (But.of (same_new hp'))) (k11.keep (same_new hp')) ?_
          rw [eb, dTr]
          refine .tup upd_same (.cons ?_ (.cons ?_ (.cons ?_ .nil)))
          · rw [hu1.is_str]; exact .str _
          · exact (((hu2.keep s10).evo k9 b11).keep (same_new hp')).noL _ _ (noL_move _)
          · exact (hv11.keep (same_new hp')).mono (Same.refl _) fun a ha => bH10.free_ k9.some_ ha
        | false =>
          rw [if_neg Bool.false_ne_true]
          refine b_nil ⟨_, _, rfl, ⟨bH7, k7⟩, (hv'.keep s5).evo k5 b7', fun j x' hj hx' => ?_⟩
          rcases Nat.lt_or_ge j i with z | z
          · exact hno j x' z hx'
          · rw [show j = i by omega, him] at hx'
            rw [← Option.some.inj hx']
            exact ew
      · rintro σ' H4 ⟨o5, o6, rfl, _, _, hno⟩
        exfalso
        obtain ⟨mv, hmv, ht⟩ := List.any_eq_true.mp hwin
        obtain ⟨j, hj⟩ := List.getElem?_of_mem hmv
        rw [hno j mv (List.getElem?_eq_some_iff.mp hj).1 hj] at ht
        cases ht
    · have e2 := of_decide_eq_false e2
      have sH2 := s1.trans s2
      rw [wins_foe e e2] at hwin
      refine b_cons (s_set 7 nd ((c_lst (N := fun a => H2 a = none) (ds := []) cs_nil fun _ h => h).run fun v H3 s3 hv => ?_))
      obtain ⟨l, xs, rfl, hl, nl, dl⟩ := hv.is_lst
      cases dl
      have sH3 := sH2.trans s3
      have lH : H l = none := sH2.free nl
      refine b_cons (s_forL (bs := moves Y p) (enc := dMove) rfl (g_name 5 nd) ((c_call (N := fun a => H3 a = none) (d := dMoves (moves Y p)) G2 (hr.mono (by omega)) (as_v (v_var 0 rfl) (as_d (c_var 1 rfl (h1.keep sH3)) as_nil)) (fun H'' s'' => ⟨y, Y, p, rfl, hy.keep (sH3.trans s''), ok, okp, rfl⟩) (fun _ h => h)).run fun v H4 s4 hv => ⟨fun a => H3 a = none, fun i σ' H' => ∃ o5, σ' = [some (.ref y), some v1, some v2, some v3, some (.ref kn), o5, none, some (.ref l)] ∧ (But kn H H' ∧ KnAt P w (winF Y sd) D H' kn) ∧ Dv (fun a => H3 a = none) H' v (dMoves (moves Y p)) ∧ ∃ xs, H' l = some (.lst xs) ∧ Da (fun a => H a = none ∧ a ≠ l) H' xs ((((moves Y p).take i).map fun m' => (m', winBy Y sd m (after p m'))).map dRow),
        ⟨none, rfl, ⟨But.of (sH3.trans s4), hk.keep (sH3.trans s4)⟩, hv, [], s4 _ _ hl, .nil⟩, fun i σ' H' _ ⟨_, _, _, h, _⟩ => h, ?_, ?_⟩))
      · rintro i mv x σ' H' him ⟨o5, rfl, ⟨b', k'⟩, hv', ys, hys, dys⟩ hx
        have hmv : mv ∈ moves Y p := List.mem_of_getElem? him
        have hwm : wins Y sd m (after p mv) = true := List.all_eq_true.mp hwin mv hmv
        have lkn : l ≠ kn := fun z => by
          obtain ⟨ks, ek⟩ := hk.is
          rw [z, ek] at lH
          cases lH
        have yl : ys.length ≤ 48 := by
          have h1 := dys.length
          have h2 := moves_len ok okp
          rw [List.length_map, List.length_map, List.length_take] at h1
          omega
        refine b_one (s_expr (e_appW (v_var 7 rfl) hys fun H5 s5 => e_tup2 ((c_var (N := Never) 5 rfl ((hx.keep s5).noL _ _ (noL_move mv))).run fun u1 H6 s6 hu1 => ?_)))
        have s56 := s5.trans s6
        have b6 := b'.trans (But.of s56)
        refine e_call G5 hr ((as_v (v_var 0 rfl) (as_d (c_call (d := dPos (after p mv)) G3 (hr.mono (by omega)) (as_d (c_var 1 rfl (h1.evo hk b6)) (as_d (c_var 5 rfl (hx.keep s56).any) as_nil)) (fun H'' s'' => ⟨p, mv, rfl, okp.up, by omega, rfl⟩) (fun _ _ => trivial)) (as_d (c_var 2 rfl (h2.evo hk b6)) (as_d (d := .int (m : Int)) (CD.is (c_sub (c_var 3 rfl (h3.evo hk b6)) c_int) (by rw [eM])) (as_v (v_var 4 rfl) as_nil))))) H6 (Same.refl _) _ fun vs H7 s7 hvs =>
          ⟨y, Y, after p mv, sd, kn, D, hvs, ⟨(hy.evo hk b6).keep s7, ok, (key mv hmv).1⟩, ⟨k'.keep (s56.trans s7), (key mv hmv).2, hD⟩, hwm, fun v3' H8 b8 k8 hv8 p' hp' => ?_⟩)
        have k7 := k'.keep (s56.trans s7)
        have b7 : But kn H H7 := b6.trans (But.of s7)
        have h7l : H7 l = some (.lst ys) := s7 _ _ (s56 _ _ hys)
        have h8l : H8 l = some (.lst ys) := b8 l _ lkn h7l
        have sp := same_new (o := .tup [u1, v3']) hp'
        have h9l := sp _ _ h8l
        have bH : But kn H (upd H8 p' (.tup [u1, v3'])) := (b7.trans b8).trans (But.of sp)
        have cross : ∀ {N : Addr → Prop} {v : V} {d : PyData}, Dv N H' v d → Dv N (upd H8 p' (.tup [u1, v3'])) v d := fun h => (((h.keep (s56.trans s7)).evo k7 b8).keep sp)
        refine ⟨ys, h9l, by rw [sizeLine_eq]; omega, _, rfl, ⟨fun c o n ec => ?_, (k8.keep sp).lst h9l⟩, (cross hv').over h9l fun z => (by rw [hl] at z; cases z), _, upd_same, ?_⟩
        · rw [upd_ne (ne_of_none ec lH)]
          exact bH c o n ec
        · have old : Da (fun a => H a = none ∧ a ≠ l) (upd H8 p' (.tup [u1, v3'])) ys ((((moves Y p).take i).map fun m' => (m', winBy Y sd m (after p m'))).map dRow) := ((dys.keep (s56.trans s7)).evo k7 b8).keep sp
          have new : Dv (fun a => H a = none ∧ a ≠ l) (upd H8 p' (.tup [u1, v3'])) (.ref p') (dRow (mv, winBy Y sd m (after p mv))) := by
            refine .tup upd_same (.cons ?_ (.cons ?_ .nil))
            · exact ((((hu1.keep s7).evo k7 b8).keep sp).noL _ _ (noL_move _))
            · exact (hv8.keep sp).mono (Same.refl _) fun a ha => ⟨b7.free_ k7.some_ ha, fun z => by rw [z] at ha; have ha : H7 l = none := ha; rw [h7l] at ha; cases ha⟩
          rw [take_succ_get him, List.map_append, List.map_append]
          exact (old.snoc new).over h9l fun z => z.2 rfl
      · rintro σ' H5 ⟨o5, rfl, ⟨b', k'⟩, _, ys, hys, dys⟩
        rw [List.take_length] at dys
        refine b_one (s_ret (CD.run (N := Free H) (d := .tuple [.str "all", .list (((moves Y p).map fun m' => (m', winBy Y sd m (after p m'))).map dRow)]) (c_tup (cs_cons c_str (cs_cons (c_var 7 rfl (.lst hys lH (dys.mono (Same.refl _) fun a h => h.1))) cs_nil))) fun v H6 s6 hv => q v H6 (b'.trans (But.of s6)) (k'.keep s6) ?_))
        rw [by_foe e e2, dTr, dRows_map]
        exact hv
end
end PY
set_option Elab.async false
set_option autoImplicit false
set_option linter.all false
set_option maxRecDepth 100000
set_option maxHeartbeats 4000000
/-! win_tree; is_tree, depth_of, check_either, depth. -/
namespace PY
open PySem L2 PySem.W
section
variable {P : Program} {w : World} {K : PySem.W.Frag} {mg : Str → Option Value} {base : Heap} {C : Addr}
abbrev N_win_tree : List Str := ["yard", "position", "side", "many", "known"]
theorem sc_win_tree : FnScope N_win_tree ["yard", "position", "side", "many"] (defScope s_win_tree) := ⟨rfl, rfl, rfl, by decide +kernel, rfl, by decide +kernel, by decide +kernel⟩
def pre_win_tree (C : Addr) : List AV → Hp → PyData → Prop := fun as H d => ∃ y Y p s, ∃ n : Nat, as = [.v (.ref y), .d (dPos p), .d (.int s), .d (.int (n : Int))] ∧ YardAt C H y Y ∧ OkY Y ∧ OkPos Y p ∧ (s = 0 ∨ s = 1) ∧ n ≤ 4 ∧ d = if wins Y s n p = true then dTr (winBy Y s n p) else .none
theorem kf_win_tree (T : Txt K mg C) : Kf P w K mg base 15 "win_tree" ["yard", "position", "side", "many"] (spF (pre_win_tree C)) := by
  obtain ⟨f, fd, F, hm⟩ := T.f_win_tree
  have G0 : Kf P w K mg base 6 "check_asked" ["yard", "position", "side", "many"] (spF (pre_check_asked C)) := kf_check_asked T
  refine kf_mk F hm (pure_body F sc_win_tree (fun as H d ⟨_, _, _, _, _, e, _⟩ => by rw [e]; rfl) fun cdv A outer s H vs as d Q E hr ha hp q => ?_) (fun _ _ _ _ _ _ us hl => match us, hl with | [_, _, _, _], _ => rfl)
  obtain ⟨y, Y, p, sd, n, rfl, hy, ok, okp, hs, hn, rfl⟩ := hp
  have G4 : Kf P w K mg base (9 + n) "wins" ["yard", "position", "side", "many", "known"] (spWin P w C n) := kf_wins T n hn
  have G5 : Kf P w K mg base (10 + n) "win_by" ["yard", "position", "side", "many", "known"] (spBy P w C n) := kf_win_by T n hn
  obtain ⟨_, rfl, ha, _⟩ := ha.consV
  obtain ⟨v1, _, rfl, h1, ha⟩ := ha.consD
  obtain ⟨v2, _, rfl, h2, ha⟩ := ha.consD
  obtain ⟨v3, _, rfl, h3, ha⟩ := ha.consD
  cases ha.nilD
  have nd := sc_win_tree.nd
  have hD : (keysOf Y n p).length ≤ 16000000 := Nat.le_trans (keys_len ok n p okp) (keyMost_le hn)
  refine b_cons (s_expr (CD.run (N := All_) (d := .none) (c_call G0 (hr.mono (by decide)) (as_v (v_var 0 rfl) (as_d (c_var 1 rfl h1) (as_d (c_var 2 rfl h2) (as_d (c_var 3 rfl h3) as_nil)))) (fun H' s' => ⟨y, Y, p, sd, n, rfl, hy.keep s', okp, hs, by omega, by omega, rfl⟩) (fun _ _ => trivial)) fun v H1 s1 hv => ?_))
  refine b_cons (s_set 4 nd (e_knew (f := winF Y sd) (D := keysOf Y n p) fun kn hkn kk => ?_))
  have sk : Same H1 (upd H1 kn (KnO P w (winF Y sd) kn [])) := same_new hkn
  have s2 := s1.trans sk
  have knH : H kn = none := s1.free hkn
  show wB _ _ _ _ _
  refine b_cons (s_if ((pt_not (tw _ _)).w (e_test (e_call G4 (hr.mono (by omega)) ((as_v (v_var 0 rfl) (as_d (c_var 1 rfl (h1.keep s2)) (as_d (c_var 2 rfl (h2.keep s2)) (as_d (c_var 3 rfl (h3.keep s2)) (as_v (v_var 4 rfl) as_nil))))) _ (Same.refl _) _ fun vs H3 s3 hvs => ⟨y, Y, p, sd, kn, keysOf Y n p, hvs, ⟨hy.keep (s2.trans s3), ok, okp⟩, ⟨kk.keep s3, fun _ h => h, hD⟩, fun H4 b4 k4 => ⟨_, rfl, ?_⟩⟩)))))
  have s4 : Same H H4 := But.same b4 (s2.trans s3) knH
  cases ew : wins Y sd n p with
  | false =>
    rw [ew] at q
    refine Eq.mpr (if_pos (show (!false) = true from rfl)) ?_
    exact b_one (s_ret (CD.run (N := Free H) (d := .none) c_non fun v H5 s5 hv => q v H5 (s4.trans s5) hv))
  | true =>
    rw [ew, if_pos rfl] at q
    refine Eq.mpr (if_neg (show ¬ (!true) = true from Bool.false_ne_true)) ?_
    refine b_nil (b_one (s_ret (e_call G5 (hr.mono (by omega)) ((as_v (v_var 0 rfl) (as_d (c_var 1 rfl (h1.keep s4)) (as_d (c_var 2 rfl (h2.keep s4)) (as_d (c_var 3 rfl (h3.keep s4)) (as_v (v_var 4 rfl) as_nil))))) H4 (Same.refl _) _ fun vs H5 s5 hvs => ⟨y, Y, p, sd, kn, keysOf Y n p, hvs, ⟨hy.keep (s4.trans s5), ok, okp⟩, ⟨k4.keep s5, fun _ h => h, hD⟩, ew, fun v H6 b6 k6 hv6 => ?_⟩))))
    exact q v H6 (But.same b6 (s4.trans s5) knH) (hv6.mono (Same.refl _) fun a ha => (s4.trans s5).free ha)
end
/-! ### trees -/
mutual
/-- rows, each some -/
def Tr.good : Tr → Bool
  | .won => true
  | .mv _ t => t.good
  | .all rows => (!rows.isEmpty && decide (rows.length ≤ 48)) && goodRows rows
def goodRows : List (Move × Tr) → Bool
  | [] => true
  | r :: rs => r.2.good && goodRows rs
end
theorem goodRows_at : ∀ {rs : List (Move × Tr)}, goodRows rs = true → ∀ r ∈ rs, r.2.good = true
  | [], _, r, h => nomatch h
  | a :: rs, g, r, h => by
    rw [goodRows, Bool.and_eq_true] at g
    rcases List.mem_cons.mp h with e | h
    · rw [e]; exact g.1
    · exact goodRows_at g.2 r h
theorem goodRows_of : ∀ {rs : List (Move × Tr)}, (∀ r ∈ rs, r.2.good = true) → goodRows rs = true
  | [], _ => by rw [goodRows]
  | a :: rs, h => by
    rw [goodRows, Bool.and_eq_true]
    exact ⟨h a List.mem_cons_self, goodRows_of fun r hr => h r (List.mem_cons_of_mem _ hr)⟩
theorem depthRows_at : ∀ {rs : List (Move × Tr)} {r : Move × Tr}, r ∈ rs → r.2.depth ≤ depthRows rs
  | a :: rs, r, h => by
    rw [depthRows]
    rcases List.mem_cons.mp h with e | h
    · rw [e]; exact Nat.le_max_left _ _
    · exact Nat.le_trans (depthRows_at h) (Nat.le_max_right _ _)
theorem depthRows_le : ∀ {rs : List (Move × Tr)} {n : Nat}, (∀ r ∈ rs, r.2.depth ≤ n) → depthRows rs ≤ n
  | [], _, _ => by rw [depthRows]; exact Nat.zero_le _
  | a :: rs, n, h => by
    rw [depthRows]
    exact Nat.max_le.mpr ⟨h a List.mem_cons_self, depthRows_le fun r hr => h r (List.mem_cons_of_mem _ hr)⟩
theorem depthRows_mem : ∀ {rs : List (Move × Tr)}, rs ≠ [] → ∃ r ∈ rs, r.2.depth = depthRows rs
  | [], h => absurd rfl h
  | [a], _ => ⟨a, List.mem_cons_self, by rw [depthRows, depthRows]; exact (Nat.max_eq_left (Nat.zero_le _)).symm⟩
  | a :: b :: rs, _ => by
    obtain ⟨r, hr, e⟩ := depthRows_mem (rs := b :: rs) nofun
    rw [depthRows]
    rcases Nat.le_total a.2.depth (depthRows (b :: rs)) with h | h
    · exact ⟨r, List.mem_cons_of_mem _ hr, by rw [Nat.max_eq_right h]; exact e⟩
    · exact ⟨a, List.mem_cons_self, by rw [Nat.max_eq_left h]⟩
/-- the tree of a win is good, no deeper than asked -/
theorem by_good {Y : Yr} {s : Int} (oy : OkY Y) : ∀ {n : Nat} {p : Ps}, OkPos Y p → (winBy Y s n p).good = true ∧ (winBy Y s n p).depth ≤ n
  | 0, p, _ => ⟨by rw [winBy, Tr.good], by rw [winBy, Tr.depth]; exact Nat.le_refl _⟩
  | n + 1, p, ok => by
    have all : (Tr.all ((moves Y p).map fun m => (m, winBy Y s n (after p m)))).depth ≤ n + 1 ∧ (verdict Y p = .open_ → (Tr.all ((moves Y p).map fun m => (m, winBy Y s n (after p m)))).good = true) := by
      refine ⟨?_, fun hv => ?_⟩
      · rw [Tr.depth]
        have := depthRows_le (rs := (moves Y p).map fun m => (m, winBy Y s n (after p m))) (n := n) fun r hr => by
          obtain ⟨m, hm, rfl⟩ := List.mem_map.mp hr
          exact (by_good oy (n := n) (ok_after ok hm)).2
        omega
      · rw [Tr.good, Bool.and_eq_true, Bool.and_eq_true]
        refine ⟨⟨?_, ?_⟩, goodRows_of fun r hr => ?_⟩
        · rw [Bool.not_eq_true', List.isEmpty_eq_false_iff]
          intro z
          exact moves_some hv (List.map_eq_nil_iff.mp z)
        · rw [decide_eq_true_eq, List.length_map]
          exact moves_len oy ok
        · obtain ⟨m, hm, rfl⟩ := List.mem_map.mp hr
          exact (by_good oy (n := n) (ok_after ok hm)).1
    unfold winBy
    by_cases hv : verdict Y p = .open_
    · rw [if_pos hv]
      by_cases hc : p.1 = s
      · rw [if_pos hc]
        cases hf : (moves Y p).find? fun m => wins Y s n (after p m) with
        | some m =>
          have ih := by_good oy (s := s) (n := n) (ok_after ok (List.mem_of_find?_eq_some hf))
          refine ⟨?_, ?_⟩
          · show (Tr.mv m _).good = true
            rw [Tr.good]; exact ih.1
          · show (Tr.mv m _).depth ≤ n + 1
            rw [Tr.depth]
            have := ih.2
            omega
        | none => exact ⟨all.2 hv, all.1⟩
      · rw [if_neg hc]; exact ⟨all.2 hv, all.1⟩
    · rw [if_neg hv]
      exact ⟨by rw [Tr.good], by rw [Tr.depth]; exact Nat.zero_le _⟩
/-- a win comes true along a line no longer than the tree is deep -/
theorem win_line {Y : Yr} {s : Int} : ∀ {n : Nat} {p : Ps}, OkPos Y p → wins Y s n p = true → ∃ k, k ≤ (winBy Y s n p).depth ∧ k ≤ n ∧ winLines Y s k p ≠ []
  | 0, p, ok, h => by
    rw [wins_end (n := 0) (.inr rfl)] at h
    refine ⟨0, Nat.zero_le _, Nat.le_refl _, ?_⟩
    show ([[]] : List (List Move)).filter _ ≠ []
    rw [List.filter_cons]
    show (if decide (verdict Y p = .won s) = true then _ else _) ≠ []
    rw [if_pos h]
    exact nofun
  | n + 1, p, ok, h => by
    by_cases hv : verdict Y p = .open_
    · have step : ∀ m ∈ moves Y p, ∀ k, winLines Y s k (after p m) ≠ [] → winLines Y s (k + 1) p ≠ [] := fun m hm k hk => by
        obtain ⟨l, hl⟩ := List.exists_mem_of_ne_nil _ hk
        obtain ⟨h1, h2⟩ := List.mem_filter.mp hl
        have : m :: l ∈ winLines Y s (k + 1) p := List.mem_filter.mpr ⟨List.mem_flatMap.mpr ⟨m, hm, List.mem_map.mpr ⟨l, h1, rfl⟩⟩, h2⟩
        exact List.ne_nil_of_mem this
      by_cases hc : p.1 = s
      · rw [wins_own hv hc] at h
        cases hf : (moves Y p).find? fun m => wins Y s n (after p m) with
        | some m =>
          have hm := List.mem_of_find?_eq_some hf
          have ht : wins Y s n (after p m) = true := List.find?_some (p := fun m => wins Y s n (after p m)) hf
          obtain ⟨k, k1, k2, k3⟩ := win_line (n := n) (ok_after ok hm) ht
          rw [by_own hv hc hf, Tr.depth]
          exact ⟨k + 1, by omega, by omega, step m hm k k3⟩
        | none =>
          exfalso
          obtain ⟨m, hm, ht⟩ := List.any_eq_true.mp h
          exact absurd ht (List.find?_eq_none.mp hf m hm)
      · rw [wins_foe hv hc] at h
        obtain ⟨m, hm⟩ := List.exists_mem_of_ne_nil _ (moves_some hv)
        obtain ⟨k, k1, k2, k3⟩ := win_line (n := n) (ok_after ok hm) (List.all_eq_true.mp h m hm)
        rw [by_foe hv hc, Tr.depth]
        have : (winBy Y s n (after p m)).depth ≤ _ := depthRows_at (rs := (moves Y p).map fun m => (m, winBy Y s n (after p m))) (List.mem_map.mpr ⟨m, hm, rfl⟩)
        exact ⟨k + 1, by omega, by omega, step m hm k k3⟩
    · rw [wins_end (.inl hv)] at h
      refine ⟨0, Nat.zero_le _, Nat.zero_le _, ?_⟩
      show ([[]] : List (List Move)).filter _ ≠ []
      rw [List.filter_cons]
      show (if decide (verdict Y p = .won s) = true then _ else _) ≠ []
      rw [if_pos h]
      exact nofun
theorem so_won : PyData.strOk ("won" : Str) = true := by decide +kernel
theorem so_move : PyData.strOk ("move" : Str) = true := by decide +kernel
theorem so_all : PyData.strOk ("all" : Str) = true := by decide +kernel
mutual
theorem lay_tr : ∀ t : Tr, (dTr t).canLay0 = true
  | .won => by simp [dTr, PyData.canLay0, PyData.canLayAll0, so_won]
  | .mv m t => by simp [dTr, PyData.canLay0, PyData.canLayAll0, lay_move, lay_tr t, so_move]
  | .all rows => by simp [dTr, PyData.canLay0, PyData.canLayAll0, lay_rows rows, so_all]
theorem lay_rows : ∀ rs : List (Move × Tr), PyData.canLayAll0 (dRows rs) = true
  | [] => by simp [dRows, PyData.canLayAll0]
  | r :: rs => by simp [dRows, PyData.canLay0, PyData.canLayAll0, lay_move, lay_tr r.2, lay_rows rs]
end
mutual
theorem deep_tr : ∀ t : Tr, (dTr t).depth ≤ 3 * t.depth + 3
  | .won => by simp [dTr, PyData.depth, PyData.depthAll]
  | .mv m t => by
    have := deep_tr t
    simp only [dTr, PyData.depth, PyData.depthAll, depth_move, Tr.depth]
    omega
  | .all rows => by
    have := deep_rows rows
    simp only [dTr, PyData.depth, PyData.depthAll, Tr.depth]
    omega
theorem deep_rows : ∀ rs : List (Move × Tr), PyData.depthAll (dRows rs) ≤ 3 * depthRows rs + 4
  | [] => by simp [dRows, PyData.depthAll]
  | r :: rs => by
    have h1 := deep_tr r.2
    have h2 := deep_rows rs
    simp only [dRows, PyData.depth, PyData.depthAll, depth_move, depthRows]
    have := Nat.le_max_left r.2.depth (depthRows rs)
    have := Nat.le_max_right r.2.depth (depthRows rs)
    omega
end
theorem sh_tr {t : Tr} (h : t.depth ≤ 12) : SeqAt.shaped (dTr t) = true := shaped_of (lay_tr t) (by have := deep_tr t; omega)
end PY
set_option Elab.async false
set_option autoImplicit false
set_option linter.all false
set_option maxRecDepth 100000
set_option maxHeartbeats 4000000
/-! is_tree, depth_of, check_either, depth. -/
namespace PY
open PySem L2 PySem.W
theorem sh_won1 : SeqAt.shaped (.tuple [.str ("won" : Str)]) = true := by decide +kernel
theorem ew_won : PyData.eqv (dTr .won) (.tuple [.str ("won" : Str)]) = true := by simp [dTr, PyData.eqv, PyData.eqvAll]
theorem ew_mv (m : Move) (t : Tr) : PyData.eqv (dTr (.mv m t)) (.tuple [.str ("won" : Str)]) = false := by simp [dTr, PyData.eqv, PyData.eqvAll]
theorem ew_all (rows : List (Move × Tr)) : PyData.eqv (dTr (.all rows)) (.tuple [.str ("won" : Str)]) = false := by simp [dTr, PyData.eqv, PyData.eqvAll]
theorem sh_str_move : SeqAt.shaped (.str ("move" : Str)) = true := by decide +kernel
theorem sh_str_all : SeqAt.shaped (.str ("all" : Str)) = true := by decide +kernel
theorem sh_str_won : SeqAt.shaped (.str ("won" : Str)) = true := by decide +kernel
section
variable {N : Addr → Prop} {X : Cx} {a : Expr} {σ : L2.St} {H : Hp} {pos : Pos}
/-- max(xs) of ints -/
theorem c_max {p : Pos} {is : List Int} {m : Int} (hc : X.calm = true) (hm : X.mg "max" = none) (ha : CD N X a σ H (.list (is.map .int))) (hne : is ≠ []) (h1 : ∀ m', m' ∈ is → (∀ y ∈ is, y ≤ m') → m' = m) (hg : Gl X "max" := by rfl) (he : starEach [a] X.env = [(false, eval a X.env)] := by rfl) : CD N X (.Call (.Name "max" p) [a] [] pos) σ H (.int m) :=
  cb_one (cr_max hc) hm (by decide +kernel) ha hg (he := he) (hr' := fun v H2 s2 hv Q q => by
    obtain ⟨l, xs, rfl, hl, _, dl⟩ := hv.is_lst
    rw [dl.ints] at hl
    exact ⟨l, is, rfl, SqL.of hl, List.length_pos_iff.mpr hne, fun m' h2 h3 => by rw [h1 m' h2 h3]; exact q _ H2 (Same.refl H2) (.int _)⟩)
end
section
variable {P : Program} {w : World} {K : PySem.W.Frag} {mg : Str → Option Value} {base : Heap} {C : Addr}
abbrev N_is_tree : List Str := ["tree", "leaf", "row"]
theorem sc_is_tree : FnScope N_is_tree ["tree", "leaf"] (defScope s_is_tree) := ⟨rfl, rfl, rfl, by decide +kernel, rfl, by decide +kernel, by decide +kernel⟩
def pre_is_tree (h : Nat) : List AV → Hp → PyData → Prop := fun as H d => ∃ t : Tr, as = [.d (dTr t), .d (.str "won")] ∧ t.good = true ∧ t.depth ≤ h ∧ d = .bool true
theorem kf_is_tree (T : Txt K mg C) : ∀ h : Nat, h ≤ 12 → Kf P w K mg base (h + 1) "is_tree" ["tree", "leaf"] (spF (pre_is_tree h)) := by
  intro h
  induction h with
  | zero =>
    intro _
    obtain ⟨f, fd, F, hm⟩ := T.f_is_tree
    refine kf_mk F hm (pure_body F sc_is_tree (fun as H d ⟨_, e, _⟩ => by rw [e]; rfl) fun cdv A outer s H vs as d Q E hr ha hp q => ?_) (fun _ _ _ _ _ _ us hl => match us, hl with | [_, _], _ => rfl)
    obtain ⟨t, rfl, hg, hd, rfl⟩ := hp
    obtain ⟨v0, _, rfl, h0, ha⟩ := ha.consD
    obtain ⟨v1, _, rfl, h1, ha⟩ := ha.consD
    cases ha.nilD
    cases t with
    | mv m t => rw [Tr.depth] at hd; omega
    | all rows => rw [Tr.depth] at hd; omega
    | won =>
      refine b_cons (s_ifB (k := true) (t_cmp ((eq_d (by exact hu64 hr) (sh_tr (by omega)) sh_won1).is ew_won) (c_var 0 rfl h0) (c_tup (cs_cons (c_var 1 rfl h1) cs_nil))) (fun _ H1 s1 => ?_) fun e => nomatch e)
      exact b_one (s_ret (CD.run (d := .bool true) c_bl fun v H2 s2 hv => q v H2 (s1.trans s2) hv))
  | succ h IH =>
    intro h12
    obtain ⟨f, fd, F, hm⟩ := T.f_is_tree
    have G : Kf P w K mg base (h + 1) "is_tree" ["tree", "leaf"] (spF (pre_is_tree h)) := IH (by omega)
    refine kf_mk F hm (pure_body F sc_is_tree (fun as H d ⟨_, e, _⟩ => by rw [e]; rfl) fun cdv A outer s H vs as d Q E hr ha hp q => ?_) (fun _ _ _ _ _ _ us hl => match us, hl with | [_, _], _ => rfl)
    obtain ⟨t, rfl, hg, hd, rfl⟩ := hp
    obtain ⟨v0, _, rfl, h0, ha⟩ := ha.consD
    obtain ⟨v1, _, rfl, h1, ha⟩ := ha.consD
    cases ha.nilD
    have nd := sc_is_tree.nd
    cases t with
    | won =>
      refine b_cons (s_ifB (k := true) (t_cmp ((eq_d (by exact hu64 hr) (sh_tr (by omega)) sh_won1).is ew_won) (c_var 0 rfl h0) (c_tup (cs_cons (c_var 1 rfl h1) cs_nil))) (fun _ H1 s1 => ?_) fun e => nomatch e)
      exact b_one (s_ret (CD.run (d := .bool true) c_bl fun v H2 s2 hv => q v H2 (s1.trans s2) hv))
    | mv m t =>
      refine b_cons (s_ifB (k := false) (t_cmp ((eq_d (by exact hu64 hr) (sh_tr (by omega)) sh_won1).is (ew_mv m t)) (c_var 0 rfl h0) (c_tup (cs_cons (c_var 1 rfl h1) cs_nil))) (fun e => nomatch e) fun _ H1 s1 => b_nil ?_)
      rw [dTr] at h0
      rw [Tr.depth] at hd
      rw [Tr.good] at hg
      refine b_cons (s_ifB (k := true) (CT.is (t_and2 (k2 := true) (t_cmp eq_i (c_lenT T.b_len (c_var 0 rfl (h0.keep s1))) c_int) fun _ => t_cmp ((eq_d (d1 := .str "move") (d2 := .str "move") (by exact hu64 hr) sh_str_move sh_str_move).is (by decide +kernel)) (c_ixT (ds := [.str "move", dMove m, dTr t]) (c_var 0 rfl (h0.keep s1)) c_int rfl) c_str) rfl) (fun _ H2 s2 => ?_) fun e => nomatch e)
      exact b_one (s_ret (CD.run (c_call G (by exact hr) (as_d (c_ixT (ds := [.str "move", dMove m, dTr t]) (c_var 0 rfl (h0.keep (s1.trans s2))) c_int rfl) (as_d (c_var 1 rfl (h1.keep (s1.trans s2))) as_nil)) (fun H' s' => ⟨t, rfl, hg, by omega, rfl⟩) (fun _ ha => (s1.trans s2).free ha)) fun v H3 s3 hv => q v H3 ((s1.trans s2).trans s3) hv))
    | all rows =>
      refine b_cons (s_ifB (k := false) (t_cmp ((eq_d (by exact hu64 hr) (sh_tr (by omega)) sh_won1).is (ew_all rows)) (c_var 0 rfl h0) (c_tup (cs_cons (c_var 1 rfl h1) cs_nil))) (fun e => nomatch e) fun _ H1 s1 => b_nil ?_)
      rw [dTr, dRows_map] at h0
      rw [Tr.depth] at hd
      rw [Tr.good, Bool.and_eq_true, Bool.and_eq_true, decide_eq_true_eq] at hg
      have hne : 0 < rows.length := by
        have := hg.1.1
        cases rows with
        | nil => simp at this
        | cons r rs => simp
      refine b_cons (s_ifB (k := false) (CT.is (t_and2 (k2 := false) (t_cmp eq_i (c_lenT T.b_len (c_var 0 rfl (h0.keep s1))) c_int) fun e => absurd e (by simp)) (by simp)) (fun e => nomatch e) fun _ H2 s2 => b_nil ?_)
      have s12 := s1.trans s2
      refine b_cons (s_ifB (k := true) (CT.is (t_and3 (k2 := true) (k3 := true) (t_cmp eq_i (c_lenT T.b_len (c_var 0 rfl (h0.keep s12))) c_int) (fun _ => t_cmp ((eq_d (d1 := .str "all") (d2 := .str "all") (by exact hu64 hr) sh_str_all sh_str_all).is (by decide +kernel)) (c_ixT (ds := [.str "all", .list (rows.map dRow)]) (c_var 0 rfl (h0.keep s12)) c_int rfl) c_str)
        fun _ _ => CT.is (t_cmp gt_i (c_lenL T.b_len (c_ixT (ds := [.str "all", .list (rows.map dRow)]) (c_var 0 rfl (h0.keep s12)) c_int rfl)) c_int) (decide_eq_true (by rw [List.length_map]; omega))) rfl) (fun _ H3 s3 => ?_) fun e => nomatch e)
      have s13 := s12.trans s3
      refine b_one (s_ret (CD.run (N := Free H) (CD.is (c_all (bs := rows.map fun _ => true) rfl T.b_all (CD.is (c_lc0 (N := All_) (bs := rows) (enc := dRow) (own := [("row", 2)]) (g := gName 2) (N0 := All_) (fun _ => .bool true) rfl nd (pi_list (ew _ _))
        (ci_list (c_ixT (ds := [.str "all", .list (rows.map dRow)]) (c_var 0 rfl (h0.keep s13)) c_int rfl)) (blkOk_by (N := N_is_tree) (sc := defScope s_is_tree) (by decide +kernel)) (fun _ _ _ _ _ => g_name 2 nd) ?_ (fun _ _ => trivial) (fun _ h => h) ?_) ?_)) ?_) fun v H4 s4 hv => q v H4 (s13.trans s4) hv))
      · omega
      · intro N' r x H5 hr5 s5 hx hfr R k
        have hrd := depthRows_at hr5
        exact k _ rfl fun s Hb Cc cl fp => c_call G (by exact hr) (as_d (c_ixT (ds := [dMove r.1, dTr r.2]) (c_var 2 rfl hx.any) c_int rfl) (as_d (c_var 1 rfl (h1.keep (s13.trans s5))) as_nil)) (fun H' s' => ⟨r.2, rfl, goodRows_at hg.2 r hr5, by omega, rfl⟩) hfr
      · rw [List.map_map]; rfl
      · simp
abbrev N_depth_of : List Str := ["tree", "row"]
theorem sc_depth_of : FnScope N_depth_of ["tree"] (defScope s_depth_of) := ⟨rfl, rfl, rfl, by decide +kernel, rfl, by decide +kernel, by decide +kernel⟩
def pre_depth_of (h : Nat) : List AV → Hp → PyData → Prop := fun as H d => ∃ t : Tr, as = [.d (dTr t)] ∧ t.good = true ∧ t.depth ≤ h ∧ d = .int (t.depth : Int)
theorem kf_depth_of (T : Txt K mg C) : ∀ h : Nat, h ≤ 12 → Kf P w K mg base (h + 1) "depth_of" ["tree"] (spF (pre_depth_of h)) := by
  intro h
  induction h with
  | zero =>
    intro _
    obtain ⟨f, fd, F, hm⟩ := T.f_depth_of
    refine kf_mk F hm (pure_body F sc_depth_of (fun as H d ⟨_, e, _⟩ => by rw [e]; rfl) fun cdv A outer s H vs as d Q E hr ha hp q => ?_) (fun _ _ _ _ _ _ us hl => match us, hl with | [_], _ => rfl)
    obtain ⟨t, rfl, hg, hd, rfl⟩ := hp
    obtain ⟨v0, _, rfl, h0, ha⟩ := ha.consD
    cases ha.nilD
    cases t with
    | mv m t => rw [Tr.depth] at hd; omega
    | all rows => rw [Tr.depth] at hd; omega
    | won =>
      rw [dTr] at h0
      rw [Tr.depth] at q
      refine b_cons (s_ifB (k := false) (t_cmp ((eq_d (d1 := .str "won") (d2 := .str "move") (by exact hu64 hr) sh_str_won sh_str_move).is (by decide +kernel)) (c_ixT (ds := [.str "won"]) (c_var 0 rfl h0) c_int rfl) c_str) (fun e => nomatch e) fun _ H1 s1 => b_nil ?_)
      refine b_cons (s_ifB (k := false) (t_cmp ((eq_d (d1 := .str "won") (d2 := .str "all") (by exact hu64 hr) sh_str_won sh_str_all).is (by decide +kernel)) (c_ixT (ds := [.str "won"]) (c_var 0 rfl (h0.keep s1)) c_int rfl) c_str) (fun e => nomatch e) fun _ H2 s2 => b_nil ?_)
      exact b_one (s_ret (CD.run (d := .int 0) c_int fun v H3 s3 hv => q v H3 ((s1.trans s2).trans s3) hv))
  | succ h IH =>
    intro h12
    obtain ⟨f, fd, F, hm⟩ := T.f_depth_of
    have G : Kf P w K mg base (h + 1) "depth_of" ["tree"] (spF (pre_depth_of h)) := IH (by omega)
    refine kf_mk F hm (pure_body F sc_depth_of (fun as H d ⟨_, e, _⟩ => by rw [e]; rfl) fun cdv A outer s H vs as d Q E hr ha hp q => ?_) (fun _ _ _ _ _ _ us hl => match us, hl with | [_], _ => rfl)
    obtain ⟨t, rfl, hg, hd, rfl⟩ := hp
    obtain ⟨v0, _, rfl, h0, ha⟩ := ha.consD
    cases ha.nilD
    have nd := sc_depth_of.nd
    cases t with
    | won =>
      rw [dTr] at h0
      rw [Tr.depth] at q
      refine b_cons (s_ifB (k := false) (t_cmp ((eq_d (d1 := .str "won") (d2 := .str "move") (by exact hu64 hr) sh_str_won sh_str_move).is (by decide +kernel)) (c_ixT (ds := [.str "won"]) (c_var 0 rfl h0) c_int rfl) c_str) (fun e => nomatch e) fun _ H1 s1 => b_nil ?_)
      refine b_cons (s_ifB (k := false) (t_cmp ((eq_d (d1 := .str "won") (d2 := .str "all") (by exact hu64 hr) sh_str_won sh_str_all).is (by decide +kernel)) (c_ixT (ds := [.str "won"]) (c_var 0 rfl (h0.keep s1)) c_int rfl) c_str) (fun e => nomatch e) fun _ H2 s2 => b_nil ?_)
      exact b_one (s_ret (CD.run (d := .int 0) c_int fun v H3 s3 hv => q v H3 ((s1.trans s2).trans s3) hv))
    | mv m t =>
      rw [dTr] at h0
      rw [Tr.depth] at hd q
      rw [Tr.good] at hg
      refine b_cons (s_ifB (k := true) (t_cmp ((eq_d (d1 := .str "move") (d2 := .str "move") (by exact hu64 hr) sh_str_move sh_str_move).is (by decide +kernel)) (c_ixT (ds := [.str "move", dMove m, dTr t]) (c_var 0 rfl h0) c_int rfl) c_str) (fun _ H1 s1 => ?_) fun e => nomatch e)
      exact b_one (s_ret (CD.run (CD.is (c_add c_int (c_call (d := .int (t.depth : Int)) G (by exact hr) (as_d (c_ixT (ds := [.str "move", dMove m, dTr t]) (c_var 0 rfl (h0.keep s1)) c_int rfl) as_nil) (fun H' s' => ⟨t, rfl, hg, by omega, rfl⟩) (fun _ _ => trivial))) (by rw [show (1 : Int) + (t.depth : Int) = ((1 + t.depth : Nat) : Int) by omega])) fun v H3 s3 hv => q v H3 (s1.trans s3) hv))
    | all rows =>
      rw [dTr, dRows_map] at h0
      rw [Tr.depth] at hd q
      rw [Tr.good, Bool.and_eq_true, Bool.and_eq_true, decide_eq_true_eq] at hg
      have hne : rows ≠ [] := by
        have := hg.1.1
        cases rows with
        | nil => simp at this
        | cons r rs => simp
      refine b_cons (s_ifB (k := false) (t_cmp ((eq_d (d1 := .str "all") (d2 := .str "move") (by exact hu64 hr) sh_str_all sh_str_move).is (by decide +kernel)) (c_ixT (ds := [.str "all", .list (rows.map dRow)]) (c_var 0 rfl h0) c_int rfl) c_str) (fun e => nomatch e) fun _ H1 s1 => b_nil ?_)
      refine b_cons (s_ifB (k := true) (t_cmp ((eq_d (d1 := .str "all") (d2 := .str "all") (by exact hu64 hr) sh_str_all sh_str_all).is (by decide +kernel)) (c_ixT (ds := [.str "all", .list (rows.map dRow)]) (c_var 0 rfl (h0.keep s1)) c_int rfl) c_str) (fun _ H2 s2 => ?_) fun e => nomatch e)
      have s12 := s1.trans s2
      refine b_one (s_ret (CD.run (CD.is (c_add c_int (c_max (N := All_) (is := rows.map fun r => (r.2.depth : Int)) (m := (depthRows rows : Int)) rfl T.b_max (CD.is (c_lc0 (N := All_) (bs := rows) (enc := dRow) (own := [("row", 1)]) (g := gName 1) (N0 := All_) (fun r => .int (r.2.depth : Int)) rfl nd (pi_list (ew _ _))
        (ci_list (c_ixT (ds := [.str "all", .list (rows.map dRow)]) (c_var 0 rfl (h0.keep s12)) c_int rfl)) (blkOk_by (N := N_depth_of) (sc := defScope s_depth_of) (by decide +kernel)) (fun _ _ _ _ _ => g_name 1 nd) (by omega) (fun _ _ => trivial) (fun _ h => h) ?_) ?_) ?_ ?_)) ?_) fun v H4 s4 hv => q v H4 (s12.trans s4) hv))
      · intro N' r x H5 hr5 s5 hx hfr R k
        have hrd := depthRows_at hr5
        exact k _ rfl fun s Hb Cc cl fp => c_call (d := .int (r.2.depth : Int)) G (by exact hr) (as_d (c_ixT (ds := [dMove r.1, dTr r.2]) (c_var 1 rfl hx.any) c_int rfl) as_nil) (fun H' s' => ⟨r.2, rfl, goodRows_at hg.2 r hr5, by omega, rfl⟩) hfr
      · rw [List.map_map]; rfl
      · intro z
        exact hne (List.map_eq_nil_iff.mp z)
      · intro m' h1 h2
        obtain ⟨r, hr1, rfl⟩ := List.mem_map.mp h1
        obtain ⟨r', hr', e'⟩ := depthRows_mem hne
        have h3 := h2 _ (List.mem_map.mpr ⟨r', hr', rfl⟩)
        have h4 := depthRows_at hr1
        omega
      · rw [show (1 : Int) + (depthRows rows : Int) = ((1 + depthRows rows : Nat) : Int) by omega]
theorem sc_check_either : FnScope ["tree"] ["tree"] (defScope s_check_either) := ⟨rfl, rfl, rfl, by decide +kernel, rfl, by decide +kernel, by decide +kernel⟩
def pre_check_either : List AV → Hp → PyData → Prop := fun as H d => ∃ t : Tr, as = [.d (dTr t)] ∧ t.good = true ∧ t.depth ≤ 4 ∧ d = .none
theorem kf_check_either (T : Txt K mg C) : Kf P w K mg base 6 "check_either" ["tree"] (spF pre_check_either) := by
  obtain ⟨f, fd, F, hm⟩ := T.f_check_either
  obtain ⟨tw, hw⟩ := T.i_WON
  have G : Kf P w K mg base 5 "is_tree" ["tree", "leaf"] (spF (pre_is_tree 4)) := kf_is_tree T 4 (by decide)
  refine kf_mk F hm (pure_body F sc_check_either (fun as H d ⟨_, e, _⟩ => by rw [e]; rfl) fun cdv A outer s H vs as d Q E hr ha hp q => ?_) (fun _ _ _ _ _ _ us hl => match us, hl with | [_], _ => rfl)
  obtain ⟨t, rfl, hg, hd, rfl⟩ := hp
  obtain ⟨v0, _, rfl, h0, ha⟩ := ha.consD
  cases ha.nilD
  exact b_one (s_ifB (k := false) (CT.is (t_and2 (k2 := false) (t_not (t_val (c_call (d := .bool true) G hr (as_d (c_var 0 rfl h0) (as_d (c_gstr hw) as_nil)) (fun H' s' => ⟨t, rfl, hg, hd, rfl⟩) (fun _ _ => trivial)))) fun e => nomatch e) rfl) (fun e => nomatch e) fun _ H1 s1 => b_nil (q .non H1 s1 .non))
theorem sc_depth : FnScope ["tree"] ["tree"] (defScope s_depth) := ⟨rfl, rfl, rfl, by decide +kernel, rfl, by decide +kernel, by decide +kernel⟩
def pre_depth : List AV → Hp → PyData → Prop := fun as H d => ∃ t : Tr, as = [.d (dTr t)] ∧ t.good = true ∧ t.depth ≤ 4 ∧ d = .int (t.depth : Int)
theorem kf_depth (T : Txt K mg C) : Kf P w K mg base 7 "depth" ["tree"] (spF pre_depth) := by
  obtain ⟨f, fd, F, hm⟩ := T.f_depth
  have G0 : Kf P w K mg base 6 "check_either" ["tree"] (spF pre_check_either) := kf_check_either T
  have G1 : Kf P w K mg base 5 "depth_of" ["tree"] (spF (pre_depth_of 4)) := kf_depth_of T 4 (by decide)
  refine kf_mk F hm (pure_body F sc_depth (fun as H d ⟨_, e, _⟩ => by rw [e]; rfl) fun cdv A outer s H vs as d Q E hr ha hp q => ?_) (fun _ _ _ _ _ _ us hl => match us, hl with | [_], _ => rfl)
  obtain ⟨t, rfl, hg, hd, rfl⟩ := hp
  obtain ⟨v0, _, rfl, h0, ha⟩ := ha.consD
  cases ha.nilD
  refine b_cons (s_expr (CD.run (N := All_) (d := .none) (c_call G0 hr (as_d (c_var 0 rfl h0) as_nil) (fun H' s' => ⟨t, rfl, hg, hd, rfl⟩) (fun _ _ => trivial)) fun v H1 s1 hv => ?_))
  exact b_one (s_ret (CD.run (c_call G1 (hr.mono (by decide)) (as_d (c_var 0 rfl (h0.keep s1)) as_nil) (fun H' s' => ⟨t, rfl, hg, hd, rfl⟩) (fun _ ha => s1.free ha)) fun v H2 s2 hv => q v H2 (s1.trans s2) hv))
end
end PY
set_option Elab.async false
set_option autoImplicit false
set_option linter.all false
set_option maxRecDepth 100000
set_option maxHeartbeats 4000000
/-! rising, is_step, is_kind; dicts of kinds. -/
namespace PY
open PySem L2 PySem.W
structure GoodKind (x : Kind) : Prop where
  leaps : ∀ st ∈ x.1, GoodStep st
  rides : ∀ st ∈ x.2.1, GoodStep st
  ll : x.1.length ≤ 16
  lr : x.2.1.length ≤ 16
  ul : x.1.Pairwise cellLt
  ur : x.2.1.Pairwise cellLt
  cr : x.2.2 = 0 ∨ x.2.2 = 1
theorem GoodKind.ok {x : Kind} (g : GoodKind x) : OkKind x := ⟨g.leaps, g.rides, g.ll, g.lr⟩
abbrev letters : List Str := ["k", "a", "b", "q", "c", "d", "e"]
structure OkParts (Y : Yr) : Prop where
  h : 1 ≤ Y.h ∧ Y.h ≤ 4
  w : 1 ≤ Y.w ∧ Y.w ≤ 4
  area : Y.h * Y.w ≤ 12
  ho : Y.holes.Pairwise cellLt ∧ Y.holes.length ≤ 100 ∧ ∀ c ∈ Y.holes, onBoard Y c = true
  g0 : Y.g0.Pairwise cellLt ∧ Y.g0.length ≤ 100 ∧ ∀ c ∈ Y.g0, isFree Y c = true
  g1 : Y.g1.Pairwise cellLt ∧ Y.g1.length ≤ 100 ∧ ∀ c ∈ Y.g1, isFree Y c = true
  ks : ∀ p ∈ Y.kinds, p.1 ∈ letters ∧ GoodKind p.2
  kn : 1 ≤ Y.kinds.length ∧ Y.kinds.length ≤ 6
  kd : (Y.kinds.map Prod.fst).Nodup
theorem lookup_mem {α β : Type} [BEq α] [LawfulBEq α] : ∀ {l : List (α × β)} {k : α} {x : β}, l.lookup k = some x → (k, x) ∈ l
  | [], _, _, h => by simp at h
  | (a, b) :: l, k, x, h => by
    rw [List.lookup_cons] at h
    cases e : k == a with
    | true =>
      rw [e] at h
      have e1 := eq_of_beq e
      have e2 : b = x := Option.some.inj h
      rw [e1, e2]
      exact List.mem_cons_self
    | false =>
      rw [e] at h
      exact List.mem_cons_of_mem _ (lookup_mem h)
theorem OkParts.yard {Y : Yr} (o : OkParts Y) : OkY Y := ⟨o.h, o.w, o.area, fun k x hx => (o.ks _ (lookup_mem hx)).2.ok⟩
section
variable {P : Program} {w : World} {K : PySem.W.Frag} {mg : Str → Option Value} {base : Heap} {C : Addr}
abbrev N_rising : List Str := ["row", "k"]
theorem sc_rising : FnScope N_rising ["row"] (defScope s_rising) := ⟨rfl, rfl, rfl, by decide +kernel, rfl, by decide +kernel, by decide +kernel⟩
def pre_rising : List AV → Hp → PyData → Prop := fun as H d => ∃ cs : List Cell, as = [.d (dCells cs)] ∧ cs.Pairwise cellLt ∧ cs.length ≤ 1000 ∧ d = .bool true
theorem kf_rising (T : Txt K mg C) : Kf P w K mg base 1 "rising" ["row"] (spF pre_rising) := by
  obtain ⟨f, fd, F, hm⟩ := T.f_rising
  refine kf_mk F hm (pure_body F sc_rising (fun as H d ⟨_, e, _⟩ => by rw [e]; rfl) fun cdv A outer s H vs as d Q E hr ha hp q => ?_) (fun _ _ _ _ _ _ us hl => match us, hl with | [_], _ => rfl)
  obtain ⟨cs, rfl, up, hl, rfl⟩ := hp
  obtain ⟨v0, _, rfl, h0, ha⟩ := ha.consD
  cases ha.nilD
  have nd := sc_rising.nd
  refine b_one (s_ret (CD.run (N := Free H) (CD.is (c_all (bs := (List.range (((cs.map dCell).length : Int) - 1).toNat).map fun _ => true) rfl T.b_all (CD.is (c_lc0 (N := All_) (bs := List.range (((cs.map dCell).length : Int) - 1).toNat) (enc := eUp 1) (own := [("k", 1)]) (g := gName 1) (N0 := All_) (fun _ => .bool true) rfl nd (pi_range2 (by rfl) T.b_range (pa_cons (ew _ _) (pa_cons (ew _ _) pa_nil)))
    (ci_range2 c_int (c_lenL T.b_len (c_var 0 rfl h0)) (by omega) (by rw [List.length_map]; omega)) (blkOk_by (N := N_rising) (sc := defScope s_rising) (by decide +kernel)) (fun _ _ _ _ _ => g_name 1 nd) (by rw [List.length_range, List.length_map]; omega) (fun _ _ => trivial) (fun _ h => h) ?_) ?_)) ?_) fun v H2 s2 hv => q v H2 s2 hv))
  · intro N' i x H' hi s' hx hfr R k
    rw [List.mem_range, List.length_map] at hi
    have i1 : i + 1 < cs.length := by omega
    have i0 : i < cs.length := by omega
    have e0 : cs[i]? = some cs[i] := List.getElem?_eq_getElem i0
    have e1 : cs[i + 1]? = some cs[i + 1] := List.getElem?_eq_getElem i1
    have lt : cellLt (cs[i]) (cs[i + 1]) := List.pairwise_iff_getElem.mp up i (i + 1) i0 i1 (Nat.lt_succ_self i)
    refine k _ rfl fun s Hb Cc cl fp => c_cmp ((lt_t (is := [(cs[i]).1, (cs[i]).2]) (js := [(cs[i + 1]).1, (cs[i + 1]).2]) (by exact hr.units0)).is (lexLt_cell lt)) ?_ ?_
    · exact c_ixL (ds := cs.map dCell) (c_var 0 rfl (h0.keep s')) (c_sub (c_var 1 rfl (d := .int (1 + (i : Int))) hx.any) c_int) (atI_i i (by omega) (at_map e0))
    · exact c_ixL (ds := cs.map dCell) (c_var 0 rfl (h0.keep s')) (c_var 1 rfl (d := .int (1 + (i : Int))) hx.any) (atI_i (i + 1) (by omega) (at_map e1))
  · rw [List.map_map]; rfl
  · simp
theorem sc_is_step : FnScope ["step"] ["step"] (defScope s_is_step) := ⟨rfl, rfl, rfl, by decide +kernel, rfl, by decide +kernel, by decide +kernel⟩
def pre_is_step : List AV → Hp → PyData → Prop := fun as H d => ∃ st : Step, as = [.d (dCell st)] ∧ GoodStep st ∧ d = .bool true
theorem kf_is_step (T : Txt K mg C) : Kf P w K mg base 1 "is_step" ["step"] (spF pre_is_step) := by
  obtain ⟨f, fd, F, hm⟩ := T.f_is_step
  obtain ⟨t4, h4⟩ := T.i_MOST_STEP
  refine kf_mk F hm (pure_body F sc_is_step (fun as H d ⟨_, e, _⟩ => by rw [e]; rfl) fun cdv A outer s H vs as d Q E hr ha hp q => ?_) (fun _ _ _ _ _ _ us hl => match us, hl with | [_], _ => rfl)
  obtain ⟨st, rfl, g, rfl⟩ := hp
  obtain ⟨v0, _, rfl, h0, ha⟩ := ha.consD
  cases ha.nilD
  obtain ⟨⟨⟨a1, a2⟩, b1, b2⟩, n⟩ := g
  refine b_one (s_ret (CD.run (N := Free H) (CD.is (c_and3 (k1 := true) (k2 := true) (k3 := true) (c_cmp ((ne_d (d2 := dCell (0, 0)) (by exact hu64 hr) (sh_cell st) (sh_cell _)).is ?_) (c_var 0 rfl h0) (c_tup (ds := [.int 0, .int 0]) (cs_cons c_int (cs_cons c_int cs_nil)))) (fun _ => CD.is (c_cmp le_i (c_abs T.b_abs (c_ixT (ds := [.int st.1, .int st.2]) (c_var 0 rfl h0) c_int rfl)) (c_gint h4)) ?_) fun _ _ => CD.is (c_cmp le_i (c_abs T.b_abs (c_ixT (ds := [.int st.1, .int st.2]) (c_var 0 rfl h0) c_int rfl)) (c_gint h4)) ?_) rfl) fun v H2 s2 hv => q v H2 s2 hv))
  · rw [eqv_cell, Bool.not_eq_true', decide_eq_false_iff_not]
    intro z
    rw [z] at n
    rcases n with n | n <;> exact n rfl
  · rw [decide_eq_true]
    split <;> omega
  · rw [decide_eq_true]
    split <;> omega
abbrev N_is_kind : List Str := ["letter", "kind", "leaps", "rides", "crown", "step"]
theorem sc_is_kind : FnScope N_is_kind ["letter", "kind"] (defScope s_is_kind) := ⟨rfl, rfl, rfl, by decide +kernel, rfl, by decide +kernel, by decide +kernel⟩
def pre_is_kind : List AV → Hp → PyData → Prop := fun as H d => ∃ (l : Str) (x : Kind), as = [.d (.str l), .d (dKind x)] ∧ l ∈ letters ∧ GoodKind x ∧ d = .bool true
theorem letter_in : ∀ l ∈ letters, (!(!(Builtin.Str.occurrences ("abcdefghijklmnopqrstuvwxyz" : Str) l 0 ("abcdefghijklmnopqrstuvwxyz" : Str).length 1).isEmpty)) = false ∧ l.length = 1 := by decide +kernel
theorem kf_is_kind (T : Txt K mg C) : Kf P w K mg base 2 "is_kind" ["letter", "kind"] (spF pre_is_kind) := by
  obtain ⟨f, fd, F, hm⟩ := T.f_is_kind
  obtain ⟨tl, hL⟩ := T.i_LETTERS
  have G1 : Kf P w K mg base 1 "rising" ["row"] (spF pre_rising) := kf_rising T
  have G2 : Kf P w K mg base 1 "is_step" ["step"] (spF pre_is_step) := kf_is_step T
  refine kf_mk F hm (pure_body F sc_is_kind (fun as H d ⟨_, _, e, _⟩ => by rw [e]; rfl) fun cdv A outer s H vs as d Q E hr ha hp q => ?_) (fun _ _ _ _ _ _ us hl => match us, hl with | [_, _], _ => rfl)
  obtain ⟨l, x, rfl, hl, g, rfl⟩ := hp
  obtain ⟨v0, _, rfl, h0, ha⟩ := ha.consD
  obtain ⟨v1, _, rfl, h1, ha⟩ := ha.consD
  cases ha.nilD
  have nd := sc_is_kind.nd
  have ll := letter_in l hl
  have l1 := g.ll
  have l2 := g.lr
  refine b_cons (s_asg (pg_tup rfl (pgs_cons (g_name 2 nd) (pgs_cons (g_name 3 nd) (pgs_cons (g_name 4 nd) pgs_nil)))) ((v_var 1 rfl).run fun H1 s1 => un3 (d1 := dCells x.1) (d2 := dCells x.2.1) (d3 := .int x.2.2) (h1.keep s1) fun u1 u2 u3 g1 g2 g3 => ?_))
  refine b_cons (s_ifB (k := false) (CT.is (t_or3 (k1 := false) (k2 := false) (k3 := false) (t_cmp (CmpR.is ne_i (by rw [ll.2]; rfl)) (c_lenS T.b_len (c_var 0 rfl (h0.keep s1)) (by rw [ll.2]; decide)) c_int) (fun _ => t_cmp (notin_s.is ll.1) (c_var 0 rfl (h0.keep s1)) (c_gstr hL)) fun _ _ => t_cmp ((notin_ti (is := [0, 1])).is ?_) (c_var 4 rfl g3) (c_tup (cs_cons c_int (cs_cons c_int cs_nil)))) rfl) (fun e => nomatch e) fun _ H2 s2 => b_nil ?_)
  · rcases g.cr with e | e <;> rw [e] <;> rfl
  refine b_one (s_ret (CD.run (N := Free H) (CD.is (c_and3 (k1 := true) (k2 := true) (k3 := true) (c_call G1 hr (as_d (c_var 2 rfl (g1.keep s2)) as_nil) (fun H' s' => ⟨x.1, rfl, g.ul, by omega, rfl⟩) (fun _ _ => trivial)) (fun _ => c_call G1 hr (as_d (c_var 3 rfl (g2.keep s2)) as_nil) (fun H' s' => ⟨x.2.1, rfl, g.ur, by omega, rfl⟩) (fun _ _ => trivial))
    fun _ _ => CD.is (c_all (N := All_) (bs := (x.1 ++ x.2.1).map fun _ => true) rfl T.b_all (CD.is (c_lc0 (N := All_) (bs := x.1 ++ x.2.1) (enc := dCell) (own := [("step", 5)]) (g := gName 5) (N0 := All_) (fun _ => .bool true) rfl nd (pi_list (ew _ _)) (ci_list (CD.is (c_cat (ds := x.1.map dCell) (es' := x.2.1.map dCell) (c_var 2 rfl (g1.keep s2)) (c_var 3 rfl (g2.keep s2)) (by rw [List.length_map, List.length_map, sizeLine_eq]; omega) (fun _ _ => trivial)) (by rw [List.map_append])))
      (blkOk_by (N := N_is_kind) (sc := defScope s_is_kind) (by decide +kernel)) (fun _ _ _ _ _ => g_name 5 nd) (by rw [List.length_append]; omega) (fun _ _ => trivial) (fun _ h => h) ?_) ?_)) ?_) rfl) fun v H3 s3 hv => q v H3 ((s1.trans s2).trans s3) hv))
  · intro N' st xx H' hst s' hx hfr R k
    have gs : GoodStep st := by
      rcases List.mem_append.mp hst with z | z
      · exact g.leaps st z
      · exact g.rides st z
    exact k _ rfl fun s Hb Cc cl fp => c_call G2 (by exact hr) (as_d (c_var 5 rfl hx.any) as_nil) (fun H' s' => ⟨st, rfl, gs, rfl⟩) hfr
  · rw [List.map_map]; rfl
  · simp
end
end PY
set_option Elab.async false
set_option autoImplicit false
set_option linter.all false
set_option maxRecDepth 100000
set_option maxHeartbeats 4000000
/-! Dicts of kinds; a yard that is being made; Yard's __init__. -/
namespace PY
open PySem L2 PySem.W
/-! ### data beside a thing that isn't data -/
def Aside : HO → Prop
  | .lst _ => False
  | .tup _ => False
  | _ => True
section
variable {N : Addr → Prop} {H H' : Hp} {x : Addr} {o : HO}
theorem Dv.by_ {v : V} {d : PyData} (h : Dv N H v d) (hx : H x = some o) (n : Aside o) (b : But x H H') : Dv N H' v d :=
  Dv.go (fun a ys q => b a _ (ne_of q hx (fun z => by rw [← z] at n; exact n)) q) (fun a ys m q => ⟨b a _ (ne_of q hx (fun z => by rw [← z] at n; exact n)) q, m⟩) d v h
theorem Da.by_ {v : List V} {d : List PyData} (h : Da N H v d) (hx : H x = some o) (n : Aside o) (b : But x H H') : Da N H' v d :=
  Da.go (fun a ys q => b a _ (ne_of q hx (fun z => by rw [← z] at n; exact n)) q) (fun a ys m q => ⟨b a _ (ne_of q hx (fun z => by rw [← z] at n; exact n)) q, m⟩) d v h
end
/-! ### the dict of kinds -/
structure KA (N : Addr → Prop) (H : Hp) (ki : Addr) (ks : List (Str × Kind)) : Prop where
  ex : ∃ kvs : List (Key × V), H ki = some (.dK kvs) ∧ kvs.map (·.1) = ks.map (fun p => Sum.inr p.1) ∧ Da N H (kvs.map (·.2)) (ks.map fun p => dKind p.2)
section
variable {N N' : Addr → Prop} {H H' : Hp} {ki : Addr} {ks : List (Str × Kind)}
theorem KA.keep (h : KA N H ki ks) (s : Same H H') : KA N H' ki ks := by
  obtain ⟨kvs, h1, h2, h3⟩ := h.ex
  exact ⟨kvs, s _ _ h1, h2, h3.keep s⟩
theorem KA.mono (h : KA N H ki ks) (n : ∀ a, N a → N' a) : KA N' H ki ks := by
  obtain ⟨kvs, h1, h2, h3⟩ := h.ex
  exact ⟨kvs, h1, h2, h3.mono (Same.refl _) n⟩
theorem KA.any (h : KA N H ki ks) : KindsAt H ki ks := by
  obtain ⟨kvs, h1, h2, h3⟩ := h.ex
  exact ⟨kvs, h1, h2, h3.any⟩
theorem KA.but {l : Addr} {xs : List V} (h : KA N H ki ks) (b : But l H H') (hl : H l = some (.lst xs)) (nl : ¬ N l) : KA N H' ki ks := by
  obtain ⟨kvs, h1, h2, h3⟩ := h.ex
  exact ⟨kvs, b ki _ (ne_of h1 hl (fun z => nomatch z)) h1, h2, h3.but b hl nl⟩
theorem KA.by_ {x : Addr} {o : HO} (h : KA N H ki ks) (hx : H x = some o) (n : Aside o) (ne : ki ≠ x) (b : But x H H') : KA N H' ki ks := by
  obtain ⟨kvs, h1, h2, h3⟩ := h.ex
  exact ⟨kvs, b ki _ ne h1, h2, h3.by_ hx n b⟩
theorem KA.new (h : H ki = none) : KA N (upd H ki (.dK [])) ki [] := ⟨[], upd_same, rfl, .nil⟩
/-- a new key -/
theorem KA.put {l : Str} {k : Kind} {v : V} (h : KA N H ki ks) (hl : l ∉ ks.map Prod.fst) (hz : ks.length < 1000) (hv : Dv N H v (dKind k)) : ∃ H', DPut H ki (.str l) v H' ∧ KA N H' ki (ks ++ [(l, k)]) ∧ ∃ kvs, H' = upd H ki (.dK kvs) := by
  obtain ⟨kvs, h1, h2, h3⟩ := h.ex
  have hn : valV kvs (Sum.inr l) = none := by
    have := kinds_none (k := l) h2
    cases e : valV kvs (Sum.inr l) with
    | none => rfl
    | some u =>
      exfalso
      rw [e] at this
      cases e2 : ks.lookup l with
      | none => rw [e2] at this; cases this
      | some x => exact hl (List.mem_map.mpr ⟨(l, x), lookup_mem e2, rfl⟩)
  have hlen : kvs.length = ks.length := by
    have := congrArg List.length h2
    rw [List.length_map, List.length_map] at this
    exact this
  refine ⟨_, DPut.k (k := Sum.inr l) h1 (by rw [hlen, sizeLine_eq]; omega), ⟨kvs ++ [(Sum.inr l, v)], by rw [putK_new v hn]; exact upd_same, by rw [List.map_append, List.map_append, h2]; rfl, ?_⟩, _, rfl⟩
  rw [List.map_append, List.map_append]
  exact (h3.snoc hv).by_ h1 trivial But.upd
end
section
variable {N : Addr → Prop} {X : Cx} {e o : Expr} {σ : L2.St} {H : Hp} {pos : Pos} {ki : Addr} {ks : List (Str × Kind)}
/-- len(kinds) -/
theorem c_lenK {p : Pos} (hm : X.mg "len" = none) (ho : CV X o σ H (.ref ki)) (hk : KA All_ H ki ks) (hg : Gl X "len" := by rfl) (he : starEach [o] X.env = [(false, eval o X.env)] := by rfl) : CD N X (.Call (.Name "len" p) [o] [] pos) σ H (.int ks.length) := fun H1 s1 Q q =>
  (pe_callB call_lenD hg hm PySem.boot_len (pa_cons (ew X o) pa_nil (by rw [he]; rfl)) (by decide) (by decide) (by rw [he]; rfl) rfl).w (ho H1 s1 _ fun H2 s2 => by
    obtain ⟨kvs, h1, h2, _⟩ := (hk.keep (s1.trans s2)).ex
    refine ⟨ki, kvs, rfl, h1, ?_⟩
    have hlen : kvs.length = ks.length := by
      have := congrArg List.length h2
      rw [List.length_map, List.length_map] at this
      exact this
    rw [hlen]
    exact q _ H2 s2 (.int _))
/-- kinds[l], kinds read only -/
theorem c_kRd {i : Expr} {l : Str} {x : Kind} {kvs : List (Key × V)} (hu : X.A.units + 1 < cLine) (ho : CV X o σ H (.ref ki)) (h1 : Rd H ki (.dK kvs)) (h2 : kvs.map (·.1) = ks.map (fun p => Sum.inr p.1)) (h3 : Da All_ H (kvs.map (·.2)) (ks.map fun p => dKind p.2)) (hi : CD All_ X i σ H (.str l)) (hk : ks.lookup l = some x) (hs : NoSl i := by intros; exact fun _ _ => rfl) :
    CD All_ X (.Subscript o i pos) σ H (dKind x) := fun H1 s1 Q q => (pe_dget hu (ew X o) (ew X i) hs).w (ho H1 s1 _ fun H2 s2 => hi H2 (s1.trans s2) _ fun v H3 s3 hv => by
  have sA := (s1.trans s2).trans s3
  obtain ⟨u, g1, g2⟩ := kinds_val h2 (h3.keep sA) hk
  rw [hv.is_str]
  refine ⟨ki, u, rfl, .inl ⟨kvs, Sum.inr l, ?_, rfl, g1.symm⟩, q u H3 (s2.trans s3) g2⟩
  rcases h1 with h1 | ⟨od, h1⟩
  · exact .inl (sA _ _ h1)
  · exact .inr ⟨od, sA _ _ h1⟩)
/-- the keys, while the dict is locked -/
theorem src_keys {d : Addr} {od : Obj} {kvs : List (Key × V)} (h : H d = some (.frz od (.dK kvs))) (hk : kvs.map (·.1) = ks.map (fun p => Sum.inr p.1)) : Src N (Itk d od kvs) H (ks.map fun p => .str p.1) := by
  have hlen : kvs.length = ks.length := by
    have := congrArg List.length hk
    rw [List.length_map, List.length_map] at this
    exact this
  unfold Src
  rw [List.length_map, ← hlen]
  exact walk_keys.mono (fun H' s => s _ _ h) fun i H' x H'' hi s y => by
    obtain ⟨y1, k, v, y2, y3⟩ := y
    have e : (kvs.map (·.1))[i]? = some k := by rw [List.getElem?_map, y2]; rfl
    rw [hk, List.getElem?_map] at e
    cases e2 : ks[i]? with
    | none => rw [e2] at e; cases e
    | some p =>
      rw [e2] at e
      have e3 : Sum.inr p.1 = k := Option.some.inj e
      refine ⟨y1, .str p.1, by rw [List.getElem?_map, e2]; rfl, ?_⟩
      rw [y3, ← e3]
      exact .str _
theorem ci_keys {d : Addr} {od : Obj} {kvs : List (Key × V)} (ho : CV X e σ H (.ref d)) (h : H d = some (.frz od (.dK kvs))) (hk : kvs.map (·.1) = ks.map (fun p => Sum.inr p.1)) : CI N (iKeys (wE X e)) σ H (ks.map fun p => .str p.1) := fun H1 s1 R q => ho H1 s1 _ fun H2 s2 =>
  ⟨d, od, rfl, .inl ⟨kvs, s2 _ _ (s1 _ _ h), q _ H2 s2 (src_keys (s2 _ _ (s1 _ _ h)) hk)⟩⟩
/-- [elt for tg in kinds] -/
theorem c_lcK {elt tg : Expr} {scope : Scope} {own : List (Str × Nat)} {g : TG} {N0 : Addr → Prop} (f : Str × Kind → PyData) (hc : X.calm = true) (nd : X.N.Nodup) (ho : ∀ H', But ki H H' → CV X e σ H' (.ref ki)) (hk : KA All_ H ki ks) (ok : BlkOk X.N X.env.scope scope own) (hg : GB X scope tg g) (hz : ks.length ≤ 1000) (hN : ∀ p, H p = none → N p) (hN0 : ∀ p, N0 p → N p)
    (hel : ∀ H1, Same H H1 → ∀ od kvs, H1 ki = some (.dK kvs) → kvs.map (·.1) = ks.map (fun p => Sum.inr p.1) → Da All_ (upd H1 ki (.frz od (.dK kvs))) (kvs.map (·.2)) (ks.map fun p => dKind p.2) → El0 X scope (own.map (·.2)) elt g σ (upd H1 ki (.frz od (.dK kvs))) ks (fun p => .str p.1) f)
    (hs : ∀ x, foldedSetIterable e X.env x = pure x := by intro _; rfl) : CD N X (.ListComp elt [⟨tg, e, [], 0⟩] scope pos) σ H (.list (ks.map f)) := fun H1 s1 Q q => by
  obtain ⟨kvs, h1, h2, h3⟩ := (hk.keep s1).ex
  refine (pe_lock (pe_lc hc nd (pi_keys (ew X e)) ok hg (fun _ _ _ _ _ => pts_nil) (fun s Hb C cl fp => blk_e X scope elt s Hb C cl fp) hs)).w ⟨ki, _, h1, trivial, fun od => ?_⟩
  have hL : upd H1 ki (.frz od (.dK kvs)) ki = some (.frz od (.dK kvs)) := upd_same
  have fr : ∀ p, upd H1 ki (.frz od (.dK kvs)) p = none → N p := fun p hp => hN p (s1.free (by
    by_cases z : p = ki
    · rw [z, upd_same] at hp; cases hp
    · rw [upd_ne z] at hp; exact hp))
  have hoL : CV X e σ (upd H1 ki (.frz od (.dK kvs))) (.ref ki) := ho _ ((But.of s1).trans But.upd)
  refine lc_read0 (N0 := N0) f (ci_keys hoL hL h2) (by omega) fr hN0 (hel H1 s1 od kvs h1 h2 (h3.by_ h1 trivial But.upd)) (Same.refl _) fun v H2 s2 hv => ⟨s2 _ _ hL, ?_⟩
  have h2k := s2 _ _ hL
  refine q v _ (fun b x hb => ?_) (hv.by_ h2k trivial But.upd)
  by_cases z : b = ki
  · rw [z, h1] at hb
    cases hb
    rw [z]; exact upd_same
  · rw [upd_ne z]
    exact s2 _ _ (by rw [upd_ne z]; exact hb)
end
/-! ### a yard that is being made -/
/-- the fields that its methods read -/
structure Prt (C : Addr) (H : Hp) (y : Addr) (Y : Yr) (fs : List (Str × V)) : Prop where
  at_ : ∃ dx, H y = some (.ins C dx fs)
  lh : fs.lookup ("height" : Str) = some (.int Y.h)
  lw : fs.lookup ("width" : Str) = some (.int Y.w)
  lo : ∃ v, fs.lookup ("holes" : Str) = some v ∧ Dv All_ H v (dCells Y.holes)
  n1 : fs.lookup ("on_board" : Str) = none
  n2 : fs.lookup ("is_free" : Str) = none
theorem Prt.keep {C : Addr} {H H' : Hp} {y : Addr} {Y : Yr} {fs : List (Str × V)} (h : Prt C H y Y fs) (s : Same H H') : Prt C H' y Y fs := by
  obtain ⟨dx, h1⟩ := h.at_
  obtain ⟨v, h2, h3⟩ := h.lo
  exact ⟨⟨dx, s _ _ h1⟩, h.lh, h.lw, ⟨v, h2, h3.keep s⟩, h.n1, h.n2⟩
section
variable {P : Program} {w : World} {K : PySem.W.Frag} {mg : Str → Option Value} {base : Heap} {C : Addr}
def pre_on_board2 (C : Addr) : List AV → Hp → PyData → Prop := fun as H d => ∃ y Y c fs, as = [.v (.ref y), .d (dCell c)] ∧ Prt C H y Y fs ∧ d = .bool (onBoard Y c)
theorem km_on_board2 (T : Txt K mg C) : Km P w K mg base C 1 "on_board" ["self", "cell"] (spF (pre_on_board2 C)) := by
  obtain ⟨f, fd, F, hm⟩ := T.m_on_board
  refine km_mk F hm (pure_body F sc_on_board (fun as H d ⟨_, _, _, _, e, _⟩ => by rw [e]; rfl) fun cdv A outer s H vs as d Q E hr ha hp q => ?_) (fun _ _ _ _ _ _ us hl => match us, hl with | [_, _], _ => rfl)
  obtain ⟨y, Y, c, fs, rfl, hy, rfl⟩ := hp
  obtain ⟨_, rfl, ha, _⟩ := ha.consV
  obtain ⟨v2, _, rfl, h2, ha⟩ := ha.consD
  cases ha.nilD
  obtain ⟨dx, h1⟩ := hy.at_
  exact b_one (s_ret (CD.run (d := .bool (onBoard Y c)) (c_and2 (c_chain le_i lt_i c_int (c_ixT (c_var 1 rfl h2) c_int rfl) (c_val (v_fld (v_var 0 rfl) h1 T.yCl T.y_height hy.lh) (.int _))) fun _ => c_chain le_i lt_i c_int (c_ixT (c_var 1 rfl h2) c_int rfl) (c_val (v_fld (v_var 0 rfl) h1 T.yCl T.y_width hy.lw) (.int _))) fun v H2 s2 hv => q v H2 s2 hv))
def pre_is_free2 (C : Addr) : List AV → Hp → PyData → Prop := fun as H d => ∃ y Y c fs, as = [.v (.ref y), .d (dCell c)] ∧ Prt C H y Y fs ∧ d = .bool (isFree Y c)
theorem km_is_free2 (T : Txt K mg C) : Km P w K mg base C 2 "is_free" ["self", "cell"] (spF (pre_is_free2 C)) := by
  obtain ⟨f, fd, F, hm⟩ := T.m_is_free
  have G : Km P w K mg base C 1 "on_board" ["self", "cell"] (spF (pre_on_board2 C)) := km_on_board2 T
  refine km_mk F hm (pure_body F sc_is_free (fun as H d ⟨_, _, _, _, e, _⟩ => by rw [e]; rfl) fun cdv A outer s H vs as d Q E hr ha hp q => ?_) (fun _ _ _ _ _ _ us hl => match us, hl with | [_, _], _ => rfl)
  obtain ⟨y, Y, c, fs, rfl, hy, rfl⟩ := hp
  obtain ⟨_, rfl, ha, _⟩ := ha.consV
  obtain ⟨v2, _, rfl, h2, ha⟩ := ha.consD
  cases ha.nilD
  obtain ⟨dx, h1⟩ := hy.at_
  obtain ⟨vo, lo1, lo2⟩ := hy.lo
  exact b_one (s_ret (CD.run (d := .bool (isFree Y c)) (c_and2 (c_meth T G hr (v_var 0 rfl) h1 hy.n1 (as_d (c_var 1 rfl h2) as_nil) (fun H' s' => ⟨y, Y, c, fs, rfl, hy.keep s', rfl⟩) (fun _ _ => trivial)) fun _ => c_cmp ((notin_d (by exact hu65 hr) (sh_cell c) (sh_cells _)).is (by rw [any_cell])) (c_var 1 rfl h2) (c_val (v_fld (v_var 0 rfl) h1 T.yCl T.y_holes lo1) lo2)) fun v H2 s2 hv => q v H2 s2 hv))
section
variable {X : Cx} {e o : Expr} {σ : L2.St} {H : Hp} {pos pos' : Pos} {Dn : Ends} {x C dx : Addr} {fs : List (Str × V)} {f : Str}
/-- o.f = e -/
theorem s_fld {d : PyData} {N : Addr → Prop} (hC : Cls X.K C) (hn : NoAttr X.K C f) (ho : ∀ H1, Same H H1 → CV X o σ H1 (.ref x)) (hx : H x = some (.ins C dx fs)) (hl : fs.length < 100) (he : CD N X e σ H d) (q : ∀ v H1, Same H H1 → Dv N H1 v d → Dn.nx σ (upd H1 x (.ins C dx (putF f v fs))))
    (hs : swapsWith e (some (.Attribute o f pos')) pos.line X.env = pure false := by rfl) : wS X (.Assign [.Attribute o f pos'] e pos) Dn σ H :=
  (ps_fld (ew X o) (ew X e) hs).w (he.run fun v H1 s1 hv => (ho H1 s1).run fun H2 s2 => ⟨x, C, dx, fs, rfl, s2 _ _ (s1 _ _ hx), hC, hn, by omega, q v H2 (s1.trans s2) (hv.keep s2)⟩)
end
abbrev N_init : List Str := ["self", "height", "width", "holes", "kinds", "goals", "stuck", "cell", "letter", "row", "leaps", "rides", "crown"]
theorem sc_init : FnScope N_init ["self", "height", "width", "holes", "kinds", "goals", "stuck"] (defScope s_Yard_init) := ⟨rfl, rfl, rfl, by decide +kernel, rfl, by decide +kernel, by decide +kernel⟩
/-- the same yard, its kinds in another order -/
structure Like (Y Y' : Yr) : Prop where
  h : Y'.h = Y.h
  w : Y'.w = Y.w
  ho : Y'.holes = Y.holes
  g0 : Y'.g0 = Y.g0
  g1 : Y'.g1 = Y.g1
  lo : Y'.lost = Y.lost
  ks : ∀ k, Y'.kinds.lookup k = Y.kinds.lookup k
/-- what __init__ makes -/
def spInit (C : Addr) : Sp := fun vs H Q _ => ∃ x dx ho ki go Y, vs = [.ref x, .int Y.h, .int Y.w, ho, .ref ki, go, .str (if Y.lost then "lost" else "drawn")] ∧ H x = some (.ins C dx []) ∧ OkParts Y ∧ (Dv All_ H ho (dCells Y.holes) ∧ KA All_ H ki Y.kinds ∧ Dv All_ H go (.tuple [dCells Y.g0, dCells Y.g1])) ∧
  ∀ H' Y', But x H H' → YardAt C H' x Y' → Like Y Y' → Q .non H'
end
end PY
set_option Elab.async false
set_option autoImplicit false
set_option linter.all false
set_option maxRecDepth 100000
set_option maxHeartbeats 8000000
/-! Yard's __init__. -/
namespace PY
open PySem L2 PySem.W
theorem lookup_of {α β : Type} [BEq α] [LawfulBEq α] : ∀ {l : List (α × β)} {p : α × β}, (l.map Prod.fst).Nodup → p ∈ l → l.lookup p.1 = some p.2
  | (a, b) :: l, p, n, h => by
    rw [List.map_cons] at n
    obtain ⟨n1, n2⟩ := List.nodup_cons.mp n
    rw [List.lookup_cons]
    rcases List.mem_cons.mp h with z | z
    · rw [z]; simp
    · have ne : (p.1 == a) = false := by
        cases e : p.1 == a with
        | false => rfl
        | true => exact absurd (List.mem_map.mpr ⟨p, z, eq_of_beq e⟩) n1
      rw [ne]
      exact lookup_of n2 z
theorem lookup_self {f : Str → Kind} : ∀ (ys : List Str) (k : Str), (ys.map fun l => (l, f l)).lookup k = if k ∈ ys then some (f k) else none
  | [], k => rfl
  | a :: ys, k => by
    rw [List.map_cons, List.lookup_cons]
    by_cases h : k = a
    · subst h
      simp
    · have h' : (k == a) = false := by simpa using h
      rw [h', lookup_self ys k]
      simp [h]
theorem mem_lookup {α β : Type} [BEq α] [LawfulBEq α] : ∀ {l : List (α × β)} {k : α}, k ∈ l.map Prod.fst → ∃ x, l.lookup k = some x
  | [], _, h => by simp at h
  | (a, b) :: l, k, h => by
    rw [List.lookup_cons]
    cases e : k == a with
    | true => exact ⟨b, rfl⟩
    | false =>
      rw [List.map_cons] at h
      rcases List.mem_cons.mp h with z | z
      · rw [z] at e
        have e : (a == a) = false := e
        rw [beq_self_eq_true] at e
        cases e
      · exact mem_lookup z
section
variable {X : Cx} {e o : Expr} {σ : L2.St} {H : Hp} {pos pos' : Pos} {Dn : Ends} {x C dx : Addr} {fs : List (Str × V)} {f : Str} {d : PyData} {N : Addr → Prop}
/-- o.f = e; only o is changed -/
theorem s_fldB (hC : Cls X.K C) (hn : NoAttr X.K C f) (ho : ∀ H1, CV X o σ H1 (.ref x)) (hx : H x = some (.ins C dx fs)) (hl : fs.length < 100) (he : CD N X e σ H d) (q : ∀ v H2, H2 x = some (.ins C dx (putF f v fs)) → But x H H2 → Dv N H2 v d → Dn.nx σ H2)
    (hs : swapsWith e (some (.Attribute o f pos')) pos.line X.env = pure false := by rfl) : wS X (.Assign [.Attribute o f pos'] e pos) Dn σ H :=
  s_fld hC hn (fun H1 _ => ho H1) hx hl he (fun v H1 s1 hv => q v _ upd_same ((But.of s1).trans But.upd) (hv.by_ (s1 _ _ hx) trivial But.upd)) hs
/-- o.f = {} -/
theorem s_fldNew {dpos : Pos} (hC : Cls X.K C) (hn : NoAttr X.K C f) (ho : ∀ H1, CV X o σ H1 (.ref x)) (hx : H x = some (.ins C dx fs)) (hl : fs.length < 100) (q : ∀ kd H2, H kd = none → kd ≠ x → H2 x = some (.ins C dx (putF f (.ref kd) fs)) → But x H H2 → H2 kd = some (.dK []) → Dn.nx σ H2)
    (hs : swapsWith (.Dict [] [] dpos) (some (.Attribute o f pos')) pos.line X.env = pure false := by rfl) : wS X (.Assign [.Attribute o f pos'] (.Dict [] [] dpos) pos) Dn σ H :=
  (ps_fld (ew X o) pe_dnewK hs).w fun kd hkd => (ho _).run fun H2 s2 => by
    have ne : kd ≠ x := fun z => by rw [z, hx] at hkd; cases hkd
    have s1 : Same H (upd H kd (.dK [])) := same_new hkd
    exact ⟨x, C, dx, fs, rfl, s2 _ _ (s1 _ _ hx), hC, hn, by omega, q kd _ hkd ne upd_same ((But.of (s1.trans s2)).trans But.upd) (by rw [upd_ne ne]; exact s2 _ _ upd_same)⟩
end
section
variable {N : Addr → Prop} {X : Cx} {e : Expr} {σ : L2.St} {H : Hp} {pos : Pos} {D : Ends}
/-- over a list of data that is known behind its making -/
theorem s_forLX {β : Type} {enc : β → PyData} {tg : Expr} {body : List Stmt} {g : TG} (hc : X.calm = true) (hg : PG X tg g) (h : wE X e σ H fun v H1 => ∃ (bs : List β) (N : Addr → Prop) (Pv : Nat → L2.St → Hp → Prop), Pv 0 σ H1 ∧ (∀ i σ' H', i ≤ bs.length → Pv i σ' H' → Dv N H' v (.list (bs.map enc))) ∧
      (∀ i d x σ' H', bs[i]? = some d → Pv i σ' H' → Dv N H' x (enc d) → g x σ' H' fun σ2 H2 => wB X body { D with nx := Pv (i + 1), ct := Pv (i + 1), bk := D.nx } σ2 H2) ∧ ∀ σ' H', Pv bs.length σ' H' → D.nx σ' H')
    (hp : PassesOwn (model X.prog X.w) X.A X.env X.xe := by exact PassesOwn.never) (hs : ∀ x, foldedSetIterable e X.env x = pure x := by intro _; rfl) : wS X (.For tg e body [] pos) D σ H := by
  refine (ps_for hp hc (pi_list (ew X e)) hg (bw X body) hs).w (wE_mono h fun v H1 ⟨bs, N, Pv, h0, hl, hs, hd⟩ => ?_)
  obtain ⟨p, xs, rfl, hxs, np, dxs⟩ := (hl 0 σ H1 (Nat.zero_le _) h0).is_lst
  refine ⟨p, rfl, ⟨xs, SqL.of hxs⟩, fun i m σ H => m = bs.length - i ∧ i ≤ bs.length ∧ Pv i σ H, ⟨_, rfl, Nat.zero_le _, h0⟩, ?_⟩
  rintro i m σ H ⟨rfl, hi, pv⟩
  obtain ⟨q, ys, e1, hys, _, dys⟩ := (hl i σ H hi pv).is_lst
  cases e1
  by_cases hlt : i < bs.length
  · refine .inr ⟨⟨ys, ys[i]'(by rw [dys.length, List.length_map]; exact hlt), SqL.of hys, by simp⟩, Pv (i + 1), fun σ' H' p' => ⟨bs.length - (i + 1), by omega, rfl, hlt, p'⟩, fun x H' y => ?_⟩
    obtain ⟨e, y⟩ := y
    subst e
    obtain ⟨d', e2, dx⟩ := dys.get (y ys (SqL.of hys))
    rw [List.getElem?_map] at e2
    cases e3 : bs[i]? with
    | none => rw [e3] at e2; cases e2
    | some d =>
      rw [e3] at e2
      cases e2
      exact hs i d x σ _ e3 pv dx
  · have e : i = bs.length := by omega
    subst e
    exact .inl ⟨⟨ys, SqL.of hys, by rw [dys.length, List.length_map]; exact Nat.le_refl _⟩, hd σ H pv⟩
theorem strs_da : ∀ ys : List Str, Da N H (ys.map V.str) (ys.map .str)
  | [] => .nil
  | y :: ys => .cons (.str y) (strs_da ys)
end
section
variable {P : Program} {w : World} {K : PySem.W.Frag} {mg : Str → Option Value} {base : Heap} {C : Addr}
theorem fn_init (T : Txt K mg C) {f : Addr} {fd : FuncData} (F : FnP K "__init__" "Yard.__init__" s_Yard_init f fd) : FnOk P w K mg base CX0 3 f fd ["self", "height", "width", "holes", "kinds", "goals", "stuck"] (spInit C) := by
  obtain ⟨t5, h5⟩ := T.i_MOST_SIDE
  obtain ⟨t6, h6⟩ := T.i_MOST_KINDS
  have G1 : Kf P w K mg base 1 "rising" ["row"] (spF pre_rising) := kf_rising T
  have G2 : Kf P w K mg base 2 "is_kind" ["letter", "kind"] (spF pre_is_kind) := kf_is_kind T
  have M1 : Km P w K mg base C 1 "on_board" ["self", "cell"] (spF (pre_on_board2 C)) := km_on_board2 T
  have M2 : Km P w K mg base C 2 "is_free" ["self", "cell"] (spF (pre_is_free2 C)) := km_is_free2 T
  refine fn_body (k := 2) F sc_init (fun vs H Q E ⟨_, _, _, _, _, _, e, _⟩ => by rw [e]; rfl) fun cdv A outer s H vs Q E hr hsp => ?_
  obtain ⟨x, dx, hov, ki, gov, Y, rfl, hx, ok, ⟨hho, hki, hgo⟩, q⟩ := hsp
  have nd := sc_init.nd
  have kix : ki ≠ x := by
    obtain ⟨kvs, h1, _⟩ := hki.ex
    exact ne_of h1 hx (fun z => nomatch z)
  have lstT : (if Y.lost = true then ("lost" : Str) else "drawn") ∈ [("lost" : Str), "drawn"] := by cases Y.lost <;> simp
  -- the board and the word
  refine b_cons (s_ifB (k := false) (CT.is (t_or3 (k1 := false) (k2 := false) (k3 := false) (CT.is (t_not (t_chain le_i le_i c_int (c_var 1 rfl (.int _)) (c_gint h5))) (by have := ok.h; simp; omega)) (fun _ => CT.is (t_not (t_chain le_i le_i c_int (c_var 2 rfl (.int _)) (c_gint h5))) (by have := ok.w; simp; omega)) fun _ _ => t_cmp ((notin_ts (is := [("lost" : Str), "drawn"])).is (by rw [decide_eq_true lstT]; rfl)) (c_var 6 rfl (.str _)) (c_tup (cs_cons c_str (cs_cons c_str cs_nil)))) rfl) (fun e => nomatch e) fun _ H1 s1 => b_nil ?_)
  refine b_cons (s_fldB (d := .int Y.h) (N := All_) T.yCl T.y_height (fun H2 => v_var 0 rfl) (s1 _ _ hx) (by decide) (c_var 1 rfl (.int _)) fun v1 H2 x2 b2 hv1 => ?_)
  obtain rfl := hv1.is_int
  have B2 : But x H H2 := (But.of s1).trans b2
  refine b_cons (s_fldB (d := .int Y.w) (N := All_) T.yCl T.y_width (fun H2 => v_var 0 rfl) x2 (Nat.le_of_ble_eq_true rfl) (c_var 2 rfl (.int _)) fun v1 H3 x3 b3 hv1 => ?_)
  obtain rfl := hv1.is_int
  have B3 : But x H H3 := B2.trans b3
  refine b_cons (s_fldB (d := dCells Y.holes) (N := All_) T.yCl T.y_holes (fun H2 => v_var 0 rfl) x3 (Nat.le_of_ble_eq_true rfl) (c_listL T.b_list (c_var 3 rfl (hho.by_ hx trivial B3)) (fun _ _ => trivial)) fun v4 H4 x4 b4 hv4 => ?_)
  have B4 : But x H H4 := B3.trans b4
  refine b_cons (s_fldB (d := .str (if Y.lost = true then "lost" else "drawn")) (N := All_) T.yCl T.y_stuck (fun H2 => v_var 0 rfl) x4 (Nat.le_of_ble_eq_true rfl) (c_var 6 rfl (.str _)) fun v5 H5 x5 b5 hv5 => ?_)
  obtain rfl := hv5.is_str
  have B5 : But x H H5 := B4.trans b5
  have hv4' := hv4.by_ x4 trivial b5
  have pr : Prt C H5 x Y (putF "stuck" (.str (if Y.lost = true then "lost" else "drawn")) (putF "holes" v4 (putF "width" (.int Y.w) (putF "height" (.int Y.h) [])))) :=
    ⟨⟨dx, x5⟩, by with_unfolding_all rfl, by with_unfolding_all rfl, ⟨v4, by with_unfolding_all rfl, hv4'⟩, by with_unfolding_all rfl, by with_unfolding_all rfl⟩
  have n1 := pr.n1
  have n2 := pr.n2
  have hho5 := hho.by_ hx trivial B5
  have hki5 := hki.by_ hx trivial kix B5
  have hgo5 := hgo.by_ hx trivial B5
  -- the holes
  refine b_cons (s_ifB (k := false) (CT.is (t_or2 (k1 := false) (k2 := false) (CT.is (t_not (t_val (c_call (d := .bool true) G1 (hr.mono (by decide)) (as_d (c_var 3 rfl hho5) as_nil) (fun H' s' => ⟨Y.holes, rfl, ok.ho.1, by have := ok.ho.2.1; omega, rfl⟩) (fun _ _ => trivial)))) rfl) fun _ => CT.is (t_not (t_val (c_all (bs := Y.holes.map fun _ => true) rfl T.b_all (CD.is (c_lc0 (N := All_) (bs := Y.holes) (enc := dCell) (own := [("cell", 7)]) (g := gName 7) (N0 := All_) (fun _ => .bool true) rfl nd (pi_list (ew _ _)) (ci_list (c_var 3 rfl hho5)) (blkOk_by (N := N_init) (sc := defScope s_Yard_init) (by decide +kernel)) (fun _ _ _ _ _ => g_name 7 nd) (by have := ok.ho.2.1; omega) (fun _ _ => trivial) (fun _ h => h) ?_) ?_)))) (by simp)) rfl) (fun e => nomatch e) fun _ H6 s6 => b_nil ?_)
  · intro N' c xx H' hc s' hxx hfr R k
    exact k _ rfl fun s Hb Cc cl fp => c_meth T M1 (by exact hr.mono (by decide)) (v_var 0 rfl) (s' _ _ x5) n1 (as_d (c_var 7 rfl hxx.any) as_nil) (fun H'' s'' => ⟨x, Y, c, _, rfl, (pr.keep s').keep s'', by rw [ok.ho.2.2 c hc]⟩) hfr
  · rw [List.map_map]; rfl
  -- the kinds
  refine b_cons (s_ifB (k := false) (CT.is (t_or2 (k1 := false) (k2 := false) (CT.is (t_not (t_chain le_i le_i c_int (c_lenK T.b_len (v_var 4 rfl) (hki5.keep s6)) (c_gint h6))) (by have := ok.kn; simp; omega)) fun _ => CT.is (t_not (t_val (c_all (bs := Y.kinds.map fun _ => true) rfl T.b_all (CD.is (c_lcK (N := All_) (N0 := All_) (own := [("letter", 8)]) (g := gName 8) (fun _ => .bool true) rfl nd (fun H' _ => v_var 4 rfl) (hki5.keep s6) (blkOk_by (N := N_init) (sc := defScope s_Yard_init) (by decide +kernel)) (fun _ _ _ _ _ => g_name 8 nd) (by have := ok.kn.2; omega) (fun _ _ => trivial) (fun _ h => h) ?_) ?_)))) (by simp)) rfl) (fun e => nomatch e) fun _ H7 s7 => b_nil ?_)
  · intro H1' s1' od kvs e1 e2 e3 N' p xx H' hp s' hxx hfr R k
    have hm := ok.ks p hp
    have hl : Y.kinds.lookup p.1 = some p.2 := lookup_of ok.kd hp
    exact k _ rfl fun s Hb Cc cl fp => c_call G2 (by exact hr) (as_d (c_var 8 rfl (d := .str p.1) hxx.any) (as_d (c_kRd (by exact hu1 hr) (v_var 4 rfl) (.inr ⟨od, s' _ _ upd_same⟩) e2 (e3.keep s') (c_var 8 rfl (d := .str p.1) hxx.any) hl) as_nil)) (fun H'' s'' => ⟨p.1, p.2, rfl, hm.1, hm.2, rfl⟩) hfr
  · rw [List.map_map]; rfl
  -- the goals
  have hgo7 := hgo5.keep (s6.trans s7)
  have pr7 := pr.keep (s6.trans s7)
  refine b_cons (s_forT (bs := [Y.g0, Y.g1]) (enc := dCells) rfl (g_name 9 nd) ((v_var 5 rfl).run fun H8 s8 => ⟨All_, fun i σ' H' => ∃ o9, σ' = [some (.ref x), some (.int Y.h), some (.int Y.w), some hov, some (.ref ki), some gov, some (.str (if Y.lost = true then "lost" else "drawn")), none, none, o9, none, none, none] ∧ Same H7 H', ⟨none, rfl, s8⟩, fun i σ' H' _ ⟨_, _, s'⟩ => hgo7.keep s', ?_, ?_⟩))
  · rintro i row u σ' H' hrow ⟨o9, rfl, s'⟩ hu
    have hr2 : row.Pairwise cellLt ∧ row.length ≤ 100 ∧ ∀ c ∈ row, isFree Y c = true := by
      have := List.mem_of_getElem? hrow
      rcases List.mem_cons.mp this with z | z
      · rw [z]; exact ok.g0
      · rw [List.mem_singleton.mp z]; exact ok.g1
    refine b_one (s_ifB (k := false) (CT.is (t_or2 (k1 := false) (k2 := false) (CT.is (t_not (t_val (c_call (d := .bool true) G1 (hr.mono (by decide)) (as_d (c_var 9 rfl hu) as_nil) (fun H' s' => ⟨row, rfl, hr2.1, by omega, rfl⟩) (fun _ _ => trivial)))) rfl) fun _ => CT.is (t_not (t_val (c_all (bs := row.map fun _ => true) rfl T.b_all (CD.is (c_lc0 (N := All_) (bs := row) (enc := dCell) (own := [("cell", 7)]) (g := gName 7) (N0 := All_) (fun _ => .bool true) rfl nd (pi_list (ew _ _)) (ci_list (c_var 9 rfl hu)) (blkOk_by (N := N_init) (sc := defScope s_Yard_init) (by decide +kernel)) (fun _ _ _ _ _ => g_name 7 nd) (by omega) (fun _ _ => trivial) (fun _ h => h) ?_) ?_)))) (by simp)) rfl) (fun e => nomatch e) fun _ H9 s9 => b_nil ⟨_, rfl, s'.trans s9⟩)
    · intro N' c xx H9 hc s9 hxx hfr R k
      have pr9 := pr7.keep (s'.trans s9)
      obtain ⟨dx9, x9⟩ := pr9.at_
      exact k _ rfl fun s Hb Cc cl fp => c_meth T M2 (by exact hr) (v_var 0 rfl) x9 n2 (as_d (c_var 7 rfl hxx.any) as_nil) (fun H'' s'' => ⟨x, Y, c, _, rfl, pr9.keep s'', by rw [hr2.2.2 c hc]⟩) hfr
    · rw [List.map_map]; rfl
  rintro σ' H8 ⟨o9, rfl, s8⟩
  have s58 := (s6.trans s7).trans s8
  have B8 : But x H H8 := B5.trans (But.of s58)
  have x8 := s58 _ _ x5
  refine b_cons (s_fldB (d := .tuple [dCells Y.g0, dCells Y.g1]) (N := All_) T.yCl T.y_goals (fun H2 => v_var 0 rfl) x8 (Nat.le_of_ble_eq_true rfl) (c_tup (cs_cons (c_listL T.b_list (c_ixT (ds := [dCells Y.g0, dCells Y.g1]) (c_var 5 rfl (hgo5.keep s58)) c_int rfl) (fun _ _ => trivial)) (cs_cons (c_listL T.b_list (c_ixT (ds := [dCells Y.g0, dCells Y.g1]) (c_var 5 rfl (hgo5.keep s58)) c_int rfl) (fun _ _ => trivial)) cs_nil))) fun v6 H9 x9 b9 hv6 => ?_)
  have B9 : But x H H9 := B8.trans b9
  refine b_cons (s_fldNew T.yCl T.y_kinds (fun H2 => v_var 0 rfl) x9 (Nat.le_of_ble_eq_true rfl) fun kd H10 hkd kdx x10 b10 hd10 => ?_)
  have B10 : But x H H10 := B9.trans b10
  have hki10 := hki.by_ hx trivial kix B10
  have hv4e : Dv All_ H10 v4 (dCells Y.holes) := (((hv4'.keep s58).by_ x8 trivial b9).by_ x9 trivial b10)
  have hv6e : Dv All_ H10 v6 (.tuple [dCells Y.g0, dCells Y.g1]) := hv6.by_ x9 trivial b10
  have kdH : H kd = none := by
    cases e : H kd with
    | none => rfl
    | some o => rw [B9 kd o kdx e] at hkd; cases hkd
  have kdki : kd ≠ ki := fun z => by
    obtain ⟨kvs, e, _⟩ := hki.ex
    rw [z, e] at kdH
    cases kdH
  have pr10l : (Y.kinds.map Prod.fst).length < 64 := by
    have := ok.kn.2
    rw [List.length_map]; omega
  refine b_one (s_forLX (enc := .str) rfl (g_name 8 nd) ((pe_callB (call_sortedD rfl) (by rfl) T.b_sorted (by decide +kernel) (pa_cons (ew _ _) pa_nil (by rfl)) (by decide) (by decide) (by rfl) (by rfl)).w ((v_var 4 rfl).run fun H11 s11 => ?_)))
  obtain ⟨kvs, kv1, kv2, kv3⟩ := (hki10.keep s11).ex
  refine ⟨ki, kvs, Y.kinds.map Prod.fst, rfl, .inl kv1, by rw [kv2, List.map_map]; rfl, pr10l, fun ys p pm _ hp => ?_⟩
  have sp := same_new (o := .lst (ys.map V.str)) hp
  have s12 := s11.trans sp
  have ysn : ys.Nodup := pm.nodup_iff.mpr ok.kd
  have yl : ys.length ≤ 6 := by
    rw [pm.length_eq, List.length_map]
    exact ok.kn.2
  refine ⟨ys, All_, fun i σ' H' => ∃ o8 o10 o11 o12, σ' = [some (.ref x), some (.int Y.h), some (.int Y.w), some hov, some (.ref ki), some gov, some (.str (if Y.lost = true then "lost" else "drawn")), none, o8, o9, o10, o11, o12] ∧ (But x H H' ∧ H' x = some (.ins C dx (putF "kinds" (.ref kd) (putF "goals" v6 (putF "stuck" (.str (if Y.lost = true then "lost" else "drawn")) (putF "holes" v4 (putF "width" (.int Y.w) (putF "height" (.int Y.h) [])))))))) ∧ KA All_ H' kd ((ys.take i).map fun l => (l, kindAt Y l)) ∧ KA All_ H' ki Y.kinds ∧ (Dv All_ H' v4 (dCells Y.holes) ∧ Dv All_ H' v6 (.tuple [dCells Y.g0, dCells Y.g1])) ∧ Dv All_ H' (.ref p) (.list (ys.map .str)),
    ⟨none, none, none, none, rfl, ⟨B10.trans (But.of s12), s12 _ _ x10⟩, ⟨[], s12 _ _ hd10, rfl, .nil⟩, hki10.keep s12, ⟨hv4e.keep s12, hv6e.keep s12⟩, .lst upd_same trivial (strs_da ys)⟩, fun i σ' H' _ ⟨_, _, _, _, _, _, _, _, _, h⟩ => h, ?_, ?_⟩
  · rintro i l u σ' H' hil ⟨o8, o10, o11, o12, rfl, ⟨b', x'⟩, kd', ki', ⟨w4, w6⟩, src⟩ hu
    have ily : l ∈ ys := List.mem_of_getElem? hil
    have ilt : i < ys.length := (List.getElem?_eq_some_iff.mp hil).1
    obtain ⟨kx, hkx⟩ := mem_lookup (pm.mem_iff.mp ily)
    have kae := kindAt_of hkx
    obtain ⟨kvs', e1, e2, e3⟩ := ki'.ex
    refine b_cons (s_asg (pg_tup rfl (pgs_cons (g_name 10 nd) (pgs_cons (g_name 11 nd) (pgs_cons (g_name 12 nd) pgs_nil)))) ((c_kRd (by exact hu1 hr) (v_var 4 rfl) (.inl e1) e2 e3 (c_var 8 rfl hu) hkx).run fun v H13 s13 hv => un3 (d1 := dCells kx.1) (d2 := dCells kx.2.1) (d3 := .int kx.2.2) hv fun u1 u2 u3 g1 g2 g3 => ?_))
    refine b_one ((ps_dput (by exact hu1 hr) (ew _ _) (ew _ _) (ew _ _) (by rfl)).w (CD.run (N := All_) (d := dKind kx) (c_tup (ds := [dCells kx.1, dCells kx.2.1, .int kx.2.2]) (cs_cons (c_listL T.b_list (c_var 10 rfl g1) (fun _ _ => trivial)) (cs_cons (c_listL T.b_list (c_var 11 rfl g2) (fun _ _ => trivial)) (cs_cons (c_var 12 rfl g3) cs_nil)))) fun v H14 s14 hv14 => (v_fld (v_var 0 rfl) ((s13.trans s14) _ _ x') T.yCl T.y_kinds (v := .ref kd) (by with_unfolding_all rfl)).run fun H15 s15 => CD.run (N := All_) (d := .str l) (c_var 8 rfl (hu.keep ((s13.trans s14).trans s15))) fun y H16 s16 hy => ?_))
    have s' := ((s13.trans s14).trans s15).trans s16
    have kd16 := kd'.keep s'
    obtain ⟨kvd, k1, _, _⟩ := kd16.ex
    obtain ⟨H17, dp, ka, kvz, hz⟩ := kd16.put (l := l) (k := kx) (v := v) (fun hm => by
      rw [List.map_map] at hm
      obtain ⟨z, hz, e⟩ := List.mem_map.mp hm
      have e : z = l := e
      rw [e] at hz
      obtain ⟨j, hj⟩ := List.getElem?_of_mem hz
      rw [List.getElem?_take] at hj
      split at hj
      · rename_i hji
        have := (List.getElem?_inj (List.getElem?_eq_some_iff.mp hj).1 ysn).mp (hj.trans hil.symm)
        omega
      · cases hj) (by rw [List.length_map, List.length_take]; omega) (hv14.keep (s15.trans s16))
    have bd : But kd H16 H17 := by rw [hz]; exact But.upd
    refine ⟨kd, H17, rfl, by rw [hy.is_str]; exact dp, _, _, _, _, rfl, ⟨fun b o ne eb => ?_, ?_⟩, ?_, (ki'.keep s').by_ k1 trivial (fun z => kdki z.symm) bd, ⟨(w4.keep s').by_ k1 trivial bd, (w6.keep s').by_ k1 trivial bd⟩, (src.keep s').by_ k1 trivial bd⟩
    · exact bd b o (ne_of_none eb kdH) ((b'.trans (But.of s')) b o ne eb)
    · exact bd x _ (fun z => kdx z.symm) (s' _ _ x')
    · rw [take_succ_get hil, List.map_append, List.map_cons, List.map_nil, kae]
      exact ka
  · rintro σ' H13 ⟨o8, o10, o11, o12, rfl, ⟨b', x'⟩, kd', ki', ⟨w4, w6⟩, src⟩
    rw [List.take_length] at kd'
    obtain ⟨p4, xs4, rfl, _⟩ := w4.is_lst
    obtain ⟨p6, xs6, rfl, _⟩ := w6.is_tup
    exact q H13 { Y with kinds := ys.map fun l => (l, kindAt Y l) } b' ⟨dx, p4, p6, kd, by rw [x']; with_unfolding_all rfl, w4, w6, kd'.any⟩ ⟨rfl, rfl, rfl, rfl, rfl, rfl, fun k => by
      show (ys.map fun l => (l, kindAt Y l)).lookup k = Y.kinds.lookup k
      rw [lookup_self]
      by_cases h : k ∈ ys
      · obtain ⟨kx, hkx⟩ := mem_lookup (pm.mem_iff.mp h)
        rw [if_pos h, hkx, kindAt_of hkx]
      · rw [if_neg h]
        cases e : Y.kinds.lookup k with
        | none => rfl
        | some kx => exact absurd (pm.mem_iff.mpr (List.mem_map.mpr ⟨_, lookup_mem e, rfl⟩)) h⟩
end
end PY
set_option Elab.async false
set_option autoImplicit false
set_option linter.all false
set_option maxRecDepth 100000
set_option maxHeartbeats 8000000
/-! The law's draws: _law_cell, _law_begin, _law_take, _law_steps. -/
namespace PY
open PySem L2 PySem.W
theorem sq_keep {K : PySem.W.Frag} {H H' : Hp} {a : Addr} {xs : List V} (h : SqL K H a xs) (s : Same H H') : SqL K H' a xs := by
  rcases h with (h | ⟨o, h⟩) | h
  · exact .inl (.inl (s _ _ h))
  · exact .inl (.inr ⟨o, s _ _ h⟩)
  · exact .inr h
section
variable {N : Addr → Prop} {X : Cx} {a b c o e : Expr} {σ : L2.St} {H : Hp} {pos : Pos}
/-- len of what reads as a list -/
theorem c_lenSq {p : Pos} {l : Addr} {xs : List V} (hm : X.mg "len" = none) (ho : CV X o σ H (.ref l)) (hs : SqL X.K H l xs) (hg : Gl X "len" := by rfl) (he : starEach [o] X.env = [(false, eval o X.env)] := by rfl) : CD N X (.Call (.Name "len" p) [o] [] pos) σ H (.int xs.length) := fun H1 s1 Q q =>
  (pe_callB call_len_seq hg hm PySem.boot_len (pa_cons (ew X o) pa_nil (by rw [he]; rfl)) (by decide) (by decide) (by rw [he]; rfl) rfl).w (ho H1 s1 _ fun H2 s2 => ⟨l, xs, rfl, .inl (sq_keep hs (s1.trans s2)), q _ H2 s2 (.int _)⟩)
theorem c_ixSq {l : Addr} {ns : List Int} {i n : Int} (ho : CV X o σ H (.ref l)) (hs : SqL X.K H l (ns.map V.int)) (hi : CD All_ X e σ H (.int i)) (hn : atI ns i = some n) (hp : PlainIx e := by intros; exact fun _ _ => rfl) : CD N X (.Subscript o e pos) σ H (.int n) := fun H1 s1 Q q =>
  (pe_ix ix_list (ew X o) (ew X e) hp).w (ho H1 s1 _ fun H2 s2 => hi H2 (s1.trans s2) _ fun y H3 s3 hy => ⟨l, _, i, .int n, rfl, hy.is_int, sq_keep hs ((s1.trans s2).trans s3), by
    unfold atI at hn ⊢
    rw [List.length_map]
    cases e0 : ixN ns.length i with
    | none => rw [e0] at hn; cases hn
    | some j =>
      rw [e0] at hn
      exact at_map hn, q _ H3 (s2.trans s3) (.int _)⟩)
/-- max(a, b), min(a, b) of ints -/
theorem c_max2 {p : Pos} {i j : Int} (hc : X.calm = true) (hm : X.mg "max" = none) (ha : CD All_ X a σ H (.int i)) (hb : CD All_ X b σ H (.int j)) (hg : Gl X "max" := by rfl) (h1 : starEach [a, b] X.env = (false, eval a X.env) :: starEach [b] X.env := by rfl) (h2 : starEach [b] X.env = (false, eval b X.env) :: starEach [] X.env := by rfl) (hpl : (backTo pos (starEach [b] X.env)).any (·.1) = false := by rfl) :
    CD N X (.Call (.Name "max" p) [a, b] [] pos) σ H (.int (if j > i then j else i)) := fun H1 s1 Q q =>
  (pe_callB (call_max2 hc) hg hm (by decide +kernel) (pa_cons (ew X a) (pa_cons (ew X b) pa_nil h2) h1) (by decide) (by decide) h1 hpl).w (c_two ha hb s1 fun x y H2 s2 hx hy => ⟨i, j, by rw [hx.is_int, hy.is_int], q _ H2 s2 (.int _)⟩)
/-- int(a truth) -/
theorem c_intB {p : Pos} {k : Bool} (hm : X.mg "int" = none) (ha : CD All_ X a σ H (.bool k)) (hg : Gl X "int" := by rfl) (he : starEach [a] X.env = [(false, eval a X.env)] := by rfl) : CD N X (.Call (.Name "int" p) [a] [] pos) σ H (.int (if k = true then 1 else 0)) :=
  ct_one call_int1 hm (by decide +kernel) ha hg (he := he) (hr' := fun v H2 s2 hv Q q => .inr ⟨k, by rw [hv.is_bl], q _ H2 (Same.refl H2) (.int _)⟩)
/-- a and b, as tests that run -/
theorem e_and2 {k1 : Bool} {Q : Bool → Hp → Prop} (ha : CT X a σ H k1) (hb : k1 = true → ∀ H1, Same H H1 → wT X b σ H1 Q) (hn : k1 = false → ∀ H1, Same H H1 → Q false H1) : wT X (.BoolOp .And [a, b] pos) σ H Q :=
  (PW.pt (pw_and (tw X a) (pw_and1 (tw X b)))).w (ha.run fun H1 s1 => by
    cases k1 with
    | true => exact hb rfl H1 s1
    | false => exact hn rfl H1 s1)
/-- a < b and so on, a as it runs -/
theorem e_cmpR {op : CmpOp} {Q : Bool → Hp → Prop} {d1 d2 : PyData} {k : Bool} (h : CmpR X op d1 d2 k) (ha : wE X a σ H fun x H1 => Dv All_ H1 x d1 ∧ CD All_ X b σ H1 d2 ∧ ∀ H2, Same H1 H2 → Q k H2) (hm : behindInMarks op b = false := by first | exact nomark _ | rfl | with_unfolding_all rfl) : wT X (.Compare a [op] [b] pos) σ H Q := by
  obtain ⟨r, ho, hr⟩ := h
  exact (pt_cmpR ho (ew X a) (ew X b) hm).w (wE_mono ha fun x H1 ⟨hx, hb, q⟩ => hb H1 (Same.refl H1) _ fun y H2 s2 hy => hr H2 x y (hx.keep s2) hy _ ⟨k, rfl, q H2 s2⟩)
end
/-! ### the state of the draws -/
def St3 (H : Hp) (st : Addr) : Prop := ∃ a b c : Int, H st = some (.lst [.int a, .int b, .int c])
theorem St3.keep {H H' : Hp} {st : Addr} (h : St3 H st) (s : Same H H') : St3 H' st := let ⟨a, b, c, e⟩ := h; ⟨a, b, c, s _ _ e⟩
theorem St3.lst {H : Hp} {st : Addr} (h : St3 H st) : ∃ xs, H st = some (.lst xs) := let ⟨_, _, _, e⟩ := h; ⟨_, e⟩
theorem St3.some_ {H : Hp} {st : Addr} (h : St3 H st) : H st ≠ none := by
  obtain ⟨xs, e⟩ := h.lst
  rw [e]; exact nofun
theorem St3.dv {H : Hp} {st : Addr} {a b c : Int} (h : H st = some (.lst [.int a, .int b, .int c])) : Dv All_ H (.ref st) (.list [.int a, .int b, .int c]) := .lst h trivial (.cons (.int _) (.cons (.int _) (.cons (.int _) .nil)))
section
variable {P : Program} {w : World} {K : PySem.W.Frag} {mg : Str → Option Value} {base : Heap} {C : Addr}
abbrev N_law_cell : List Str := ["script", "k", "base"]
theorem sc_law_cell : FnScope N_law_cell ["script", "k"] (defScope s_law_cell) := ⟨rfl, rfl, rfl, by decide +kernel, rfl, by decide +kernel, by decide +kernel⟩
def spCell (K : PySem.W.Frag) : Sp := fun vs H Q _ => ∃ (a : Addr) (ns : List Int) (k : Int), vs = [.ref a, .int k] ∧ SqL K H a (ns.map V.int) ∧ (0 ≤ k ∧ k ≤ 100) ∧ ∀ i H', Same H H' → Q (.int i) H'
theorem kf_law_cell (T : Txt K mg C) : Kf P w K mg base 1 "_law_cell" ["script", "k"] (spCell K) := by
  obtain ⟨f, fd, F, hm⟩ := T.f_law_cell
  refine kf_mk F hm (fn_body (k := 0) F sc_law_cell (fun vs H Q E ⟨_, _, _, e, _⟩ => by rw [e]; rfl) fun cdv A outer s H vs Q E hr hsp => ?_) (fun _ _ _ _ _ _ us hl => match us, hl with | [_, _], _ => rfl)
  obtain ⟨a, ns, k, rfl, hs, ⟨k0, k1⟩, q⟩ := hsp
  have nd := sc_law_cell.nd
  refine b_cons (s_ifB (t_cmp lt_i (c_var 1 rfl (.int _)) (c_lenSq T.b_len (v_var 0 rfl) hs)) (fun e H1 s1 => ?_) fun e H1 s1 => b_nil ?_)
  · have e := of_decide_eq_true e
    rw [List.length_map] at e
    obtain ⟨n, hn⟩ : ∃ n, ns[k.toNat]? = some n := ⟨ns[k.toNat], List.getElem?_eq_getElem (by omega)⟩
    exact b_one (s_ret (CD.run (N := All_) (d := .int n) (c_ixSq (v_var 0 rfl) (sq_keep hs s1) (c_var 1 rfl (.int _)) (atI_i k.toNat (by omega) hn)) fun v H2 s2 hv => by rw [hv.is_int]; exact q n H2 (s1.trans s2)))
  refine b_cons (s_set 2 nd (CD.run (N := All_) (d := .int 0) c_int fun v H2 s2 hv => ?_))
  obtain rfl := hv.is_int
  have fin : ∀ (bs : Int) H3, Same H H3 → wB (bX P w K mg base N_law_cell "_law_cell" s_law_cell f cdv A outer s H E) [(defBody s_law_cell).getLast (by decide)] { nx := fun _ H' => Q .non H', rt := Q } [some (.ref a), some (.int k), some (.int bs)] H3 := fun bs H3 s3 =>
    b_one (s_ret (CD.run (N := All_) (d := .int ((bs % 65521 * 48271 + k * 30103) % 65521)) (c_mod (c_add (c_mul (c_mod (c_var 2 rfl (.int _)) c_int (by decide)) c_int (.inr (by decide))) (c_mul (c_var 1 rfl (.int _)) c_int (.inr (by decide)))) c_int (by decide)) fun v H4 s4 hv => by rw [hv.is_int]; exact q _ H4 (s3.trans s4)))
  have s12 := s1.trans s2
  refine b_cons (s_ifB (t_cmp gt_i (c_lenSq T.b_len (v_var 0 rfl) (sq_keep hs s12)) c_int) (fun e2 H3 s3 => ?_) fun e2 H3 s3 => b_nil (fin 0 H3 (s12.trans s3)))
  have e2 := of_decide_eq_true e2
  rw [List.length_map] at e2
  obtain ⟨n, hn⟩ : ∃ n, ns[0]? = some n := ⟨ns[0], List.getElem?_eq_getElem (by omega)⟩
  refine b_one (s_set 2 nd (CD.run (N := All_) (d := .int n) (c_ixSq (v_var 0 rfl) (sq_keep hs (s12.trans s3)) c_int (atI_i 0 rfl hn)) fun v H4 s4 hv => ?_))
  obtain rfl := hv.is_int
  exact fin n H4 ((s12.trans s3).trans s4)
abbrev N_law_begin : List Str := ["script", "k", "cell"]
theorem sc_law_begin : FnScope N_law_begin ["script", "k"] (defScope s_law_begin) := ⟨rfl, rfl, rfl, by decide +kernel, rfl, by decide +kernel, by decide +kernel⟩
def spBegin (K : PySem.W.Frag) : Sp := fun vs H Q _ => ∃ (a : Addr) (ns : List Int) (k : Int), vs = [.ref a, .int k] ∧ SqL K H a (ns.map V.int) ∧ (0 ≤ k ∧ k ≤ 100) ∧ ∀ st H', Same H H' → H st = none → St3 H' st → Q (.ref st) H'
theorem kf_law_begin (T : Txt K mg C) : Kf P w K mg base 2 "_law_begin" ["script", "k"] (spBegin K) := by
  obtain ⟨f, fd, F, hm⟩ := T.f_law_begin
  have G : Kf P w K mg base 1 "_law_cell" ["script", "k"] (spCell K) := kf_law_cell T
  refine kf_mk F hm (fn_body (k := 1) F sc_law_begin (fun vs H Q E ⟨_, _, _, e, _⟩ => by rw [e]; rfl) fun cdv A outer s H vs Q E hr hsp => ?_) (fun _ _ _ _ _ _ us hl => match us, hl with | [_, _], _ => rfl)
  obtain ⟨a, ns, k, rfl, hs, hk, q⟩ := hsp
  have nd := sc_law_begin.nd
  refine b_cons (s_set 2 nd (e_call G hr ((as_v (v_var 0 rfl) (as_v (v_var 1 rfl) as_nil)) H (Same.refl _) _ fun vs H1 s1 hvs => ?_)))
  obtain ⟨_, rfl, hvs, _⟩ := hvs.consV
  obtain ⟨_, rfl, hvs, _⟩ := hvs.consV
  cases hvs.nilD
  refine ⟨a, ns, k, rfl, sq_keep hs s1, hk, fun i H2 s2 => ?_⟩
  have s12 := s1.trans s2
  refine b_one (s_ret (CD.run (N := fun p => H2 p = none) (c_lst (cs_cons (c_max2 rfl T.b_max (c_var 2 rfl (.int _)) (c_sub c_int (c_var 2 rfl (.int _)))) (cs_cons (c_intB T.b_int (c_cmp ge_i (c_var 2 rfl (.int _)) (c_pow (i := 10) (j := 18) c_int c_int ⟨by decide, by decide, by decide⟩))) (cs_cons c_int cs_nil))) fun _ h => h) fun v H3 s3 hv => ?_))
  obtain ⟨l, xs, rfl, hl, nl, dl⟩ := hv.is_lst
  refine q l H3 (s12.trans s3) (s12.free nl) ⟨_, _, _, by rw [hl, Da.ints (is := [_, _, _]) dl]; rfl⟩
abbrev N_law_take : List Str := ["state", "many", "found", "stir"]
theorem sc_law_take : FnScope N_law_take ["state", "many"] (defScope s_law_take) := ⟨rfl, rfl, rfl, by decide +kernel, rfl, by decide +kernel, by decide +kernel⟩
def spTake : Sp := fun vs H Q _ => ∃ (st : Addr) (m : Int), vs = [.ref st, .int m] ∧ St3 H st ∧ (1 ≤ m ∧ m ≤ 1000000) ∧ ∀ r H', But st H H' → St3 H' st → 0 ≤ r → r < m → Q (.int r) H'
theorem kf_law_take (T : Txt K mg C) : Kf P w K mg base 1 "_law_take" ["state", "many"] spTake := by
  obtain ⟨f, fd, F, hm⟩ := T.f_law_take
  refine kf_mk F hm (fn_body (k := 0) F sc_law_take (fun vs H Q E ⟨_, _, e, _⟩ => by rw [e]; rfl) fun cdv A outer s H vs Q E hr hsp => ?_) (fun _ _ _ _ _ _ us hl => match us, hl with | [_, _], _ => rfl)
  obtain ⟨st, m, rfl, ⟨a, b, c, e0⟩, ⟨m1, m2⟩, q⟩ := hsp
  have nd := sc_law_take.nd
  have dv0 := St3.dv e0
  have mp : 0 < m := by omega
  refine b_cons (s_ifB (k := decide (b = 1) && decide (0 < a)) (t_and2 (t_cmp eq_i (c_ixL (ds := [.int a, .int b, .int c]) (c_var 0 rfl dv0) c_int rfl) c_int) fun _ => t_cmp gt_i (c_ixL (ds := [.int a, .int b, .int c]) (c_var 0 rfl dv0) c_int rfl) c_int) (fun e H1 s1 => ?_) fun e H1 s1 => b_nil ?_)
  · have e1 := s1 _ _ e0
    refine b_cons (s_set 2 nd (CD.run (N := All_) (d := .int (a % m)) (c_mod (c_ixL (ds := [.int a, .int b, .int c]) (c_var 0 rfl (St3.dv e1)) c_int rfl) (c_var 1 rfl (.int _)) mp) fun v H2 s2 hv => ?_))
    obtain rfl := hv.is_int
    have e2 := s2 _ _ e1
    refine b_cons (s_setL (CD.run (N := All_) (d := .int (a / m)) (c_fdiv (c_ixL (ds := [.int a, .int b, .int c]) (c_var 0 rfl (St3.dv e2)) c_int rfl) (c_var 1 rfl (.int _)) ⟨mp, by omega⟩) fun v H3 s3 hv => (v_var 0 rfl).run fun H4 s4 => CD.run (N := All_) (d := .int 0) c_int fun y H5 s5 hy => ?_))
    obtain rfl := hv.is_int
    obtain rfl := hy.is_int
    have s35 := (s3.trans s4).trans s5
    refine ⟨st, _, 0, 0, rfl, rfl, s35 _ _ e2, rfl, ?_⟩
    exact b_one (s_ret (CD.run (N := All_) (d := .int (a % m)) (c_var 2 rfl (.int _)) fun v H6 s6 hv => by
      rw [hv.is_int]
      exact q _ H6 (((But.of ((s1.trans s2).trans s35)).trans But.upd).trans (But.of s6)) ⟨a / m, b, c, s6 _ _ upd_same⟩ (Int.emod_nonneg _ (by omega)) (Int.emod_lt_of_pos _ mp)))
  · have e1 := s1 _ _ e0
    refine b_cons (s_setL (CD.run (N := All_) (d := .int (c + 1)) (c_add (c_ixL (ds := [.int a, .int b, .int c]) (c_var 0 rfl (St3.dv e1)) c_int rfl) c_int) fun v H3 s3 hv => (v_var 0 rfl).run fun H4 s4 => CD.run (N := All_) (d := .int 2) c_int fun y H5 s5 hy => ?_))
    obtain rfl := hv.is_int
    obtain rfl := hy.is_int
    have s35 := (s3.trans s4).trans s5
    refine ⟨st, _, 2, 2, rfl, rfl, s35 _ _ e1, rfl, ?_⟩
    have b6 : But st H (upd H5 st (.lst [.int a, .int b, .int (c + 1)])) := (But.of (s1.trans s35)).trans But.upd
    generalize hh : upd H5 st (.lst [.int a, .int b, .int (c + 1)]) = H6 at b6
    have e6 : H6 st = some (.lst [.int a, .int b, .int (c + 1)]) := by rw [← hh]; exact upd_same
    show wB _ _ _ _ (upd H5 st (.lst [.int a, .int b, .int (c + 1)]))
    rw [hh]
    have dv6 := St3.dv e6
    refine b_cons (s_set 3 nd (CD.run (N := All_) (d := .int ((a % 2147483647 + 7919 * (c + 1) + 17) * 48271 % 2147483647)) (c_mod (c_mul (c_add (c_add (c_mod (c_ixL (ds := [.int a, .int b, .int (c + 1)]) (c_var 0 rfl dv6) c_int rfl) c_int (by decide)) (c_mul c_int (c_ixL (ds := [.int a, .int b, .int (c + 1)]) (c_var 0 rfl dv6) c_int rfl) (.inl (by decide)))) c_int) c_int (.inr (by decide))) c_int (by decide)) fun v H7 s7 hv => ?_))
    obtain rfl := hv.is_int
    have h1 := Int.emod_nonneg ((a % 2147483647 + 7919 * (c + 1) + 17) * 48271) (show (2147483647 : Int) ≠ 0 by decide)
    have h2 := Int.emod_lt_of_pos ((a % 2147483647 + 7919 * (c + 1) + 17) * 48271) (show (0 : Int) < 2147483647 by decide)
    generalize (a % 2147483647 + 7919 * (c + 1) + 17) * 48271 % 2147483647 = t1 at h1 h2 ⊢
    refine b_cons (s_set 3 nd (CD.run (N := All_) (d := .int (t1 * t1 % 2147483647)) (c_mod (c_mul (c_var 3 rfl (.int _)) (c_var 3 rfl (.int _)) (.inl (by omega))) c_int (by decide)) fun v H8 s8 hv => ?_))
    obtain rfl := hv.is_int
    generalize t1 * t1 % 2147483647 = t2
    have dv8 := dv6.keep (s7.trans s8)
    refine b_cons (s_set 3 nd (CD.run (N := All_) (d := .int ((t2 + (c + 1)) * 69621 % 2147483629)) (c_mod (c_mul (c_add (c_var 3 rfl (.int _)) (c_ixL (ds := [.int a, .int b, .int (c + 1)]) (c_var 0 rfl dv8) c_int rfl)) c_int (.inr (by decide))) c_int (by decide)) fun v H9 s9 hv => ?_))
    obtain rfl := hv.is_int
    have h3 := Int.emod_nonneg ((t2 + (c + 1)) * 69621) (show (2147483629 : Int) ≠ 0 by decide)
    have h4 := Int.emod_lt_of_pos ((t2 + (c + 1)) * 69621) (show (0 : Int) < 2147483629 by decide)
    generalize (t2 + (c + 1)) * 69621 % 2147483629 = t3 at h3 h4 ⊢
    refine b_one (s_ret (CD.run (N := All_) (d := .int (t3 * t3 % 2147483629 / 8 % m)) (c_mod (c_fdiv (c_mod (c_mul (c_var 3 rfl (.int _)) (c_var 3 rfl (.int _)) (.inl (by omega))) c_int (by decide)) c_int ⟨by decide, by decide⟩) (c_var 1 rfl (.int _)) mp) fun v H10 s10 hv => ?_))
    rw [hv.is_int]
    have s710 := ((s7.trans s8).trans s9).trans s10
    exact q _ H10 (b6.trans (But.of s710)) ⟨a, b, c + 1, s710 _ _ e6⟩ (Int.emod_nonneg _ (by omega)) (Int.emod_lt_of_pos _ mp)
/-- _law_take(state, m) as it runs -/
theorem e_take {X : Cx} {k : Nat} {σ : L2.St} {H : Hp} {o m : Expr} {pos p : Pos} {st : Addr} {i : Int} {Q : VK} (G : Kf X.prog X.w X.K X.mg X.base 1 "_law_take" ["state", "many"] spTake) (hr : Room k X.A) (hk : 1 ≤ k) (ho : CV X o σ H (.ref st)) (hm : CD All_ X m σ H (.int i)) (h3 : St3 H st) (hi : 1 ≤ i ∧ i ≤ 1000000) (q : ∀ r H', But st H H' → St3 H' st → 0 ≤ r → r < i → Q (.int r) H')
    (hg : Gl X "_law_take" := by rfl) (he : starEach (o :: [m]) X.env = (false, eval o X.env) :: starEach [m] X.env := by rfl) (he2 : starEach (m :: []) X.env = (false, eval m X.env) :: starEach [] X.env := by rfl) (hpl : (backTo pos (starEach [m] X.env)).any (·.1) = false := by rfl) : wE X (.Call (.Name "_law_take" p) [o, m] [] pos) σ H Q :=
  e_call G (hr.mono hk) ((as_v ho (as_d hm as_nil he2) he) H (Same.refl _) _ fun vs H1 s1 hvs => by
    obtain ⟨_, rfl, hvs, _⟩ := hvs.consV
    obtain ⟨v2, _, rfl, h2, hvs⟩ := hvs.consD
    cases hvs.nilD
    rw [h2.is_int]
    exact ⟨st, i, rfl, h3.keep s1, hi, fun r H' b s r0 r1 => q r H' ((But.of s1).trans b) s r0 r1⟩) hg (by decide) he hpl
end
end PY
set_option Elab.async false
set_option autoImplicit false
set_option linter.all false
set_option maxRecDepth 100000
set_option maxHeartbeats 8000000
/-! _law_steps, _law_kind. -/
namespace PY
open PySem L2 PySem.W
def tPlain : List Cell := [(0, 1), (1, 0), (0, -1), (-1, 0)]
def tSlant : List Cell := [(1, 1), (1, -1), (-1, 1), (-1, -1)]
def tFar : List Cell := [(1, 2), (2, 1), (-1, 2), (2, -1), (1, -2), (-2, 1), (-1, -2), (-2, -1)]
def tSome : List (List Cell) := [tPlain ++ tSlant, tPlain, tSlant, tFar, [(0, 1), (0, -1)], [(1, 0)], [(1, 0), (1, 1), (1, -1)], []]
instance (st : Step) : Decidable (GoodStep st) := by unfold GoodStep; infer_instance
theorem some_good : ∀ l ∈ tSome, (l.Nodup ∧ l.length ≤ 8) ∧ ∀ c ∈ l, GoodStep c := by decide +kernel
/-- steps that a kind may have -/
structure Steps (cs : List Cell) : Prop where
  up : cs.Pairwise cellLt
  len : cs.length ≤ 16
  good : ∀ c ∈ cs, GoodStep c
theorem steps_sorted {l : List Cell} (n : l.Nodup) (hl : l.length ≤ 16) (hg : ∀ c ∈ l, GoodStep c) : l.mergeSort (dataLe false dCell) = rise cellLt l ∧ Steps (rise cellLt l) := by
  have e := sorted_cells n l fun _ => Iff.rfl
  have up := rise_rising (lt := cellLt) (fun {a b c} => cellLt_trans) cellLt_tri l
  refine ⟨e, up, ?_, fun c hc => hg c ((mem_rise c l).mp hc)⟩
  rw [← e, List.length_mergeSort]
  exact hl
theorem depth_cell_le (c : Cell) : (dCell c).depth ≤ 8 := by rw [depth_cell]; decide
section
variable {P : Program} {w : World} {K : PySem.W.Frag} {mg : Str → Option Value} {base : Heap} {C : Addr}
abbrev N_law_steps : List Str := ["number", "plain", "slant", "far", "some"]
theorem sc_law_steps : FnScope N_law_steps ["number"] (defScope s_law_steps) := ⟨rfl, rfl, rfl, by decide +kernel, rfl, by decide +kernel, by decide +kernel⟩
def spSteps : Sp := fun vs H Q _ => ∃ (r : Int), vs = [.int r] ∧ (0 ≤ r ∧ r < 8) ∧ ∀ v cs H', Same H H' → Dv (Free H) H' v (dCells cs) → Steps cs → Q v H'
section
variable {N : Addr → Prop} {X : Cx} {σ : L2.St} {H : Hp} {a b e : Expr} {es : List Expr} {i j : Int} {pos : Pos} {c : Cell} {cs : List Cell} {ls : List (List Cell)}
theorem c_ce {x1} (ha : CD N X a σ H (.int i)) (hb : CD N X b σ H (.int j)) (h1 : starEach [a, b] X.env = (false, eval a X.env) :: starEach [b] X.env := by rfl) (h2 : starEach [b] X.env = (false, eval b X.env) :: starEach [] X.env := by rfl) : CD N X (.Tuple [a, b] x1 pos) σ H (dCell (i, j)) := c_tup (ds := [.int i, .int j]) (cs_cons ha (cs_cons hb cs_nil h2) h1)
theorem cc_cons (h : CD N X e σ H (dCell c)) (hr : CDs N X es σ H (cs.map dCell)) (h1 : starEach (e :: es) X.env = (false, eval e X.env) :: starEach es X.env := by rfl) : CDs N X (e :: es) σ H ((c :: cs).map dCell) := cs_cons h hr h1
theorem cc_nil : CDs N X [] σ H (([] : List Cell).map dCell) := cs_nil
theorem c_cl (h : CDs N X es σ H (cs.map dCell)) (hl : cs.length ≤ 1000) (hN : ∀ p, H p = none → N p) : CD N X (.List es pos) σ H (dCells cs) := c_lst h hN (by rw [List.length_map]; exact hl)
theorem cl_cons (h : CD N X e σ H (dCells cs)) (hr : CDs N X es σ H (ls.map dCells)) (h1 : starEach (e :: es) X.env = (false, eval e X.env) :: starEach es X.env := by rfl) : CDs N X (e :: es) σ H ((cs :: ls).map dCells) := cs_cons h hr h1
theorem cl_nil : CDs N X [] σ H (([] : List (List Cell)).map dCells) := cs_nil
theorem c_catC {cs' : List Cell} (ha : CD N X a σ H (dCells cs)) (hb : CD N X b σ H (dCells cs')) (hz : cs.length + cs'.length ≤ 1000) (hN : ∀ p, H p = none → N p) : CD N X (.BinOp a .Add b pos) σ H (dCells (cs ++ cs')) := CD.is (c_cat ha hb (by rw [List.length_map, List.length_map, sizeLine_eq]; omega) hN) (by rw [← List.map_append]; rfl)
end
theorem kf_law_steps (T : Txt K mg C) : Kf P w K mg base 1 "_law_steps" ["number"] spSteps := by
  obtain ⟨f, fd, F, hm⟩ := T.f_law_steps
  refine kf_mk F hm (fn_body (k := 0) F sc_law_steps (fun vs H Q E ⟨_, e, _⟩ => by rw [e]; rfl) fun cdv A outer s H vs Q E hr hsp => ?_) (fun _ _ _ _ _ _ us hl => match us, hl with | [_], _ => rfl)
  obtain ⟨r, rfl, ⟨r0, r8⟩, q⟩ := hsp
  have nd := sc_law_steps.nd
  refine b_cons (s_set 1 nd (CD.run (N := Free H) (c_cl (cs := tPlain) (cc_cons (c_ce c_int c_int) (cc_cons (c_ce c_int c_int) (cc_cons (c_ce c_int (c_neg c_int)) (cc_cons (c_ce (c_neg c_int) c_int) cc_nil)))) (by decide) fun _ h => h) fun v1 H1 s1 h1 => ?_))
  have f1 : ∀ p, H1 p = none → Free H p := fun p h => s1.free h
  refine b_cons (s_set 2 nd (CD.run (N := Free H) (c_cl (cs := tSlant) (cc_cons (c_ce c_int c_int) (cc_cons (c_ce c_int (c_neg c_int)) (cc_cons (c_ce (c_neg c_int) c_int) (cc_cons (c_ce (c_neg c_int) (c_neg c_int)) cc_nil)))) (by decide) f1) fun v2 H2 s2 h2 => ?_))
  have s12 := s1.trans s2
  have f2 : ∀ p, H2 p = none → Free H p := fun p h => s12.free h
  refine b_cons (s_set 3 nd (CD.run (N := Free H) (c_cl (cs := tFar) (cc_cons (c_ce c_int c_int) (cc_cons (c_ce c_int c_int) (cc_cons (c_ce (c_neg c_int) c_int) (cc_cons (c_ce c_int (c_neg c_int)) (cc_cons (c_ce c_int (c_neg c_int)) (cc_cons (c_ce (c_neg c_int) c_int) (cc_cons (c_ce (c_neg c_int) (c_neg c_int)) (cc_cons (c_ce (c_neg c_int) (c_neg c_int)) cc_nil)))))))) (by decide) f2) fun v3 H3 s3 h3 => ?_))
  have s13 := s12.trans s3
  have f3 : ∀ p, H3 p = none → Free H p := fun p h => s13.free h
  have k1 := h1.keep (s2.trans s3)
  have k2 := h2.keep s3
  refine b_cons (s_set 4 nd (CD.run (N := Free H) (d := .list (tSome.map dCells)) (c_lst (ds := tSome.map dCells) (cl_cons (c_catC (c_var 1 rfl k1) (c_var 2 rfl k2) (by decide) f3) (cl_cons (c_var 1 rfl k1) (cl_cons (c_var 2 rfl k2) (cl_cons (c_var 3 rfl h3) (cl_cons (c_cl (cs := [(0, 1), (0, -1)]) (cc_cons (c_ce c_int c_int) (cc_cons (c_ce c_int (c_neg c_int)) cc_nil)) (by decide) f3)
    (cl_cons (c_cl (cs := [(1, 0)]) (cc_cons (c_ce c_int c_int) cc_nil) (by decide) f3) (cl_cons (c_cl (cs := [(1, 0), (1, 1), (1, -1)]) (cc_cons (c_ce c_int c_int) (cc_cons (c_ce c_int c_int) (cc_cons (c_ce c_int (c_neg c_int)) cc_nil))) (by decide) f3) (cl_cons (c_cl (cs := []) cc_nil (by decide) f3) cl_nil)))))))) f3) fun v4 H4 s4 h4 => ?_))
  have s14 := s13.trans s4
  have f4 : ∀ p, H4 p = none → Free H p := fun p h => s14.free h
  have hlen : tSome.length = 8 := by decide
  obtain ⟨cs, hcs⟩ : ∃ cs, tSome[r.toNat]? = some cs := ⟨tSome[r.toNat], List.getElem?_eq_getElem (by omega)⟩
  have good := some_good cs (List.mem_of_getElem? hcs)
  have ss := steps_sorted good.1.1 (by have := good.1.2; omega) good.2
  have hu : ∀ b ∈ cs, (bX P w K mg base N_law_steps "_law_steps" s_law_steps f cdv A outer s H E).A.units + 2 + (dCell b).depth < cLine := fun b _ => by
    rw [depth_cell]
    have := hu64 hr
    omega
  refine b_one (s_ret (CD.run (N := Free H) (CD.is (d' := dCells (rise cellLt cs)) (c_sorted (bs := cs) (enc := dCell) T.b_sorted (c_ixL (ds := tSome.map dCells) (c_var 4 rfl h4) (c_var 0 rfl (.int _)) (atI_i r.toNat (by omega) (at_map hcs))) (allAlike_of _ alike_cell) (Sortable.tuples fun b => ⟨_, _, rfl⟩) hu (by have := good.1.2; omega) f4) (by rw [ss.1]; rfl)) fun v H5 s5 hv => q v _ H5 (s14.trans s5) hv ss.2))
end
end PY
set_option Elab.async false
set_option autoImplicit false
set_option linter.all false
set_option maxRecDepth 100000
set_option maxHeartbeats 8000000
/-! Things that run while the state is drawn from; _law_kind. -/
namespace PY
open PySem L2 PySem.W
section
variable {X : Cx} {a b e e1 e2 : Expr} {σ : L2.St} {H : Hp} {pos : Pos} {Q : VK}
theorem e_call1 {j : Nat} {x : Str} {ps : List Str} {sp : Sp} {p : Pos} (G : Kf X.prog X.w X.K X.mg X.base j x ps sp) (hr : Room j X.A) (h : wE X e σ H fun v H1 => sp [v] H1 Q E0) (hg : Gl X x := by rfl) (hdb : (x == ("__debug__" : Str)) = false := by decide)
    (he : starEach [e] X.env = (false, eval e X.env) :: starEach [] X.env := by rfl) : wE X (.Call (.Name x p) [e] [] pos) σ H Q :=
  e_call G hr ((pa_cons (ew X e) pa_nil he).w (wE_mono h fun v H1 q => q)) hg hdb he rfl
theorem e_call2 {j : Nat} {x : Str} {ps : List Str} {sp : Sp} {p : Pos} (G : Kf X.prog X.w X.K X.mg X.base j x ps sp) (hr : Room j X.A) (h : wE X e1 σ H fun v1 H1 => wE X e2 σ H1 fun v2 H2 => sp [v1, v2] H2 Q E0) (hg : Gl X x := by rfl) (hdb : (x == ("__debug__" : Str)) = false := by decide)
    (he : starEach [e1, e2] X.env = (false, eval e1 X.env) :: starEach [e2] X.env := by rfl) (he2 : starEach [e2] X.env = (false, eval e2 X.env) :: starEach [] X.env := by rfl) (hpl : (backTo pos (starEach [e2] X.env)).any (·.1) = false := by rfl) : wE X (.Call (.Name x p) [e1, e2] [] pos) σ H Q :=
  e_call G hr ((pa_cons (ew X e1) (pa_cons (ew X e2) pa_nil he2) he).w h) hg hdb he hpl
/-- a > b, a == b of ints, a as it runs -/
theorem e_gtI {Qt : Bool → Hp → Prop} (ha : wE X a σ H fun x H1 => ∃ i j : Int, x = .int i ∧ CD All_ X b σ H1 (.int j) ∧ ∀ H2, Same H1 H2 → Qt (decide (j < i)) H2) (hm : behindInMarks .Gt b = false := by first | exact nomark _ | rfl | with_unfolding_all rfl) : wT X (.Compare a [.Gt] [b] pos) σ H Qt :=
  (pt_cmpR op_gt (ew X a) (ew X b) hm).w (wE_mono ha fun x H1 ⟨i, j, e, hb, q⟩ => hb H1 (Same.refl H1) _ fun y H2 s2 hy => ⟨i, j, e, hy.is_int, ⟨_, rfl, q H2 s2⟩⟩)
theorem e_eqI {Qt : Bool → Hp → Prop} (ha : wE X a σ H fun x H1 => ∃ i j : Int, x = .int i ∧ CD All_ X b σ H1 (.int j) ∧ ∀ H2, Same H1 H2 → Qt (decide (i = j)) H2) (hm : behindInMarks .Eq b = false := by first | exact nomark _ | rfl | with_unfolding_all rfl) : wT X (.Compare a [.Eq] [b] pos) σ H Qt :=
  (pt_cmpR op_eq (ew X a) (ew X b) hm).w (wE_mono ha fun x H1 ⟨i, j, e, hb, q⟩ => hb H1 (Same.refl H1) _ fun y H2 s2 hy => by
    rw [e, hy.is_int]
    refine ⟨rfl, ⟨_, rfl, ?_⟩⟩
    have e : decide (V.int i = V.int j) = decide (i = j) := by by_cases h : i = j <;> simp [h]
    rw [e]; exact q H2 s2)
theorem e_subI (h : wE X a σ H fun x H1 => wE X b σ H1 fun y H2 => ∃ i j : Int, x = .int i ∧ y = .int j ∧ Q (.int (i - j)) H2) : wE X (.BinOp a .Sub b pos) σ H Q := (pe_op op_sub (ew X a) (ew X b)).w h
theorem e_addI (h : wE X a σ H fun x H1 => wE X b σ H1 fun y H2 => ∃ i j : Int, x = .int i ∧ y = .int j ∧ Q (.int (i + j)) H2) : wE X (.BinOp a .Add b pos) σ H Q := (pe_op op_add (ew X a) (ew X b)).w h
/-- the lists beside the state -/
theorem Dv.st {N : Addr → Prop} {H' : Hp} {st : Addr} {v : V} {d : PyData} (h : Dv N H v d) (b : But st H H') (s3 : St3 H st) (n : ¬ N st) : Dv N H' v d := by
  obtain ⟨xs, e⟩ := s3.lst
  exact h.but b e n
/-- sorted(set(e)) of cells -/
theorem cr_setC (hc : X.calm = true) (hu : X.A.units + 64 < cLine) : CallR X (.type "set") (fun vs H Q => ∃ bs : List Cell, bs.length < 64 ∧ rSetD X.w bs dCell vs H Q) := by
  intro pins s σ H vs us Q I r h
  obtain ⟨bs, hl, h⟩ := h
  exact cr_setD setty_cell bs (fun _ h => h) hl hc hu pins s σ H vs us Q I r h
theorem e_sortedSetC {p p1 pos1 : Pos} (hc : X.calm = true) (hu : X.A.units + 64 < cLine) (hm1 : X.mg "sorted" = none) (hm2 : X.mg "set" = none) (h : wE X a σ H fun v H2 => ∃ (N : Addr → Prop) (bs : List Cell), Dv N H2 v (dCells bs) ∧ bs.length < 64 ∧ ∀ v' H3, Same H2 H3 → Dv (Free H2) H3 v' (dCells (rise cellLt bs)) → Q v' H3)
    (hg1 : Gl X "sorted" := by rfl) (hg2 : Gl X "set" := by rfl) (he : starEach [a] X.env = [(false, eval a X.env)] := by rfl) (he1 : starEach [Expr.Call (.Name "set" p1) [a] [] pos1] X.env = [(false, eval (Expr.Call (.Name "set" p1) [a] [] pos1) X.env)] := by rfl) : wE X (.Call (.Name "sorted" p) [.Call (.Name "set" p1) [a] [] pos1] [] pos) σ H Q :=
  (pe_callB (cr_sortSet setty_cell alike_cell (fun b => ⟨_, _, rfl⟩) depth_cell_le hc hu) hg1 hm1 (by decide +kernel) (pa_cons (pe_callTy (cr_setC hc hu) hg2 hm2 PyProof.Rows.boot_set (pa_cons (ew X a) pa_nil (by rw [he]; rfl)) (by decide) (by decide) (by rw [he]; rfl) rfl) pa_nil (by rw [he1]; rfl)) (by decide) (by decide) (by rw [he1]; rfl) rfl).w
    (wE_mono h fun v H2 ⟨N, bs, hv, hl, q⟩ => ⟨bs, hl, N, v, rfl, hv, fun p L cs hp mb hb => by
      have sp : Same H2 (upd H2 p (SetNO X.w p L)) := same_new hp
      refine ⟨N, p, L, cs, ⟨rfl, upd_same⟩, ⟨mb.1.keep sp, mb.2⟩, fun p' ys cs' hp' pm nd dy => ?_⟩
      have e := sorted_cells nd bs fun b => (pm.mem_iff).trans (hb b)
      rw [e] at dy
      refine q _ _ (sp.trans (same_new hp')) (.lst upd_same (sp.free hp') (Da.noL _ _ (fun d hd => ?_) (dy.keep (same_new hp'))))
      obtain ⟨c, _, rfl⟩ := List.mem_map.mp hd
      exact noL_cell c⟩)
/-- [a cell for tg in range(n)], while the state is drawn from -/
theorem lc_stC {elt it : Expr} {scope : Scope} {j n : Nat} {st : Addr} (Pc : Cell → Prop) (hn : CD All_ X it σ H (.int n)) (hz : n ≤ 1000) (h3 : St3 H st) (hw : ∀ x, wipe ((wipe σ [j]).set j (some x)) [j] = wipe σ [j])
    (hel : ∀ x H', But st H H' → St3 H' st → ∀ (s : Shared) (Hb : Hp) (C : Addr) (cl : List (Str × Addr)) (fp : List Addr), wE (X.blk s Hb scope (compEnvC scope cl C X.env) fp) elt ((wipe σ [j]).set j (some x)) H' fun v H4 => (But st H' H4 ∧ St3 H4 st) ∧ ∃ c : Cell, Pc c ∧ Dv All_ H4 v (dCell c))
    (q : ∀ A H' cs, But st H H' → St3 H' st → (∀ c ∈ cs, Pc c) → cs.length = n → Dv (Free H) H' (.ref A) (dCells cs) → Q (.ref A) H') : tLc (iRng1 (tCons (wE X it) tNil)) (gName j) tYes (bE X scope elt) [j] σ H Q := by
  refine hn.run fun v H1 s1 hv => ⟨(n : Int), by rw [hv.is_int], by omega, by omega, ?_⟩
  rw [Int.toNat_natCast]
  intro A hA
  have A0 : H A = none := s1.free hA
  have Ast : A ≠ st := fun z => by rw [z] at A0; exact h3.some_ A0
  have W : Walk (Itr 0 n) n (fun _ => True) (fun i H' x H'' => H'' = H') := walk_range.mono (fun _ _ => trivial) fun i H' x H'' hi _ y => y.1
  refine lc_it W (fun i H' => (But st H H' ∧ St3 H' st) ∧ ∃ cs : List Cell, (cs.length = i ∧ ∀ c ∈ cs, Pc c) ∧ ∃ xs, H' A = some (.lst xs) ∧ Da Never H' xs (cs.map dCell)) ⟨⟨But.of (s1.trans (same_new hA)), (h3.keep s1).keep (same_new hA)⟩, [], ⟨rfl, nofun⟩, [], upd_same, .nil⟩ (fun _ _ _ _ => trivial) ?_ fun H' ⟨⟨b, s3⟩, cs, ⟨hl, hp⟩, xs, hx, dx⟩ => q A H' cs b s3 hp hl (.lst hx A0 (dx.mono (Same.refl _) fun _ z => z.elim))
  rintro i x H' H'' hi ⟨⟨b, s3⟩, cs, ⟨hl, hp⟩, xs, hx, dx⟩ rfl
  refine ⟨hw x, ?_⟩
  show bE X scope elt _ _ _
  intro s Hb C cl fp
  refine wE_mono (hel x _ b s3 s Hb C cl fp) fun v H4 ⟨⟨b4, s4⟩, c, pc, hv4⟩ => ?_
  have h4 : H4 A = some (.lst xs) := b4 A _ Ast hx
  have st4 := s4
  obtain ⟨za, zb, zc, ze⟩ := s4
  have dx4 : Da Never H4 xs (cs.map dCell) := by
    obtain ⟨ys, e⟩ := s3.lst
    exact dx.but b4 e fun z => z
  refine ⟨xs, h4, ?_, ⟨fun o u n e => ?_, ⟨za, zb, zc, by rw [upd_ne (fun z => Ast z.symm)]; exact ze⟩⟩, cs ++ [c], ⟨by rw [List.length_append, hl]; rfl, fun c' hc' => ?_⟩, xs ++ [v], upd_same, ?_⟩
  · rw [dx.length, List.length_map, hl, sizeLine_eq]; omega
  · rw [upd_ne (ne_of_none e A0)]
    exact b4 o u n (b o u n e)
  · rcases List.mem_append.mp hc' with z | z
    · exact hp c' z
    · rw [List.mem_singleton.mp z]; exact pc
  · rw [List.map_append]
    exact (dx4.snoc (hv4.noL _ _ (noL_cell c))).over h4 fun z => z
end
section
variable {P : Program} {w : World} {K : PySem.W.Frag} {mg : Str → Option Value} {base : Heap} {C : Addr}
abbrev N_law_kind : List Str := ["state", "crown", "leaps", "rides", "turn"]
theorem sc_law_kind : FnScope N_law_kind ["state", "crown"] (defScope s_law_kind) := ⟨rfl, rfl, rfl, by decide +kernel, rfl, by decide +kernel, by decide +kernel⟩
def spKind : Sp := fun vs H Q _ => ∃ (st : Addr) (cr : Int), vs = [.ref st, .int cr] ∧ St3 H st ∧ (cr = 0 ∨ cr = 1) ∧ ∀ v k H', But st H H' → St3 H' st → Dv (Free H) H' v (dKind k) → GoodKind k → k.2.2 = cr → Q v H'
theorem kf_law_kind (T : Txt K mg C) : Kf P w K mg base 2 "_law_kind" ["state", "crown"] spKind := by
  obtain ⟨f, fd, F, hm⟩ := T.f_law_kind
  have G1 : Kf P w K mg base 1 "_law_take" ["state", "many"] spTake := kf_law_take T
  have G2 : Kf P w K mg base 1 "_law_steps" ["number"] spSteps := kf_law_steps T
  refine kf_mk F hm (fn_body (k := 1) F sc_law_kind (fun vs H Q E ⟨_, _, e, _⟩ => by rw [e]; rfl) fun cdv A outer s H vs Q E hr hsp => ?_) (fun _ _ _ _ _ _ us hl => match us, hl with | [_, _], _ => rfl)
  obtain ⟨st, cr, rfl, h3, hcr, q⟩ := hsp
  have nd := sc_law_kind.nd
  have nst : ¬ (Free H) st := fun z => h3.some_ z
  refine b_cons (s_set 2 nd (e_call1 G2 hr (e_take G1 hr (Nat.le_refl _) (v_var 0 rfl) c_int h3 (by decide) fun r H1 b1 t1 r0 r1 => ⟨r, rfl, ⟨r0, r1⟩, fun v2 ls H2 s2 hv2 sl => ?_⟩)))
  have B2 : But st H H2 := b1.trans (But.of s2)
  have T2 := t1.keep s2
  have L2 : Dv (Free H) H2 v2 (dCells ls) := hv2.mono (Same.refl _) fun a ha => b1.free_ t1.some_ ha
  show wB _ _ _ _ _
  refine b_cons (s_set 3 nd (e_call1 G2 hr (e_take G1 hr (Nat.le_refl _) (v_var 0 rfl) c_int T2 (by decide) fun r H3 b3 t3 r0 r1 => ⟨r, rfl, ⟨r0, r1⟩, fun v4 rs H4 s4 hv4 sr => ?_⟩)))
  have B3 := B2.trans b3
  have B4 : But st H H4 := B3.trans (But.of s4)
  have T4 := t3.keep s4
  have L4 : Dv (Free H) H4 v2 (dCells ls) := (L2.st b3 T2 nst).keep s4
  have R4 : Dv (Free H) H4 v4 (dCells rs) := hv4.mono (Same.refl _) fun a ha => B3.free_ t3.some_ ha
  show wB _ _ _ _ _
  -- the end
  have fin : ∀ vl vr ls rs H', But st H H' → St3 H' st → Dv (Free H) H' vl (dCells ls) → Dv (Free H) H' vr (dCells rs) → Steps ls → Steps rs →
      wB (bX P w K mg base N_law_kind "_law_kind" s_law_kind f cdv A outer s H E) [(defBody s_law_kind).getLast (by decide)] { nx := fun _ H' => Q .non H', rt := Q } [some (.ref st), some (.int cr), some vl, some vr, none] H' := fun vl vr ls rs H' b t hl hr' sl sr =>
    b_one (s_ret (CD.run (N := Free H) (d := dKind (ls, rs, cr)) (c_tup (ds := [dCells ls, dCells rs, .int cr]) (cs_cons (c_var 2 rfl hl) (cs_cons (c_var 3 rfl hr') (cs_cons (c_var 1 rfl (.int _)) cs_nil)))) fun v H'' s'' hv => q v (ls, rs, cr) H'' (b.trans (But.of s'')) (t.keep s'') hv ⟨sl.good, sr.good, sl.len, sr.len, sl.up, sr.up, hcr⟩ rfl))
  have mid : ∀ vr rs H', But st H H' → St3 H' st → Dv (Free H) H' v2 (dCells ls) → Dv (Free H) H' vr (dCells rs) → Steps rs →
      wB (bX P w K mg base N_law_kind "_law_kind" s_law_kind f cdv A outer s H E) ((defBody s_law_kind).drop 3) { nx := fun _ H' => Q .non H', rt := Q } [some (.ref st), some (.int cr), some v2, some vr, none] H' := fun vr rs H' b t hl hr' sr => by
    refine b_cons (s_if (e_eqI (e_take G1 hr (Nat.le_of_ble_eq_true rfl) (v_var 0 rfl) c_int t (by decide) fun r H5 b5 t5 r0 r1 => ⟨r, 3, rfl, c_int, fun H6 s6 => ?_⟩)))
    have B6 : But st H H6 := (b.trans b5).trans (But.of s6)
    have T6 := t5.keep s6
    have hl6 := (hl.st b5 t nst).keep s6
    have hr6 := (hr'.st b5 t nst).keep s6
    by_cases c : r = 3
    · refine Eq.mpr (if_pos (decide_eq_true c)) ?_
      refine b_one (s_set 2 nd (e_sortedSetC rfl (by exact hu64 hr) T.b_sorted T.b_set (e_lc0 rfl nd (pi_range1 (by rfl) T.b_range (pa_cons (ew _ _) pa_nil)) (own := [("turn", 4)]) (blkOk_by (N := N_law_kind) (sc := defScope s_law_kind) (by decide +kernel)) (fun _ _ _ _ _ => g_name 4 nd) (lc_stC (n := 2) GoodStep c_int (by decide) T6 (by intro _; rfl) ?_ ?_))))
      · intro x H7 b7 t7 s Hb Cc cl fp
        refine e_tup2 (e_subI (e_take G1 (by exact hr) (Nat.le_of_ble_eq_true rfl) (v_var 0 rfl) c_int t7 (by decide) fun r1 H8 b8 t8 r10 r19 => CD.run (N := All_) (d := .int 4) c_int fun y H9 s9 hy => ⟨r1, 4, rfl, hy.is_int, e_addI (CD.run (N := All_) (d := .int 1) c_int fun y2 H10 s10 hy2 => e_take G1 (by exact hr) (Nat.le_of_ble_eq_true rfl) (v_var 0 rfl) c_int (t8.keep (s9.trans s10)) (by decide) fun r2 H11 b11 t11 r20 r24 => ⟨1, r2, hy2.is_int, rfl, fun p hp => ?_⟩)⟩))
        refine ⟨⟨((b8.trans (But.of (s9.trans s10))).trans b11).trans (But.of (same_new hp)), t11.keep (same_new hp)⟩, (r1 - 4, 1 + r2), ⟨⟨⟨by show -4 ≤ r1 - 4; omega, by show r1 - 4 ≤ 4; omega⟩, by show -4 ≤ 1 + r2; omega, by show 1 + r2 ≤ 4; omega⟩, .inr (by show 1 + r2 ≠ 0; omega)⟩, .tup upd_same (.cons (.int _) (.cons (.int _) .nil))⟩
      · intro Aa H7 cs b7 t7 hp hl7 hv7
        refine ⟨Free H6, cs, hv7, by omega, fun v' H8 s8 hv8 => ?_⟩
        have B7 := B6.trans b7
        have ss : Steps (rise cellLt cs) := by
          have up := rise_rising (lt := cellLt) (fun {a b c} => cellLt_trans) cellLt_tri cs
          exact ⟨up, Nat.le_trans (nodup_len _ cs (rising_nodup cellLt_irrefl up) fun x hx => (mem_rise x cs).mp hx) (by omega), fun c hc => hp c ((mem_rise c cs).mp hc)⟩
        exact fin v' vr (rise cellLt cs) rs H8 (B7.trans (But.of s8)) (t7.keep s8) (hv8.mono (Same.refl _) fun a ha => B7.free_ t7.some_ ha) ((hr6.st b7 T6 nst).keep s8) ss sr
    · refine Eq.mpr (if_neg (by rw [decide_eq_true_eq]; exact c)) ?_
      exact b_nil (fin v2 vr ls rs H6 B6 T6 hl6 hr6 sl sr)
  refine b_cons (s_if (e_gtI (e_take G1 hr (Nat.le_of_ble_eq_true rfl) (v_var 0 rfl) c_int T4 (by decide) fun r H5 b5 t5 r0 r1 => ⟨r, 0, rfl, c_int, fun H6 s6 => ?_⟩)))
  have B6 : But st H H6 := (B4.trans b5).trans (But.of s6)
  have T6 := t5.keep s6
  have hl6 := (L4.st b5 T4 nst).keep s6
  have hr6 := (R4.st b5 T4 nst).keep s6
  by_cases c : 0 < r
  · refine Eq.mpr (if_pos (decide_eq_true c)) ?_
    refine b_one (s_set 3 nd ((c_cl (N := Free H) (cs := []) cc_nil (by decide) fun p hp => B6.free_ T6.some_ hp).run fun v H7 s7 hv => ?_))
    exact mid v [] H7 (B6.trans (But.of s7)) (T6.keep s7) (hl6.keep s7) hv ⟨.nil, by decide, nofun⟩
  · refine Eq.mpr (if_neg (by rw [decide_eq_true_eq]; exact c)) ?_
    exact b_nil (mid v4 rs H6 B6 T6 hl6 hr6 sr)
end
end PY
set_option Elab.async false
set_option autoImplicit false
set_option linter.all false
set_option maxRecDepth 100000
set_option maxHeartbeats 8000000
/-! _law_some_cells. -/
namespace PY
open PySem L2 PySem.W
/-- the cells found up to (i, j) -/
structure Found (h w : Nat) (out : List Cell) (i j : Nat) (cs : List Cell) : Prop where
  up : cs.Pairwise cellLt
  len : cs.length ≤ i * 4 + j
  on : ∀ c ∈ cs, ((0 ≤ c.1 ∧ c.1 < h) ∧ (0 ≤ c.2 ∧ c.2 < w)) ∧ c ∉ out
  lt : ∀ c ∈ cs, c.1 < i ∨ (c.1 = i ∧ c.2 < j)
theorem Found.skip {h w i j : Nat} {out cs : List Cell} (f : Found h w out i j cs) : Found h w out i (j + 1) cs := ⟨f.up, by have := f.len; omega, f.on, fun c hc => by have := f.lt c hc; omega⟩
theorem Found.row {h w i j : Nat} {out cs : List Cell} (f : Found h w out i j cs) (hj : j ≤ 4) : Found h w out (i + 1) 0 cs := ⟨f.up, by have := f.len; omega, f.on, fun c hc => by have := f.lt c hc; omega⟩
theorem Found.add {h w i j : Nat} {out cs : List Cell} (f : Found h w out i j cs) (hi : i < h) (hj : j < w) (no : ((i : Int), (j : Int)) ∉ out) : Found h w out i (j + 1) (cs ++ [((i : Int), (j : Int))]) := by
  refine ⟨List.pairwise_append.mpr ⟨f.up, List.pairwise_singleton _ _, fun a ha b hb => ?_⟩, ?_, fun c hc => ?_, fun c hc => ?_⟩
  · rw [List.mem_singleton.mp hb]
    have := f.lt a ha
    unfold cellLt
    dsimp only
    omega
  · rw [List.length_append, List.length_singleton]
    have := f.len
    omega
  · rcases List.mem_append.mp hc with z | z
    · exact f.on c z
    · rw [List.mem_singleton.mp z]
      exact ⟨by dsimp only; omega, no⟩
  · rcases List.mem_append.mp hc with z | z
    · have := f.lt c z; omega
    · rw [List.mem_singleton.mp z]
      dsimp only
      omega
/-- .. in a list that the def fills while it draws -/
structure SC (H : Hp) (st l : Addr) (h w : Nat) (out : List Cell) (i j : Nat) (H' : Hp) : Prop where
  b : But st H H'
  s : St3 H' st
  ex : ∃ cs, Found h w out i j cs ∧ ∃ xs, H' l = some (.lst xs) ∧ Da Never H' xs (cs.map dCell)
section
variable {H H' H'' : Hp} {st l : Addr} {h w i j : Nat} {out : List Cell}
theorem SC.keep (x : SC H st l h w out i j H') (s : Same H' H'') : SC H st l h w out i j H'' := by
  obtain ⟨cs, f, xs, e, d⟩ := x.ex
  exact ⟨x.b.trans (But.of s), x.s.keep s, cs, f, xs, s _ _ e, d.keep s⟩
theorem SC.take (x : SC H st l h w out i j H') (ne : l ≠ st) (b : But st H' H'') (t : St3 H'' st) : SC H st l h w out i j H'' := by
  obtain ⟨cs, f, xs, e, d⟩ := x.ex
  obtain ⟨ys, ey⟩ := x.s.lst
  exact ⟨x.b.trans b, t, cs, f, xs, b l _ ne e, d.but b ey fun z => z⟩
theorem SC.skip (x : SC H st l h w out i j H') : SC H st l h w out i (j + 1) H' := by
  obtain ⟨cs, f, r⟩ := x.ex
  exact ⟨x.b, x.s, cs, f.skip, r⟩
theorem SC.row (x : SC H st l h w out i j H') (hj : j ≤ 4) : SC H st l h w out (i + 1) 0 H' := by
  obtain ⟨cs, f, r⟩ := x.ex
  exact ⟨x.b, x.s, cs, f.row hj, r⟩
end
section
variable {P : Program} {w : World} {K : PySem.W.Frag} {mg : Str → Option Value} {base : Heap} {C : Addr}
abbrev N_law_some_cells : List Str := ["state", "height", "width", "out", "share", "found", "r", "c"]
theorem sc_law_some_cells : FnScope N_law_some_cells ["state", "height", "width", "out", "share"] (defScope s_law_some_cells) := ⟨rfl, rfl, rfl, by decide +kernel, rfl, by decide +kernel, by decide +kernel⟩
def spSome : Sp := fun vs H Q _ => ∃ (st : Addr) (h w : Nat) (ov : V) (out : List Cell) (sh : Int) (No : Addr → Prop), vs = [.ref st, .int (h : Int), .int (w : Int), ov, .int sh] ∧ St3 H st ∧ ((h ≤ 4 ∧ w ≤ 4) ∧ (1 ≤ sh ∧ sh ≤ 1000000)) ∧ (Dv No H ov (dCells out) ∧ ¬ No st) ∧
  ∀ v cs H', But st H H' → St3 H' st → Dv (Free H) H' v (dCells cs) → cs.Pairwise cellLt → cs.length ≤ 16 → (∀ c ∈ cs, ((0 ≤ c.1 ∧ c.1 < h) ∧ (0 ≤ c.2 ∧ c.2 < w)) ∧ c ∉ out) → Q v H'
theorem kf_law_some_cells (T : Txt K mg C) : Kf P w K mg base 2 "_law_some_cells" ["state", "height", "width", "out", "share"] spSome := by
  obtain ⟨f, fd, F, hm⟩ := T.f_law_some_cells
  have G1 : Kf P w K mg base 1 "_law_take" ["state", "many"] spTake := kf_law_take T
  refine kf_mk F hm (fn_body (k := 1) F sc_law_some_cells (fun vs H Q E ⟨_, _, _, _, _, _, _, e, _⟩ => by rw [e]; rfl) fun cdv A outer s H vs Q E hr hsp => ?_) (fun _ _ _ _ _ _ us hl => match us, hl with | [_, _, _, _, _], _ => rfl)
  obtain ⟨st, h, w, ov, out, sh, No, rfl, h3, ⟨⟨h4, w4⟩, hsh⟩, ⟨hov, nst⟩, q⟩ := hsp
  have nd := sc_law_some_cells.nd
  refine b_cons (s_set 5 nd ((c_cl (N := Free H) (cs := []) cc_nil (by decide) fun _ hp => hp).run fun v H1 s1 hv => ?_))
  obtain ⟨l, xs, rfl, hl, nl, dl⟩ := hv.is_lst
  cases dl
  have ne : l ≠ st := fun z => by
    have nl : H l = none := nl
    rw [z] at nl
    exact h3.some_ nl
  have S0 : SC H st l h w out 0 0 H1 := ⟨But.of s1, h3.keep s1, [], ⟨.nil, Nat.zero_le _, nofun, nofun⟩, [], hl, .nil⟩
  refine b_cons (s_forR rfl T.b_range (g_name 6 nd) ((v_var 1 rfl).run fun H2 s2 => ⟨h, fun i σ' H' => ∃ o6 o7, σ' = [some (.ref st), some (.int (h : Int)), some (.int (w : Int)), some ov, some (.int sh), some (.ref l), o6, o7] ∧ SC H st l h w out i 0 H', rfl, by omega, ⟨none, none, rfl, S0.keep s2⟩, ?_, ?_⟩))
  · rintro i σ' H' hi ⟨o6, o7, rfl, S⟩
    show wB _ _ _ _ _
    refine b_one (s_forR rfl T.b_range (g_name 7 nd) ((v_var 2 rfl).run fun H3 s3 => ⟨w, fun j σ' H' => ∃ o7, σ' = [some (.ref st), some (.int (h : Int)), some (.int (w : Int)), some ov, some (.int sh), some (.ref l), some (.int (i : Int)), o7] ∧ SC H st l h w out i j H', rfl, by omega, ⟨o7, rfl, S.keep s3⟩, ?_, ?_⟩))
    case refine_2 =>
      rintro σ' H' ⟨o7, e, S⟩
      exact ⟨_, _, e, S.row w4⟩
    rintro j σ' H' hj ⟨o7, rfl, S⟩
    show wB _ _ _ _ _
    refine b_one (s_if (e_and2 (k1 := !decide (((i : Int), (j : Int)) ∈ out)) (t_cmp ((notin_d (by exact hu65 hr) (sh_cell ((i : Int), (j : Int))) (sh_cells out)).is (by rw [any_cell])) (c_ce (c_var 6 rfl (.int _)) (c_var 7 rfl (.int _))) (c_var 3 rfl ((hov.st S.b h3 nst).any))) (fun e H5 s5 => ?_) fun e H5 s5 => ?_))
    · have T5 := S.keep s5
      refine e_eqI (e_take G1 hr (Nat.le_of_ble_eq_true rfl) (v_var 0 rfl) (c_var 4 rfl (.int _)) T5.s hsh fun r H6 b6 t6 r0 r1 => ⟨r, 1, rfl, c_int, fun H7 s7 => ?_⟩)
      have S7 := (T5.take ne b6 t6).keep s7
      by_cases c : r = 1
      · refine Eq.mpr (if_pos (decide_eq_true c)) ?_
        obtain ⟨cs, fo, xs, ex, dx⟩ := S7.ex
        have fl := fo.len
        have hii : i < 4 := by omega
        have A7 := S7
        refine b_one (s_expr (e_app (N := Never) (d := dCell ((i : Int), (j : Int))) (v_var 5 rfl) (c_ce (c_var 6 rfl (.int _)) (c_var 7 rfl (.int _))) ex (by rw [dx.length, List.length_map, sizeLine_eq]; omega) fun v H8 s8 hv => ⟨_, rfl, ?_⟩))
        have e8 := s8 _ _ ex
        obtain ⟨za, zb, zc, ze⟩ := S7.s.keep s8
        refine ⟨fun o u n eo => ?_, ⟨za, zb, zc, by rw [upd_ne (fun z => ne z.symm)]; exact ze⟩, cs ++ [((i : Int), (j : Int))], fo.add hi hj ?_, xs ++ [v], upd_same, ?_⟩
        · have nl : H l = none := nl
          rw [upd_ne (ne_of_none eo nl)]
          exact s8 _ _ (S7.b o u n eo)
        · rw [Bool.not_eq_true', decide_eq_false_iff_not] at e
          exact e
        · rw [List.map_append]
          exact ((dx.keep s8).snoc hv).over e8 fun z => z
      · refine Eq.mpr (if_neg (by rw [decide_eq_true_eq]; exact c)) ?_
        exact b_nil ⟨_, rfl, S7.skip⟩
    · refine Eq.mpr (if_neg Bool.false_ne_true) ?_
      exact b_nil ⟨_, rfl, (S.keep s5).skip⟩
  rintro σ' H2 ⟨o6, o7, rfl, S⟩
  obtain ⟨cs, fo, xs, ex, dx⟩ := S.ex
  have fl := fo.len
  exact b_one (s_ret ((v_var 5 rfl).run fun H3 s3 => q _ cs H3 (S.b.trans (But.of s3)) (S.s.keep s3) (.lst (s3 _ _ ex) nl ((dx.keep s3).mono (Same.refl _) fun _ z => z.elim)) fo.up (by omega) fo.on))
end
end PY
set_option Elab.async false
set_option autoImplicit false
set_option linter.all false
set_option maxRecDepth 100000
set_option maxHeartbeats 16000000
/-! _law_parts. -/
namespace PY
open PySem L2 PySem.W
section
variable {X : Cx} {a b e e1 e2 e3 e4 e5 e6 o m c : Expr} {σ : L2.St} {H : Hp} {pos pos1 p : Pos} {Q : VK} {st : Addr}
/-- if _law_take(state, m) == j -/
theorem s_ifTake {k : Nat} {i j : Int} {A B : List Stmt} {D : Ends} (G : Kf X.prog X.w X.K X.mg X.base 1 "_law_take" ["state", "many"] spTake) (hr : Room k X.A) (hk : 1 ≤ k) (ho : CV X o σ H (.ref st)) (hm : CD All_ X m σ H (.int i)) (hc : ∀ H', CD All_ X c σ H' (.int j)) (h3 : St3 H st) (hi : 1 ≤ i ∧ i ≤ 1000000) (h1 : ∀ H', But st H H' → St3 H' st → wB X A D σ H') (h2 : ∀ H', But st H H' → St3 H' st → wB X B D σ H')
    (hg : Gl X "_law_take" := by rfl) (he : starEach (o :: [m]) X.env = (false, eval o X.env) :: starEach [m] X.env := by rfl) (he2 : starEach (m :: []) X.env = (false, eval m X.env) :: starEach [] X.env := by rfl) (hpl : (backTo pos (starEach [m] X.env)).any (·.1) = false := by rfl) (hmk : behindInMarks .Eq c = false := by first | exact nomark _ | rfl | with_unfolding_all rfl) {pos2 pos3 : Pos} :
    wS X (.If (.Compare (.Call (.Name "_law_take" p) [o, m] [] pos) [.Eq] [c] pos2) A B pos3) D σ H :=
  s_if (e_eqI (e_take G hr hk ho hm h3 hi (fun r H' b t r0 r1 => ⟨r, j, rfl, hc H', fun H2 s2 => by
    by_cases z : r = j
    · exact Eq.mpr (if_pos (decide_eq_true z)) (h1 H2 (b.trans (But.of s2)) (t.keep s2))
    · exact Eq.mpr (if_neg (by rw [decide_eq_true_eq]; exact z)) (h2 H2 (b.trans (But.of s2)) (t.keep s2))⟩) hg he he2 hpl) hmk)
/-- xs[i], i as it runs -/
theorem e_ixL {N : Addr → Prop} {ds : List PyData} (ha : CD N X a σ H (.list ds)) (hb : ∀ v H1, Same H H1 → Dv N H1 v (.list ds) → wE X b σ H1 fun y H2 => ∃ (i : Int) (d : PyData), y = .int i ∧ Dv N H2 v (.list ds) ∧ atI ds i = some d ∧ ∀ w, Dv N H2 w d → Q w H2) (hp : PlainIx b := by intros; exact fun _ _ => rfl) : wE X (.Subscript a b pos) σ H Q :=
  (pe_ix ix_list (ew X a) (ew X b) hp).w (ha.run fun v H1 s1 hv => wE_mono (hb v H1 s1 hv) fun y H2 ⟨i, d, e, hv2, hi, q⟩ => by
    obtain ⟨p, xs, rfl, hp, _, dx⟩ := hv2.is_lst
    obtain ⟨j, hseq, hj, h1, _, _⟩ := atI_get hi
    have hl := dx.length
    obtain ⟨w, hw, dw⟩ := dx.at hj
    refine ⟨p, xs, i, w, rfl, e, SqL.of hp, ?_, q w dw⟩
    unfold atI at hi ⊢
    rw [hl]
    cases e0 : ixN ds.length i with
    | none => rw [e0] at hi; cases hi
    | some j' =>
      have ej := (ixN_seq e0).1
      rw [hseq] at ej
      cases ej
      exact hw)
/-- z[i] of a text, i as it runs -/
theorem e_ixS {z : Str} (ha : ∀ H', CD All_ X a σ H' (.str z)) (hz : z.length ≤ 1000)
    (hs : ∀ H1, Same H H1 → wE X b σ H1 fun y H2 => ∃ (i : Int) (c : Nat), y = .int i ∧ atI z.cps.toList i = some c ∧ Q (.str ⟨#[c]⟩) H2) (hp : PlainIx b := by intros; exact fun _ _ => rfl) : wE X (.Subscript a b pos) σ H Q :=
  (pe_ix ix_str (ew X a) (ew X b) hp).w ((ha H).run fun v H1 s1 hv => wE_mono (hs H1 s1) fun y H2 ⟨i, c, e, hi, q⟩ => ⟨z, i, c, hv.is_str, e, by rw [sizeLine_eq]; omega, hi, q⟩)
theorem e_tup6 {x1} (h : wE X e1 σ H fun v1 H1 => wE X e2 σ H1 fun v2 H2 => wE X e3 σ H2 fun v3 H3 => wE X e4 σ H3 fun v4 H4 => wE X e5 σ H4 fun v5 H5 => wE X e6 σ H5 fun v6 H6 => ∀ p, H6 p = none → Q (.ref p) (upd H6 p (.tup [v1, v2, v3, v4, v5, v6])))
    (s1 : starEach [e1, e2, e3, e4, e5, e6] X.env = (false, eval e1 X.env) :: starEach [e2, e3, e4, e5, e6] X.env := by rfl) (s2 : starEach [e2, e3, e4, e5, e6] X.env = (false, eval e2 X.env) :: starEach [e3, e4, e5, e6] X.env := by rfl) (s3 : starEach [e3, e4, e5, e6] X.env = (false, eval e3 X.env) :: starEach [e4, e5, e6] X.env := by rfl)
    (s4 : starEach [e4, e5, e6] X.env = (false, eval e4 X.env) :: starEach [e5, e6] X.env := by rfl) (s5 : starEach [e5, e6] X.env = (false, eval e5 X.env) :: starEach [e6] X.env := by rfl) (s6 : starEach [e6] X.env = (false, eval e6 X.env) :: starEach [] X.env := by rfl) : wE X (.Tuple [e1, e2, e3, e4, e5, e6] x1 pos) σ H Q :=
  (pe_tup (pa_cons (ew X e1) (pa_cons (ew X e2) (pa_cons (ew X e3) (pa_cons (ew X e4) (pa_cons (ew X e5) (pa_cons (ew X e6) pa_nil s6) s5) s4) s3) s2) s1)).w (wE_mono h fun v1 H1 h => wE_mono h fun v2 H2 h => wE_mono h fun v3 H3 h => wE_mono h fun v4 H4 h => wE_mono h fun v5 H5 h => wE_mono h fun v6 H6 q => ⟨by rw [sizeLine_eq]; exact Nat.le_of_ble_eq_true rfl, q⟩)
/-- xs[:n], xs as it runs -/
theorem e_upTo {i : Int} {p2 : Pos} (ha : wE X a σ H fun v H1 => ∃ (N : Addr → Prop) (ds : List PyData), Dv N H1 v (.list ds) ∧ CD All_ X b σ H1 (.int i) ∧ ∀ v' H2, Same H1 H2 → Dv (fun p => N p ∨ H1 p = none) H2 v' (.list (ds.take (HT.sIx ds.length ds.length (some i)))) → Q v' H2) : wE X (.Subscript a (.Slice none (some b) none p2) pos) σ H Q :=
  (pe_slice sl_list (ew X a) po_none (po_some (ew X b))).w (wE_mono ha fun x H1 ⟨N, ds, hx, hb, q⟩ => hb H1 (Same.refl _) _ fun y H2 s2 hy => by
    obtain ⟨l, xs, rfl, hl, nl, dl⟩ := hx.is_lst
    refine ⟨i, hy.is_int, l, xs, rfl, SqL.of (s2 _ _ hl), fun p hp => ?_⟩
    refine q _ _ (s2.trans (same_new hp)) (.lst upd_same (.inr (s2.free hp)) ?_)
    have e : cutV xs none (some i) = xs.take (HT.sIx ds.length ds.length (some i)) := by
      unfold cutV
      rw [dl.length]
      rfl
    rw [e]
    exact ((dl.take _).keep (s2.trans (same_new hp))).mono (Same.refl _) fun _ z => .inl z)
end
/-- the parts of a yard, as the law holds them -/
structure PartsAt (N : Addr → Prop) (H : Hp) (v : V) (Y : Yr) : Prop where
  ex : ∃ a hv ki gv, v = .ref a ∧ H a = some (.tup [.int Y.h, .int Y.w, hv, .ref ki, gv, .str (if Y.lost then "lost" else "drawn")]) ∧ Dv N H hv (dCells Y.holes) ∧ KA N H ki Y.kinds ∧ Dv N H gv (.tuple [dCells Y.g0, dCells Y.g1])
theorem PartsAt.keep {N : Addr → Prop} {H H' : Hp} {v : V} {Y : Yr} (h : PartsAt N H v Y) (s : Same H H') : PartsAt N H' v Y := by
  obtain ⟨a, hv, ki, gv, e, h1, h2, h3, h4⟩ := h.ex
  exact ⟨a, hv, ki, gv, e, s _ _ h1, h2.keep s, h3.keep s, h4.keep s⟩
/-- what _law_parts and _law_race give -/
structure Fit (Y : Yr) : Prop where
  ok : OkParts Y
  k : ∃ kx, Y.kinds.lookup ("k" : Str) = some kx ∧ kx.2.2 = 1
  room : 4 ≤ Y.h * Y.w
  few : Y.holes.length ≤ 2
/-- kinds by their keys, the crowned "k" first -/
structure KO (keys : List Str) (ks : List (Str × Kind)) : Prop where
  names : ks.map Prod.fst = keys
  good : ∀ p ∈ ks, GoodKind p.2
  k : ∃ kx rest, ks = (("k" : Str), kx) :: rest ∧ kx.2.2 = 1
theorem KO.add {keys : List Str} {ks : List (Str × Kind)} (o : KO keys ks) {l : Str} {k : Kind} (g : GoodKind k) : KO (keys ++ [l]) (ks ++ [(l, k)]) := by
  obtain ⟨kx, rest, e, h⟩ := o.k
  refine ⟨by rw [List.map_append, o.names]; rfl, fun p hp => ?_, kx, rest ++ [(l, k)], by rw [e]; rfl, h⟩
  rcases List.mem_append.mp hp with z | z
  · exact o.good p z
  · rw [List.mem_singleton.mp z]; exact g
theorem KO.crown {keys : List Str} {ks : List (Str × Kind)} (o : KO keys ks) : ∃ kx, ks.lookup ("k" : Str) = some kx ∧ kx.2.2 = 1 := by
  obtain ⟨kx, rest, e, h⟩ := o.k
  exact ⟨kx, by rw [e, List.lookup_cons]; simp, h⟩
structure KeysOk (keys : List Str) : Prop where
  nd : keys.Nodup
  inl : ∀ l ∈ keys, l ∈ letters
  len : 1 ≤ keys.length ∧ keys.length ≤ 6
def rowC (r : Int) (w : Nat) : List Cell := (List.range w).map fun i : Nat => (r, 0 + (i : Int))
theorem rowC_up (r : Int) (w : Nat) : (rowC r w).Pairwise cellLt := by
  unfold rowC
  refine List.pairwise_map.mpr (List.pairwise_lt_range.imp fun {a b} h => ?_)
  unfold cellLt
  dsimp only
  omega
theorem rowC_mem {r : Int} {w : Nat} {c : Cell} (h : c ∈ rowC r w) : c.1 = r ∧ 0 ≤ c.2 ∧ c.2 < w := by
  obtain ⟨i, hi, rfl⟩ := List.mem_map.mp h
  rw [List.mem_range] at hi
  dsimp only
  omega
theorem rowC_len (r : Int) (w : Nat) : (rowC r w).length = w := by simp [rowC]
/-- goals that may be -/
structure GO (h w : Int) (holes g : List Cell) : Prop where
  up : g.Pairwise cellLt
  len : g.length ≤ 100
  on : ∀ c ∈ g, ((0 ≤ c.1 ∧ c.1 < h) ∧ (0 ≤ c.2 ∧ c.2 < w)) ∧ c ∉ holes
theorem GO.nil {h w : Int} {holes : List Cell} : GO h w holes [] := ⟨.nil, by decide, nofun⟩
theorem GO.row {h w : Nat} {holes : List Cell} {r : Int} (hr : 0 ≤ r ∧ r < h) (hw : w ≤ 4) : GO h w holes ((rowC r w).filter fun c => !decide (c ∈ holes)) := by
  refine ⟨(rowC_up r w).filter _, Nat.le_trans (List.length_filter_le _ _) (by rw [rowC_len]; omega), fun c hc => ?_⟩
  obtain ⟨h1, h2⟩ := List.mem_filter.mp hc
  have := rowC_mem h1
  rw [Bool.not_eq_true', decide_eq_false_iff_not] at h2
  exact ⟨by omega, h2⟩
theorem fit_of {h w : Nat} {holes g0 g1 : List Cell} {ks : List (Str × Kind)} {keys : List Str} {lost : Bool} (hb : (1 ≤ h ∧ h ≤ 4) ∧ (1 ≤ w ∧ w ≤ 4) ∧ 4 ≤ h * w ∧ h * w ≤ 12) (ho : holes.Pairwise cellLt) (hl : holes.length ≤ 2) (hon : ∀ c ∈ holes, (0 ≤ c.1 ∧ c.1 < (h : Int)) ∧ (0 ≤ c.2 ∧ c.2 < (w : Int))) (ko : KO keys ks) (kk : KeysOk keys) (o0 : GO h w holes g0) (o1 : GO h w holes g1) :
    Fit ⟨h, w, holes, ks, g0, g1, lost⟩ := by
  have e : ((h * w : Nat) : Int) = (h : Int) * (w : Int) := Int.natCast_mul _ _
  have free : ∀ g, GO h w holes g → ∀ c ∈ g, isFree (⟨h, w, holes, ks, g0, g1, lost⟩ : Yr) c = true := fun g o c hc => by
    have := o.on c hc
    unfold isFree onBoard
    simp only [Bool.and_eq_true, decide_eq_true_eq, Bool.not_eq_true', decide_eq_false_iff_not]
    exact ⟨⟨this.1.1, this.1.2⟩, this.2⟩
  have lk : ks.length = keys.length := by rw [← ko.names, List.length_map]
  refine ⟨⟨by dsimp only; omega, by dsimp only; omega, by dsimp only; omega, ⟨ho, by dsimp only; omega, fun c hc => ?_⟩, ⟨o0.up, o0.len, free g0 o0⟩, ⟨o1.up, o1.len, free g1 o1⟩, fun p hp => ⟨kk.inl p.1 (by rw [← ko.names]; exact List.mem_map.mpr ⟨p, hp, rfl⟩), ko.good p hp⟩, by have := kk.len; dsimp only; omega, by dsimp only; rw [ko.names]; exact kk.nd⟩, ko.crown, by dsimp only; omega, hl⟩
  have := hon c hc
  unfold onBoard
  simp only [Bool.and_eq_true, decide_eq_true_eq]
  exact this
end PY
set_option Elab.async false
set_option autoImplicit false
set_option linter.all false
set_option maxRecDepth 100000
set_option maxHeartbeats 16000000
/-! _law_parts. -/
namespace PY
open PySem L2 PySem.W
/-- while the def draws: all that stood stands, the state stands -/
structure PX (H : Hp) (st : Addr) (H' : Hp) : Prop where
  s : Same H H'
  t : St3 H' st
abbrev Off (H : Hp) (st : Addr) : Addr → Prop := fun a => H a = none ∧ a ≠ st
section
variable {H H' H'' : Hp} {st : Addr}
theorem PX.take (x : PX H st H') (n : H st = none) (b : But st H' H'') (t : St3 H'' st) : PX H st H'' := ⟨But.same b x.s n, t⟩
theorem PX.keep (x : PX H st H') (s : Same H' H'') : PX H st H'' := ⟨x.s.trans s, x.t.keep s⟩
theorem PX.off (x : PX H st H') {a : Addr} (h : H' a = none) : Off H st a := ⟨x.s.free h, fun z => by rw [z] at h; exact x.t.some_ h⟩
theorem PX.dv {v : V} {d : PyData} (x : PX H st H') (h : Dv (Off H st) H' v d) (b : But st H' H'') : Dv (Off H st) H'' v d := h.st b x.t fun z => z.2 rfl
theorem PX.ka {ki : Addr} {ks : List (Str × Kind)} (x : PX H st H') (h : KA (Off H st) H' ki ks) (b : But st H' H'') : KA (Off H st) H'' ki ks := by
  obtain ⟨xs, e⟩ := x.t.lst
  exact h.but b e fun z => z.2 rfl
end
theorem PX.dict {H H' H'' : Hp} {st ki : Addr} (x : PX H st H') (n : H ki = none) (ne : ki ≠ st) (b : But ki H' H'') : PX H st H'' := ⟨But.same b x.s n, let ⟨p, q, r, e⟩ := x.t; ⟨p, q, r, b st _ (fun z => ne z.symm) e⟩⟩
section
variable {N : Addr → Prop} {X : Cx} {o i value : Expr} {σ : L2.St} {H : Hp} {pos pos' : Pos} {D : Ends} {ki : Addr} {ks : List (Str × Kind)}
/-- kinds[l] = value, a new key -/
theorem s_kPut (hu : X.A.units + 1 < cLine) (h : wE X value σ H fun v H1 => wE X o σ H1 fun x H2 => wE X i σ H2 fun y H3 => ∃ (l : Str) (k : Kind), (x = .ref ki ∧ y = .str l) ∧ KA N H3 ki ks ∧ (l ∉ ks.map Prod.fst ∧ ks.length < 1000) ∧ Dv N H3 v (dKind k) ∧ ∀ H4, But ki H3 H4 → (∃ kvs, H3 ki = some (.dK kvs)) → KA N H4 ki (ks ++ [(l, k)]) → D.nx σ H4)
    (hs : swapsWith value (some (.Subscript o i pos')) pos.line X.env = pure false := by rfl) : wS X (.Assign [.Subscript o i pos'] value pos) D σ H :=
  (ps_dput hu (ew X o) (ew X i) (ew X value) hs).w (wE_mono h fun v H1 h => wE_mono h fun x H2 h => wE_mono h fun y H3 ⟨l, k, ⟨ex, ey⟩, ka, ⟨hl, hz⟩, hv, q⟩ => by
    obtain ⟨kvs, e, _⟩ := ka.ex
    obtain ⟨H4, dp, ka', kvs', hz'⟩ := ka.put hl hz hv
    exact ⟨ki, H4, ex, by rw [ey]; exact dp, q H4 (by rw [hz']; exact But.upd) ⟨kvs, e⟩ ka'⟩)
end
abbrev cde : List Str := ["c", "d", "e"]
theorem cde_at : ∀ (i c : Nat), ("cde" : Str).cps[i]? = some c → cde[i]? = some ⟨#[c]⟩
  | 0, c, h => by
    have e : some 99 = some c := h
    cases e
    rfl
  | 1, c, h => by
    have e : some 100 = some c := h
    cases e
    rfl
  | 2, c, h => by
    have e : some 101 = some c := h
    cases e
    rfl
  | n + 3, c, h => by
    have e : (none : Option Nat) = some c := h
    cases e
structure Keys3 (keys : List Str) : Prop where
  a : KeysOk keys
  b : KeysOk (keys ++ cde)
theorem keys_a : Keys3 ["k", "a"] ∧ Keys3 ((["k", "a"] : List Str) ++ [("q" : Str)]) ∧ ("q" : Str) ∉ (["k", "a"] : List Str) := ⟨⟨⟨by decide +kernel, by decide +kernel, by decide⟩, ⟨by decide +kernel, by decide +kernel, by decide⟩⟩, ⟨⟨by decide +kernel, by decide +kernel, by decide⟩, ⟨by decide +kernel, by decide +kernel, by decide⟩⟩, by decide +kernel⟩
theorem keys_b : Keys3 ["k", "b"] ∧ Keys3 ((["k", "b"] : List Str) ++ [("q" : Str)]) ∧ ("q" : Str) ∉ (["k", "b"] : List Str) := ⟨⟨⟨by decide +kernel, by decide +kernel, by decide⟩, ⟨by decide +kernel, by decide +kernel, by decide⟩⟩, ⟨⟨by decide +kernel, by decide +kernel, by decide⟩, ⟨by decide +kernel, by decide +kernel, by decide⟩⟩, by decide +kernel⟩
theorem nodup_next {α : Type} {k m : List α} {i : Nat} {x : α} (n : (k ++ m).Nodup) (h : m[i]? = some x) : x ∉ k ++ m.take i := by
  intro hx
  have e : k ++ m.take i = (k ++ m).take (k.length + i) := by rw [List.take_length_add_append]
  rw [e] at hx
  obtain ⟨j, hj⟩ := List.getElem?_of_mem hx
  rw [List.getElem?_take] at hj
  split at hj
  · rename_i hji
    have h2 : (k ++ m)[k.length + i]? = some x := by rw [List.getElem?_append_right (by omega), show k.length + i - k.length = i by omega]; exact h
    have := (List.getElem?_inj (List.getElem?_eq_some_iff.mp hj).1 n).mp (hj.trans h2.symm)
    omega
  · cases hj
section
variable {P : Program} {w : World} {K : PySem.W.Frag} {mg : Str → Option Value} {base : Heap} {C : Addr}
abbrev N_law_parts : List Str := ["script", "k", "most", "state", "height", "width", "holes", "kinds", "letter", "goals", "c", "row", "cell"]
theorem sc_law_parts : FnScope N_law_parts ["script", "k", "most"] (defScope s_law_parts) := ⟨rfl, rfl, rfl, by decide +kernel, rfl, by decide +kernel, by decide +kernel⟩
def spParts (K : PySem.W.Frag) : Sp := fun vs H Q _ => ∃ (a : Addr) (ns : List Int), vs = [.ref a, .int 0, .int 5] ∧ SqL K H a (ns.map V.int) ∧ ∀ v Y H', Same H H' → PartsAt (Free H) H' v Y → Fit Y → Q v H'
def tBoards : List Cell := [(2, 2), (2, 3), (3, 3), (3, 2), (1, 4), (3, 4), (4, 3), (3, 3)]
theorem boards_ok : ∀ i : Nat, i < 5 → ∃ h w : Nat, tBoards[i]? = some ((h : Int), (w : Int)) ∧ (1 ≤ h ∧ h ≤ 4) ∧ (1 ≤ w ∧ w ≤ 4) ∧ 4 ≤ h * w ∧ h * w ≤ 12
  | 0, _ => ⟨2, 2, rfl, by decide, by decide, by decide, by decide⟩
  | 1, _ => ⟨2, 3, rfl, by decide, by decide, by decide, by decide⟩
  | 2, _ => ⟨3, 3, rfl, by decide, by decide, by decide, by decide⟩
  | 3, _ => ⟨3, 2, rfl, by decide, by decide, by decide, by decide⟩
  | 4, _ => ⟨1, 4, rfl, by decide, by decide, by decide, by decide⟩
  | i + 5, h => by omega
theorem kf_law_parts (T : Txt K mg C) : Kf P w K mg base 3 "_law_parts" ["script", "k", "most"] (spParts K) := by
  obtain ⟨f, fd, F, hm⟩ := T.f_law_parts
  have G1 : Kf P w K mg base 1 "_law_take" ["state", "many"] spTake := kf_law_take T
  have G2 : Kf P w K mg base 2 "_law_begin" ["script", "k"] (spBegin K) := kf_law_begin T
  have G3 : Kf P w K mg base 2 "_law_some_cells" ["state", "height", "width", "out", "share"] spSome := kf_law_some_cells T
  have G4 : Kf P w K mg base 2 "_law_kind" ["state", "crown"] spKind := kf_law_kind T
  refine kf_mk F hm (fn_body (k := 2) F sc_law_parts (fun vs H Q E ⟨_, _, e, _⟩ => by rw [e]; rfl) fun cdv A outer s H vs Q E hr hsp => ?_) (fun _ _ _ _ _ _ us hl => match us, hl with | [_, _, _], _ => rfl)
  obtain ⟨a, ns, rfl, hs, q⟩ := hsp
  have nd := sc_law_parts.nd
  refine b_cons (s_set 3 nd (e_call G2 hr ((as_v (v_var 0 rfl) (as_v (v_var 1 rfl) as_nil)) H (Same.refl _) _ fun vs H1 s1 hvs => ?_)))
  obtain ⟨_, rfl, hvs, _⟩ := hvs.consV
  obtain ⟨_, rfl, hvs, _⟩ := hvs.consV
  cases hvs.nilD
  refine ⟨a, ns, 0, rfl, sq_keep hs s1, by decide, fun st H2 s2 hst t2 => ?_⟩
  have nst : H st = none := s1.free hst
  have X2 : PX H st H2 := ⟨s1.trans s2, t2⟩
  show wB _ _ _ _ _
  -- the board
  refine b_cons (s_asg (pg_tup rfl (pgs_cons (g_name 4 nd) (pgs_cons (g_name 5 nd) pgs_nil))) (e_ixL (c_cl (N := Off H st) (cs := tBoards) (cc_cons (c_ce c_int c_int) (cc_cons (c_ce c_int c_int) (cc_cons (c_ce c_int c_int) (cc_cons (c_ce c_int c_int) (cc_cons (c_ce c_int c_int) (cc_cons (c_ce c_int c_int) (cc_cons (c_ce c_int c_int) (cc_cons (c_ce c_int c_int) cc_nil)))))))) (by decide) fun p hp => X2.off hp)
    fun v H3 s3 hv => e_take G1 hr (Nat.le_of_ble_eq_true rfl) (v_var 3 rfl) (c_var 2 rfl (.int _)) (X2.keep s3).t (by decide) fun r H4 b4 t4 r0 r5 => ?_))
  obtain ⟨hh, ww, eb, hb1, hb2, hb3, hb4⟩ := boards_ok r.toNat (by omega)
  have X3 := X2.keep s3
  have X4 := X3.take nst b4 t4
  refine ⟨r, dCell ((hh : Int), (ww : Int)), rfl, X3.dv hv b4, atI_i r.toNat (by omega) (at_map eb), fun wv hwv => un2 (d1 := .int (hh : Int)) (d2 := .int (ww : Int)) hwv fun u1 u2 g1 g2 => ?_⟩
  obtain rfl := g1.is_int
  obtain rfl := g2.is_int
  show wB _ _ _ _ _
  -- the end
  have fin : ∀ holes hv ki ks keys gv g0 g1 o8 H', PX H st H' → Dv (Off H st) H' hv (dCells holes) → KA (Off H st) H' ki ks → Dv (Off H st) H' gv (.tuple [dCells g0, dCells g1]) → (holes.Pairwise cellLt ∧ holes.length ≤ 2 ∧ ∀ c ∈ holes, (0 ≤ c.1 ∧ c.1 < (hh : Int)) ∧ (0 ≤ c.2 ∧ c.2 < (ww : Int))) → KO keys ks → KeysOk keys → GO hh ww holes g0 → GO hh ww holes g1 →
      wB (bX P w K mg base N_law_parts "_law_parts" s_law_parts f cdv A outer s H E) ((defBody s_law_parts).drop 10) { nx := fun _ H' => Q .non H', rt := Q } [some (.ref a), some (.int 0), some (.int 5), some (.ref st), some (.int (hh : Int)), some (.int (ww : Int)), some hv, some (.ref ki), o8, some gv, none, none, none] H' := fun holes hv ki ks keys gv g0 g1 o8 H' x dh dk dg ho ko kk o0 o1 => by
    refine b_one (s_ret (e_tup6 ((v_var 4 rfl).run fun H5 s5 => (v_var 5 rfl).run fun H6 s6 => (v_var 6 rfl).run fun H7 s7 => (v_var 7 rfl).run fun H8 s8 => (v_var 9 rfl).run fun H9 s9 => ?_)))
    have s59 := (((s5.trans s6).trans s7).trans s8).trans s9
    have x9 := x.keep s59
    refine e_ixL (c_lst (N := Off H st) (ds := [.str "lost", .str "drawn"]) (cs_cons c_str (cs_cons c_str cs_nil)) fun p hp => x9.off hp) fun v H10 s10 hv10 => e_take G1 hr (Nat.le_of_ble_eq_true rfl) (v_var 3 rfl) c_int (x9.keep s10).t (by decide) fun r H11 b11 t11 r0 r2 => ?_
    have x10 := x9.keep s10
    have x11 := x10.take nst b11 t11
    have dh11 := x10.dv (dh.keep (s59.trans s10)) b11
    have dk11 := x10.ka (dk.keep (s59.trans s10)) b11
    have dg11 := x10.dv (dg.keep (s59.trans s10)) b11
    have last : ∀ (lost : Bool) (wv : V), Dv (Off H st) H11 wv (.str (if lost = true then "lost" else "drawn")) → ∀ p, H11 p = none → Q (.ref p) (upd H11 p (.tup [.int (hh : Int), .int (ww : Int), hv, .ref ki, gv, wv])) := fun lost wv hwv p hp => by
      have sp := same_new (o := .tup [.int (hh : Int), .int (ww : Int), hv, .ref ki, gv, wv]) hp
      rw [hwv.is_str] at sp ⊢
      exact q _ ⟨hh, ww, holes, ks, g0, g1, lost⟩ _ (x11.s.trans sp) ⟨p, hv, ki, gv, rfl, upd_same, (dh11.keep sp).mono (Same.refl _) fun _ z => z.1, (dk11.keep sp).mono fun _ z => z.1, (dg11.keep sp).mono (Same.refl _) fun _ z => z.1⟩ (fit_of ⟨hb1, hb2, hb3, hb4⟩ ho.1 ho.2.1 ho.2.2 ko kk o0 o1)
    rcases (by omega : r = 0 ∨ r = 1) with e | e
    · exact ⟨r, .str "lost", rfl, x10.dv hv10 b11, by rw [e]; rfl, fun wv hwv => last true wv hwv⟩
    · exact ⟨r, .str "drawn", rfl, x10.dv hv10 b11, by rw [e]; rfl, fun wv hwv => last false wv hwv⟩
  -- the goals
  have gol : ∀ holes hv ki ks keys o8 H', PX H st H' → Dv (Off H st) H' hv (dCells holes) → KA (Off H st) H' ki ks → (holes.Pairwise cellLt ∧ holes.length ≤ 2 ∧ ∀ c ∈ holes, (0 ≤ c.1 ∧ c.1 < (hh : Int)) ∧ (0 ≤ c.2 ∧ c.2 < (ww : Int))) → KO keys ks → KeysOk keys →
      wB (bX P w K mg base N_law_parts "_law_parts" s_law_parts f cdv A outer s H E) ((defBody s_law_parts).drop 8) { nx := fun _ H' => Q .non H', rt := Q } [some (.ref a), some (.int 0), some (.int 5), some (.ref st), some (.int (hh : Int)), some (.int (ww : Int)), some hv, some (.ref ki), o8, none, none, none, none] H' := fun holes hv ki ks keys o8 H' x dh dk ho ko kk => by
    refine b_cons (s_set 9 nd (CD.run (N := Off H st) (d := .tuple [dCells [], dCells []]) (c_tup (cs_cons (c_cl (cs := []) cc_nil (by decide) fun p hp => x.off hp) (cs_cons (c_cl (cs := []) cc_nil (by decide) fun p hp => x.off hp) cs_nil))) fun gv H5 s5 hgv => ?_))
    have x5 := x.keep s5
    have dh5 := dh.keep s5
    have dk5 := dk.keep s5
    refine b_cons (s_ifTake G1 hr (Nat.le_of_ble_eq_true rfl) (v_var 3 rfl) c_int (fun _ => c_int) x5.t (by decide) (fun H6 b6 t6 => ?_) fun H6 b6 t6 => ?_)
    · have x6 := x5.take nst b6 t6
      have dh6 := x5.dv dh5 b6
      have dk6 := x5.ka dk5 b6
      refine b_one (s_set 9 nd (e_tup2 (e_call G3 hr ((as_v (v_var 3 rfl) (as_v (v_var 4 rfl) (as_v (v_var 5 rfl) (as_v (v_var 6 rfl) (as_d c_int as_nil))))) H6 (Same.refl _) _ fun vs H7 s7 hvs => ?_))))
      obtain ⟨_, rfl, hvs, _⟩ := hvs.consV
      obtain ⟨_, rfl, hvs, _⟩ := hvs.consV
      obtain ⟨_, rfl, hvs, _⟩ := hvs.consV
      obtain ⟨_, rfl, hvs, _⟩ := hvs.consV
      obtain ⟨v6, _, rfl, i6, hvs⟩ := hvs.consD
      cases hvs.nilD
      rw [i6.is_int]
      have x7 := x6.keep s7
      refine ⟨st, hh, ww, hv, holes, 6, Off H st, rfl, x7.t, ⟨⟨hb1.2, hb2.2⟩, by decide⟩, ⟨dh6.keep s7, fun z => z.2 rfl⟩, fun va g0 H8 b8 t8 hva up0 len0 on0 => ?_⟩
      have x8 := x7.take nst b8 t8
      have dh8 := x7.dv (dh6.keep s7) b8
      have dk8 := x7.ka (dk6.keep s7) b8
      have dva : Dv (Off H st) H8 va (dCells g0) := hva.mono (Same.refl _) fun p hp => x7.off hp
      refine e_call G3 hr ((as_v (v_var 3 rfl) (as_v (v_var 4 rfl) (as_v (v_var 5 rfl) (as_v (v_var 6 rfl) (as_d c_int as_nil))))) H8 (Same.refl _) _ fun vs H9 s9 hvs => ?_)
      obtain ⟨_, rfl, hvs, _⟩ := hvs.consV
      obtain ⟨_, rfl, hvs, _⟩ := hvs.consV
      obtain ⟨_, rfl, hvs, _⟩ := hvs.consV
      obtain ⟨_, rfl, hvs, _⟩ := hvs.consV
      obtain ⟨v6', _, rfl, i6', hvs⟩ := hvs.consD
      cases hvs.nilD
      rw [i6'.is_int]
      have x9 := x8.keep s9
      refine ⟨st, hh, ww, hv, holes, 6, Off H st, rfl, x9.t, ⟨⟨hb1.2, hb2.2⟩, by decide⟩, ⟨dh8.keep s9, fun z => z.2 rfl⟩, fun vb g1 H10 b10 t10 hvb up1 len1 on1 p hp => ?_⟩
      have x10 := x9.take nst b10 t10
      have sp := same_new (o := .tup [va, vb]) hp
      have dvb : Dv (Off H st) H10 vb (dCells g1) := hvb.mono (Same.refl _) fun p hp => x9.off hp
      exact fin holes hv ki ks keys (.ref p) g0 g1 o8 _ (x10.keep sp) ((x9.dv (dh8.keep s9) b10).keep sp) ((x9.ka (dk8.keep s9) b10).keep sp) (.tup upd_same (.cons ((x9.dv (dva.keep s9) b10).keep sp) (.cons (dvb.keep sp) .nil))) ho ko kk ⟨up0, by omega, on0⟩ ⟨up1, by omega, on1⟩
    · have x6 := x5.take nst b6 t6
      have dh6 := x5.dv dh5 b6
      have dk6 := x5.ka dk5 b6
      have dg6 := x5.dv hgv b6
      refine b_one (s_ifTake G1 hr (Nat.le_of_ble_eq_true rfl) (v_var 3 rfl) c_int (fun _ => c_int) x6.t (by decide) (fun H7 b7 t7 => ?_) fun H7 b7 t7 => ?_)
      · have x7 := x6.take nst b7 t7
        have dh7 := x6.dv dh6 b7
        have dk7 := x6.ka dk6 b7
        have rows : ∀ (r : Int) (x1 : Expr) (N' : Addr → Prop), True := fun _ _ _ => trivial
        refine b_cons (s_set 9 nd (CD.run (N := Off H st) (d := .tuple [dCells (rowC 0 ww), dCells (rowC ((hh : Int) - 1) ww)]) (c_tup (cs_cons (CD.is (c_lc0 (N := Off H st) (bs := List.range ww) (enc := eUp 0) (own := [("c", 10)]) (g := gName 10) (N0 := Off H st) (fun i => dCell (0, 0 + (i : Int))) rfl nd (pi_range1 (by rfl) T.b_range (pa_cons (ew _ _) pa_nil)) (ci_range1 (c_var 5 rfl (.int _)) (by omega)) (blkOk_by (N := N_law_parts) (sc := defScope s_law_parts) (by decide +kernel)) (fun _ _ _ _ _ => g_name 10 nd) (by rw [List.length_range]; omega) (fun p hp => x7.off hp) (fun _ h => h) ?_) ?_)
          (cs_cons (CD.is (c_lc0 (N := Off H st) (bs := List.range ww) (enc := eUp 0) (own := [("c", 10)]) (g := gName 10) (N0 := Off H st) (fun i => dCell ((hh : Int) - 1, 0 + (i : Int))) rfl nd (pi_range1 (by rfl) T.b_range (pa_cons (ew _ _) pa_nil)) (ci_range1 (c_var 5 rfl (.int _)) (by omega)) (blkOk_by (N := N_law_parts) (sc := defScope s_law_parts) (by decide +kernel)) (fun _ _ _ _ _ => g_name 10 nd) (by rw [List.length_range]; omega) (fun p hp => x7.off hp) (fun _ h => h) ?_) ?_) cs_nil))) fun vr H8 s8 hvr => ?_))
        · intro N' i x' H9 hi9 s9 hx hfr R k
          exact k _ rfl fun s Hb Cc cl fp => c_ce c_int (c_var 10 rfl (d := .int (0 + (i : Int))) hx)
        · rw [dCells, rowC, List.map_map]; rfl
        · intro N' i x' H9 hi9 s9 hx hfr R k
          exact k _ rfl fun s Hb Cc cl fp => c_ce (c_sub (c_var 4 rfl (.int _)) c_int) (c_var 10 rfl (d := .int (0 + (i : Int))) hx)
        · rw [dCells, rowC, List.map_map]; rfl
        have x8 := x7.keep s8
        refine b_one (s_set 9 nd (CD.run (N := Off H st) (d := .tuple [dCells ((rowC 0 ww).filter fun c => !decide (c ∈ holes)), dCells ((rowC ((hh : Int) - 1) ww).filter fun c => !decide (c ∈ holes))]) (CD.is (c_tupleL T.b_tuple (c_lc0 (N := Off H st) (bs := [rowC 0 ww, rowC ((hh : Int) - 1) ww]) (enc := dCells) (own := [("row", 11)]) (g := gName 11) (N0 := Off H st) (fun g => dCells (g.filter fun c => !decide (c ∈ holes))) rfl nd (pi_tup (ew _ _)) (ci_tup (c_var 9 rfl hvr)) (blkOk_by (N := N_law_parts) (sc := defScope s_law_parts) (by decide +kernel)) (fun _ _ _ _ _ => g_name 11 nd) (Nat.le_of_ble_eq_true rfl) (fun p hp => x8.off hp) (fun _ h => h) ?_)) rfl) fun vg H9 s9 hvg => ?_))
        · intro N' g x' H9 hg9 s9 hx hfr R k
          have gl : g.length ≤ 4 := by
            rcases List.mem_cons.mp hg9 with z | z
            · rw [z, rowC_len]; exact hb2.2
            · rw [List.mem_singleton.mp z, rowC_len]; exact hb2.2
          refine k _ rfl fun s Hb Cc cl fp => c_lc1 (N := N') (bs := g) (enc := dCell) (own := [("cell", 12)]) (g := gName 12) (N0 := N') (fun c => !decide (c ∈ holes)) dCell rfl nd (pi_list (ew _ _)) (ci_list (c_var 11 rfl hx)) (blkOk_by (N := N_law_parts) (sc := { kind := ScopeKind.function, names := [(".0", NameKind.local), ("row", NameKind.local), ("holes", NameKind.cell)], isGenerator := false, isCoroutine := false }) (by decide +kernel)) (fun _ _ _ _ _ => g_name 12 nd) (by omega) hfr (fun _ h => h) ?_
          intro N2 c x2 H10 hc10 s10 hx2 hfr2 R2 k2
          exact k2 _ rfl (fun s Hb Cc cl fp => t_cmp ((notin_d (by exact hu65 hr) (sh_cell c) (sh_cells holes)).is (by rw [any_cell])) (c_var 12 rfl hx2.any) (c_var 6 rfl ((dh7.keep s8).keep (s9.trans s10)).any)) fun _ s Hb Cc cl fp => c_var 12 rfl hx2
        exact fin holes hv ki ks keys vg _ _ o8 H9 (x8.keep s9) (dh7.keep (s8.trans s9)) (dk7.keep (s8.trans s9)) hvg ho ko kk (GO.row (by omega) hb2.2) (GO.row (by omega) hb2.2)
      · exact b_nil (fin holes hv ki ks keys gv [] [] o8 H7 (x6.take nst b7 t7) (x6.dv dh6 b7) (x6.ka dk6 b7) (x6.dv dg6 b7) ho ko kk GO.nil GO.nil)
  have hoK : ∀ holes : List Cell, True := fun _ => trivial
  -- c, d, e
  have cdeP : ∀ holes hv ki ks keys H', PX H st H' → Dv (Off H st) H' hv (dCells holes) → KA (Off H st) H' ki ks → (H ki = none ∧ ki ≠ st) → (holes.Pairwise cellLt ∧ holes.length ≤ 2 ∧ ∀ c ∈ holes, (0 ≤ c.1 ∧ c.1 < (hh : Int)) ∧ (0 ≤ c.2 ∧ c.2 < (ww : Int))) → KO keys ks → Keys3 keys →
      wB (bX P w K mg base N_law_parts "_law_parts" s_law_parts f cdv A outer s H E) ((defBody s_law_parts).drop 7) { nx := fun _ H' => Q .non H', rt := Q } [some (.ref a), some (.int 0), some (.int 5), some (.ref st), some (.int (hh : Int)), some (.int (ww : Int)), some hv, some (.ref ki), none, none, none, none, none] H' := fun holes hv ki ks keys H' x dh dk nk ho ko k3 => by
    refine b_cons (s_ifTake G1 hr (Nat.le_of_ble_eq_true rfl) (v_var 3 rfl) c_int (fun _ => c_int) x.t (by decide) (fun H6 b6 t6 => ?_) fun H6 b6 t6 => b_nil (gol holes hv ki ks keys none H6 (x.take nst b6 t6) (x.dv dh b6) (x.ka dk b6) ho ko k3.a))
    have x6 := x.take nst b6 t6
    have dh6 := x.dv dh b6
    have dk6 := x.ka dk b6
    refine b_one (s_forS rfl (g_name 8 nd) (CD.run (N := All_) (d := .str "cde") c_str fun v H7 s7 hv7 => ⟨"cde", fun i σ' H' => ∃ o8 ks', σ' = [some (.ref a), some (.int 0), some (.int 5), some (.ref st), some (.int (hh : Int)), some (.int (ww : Int)), some hv, some (.ref ki), o8, none, none, none, none] ∧ PX H st H' ∧ Dv (Off H st) H' hv (dCells holes) ∧ KA (Off H st) H' ki ks' ∧ KO (keys ++ cde.take i) ks', hv7.is_str, ⟨none, ks, rfl, x6.keep s7, dh6.keep s7, dk6.keep s7, by rw [List.take_zero, List.append_nil]; exact ko⟩, ?_, ?_⟩))
    · rintro i c σ' H' hc ⟨o8, ks', rfl, x', dh', dk', ko'⟩
      have hl := cde_at i c hc
      have fresh := nodup_next k3.b.nd hl
      show wB _ _ _ _ _
      refine b_one (s_kPut (ki := ki) (ks := ks') (N := Off H st) (by exact hu1 hr) (e_call2 G4 (by exact hr) ((v_var 3 rfl).run fun H8 s8 => e_take G1 hr (Nat.le_of_ble_eq_true rfl) (v_var 3 rfl) c_int (x'.keep s8).t (by decide) fun r H9 b9 t9 r0 r2 => ⟨st, r, rfl, t9, by omega, fun kv k H10 b10 t10 hk gk _ => (v_var 7 rfl).run fun H11 s11 => CD.run (N := All_) (d := .str ⟨#[c]⟩) (c_var 8 rfl (.str _)) fun y H12 s12 hy => ?_⟩)))
      have x9 := (x'.keep s8).take nst b9 t9
      have x10 := x9.take nst b10 t10
      have s12' := s11.trans s12
      have dk10 := x9.ka ((x'.keep s8).ka (dk'.keep s8) b9) b10
      have dh10 := x9.dv ((x'.keep s8).dv (dh'.keep s8) b9) b10
      refine ⟨⟨#[c]⟩, k, ⟨rfl, hy.is_str⟩, dk10.keep s12', ⟨by rw [ko'.names]; exact fresh, ?_⟩, (hk.mono (Same.refl _) fun p hp => x9.off hp).keep s12', fun H13 b13 ⟨kvs, e13⟩ ka13 => ⟨_, ks' ++ [(⟨#[c]⟩, k)], rfl, (x10.keep s12').dict nk.1 nk.2 b13, (dh10.keep s12').by_ e13 trivial b13, ka13, ?_⟩⟩
      · have h1 := congrArg List.length ko'.names
        have h2 := k3.b.len.2
        rw [List.length_map, List.length_append, List.length_take] at h1
        rw [List.length_append] at h2
        omega
      · rw [take_succ_get hl, ← List.append_assoc]
        exact ko'.add gk
    · rintro σ' H7 ⟨o8, ks', rfl, x', dh', dk', ko'⟩
      exact gol holes hv ki ks' (keys ++ cde) o8 H7 x' dh' dk' ho ko' k3.b
  -- q
  have qP : ∀ holes hv ki ks keys H', PX H st H' → Dv (Off H st) H' hv (dCells holes) → KA (Off H st) H' ki ks → (H ki = none ∧ ki ≠ st) → (holes.Pairwise cellLt ∧ holes.length ≤ 2 ∧ ∀ c ∈ holes, (0 ≤ c.1 ∧ c.1 < (hh : Int)) ∧ (0 ≤ c.2 ∧ c.2 < (ww : Int))) → KO keys ks → Keys3 keys → Keys3 (keys ++ [("q" : Str)]) → ("q" : Str) ∉ keys →
      wB (bX P w K mg base N_law_parts "_law_parts" s_law_parts f cdv A outer s H E) ((defBody s_law_parts).drop 6) { nx := fun _ H' => Q .non H', rt := Q } [some (.ref a), some (.int 0), some (.int 5), some (.ref st), some (.int (hh : Int)), some (.int (ww : Int)), some hv, some (.ref ki), none, none, none, none, none] H' := fun holes hv ki ks keys H' x dh dk nk ho ko k3 k3q nq => by
    refine b_cons (s_ifTake G1 hr (Nat.le_of_ble_eq_true rfl) (v_var 3 rfl) c_int (fun _ => c_int) x.t (by decide) (fun H6 b6 t6 => ?_) fun H6 b6 t6 => b_nil (cdeP holes hv ki ks keys H6 (x.take nst b6 t6) (x.dv dh b6) (x.ka dk b6) nk ho ko k3))
    have x6 := x.take nst b6 t6
    have dh6 := x.dv dh b6
    have dk6 := x.ka dk b6
    refine b_one (s_kPut (ki := ki) (ks := ks) (N := Off H st) (by exact hu1 hr) (e_call2 G4 (by exact hr) ((v_var 3 rfl).run fun H8 s8 => e_take G1 hr (Nat.le_of_ble_eq_true rfl) (v_var 3 rfl) c_int (x6.keep s8).t (by decide) fun r H9 b9 t9 r0 r2 => ⟨st, r, rfl, t9, by omega, fun kv k H10 b10 t10 hk gk _ => (v_var 7 rfl).run fun H11 s11 => CD.run (N := All_) (d := .str "q") c_str fun y H12 s12 hy => ?_⟩)))
    have x9 := (x6.keep s8).take nst b9 t9
    have x10 := x9.take nst b10 t10
    have s12' := s11.trans s12
    have dk10 := x9.ka ((x6.keep s8).ka (dk6.keep s8) b9) b10
    have dh10 := x9.dv ((x6.keep s8).dv (dh6.keep s8) b9) b10
    refine ⟨"q", k, ⟨rfl, hy.is_str⟩, dk10.keep s12', ⟨by rw [ko.names]; exact nq, ?_⟩, (hk.mono (Same.refl _) fun p hp => x9.off hp).keep s12', fun H13 b13 ⟨kvs, e13⟩ ka13 => cdeP holes hv ki (ks ++ [(("q" : Str), k)]) (keys ++ [("q" : Str)]) H13 ((x10.keep s12').dict nk.1 nk.2 b13) ((dh10.keep s12').by_ e13 trivial b13) ka13 nk ho (ko.add gk) k3q⟩
    have h1 := congrArg List.length ko.names
    have h2 := k3.a.len.2
    rw [List.length_map] at h1
    omega
  -- a or b
  have abP : ∀ holes hv ki kx H', PX H st H' → Dv (Off H st) H' hv (dCells holes) → KA (Off H st) H' ki [("k", kx)] → (H ki = none ∧ ki ≠ st) → (holes.Pairwise cellLt ∧ holes.length ≤ 2 ∧ ∀ c ∈ holes, (0 ≤ c.1 ∧ c.1 < (hh : Int)) ∧ (0 ≤ c.2 ∧ c.2 < (ww : Int))) → KO ["k"] [("k", kx)] →
      wB (bX P w K mg base N_law_parts "_law_parts" s_law_parts f cdv A outer s H E) ((defBody s_law_parts).drop 5) { nx := fun _ H' => Q .non H', rt := Q } [some (.ref a), some (.int 0), some (.int 5), some (.ref st), some (.int (hh : Int)), some (.int (ww : Int)), some hv, some (.ref ki), none, none, none, none, none] H' := fun holes hv ki kx H' x dh dk nk ho ko => by
    refine b_cons (s_kPut (ki := ki) (ks := [("k", kx)]) (N := Off H st) (by exact hu1 hr) (e_call2 G4 (by exact hr) ((v_var 3 rfl).run fun H8 s8 => CD.run (N := All_) (d := .int 0) c_int fun y H9 s9 hy => ?_)))
    have s89 := s8.trans s9
    have x9 := x.keep s89
    refine ⟨st, 0, by rw [hy.is_int], x9.t, .inl rfl, fun kv k H10 b10 t10 hk gk _ => (v_var 7 rfl).run fun H11 s11 => e_ixS (z := "ab") (fun _ => c_str) (by decide +kernel) fun H12 s12 => e_take G1 hr (Nat.le_of_ble_eq_true rfl) (v_var 3 rfl) c_int (t10.keep (s11.trans s12)) (by decide) fun r H13 b13 t13 r0 r2 => ?_⟩
    have x10 := x9.take nst b10 t10
    have x12 := x10.keep (s11.trans s12)
    have x13 := x12.take nst b13 t13
    have dk13 := x12.ka ((x9.ka (dk.keep s89) b10).keep (s11.trans s12)) b13
    have dh13 := x12.dv ((x9.dv (dh.keep s89) b10).keep (s11.trans s12)) b13
    have hk13 : Dv (Off H st) H13 kv (dKind k) := x12.dv ((hk.mono (Same.refl _) fun p hp => x9.off hp).keep (s11.trans s12)) b13
    rcases (by omega : r = 0 ∨ r = 1) with e | e
    · refine ⟨r, 97, rfl, by rw [e]; rfl, "a", k, ⟨rfl, rfl⟩, dk13, ⟨by show ("a" : Str) ∉ (["k"] : List Str); decide +kernel, by simp⟩, hk13, fun H14 b14 ⟨kvs, e14⟩ ka14 => qP holes hv ki _ ["k", "a"] H14 (x13.dict nk.1 nk.2 b14) (dh13.by_ e14 trivial b14) ka14 nk ho (ko.add gk) keys_a.1 keys_a.2.1 keys_a.2.2⟩
    · refine ⟨r, 98, rfl, by rw [e]; rfl, "b", k, ⟨rfl, rfl⟩, dk13, ⟨by show ("b" : Str) ∉ (["k"] : List Str); decide +kernel, by simp⟩, hk13, fun H14 b14 ⟨kvs, e14⟩ ka14 => qP holes hv ki _ ["k", "b"] H14 (x13.dict nk.1 nk.2 b14) (dh13.by_ e14 trivial b14) ka14 nk ho (ko.add gk) keys_b.1 keys_b.2.1 keys_b.2.2⟩
  -- k
  have kP : ∀ holes hv H', PX H st H' → Dv (Off H st) H' hv (dCells holes) → (holes.Pairwise cellLt ∧ holes.length ≤ 2 ∧ ∀ c ∈ holes, (0 ≤ c.1 ∧ c.1 < (hh : Int)) ∧ (0 ≤ c.2 ∧ c.2 < (ww : Int))) →
      wB (bX P w K mg base N_law_parts "_law_parts" s_law_parts f cdv A outer s H E) ((defBody s_law_parts).drop 4) { nx := fun _ H' => Q .non H', rt := Q } [some (.ref a), some (.int 0), some (.int 5), some (.ref st), some (.int (hh : Int)), some (.int (ww : Int)), some hv, none, none, none, none, none, none] H' := fun holes hv H' x dh ho => by
    refine b_cons (s_set 7 nd ((pe_disp (pps_cons (ew _ _) (ew _ _) pps_nil) rfl rfl (by decide) (by decide)).w fun ki hki => ?_))
    have sk := same_new (o := .dK []) hki
    have xk := x.keep sk
    have nk := x.off hki
    show wE _ _ _ _ _
    refine CD.run (N := All_) (d := .str "k") c_str fun y H6 s6 hy => e_call2 G4 (by exact hr) ((v_var 3 rfl).run fun H8 s8 => CD.run (N := All_) (d := .int 1) c_int fun y2 H9 s9 hy2 => ?_)
    have s69 := (s6.trans s8).trans s9
    have x9 := xk.keep s69
    refine ⟨st, 1, by rw [hy2.is_int], x9.t, .inr rfl, fun kv k H10 b10 t10 hk gk cr => ?_⟩
    have e9 : H9 ki = some (.dK []) := s69 _ _ upd_same
    have e10 : H10 ki = some (.dK []) := b10 ki _ nk.2 e9
    have x10 := x9.take nst b10 t10
    have dh10 := x9.dv (dh.keep (sk.trans s69)) b10
    have hk10 : Dv (Off H st) H10 kv (dKind k) := hk.mono (Same.refl _) fun p hp => x9.off hp
    refine ⟨e10, [(Sum.inr "k", kv)], by rw [hy.is_str]; rfl, by simp, ?_⟩
    have b11 : But ki H10 (upd H10 ki (.dK (mergeK [] [(Sum.inr "k", kv)]))) := But.upd
    exact abP holes hv ki k _ (x10.dict nk.1 nk.2 b11) (dh10.by_ e10 trivial b11) ⟨[(Sum.inr "k", kv)], upd_same, rfl, .cons (hk10.by_ e10 trivial b11) .nil⟩ nk ho ⟨rfl, fun p hp => by rw [List.mem_singleton.mp hp]; exact gk, k, [], rfl, cr⟩
  -- the holes
  refine b_cons (s_set 6 nd (CD.run (N := Off H st) (c_cl (cs := []) cc_nil (by decide) fun p hp => X4.off hp) fun hv H5 s5 hhv => ?_))
  have x5 := X4.keep s5
  refine b_cons (s_ifTake G1 hr (Nat.le_of_ble_eq_true rfl) (v_var 3 rfl) c_int (fun _ => c_int) x5.t (by decide) (fun H6 b6 t6 => ?_) fun H6 b6 t6 => b_nil (kP [] hv H6 (x5.take nst b6 t6) (x5.dv hhv b6) ⟨.nil, by decide, nofun⟩))
  have x6 := x5.take nst b6 t6
  refine b_one (s_set 6 nd (e_upTo (i := 2) (e_call G3 hr ((as_v (v_var 3 rfl) (as_v (v_var 4 rfl) (as_v (v_var 5 rfl) (as_d (c_cl (cs := []) cc_nil (by decide) fun _ _ => trivial) (as_d c_int as_nil))))) H6 (Same.refl _) _ fun vs H7 s7 hvs => ?_))))
  obtain ⟨_, rfl, hvs, _⟩ := hvs.consV
  obtain ⟨_, rfl, hvs, _⟩ := hvs.consV
  obtain ⟨_, rfl, hvs, _⟩ := hvs.consV
  obtain ⟨v3', _, rfl, i3, hvs⟩ := hvs.consD
  obtain ⟨v4', _, rfl, i4, hvs⟩ := hvs.consD
  cases hvs.nilD
  rw [i4.is_int]
  have x7 := x6.keep s7
  obtain ⟨le, xse, rfl, hle, _, de⟩ := i3.is_lst
  cases de
  have lest : le ≠ st := fun z => by
    obtain ⟨p1, p2, p3, e⟩ := x7.t
    rw [z, e] at hle
    cases hle
  refine ⟨st, hh, ww, .ref le, [], 7, fun p => p ≠ st, rfl, x7.t, ⟨⟨hb1.2, hb2.2⟩, by decide⟩, ⟨.lst hle lest .nil, fun z => z rfl⟩, fun v cs H8 b8 t8 hv8 up len on => ⟨Free H7, cs.map dCell, hv8, c_int, fun v' H9 s9 hv9 => ?_⟩⟩
  have x8 := x7.take nst b8 t8
  have e2 : (cs.map dCell).take (HT.sIx (cs.map dCell).length (cs.map dCell).length (some 2)) = (cs.take 2).map dCell := by
    have e3 : HT.sIx (cs.map dCell).length (cs.map dCell).length (some 2) = min 2 (cs.map dCell).length := HT.sIx_nat _ _ 2
    rw [e3, ← List.map_take]
    congr 1
    rw [List.length_map]
    rcases Nat.le_total 2 cs.length with h | h
    · rw [Nat.min_eq_left h]
    · rw [Nat.min_eq_right h, List.take_of_length_le (Nat.le_refl _), List.take_of_length_le h]
  rw [e2] at hv9
  refine kP (cs.take 2) v' H9 (x8.keep s9) (hv9.mono (Same.refl _) fun p hp => ?_) ⟨up.sublist (List.take_sublist 2 cs), by rw [List.length_take]; omega, fun c hc => (on c (List.mem_of_mem_take hc)).1⟩
  rcases hp with hp | hp
  · exact x7.off hp
  · exact x8.off hp
end
end PY
set_option Elab.async false
set_option autoImplicit false
set_option linter.all false
set_option maxRecDepth 100000
set_option maxHeartbeats 16000000
/-! _law_yard. -/
namespace PY
open PySem L2 PySem.W
section
variable {X : Cx} {o e : Expr} {σ : L2.St} {H : Hp} {pos : Pos}
/-- t[i] of a tuple that is known -/
theorem v_ixT {p : Addr} {xs : List V} {i : Int} {w : V} (ho : CV X o σ H (.ref p)) (hp : H p = some (.tup xs)) (hi : CD All_ X e σ H (.int i)) (hw : atI xs i = some w) (hs : PlainIx e := by intros; exact fun _ _ => rfl) : CV X (.Subscript o e pos) σ H w := fun H1 s1 Q q =>
  (pe_ix ix_tup (ew X o) (ew X e) hs).w (ho H1 s1 _ fun H2 s2 => hi H2 (s1.trans s2) _ fun y H3 s3 hy => ⟨p, xs, i, w, rfl, hy.is_int, SqT.of (s3 _ _ (s2 _ _ (s1 _ _ hp))), hw, q H3 (s2.trans s3)⟩)
/-- for letter in kinds -/
theorem s_forK {ki : Addr} {ks : List (Str × Kind)} {tg : Expr} {body : List Stmt} {g : TG} {D : Ends} (hc : X.calm = true) (hg : PG X tg g) (ho : ∀ H', But ki H H' → CV X e σ H' (.ref ki)) {kvs : List (Key × V)} (h1 : H ki = some (.dK kvs)) (h2 : kvs.map (·.1) = ks.map (fun p => Sum.inr p.1))
    (h : ∀ od, ∃ (Pv : Nat → L2.St → Hp → Prop), (∀ H', Same (upd H ki (.frz od (.dK kvs))) H' → Pv 0 σ H') ∧ (∀ i σ' H', i ≤ ks.length → Pv i σ' H' → H' ki = some (.frz od (.dK kvs))) ∧
      (∀ i p σ' H', ks[i]? = some p → Pv i σ' H' → g (.str p.1) σ' H' fun σ2 H2 => wB X body ⟨Pv (i + 1), fun v H' => H' ki = some (.frz od (.dK kvs)) ∧ D.rt v (upd H' ki (.dK kvs)), fun σ' H' => H' ki = some (.frz od (.dK kvs)) ∧ D.nx σ' (upd H' ki (.dK kvs)), Pv (i + 1)⟩ σ2 H2) ∧ ∀ σ' H', Pv ks.length σ' H' → H' ki = some (.frz od (.dK kvs)) ∧ D.nx σ' (upd H' ki (.dK kvs)))
    (hp : PassesOwn (model X.prog X.w) X.A X.env X.xe := by exact PassesOwn.never) (hs : ∀ x, foldedSetIterable e X.env x = pure x := by intro _; rfl) : wS X (.For tg e body [] pos) D σ H := by
  refine (ps_lock (ps_for hp hc (pi_keys (ew X e)) hg (bw X body) hs)).w ⟨ki, _, h1, trivial, fun od => ?_⟩
  obtain ⟨Pv, p0, pl, pb, pd⟩ := h od
  have hlen : kvs.length = ks.length := by
    have := congrArg List.length h2
    rw [List.length_map, List.length_map] at this
    exact this
  refine (ho _ But.upd).run fun H1 s1 => ⟨ki, od, rfl, .inl ⟨kvs, s1 _ _ upd_same, ?_⟩⟩
  refine for_it (walk_keys (d := ki) (o := od) (kvs := kvs)) Pv (p0 H1 s1) (fun i σ' H' hi p => pl i σ' H' (by omega) p) (fun i x σ' H' H'' hi p y => ?_) fun σ' H' p => pd σ' H' (hlen ▸ p)
  obtain ⟨rfl, k, v, e1, rfl⟩ := y
  have e2 : (kvs.map (·.1))[i]? = some k := by rw [List.getElem?_map, e1]; rfl
  rw [h2, List.getElem?_map] at e2
  cases e3 : ks[i]? with
  | none => rw [e3] at e2; cases e2
  | some q =>
    rw [e3] at e2
    have e4 : Sum.inr q.1 = k := Option.some.inj e2
    subst e4
    exact pb i q σ' _ e3 p
end
theorem CAs.go {X : Cx} {es : List Expr} {σ : L2.St} {H : Hp} {as : List AV} {Q : List V → Hp → Prop} (h : CAs X es σ H as) (q : ∀ vs H2, Same H H2 → ARs H2 vs as → Q vs H2) : wA X es σ H Q := h H (Same.refl _) Q q
section
variable {P : Program} {w : World} {K : PySem.W.Frag} {mg : Str → Option Value} {base : Heap} {C : Addr}
abbrev N_law_yard : List Str := ["parts", "kinds", "letter"]
theorem sc_law_yard : FnScope N_law_yard ["parts"] (defScope s_law_yard) := ⟨rfl, rfl, rfl, by decide +kernel, rfl, by decide +kernel, by decide +kernel⟩
def spYard (C : Addr) : Sp := fun vs H Q _ => ∃ pv Y, vs = [pv] ∧ PartsAt All_ H pv Y ∧ OkParts Y ∧ ∀ y Y' H', Same H H' → YardAt C H' y Y' → Like Y Y' → Q (.ref y) H'
theorem kf_law_yard (T : Txt K mg C) : Kf P w K mg base 5 "_law_yard" ["parts"] (spYard C) := by
  obtain ⟨f, fd, F, hm⟩ := T.f_law_yard
  obtain ⟨fi, fdi, Fi, Mi⟩ := T.m_init
  have Gi := fn_init (P := P) (w := w) (base := base) T Fi
  have bi : Binds K fdi ["self", "height", "width", "holes", "kinds", "goals", "stuck"] [] := FunD.bindsN Fi (fun _ _ _ _ _ _ us hl => match us, hl with | [_, _, _, _, _, _, _], _ => rfl)
  refine kf_mk F hm (fn_body (k := 4) F sc_law_yard (fun vs H Q E ⟨_, _, e, _⟩ => by rw [e]; rfl) fun cdv A outer s H vs Q E hr hsp => ?_) (fun _ _ _ _ _ _ us hl => match us, hl with | [_], _ => rfl)
  obtain ⟨pv, Y, rfl, hp, ok, q⟩ := hsp
  obtain ⟨a, hv, ki, gv, rfl, ha, dh, dk, dg⟩ := hp.ex
  have nd := sc_law_yard.nd
  refine b_cons (s_set 1 nd (pe_dnewK.w fun kd hkd => ?_))
  have s1 := same_new (o := .dK []) hkd
  show wB _ _ _ _ _
  generalize hH1 : upd H kd (.dK []) = H1 at s1
  have e1 : H1 kd = some (.dK []) := by rw [← hH1]; exact upd_same
  have hki : H ki ≠ none := by
    obtain ⟨kvs, h1, _⟩ := dk.ex
    rw [h1]; exact nofun
  have kdki : kd ≠ ki := fun z => hki (by rw [← z]; exact hkd)
  have dk1 := dk.keep s1
  obtain ⟨kvs, k1, k2, k3⟩ := dk1.ex
  refine b_cons (s_forK (ks := Y.kinds) rfl (g_name 2 nd) (fun H' b => v_ixT (v_var 0 rfl) (b a _ (fun z => by rw [z] at ha; rw [z] at *; obtain ⟨kv, h1, _⟩ := dk.ex; rw [ha] at h1; cases h1) (s1 _ _ ha)) c_int rfl) k1 k2 fun od => ?_)
  have aki : a ≠ ki := fun z => by
    obtain ⟨kv, h1, _⟩ := dk.ex
    rw [z, h1] at ha
    cases ha
  generalize hL : upd H1 ki (.frz od (.dK kvs)) = HL
  have eL : HL ki = some (.frz od (.dK kvs)) := by rw [← hL]; exact upd_same
  have aL : HL a = some (.tup [.int Y.h, .int Y.w, hv, .ref ki, gv, .str (if Y.lost = true then "lost" else "drawn")]) := by rw [← hL, upd_ne aki]; exact s1 _ _ ha
  have k3L : Da All_ HL (kvs.map (·.2)) (Y.kinds.map fun p => dKind p.2) := by rw [← hL]; exact k3.by_ k1 trivial But.upd
  have kdL : HL kd = some (.dK []) := by rw [← hL, upd_ne kdki]; exact e1
  have lenK := ok.kn.2
  refine ⟨fun i σ' H' => ∃ o2, σ' = [some (.ref a), some (.ref kd), o2] ∧ (But kd HL H' ∧ KA All_ H' kd (Y.kinds.take i)), fun H' s' => ⟨none, rfl, But.of s', [], s' _ _ kdL, rfl, .nil⟩, fun i σ' H' _ ⟨_, _, b, _⟩ => b ki _ (fun z => kdki z.symm) eL, ?_, ?_⟩
  · rintro i p σ' H' hip ⟨o2, rfl, b', ka⟩
    have hpm := List.mem_of_getElem? hip
    have hlk := lookup_of ok.kd hpm
    have akd : a ≠ kd := fun z => by rw [z, hkd] at ha; cases ha
    have aH : H' a = _ := b' a _ akd aL
    have eH : H' ki = _ := b' ki _ (fun z => kdki z.symm) eL
    have k3H : Da All_ H' (kvs.map (·.2)) (Y.kinds.map fun p => dKind p.2) := k3L.by_ kdL trivial b'
    have kx : ∀ H2, Same H' H2 → CD All_ (bX P w K mg base N_law_yard "_law_yard" s_law_yard f cdv A outer s H E) (.Subscript (.Subscript (.Name "parts" ⟨0,0,0,0⟩) (.Constant (.int 3) 0 ⟨0,0,0,0⟩) ⟨0,0,0,0⟩) (.Name "letter" ⟨0,0,0,0⟩) ⟨0,0,0,0⟩) [some (.ref a), some (.ref kd), some (.str p.1)] H2 (dKind p.2) := fun H2 s2 => c_kRd (by exact hu1 hr) (v_ixT (v_var 0 rfl) (s2 _ _ aH) c_int rfl) (.inr ⟨od, s2 _ _ eH⟩) k2 (k3H.keep s2) (c_var 2 rfl (.str _)) hlk
    show wB _ _ _ _ _
    refine b_one (s_kPut (ki := kd) (ks := Y.kinds.take i) (N := All_) (by exact hu1 hr) (CD.run (N := All_) (d := dKind p.2) (c_tup (ds := [dCells p.2.1, dCells p.2.2.1, .int p.2.2.2]) (cs_cons (c_listL T.b_list (c_ixT (ds := [dCells p.2.1, dCells p.2.2.1, .int p.2.2.2]) (c_kRd (by exact hu1 hr) (v_ixT (v_var 0 rfl) aH c_int rfl) (.inr ⟨od, eH⟩) k2 k3H (c_var 2 rfl (.str _)) hlk) c_int rfl) (fun _ _ => trivial)) (cs_cons (c_listL T.b_list (c_ixT (ds := [dCells p.2.1, dCells p.2.2.1, .int p.2.2.2]) (c_kRd (by exact hu1 hr) (v_ixT (v_var 0 rfl) aH c_int rfl) (.inr ⟨od, eH⟩) k2 k3H (c_var 2 rfl (.str _)) hlk) c_int rfl) (fun _ _ => trivial))
      (cs_cons (c_ixT (ds := [dCells p.2.1, dCells p.2.2.1, .int p.2.2.2]) (c_kRd (by exact hu1 hr) (v_ixT (v_var 0 rfl) aH c_int rfl) (.inr ⟨od, eH⟩) k2 k3H (c_var 2 rfl (.str _)) hlk) c_int rfl) cs_nil)))) fun v H2 s2 hv2 => (v_var 1 rfl).run fun H3 s3 => CD.run (N := All_) (d := .str p.1) (c_var 2 rfl (.str _)) fun y H4 s4 hy => ?_))
    have s24 := (s2.trans s3).trans s4
    refine ⟨p.1, p.2, ⟨rfl, hy.is_str⟩, ka.keep s24, ⟨fun hm => ?_, by rw [List.length_take]; omega⟩, hv2.keep (s3.trans s4), fun H5 b5 _ ka5 => ⟨_, rfl, (b'.trans (But.of s24)).trans b5, ?_⟩⟩
    · have n := nodup_next (k := []) (m := Y.kinds.map Prod.fst) (i := i) (x := p.1) ok.kd (by rw [List.getElem?_map, hip]; rfl)
      rw [List.nil_append, ← List.map_take] at n
      exact n hm
    · rw [take_succ_get hip]
      exact ka5
  rintro σ' H2 ⟨o2, rfl, b', ka⟩
  rw [List.take_length] at ka
  have eH : H2 ki = some (.frz od (.dK kvs)) := b' ki _ (fun z => kdki z.symm) eL
  refine ⟨eH, ?_⟩
  -- what stood at the start stands again
  have sH : Same H (upd H2 ki (.dK kvs)) := fun b x hb => by
    by_cases z : b = ki
    · rw [z, upd_same]
      rw [z] at hb
      have := s1 _ _ hb
      rw [k1] at this
      exact this
    · rw [upd_ne z]
      refine b' b x (fun z2 => by rw [z2, hkd] at hb; cases hb) ?_
      rw [← hL, upd_ne z]
      exact s1 _ _ hb
  have ka2 : KA All_ (upd H2 ki (.dK kvs)) kd Y.kinds := by
    obtain ⟨kv, q1, q2, q3⟩ := ka.ex
    exact ⟨kv, by rw [upd_ne kdki]; exact q1, q2, q3.by_ eH trivial But.upd⟩
  generalize upd H2 ki (.dK kvs) = H3 at sH ka2
  have ha3 := sH _ _ ha
  refine b_one (s_ret ((pe_make Mi Gi (hr.mono (by decide)) (by rfl) T.yC bi .nil pass0 (aw _ _) (by decide) (by rfl) (by rfl)).w (CAs.go (as_v (v_ixT (v_var 0 rfl) ha3 c_int rfl) (as_v (v_ixT (v_var 0 rfl) ha3 c_int rfl) (as_d (c_listL (N := All_) T.b_list (c_val (v_ixT (v_var 0 rfl) ha3 c_int rfl) (dh.keep sH)) (fun _ _ => trivial)) (as_v (v_var 1 rfl) (as_d (c_tup (N := All_) (ds := [dCells Y.g0, dCells Y.g1]) (cs_cons (c_listL T.b_list (c_ixT (ds := [dCells Y.g0, dCells Y.g1]) (c_val (v_ixT (v_var 0 rfl) ha3 c_int rfl) (dg.keep sH)) c_int rfl) (fun _ _ => trivial)) (cs_cons (c_listL T.b_list (c_ixT (ds := [dCells Y.g0, dCells Y.g1]) (c_val (v_ixT (v_var 0 rfl) ha3 c_int rfl) (dg.keep sH)) c_int rfl) (fun _ _ => trivial)) cs_nil))) (as_v (v_ixT (v_var 0 rfl) ha3 c_int rfl) as_nil)))))) fun vs H4 s4 hvs => ?_)))
  obtain ⟨_, rfl, hvs, _⟩ := hvs.consV
  obtain ⟨_, rfl, hvs, _⟩ := hvs.consV
  obtain ⟨vho, _, rfl, dho, hvs⟩ := hvs.consD
  obtain ⟨_, rfl, hvs, _⟩ := hvs.consV
  obtain ⟨vgo, _, rfl, dgo, hvs⟩ := hvs.consD
  obtain ⟨_, rfl, hvs, _⟩ := hvs.consV
  cases hvs.nilD
  intro x dx hx hdx ne
  have sd : Same H4 (upd (upd H4 dx (.own x)) x (.ins C dx [])) := (same_new hdx).trans (same_new (by rw [upd_ne (fun z => ne z.symm)]; exact hx))
  refine ⟨x, dx, vho, kd, vgo, Y, rfl, upd_same, ok, ⟨dho.keep sd, (ka2.keep s4).keep sd, dgo.keep sd⟩, fun H5 Y' b5 yd lk => ⟨rfl, q x Y' H5 ?_ yd lk⟩⟩
  exact But.same b5 ((sH.trans s4).trans sd) ((sH.trans s4).free hx)
end
end PY
set_option Elab.async false
set_option autoImplicit false
set_option linter.all false
set_option maxRecDepth 100000
set_option maxHeartbeats 16000000
/-! _law_position. -/
namespace PY
open PySem L2 PySem.W
/-! ### the free cells, row by row -/
def leftOf (Y : Yr) (w i : Nat) : List Cell := (List.range i).flatMap fun r : Nat => (rowC (r : Int) w).filter fun c => !decide (c ∈ Y.holes)
theorem leftOf_succ (Y : Yr) (w i : Nat) : leftOf Y w (i + 1) = leftOf Y w i ++ (rowC (i : Int) w).filter fun c => !decide (c ∈ Y.holes) := by
  unfold leftOf
  rw [List.range_succ, List.flatMap_append]
  simp
theorem leftOf_mem {Y : Yr} {w i : Nat} {c : Cell} (h : c ∈ leftOf Y w i) : ((0 ≤ c.1 ∧ c.1 < i) ∧ (0 ≤ c.2 ∧ c.2 < w)) ∧ c ∉ Y.holes := by
  obtain ⟨r, hr, h⟩ := List.mem_flatMap.mp h
  obtain ⟨h1, h2⟩ := List.mem_filter.mp h
  have := rowC_mem h1
  rw [List.mem_range] at hr
  rw [Bool.not_eq_true', decide_eq_false_iff_not] at h2
  exact ⟨by omega, h2⟩
theorem leftOf_up (Y : Yr) (w : Nat) : ∀ i, (leftOf Y w i).Pairwise cellLt
  | 0 => .nil
  | i + 1 => by
    rw [leftOf_succ]
    refine List.pairwise_append.mpr ⟨leftOf_up Y w i, (rowC_up _ w).filter _, fun a ha b hb => ?_⟩
    have h1 := leftOf_mem ha
    have h2 := rowC_mem (List.mem_filter.mp hb).1
    unfold cellLt
    omega
theorem leftOf_len (Y : Yr) (w : Nat) : ∀ i, (leftOf Y w i).length ≤ i * w
  | 0 => by simp [leftOf]
  | i + 1 => by
    rw [leftOf_succ, List.length_append, Nat.succ_mul]
    have h1 := leftOf_len Y w i
    have h2 := List.length_filter_le (fun c => !decide (c ∈ Y.holes)) (rowC (i : Int) w)
    rw [rowC_len] at h2
    omega
def allOf (w i : Nat) : List Cell := (List.range i).flatMap fun r : Nat => rowC (r : Int) w
theorem allOf_len (w : Nat) : ∀ i, (allOf w i).length = i * w
  | 0 => by simp [allOf]
  | i + 1 => by
    have ih := allOf_len w i
    unfold allOf at ih ⊢
    rw [List.range_succ, List.flatMap_append, List.length_append, ih, Nat.succ_mul]
    simp [rowC_len]
theorem allOf_up (w : Nat) : ∀ i, (allOf w i).Pairwise cellLt
  | 0 => .nil
  | i + 1 => by
    have ih := allOf_up w i
    unfold allOf at ih ⊢
    rw [List.range_succ, List.flatMap_append]
    refine List.pairwise_append.mpr ⟨ih, by simpa using rowC_up (i : Int) w, fun a ha b hb => ?_⟩
    obtain ⟨r, hr, h⟩ := List.mem_flatMap.mp ha
    have h1 := rowC_mem h
    have h2 : b ∈ rowC (i : Int) w := by simpa using hb
    have h3 := rowC_mem h2
    rw [List.mem_range] at hr
    unfold cellLt
    omega
theorem leftOf_some {Y : Yr} {h w : Nat} (hb : 4 ≤ h * w) (few : Y.holes.length ≤ 2) : 1 ≤ (leftOf Y w h).length := by
  cases e : leftOf Y w h with
  | cons c r => simp
  | nil =>
    exfalso
    have sub : ∀ c ∈ allOf w h, c ∈ Y.holes := fun c hc => by
      obtain ⟨r, hr, h2⟩ := List.mem_flatMap.mp hc
      cases z : decide (c ∈ Y.holes) with
      | true => exact of_decide_eq_true z
      | false =>
        have : c ∈ leftOf Y w h := List.mem_flatMap.mpr ⟨r, hr, List.mem_filter.mpr ⟨h2, by rw [z]; rfl⟩⟩
        rw [e] at this
        cases this
    have := nodup_len _ _ (rising_nodup cellLt_irrefl (allOf_up w h)) sub
    rw [allOf_len] at this
    omega
theorem erase_perm {α : Type} {x : α} : ∀ {l : List α} {i : Nat}, l[i]? = some x → (x :: l.eraseIdx i).Perm l
  | [], _, h => by simp at h
  | a :: l, 0, h => by
    simp at h
    rw [h]
    exact .refl _
  | a :: l, i + 1, h => (List.Perm.swap _ _ _).trans ((erase_perm (l := l) (i := i) (by simpa using h)).cons a)
theorem erase_map {α β : Type} {f : α → β} : ∀ (l : List α) (i : Nat), (l.map f).eraseIdx i = (l.eraseIdx i).map f
  | [], _ => rfl
  | _ :: _, 0 => rfl
  | a :: l, i + 1 => by
    show f a :: (l.map f).eraseIdx i = _
    rw [erase_map l i]
    rfl
/-! ### rules -/
section
variable {X : Cx} {a b e o : Expr} {σ : L2.St} {H : Hp} {pos : Pos} {Q : VK}
theorem e_min2 {p : Pos} (hc : X.calm = true) (hm : X.mg "min" = none) (h : wE X a σ H fun x H1 => wE X b σ H1 fun y H2 => ∃ i j : Int, (x = .int i ∧ y = .int j) ∧ Q (.int (if j < i then j else i)) H2) (hg : Gl X "min" := by rfl) (h1 : starEach [a, b] X.env = (false, eval a X.env) :: starEach [b] X.env := by rfl) (h2 : starEach [b] X.env = (false, eval b X.env) :: starEach [] X.env := by rfl) (hpl : (backTo pos (starEach [b] X.env)).any (·.1) = false := by rfl) :
    wE X (.Call (.Name "min" p) [a, b] [] pos) σ H Q :=
  (pe_callB (call_min2 hc) hg hm (by decide +kernel) (pa_cons (ew X a) (pa_cons (ew X b) pa_nil h2) h1) (by decide) (by decide) h1 hpl).w (wE_mono h fun x H1 h => wE_mono h fun y H2 ⟨i, j, ⟨e1, e2⟩, q⟩ => ⟨i, j, by rw [e1, e2], q⟩)
/-- xs.pop(i), i as it runs -/
theorem e_pop {apos : Pos} {l : Addr} {xs : List V} (ha : CV X o σ H (.ref l)) (hl : H l = some (.lst xs)) (he : ∀ H1, Same H H1 → wE X e σ H1 fun v H2 => ∃ (i : Int) (ys : List V) (y : V), v = .int i ∧ H2 l = some (.lst ys) ∧ (0 ≤ i ∧ i < ys.length ∧ ys.length ≤ 1000) ∧ ys[i.toNat]? = some y ∧ Q y (upd H2 l (.lst (ys.eraseIdx i.toNat))))
    (h1 : PE X (.Call (.Attribute o "pop" apos) [e] [] pos) (tBM X.K "list" rPopAt (wE X o) (tCons (wE X e) tNil)) := by exact pe_bm PySem.F.plainAttrs_list PySem.F.slot_list_pop PySem.F.type_list_pop mt_popAt (ew _ _) (pa_cons (ew _ _) pa_nil)) : wE X (.Call (.Attribute o "pop" apos) [e] [] pos) σ H Q :=
  h1.w (ha.run fun H1 s1 => ⟨.inl ⟨rfl, xs, SqL.of (s1 _ _ hl)⟩, wE_mono (he H1 s1) fun v H2 ⟨i, ys, y, ev, g1, ⟨i0, i1, i2⟩, g2, q⟩ => ⟨l, ys, i, i.toNat, y, rfl, by rw [ev], g1, by omega, by omega, seqIndex_of i0 i1, g2, q⟩⟩)
/-- a or b, as tests that run -/
theorem e_or2 {k1 : Bool} {Qt : Bool → Hp → Prop} (ha : CT X a σ H k1) (hb : k1 = false → ∀ H1, Same H H1 → wT X b σ H1 Qt) (hn : k1 = true → ∀ H1, Same H H1 → Qt true H1) : wT X (.BoolOp .Or [a, b] pos) σ H Qt :=
  (PW.pt (pw_or (tw X a) (pw_or1 (tw X b)))).w (ha.run fun H1 s1 => by
    cases k1 with
    | true => exact hn rfl H1 s1
    | false => exact hb rfl H1 s1)
/-- sorted(kinds)[i], i as it runs -/
theorem e_sortK {p pos1 : Pos} {i : Expr} {ki : Addr} {ks : List (Str × Kind)} (hc : X.calm = true) (hm : X.mg "sorted" = none) (ho : CV X o σ H (.ref ki)) (hk : KA All_ H ki ks) (hz : ks.length < 64) (h : ∀ (ys : List Str) p H1, ys.Perm (ks.map Prod.fst) → Same H H1 → H p = none → H1 p = some (.lst (ys.map V.str)) → wE X i σ H1 fun y H2 => ∃ (j : Int), y = .int j ∧ H2 p = some (.lst (ys.map V.str)) ∧ (0 ≤ j ∧ j < ys.length) ∧ ∀ l, ys[j.toNat]? = some l → Q (.str l) H2)
    (hg : Gl X "sorted" := by rfl) (he : starEach [o] X.env = [(false, eval o X.env)] := by rfl) (hs : PlainIx i := by intros; exact fun _ _ => rfl) : wE X (.Subscript (.Call (.Name "sorted" p) [o] [] pos1) i pos) σ H Q :=
  (pe_ix ix_list (pe_callB (call_sortedD hc) hg hm (by decide +kernel) (pa_cons (ew X o) pa_nil (by rw [he]; rfl)) (by decide) (by decide) (by rw [he]; rfl) rfl) (ew X i) hs).w (ho.run fun H1 s1 => by
    obtain ⟨kvs, k1, k2, _⟩ := (hk.keep s1).ex
    refine ⟨ki, kvs, ks.map Prod.fst, rfl, .inl k1, by rw [k2, List.map_map]; rfl, by rw [List.length_map]; exact hz, fun ys p pm _ hp => ?_⟩
    refine wE_mono (h ys p _ pm (s1.trans (same_new hp)) (s1.free hp) upd_same) fun y H2 ⟨j, ey, e2, ⟨j0, j1⟩, q⟩ => ?_
    obtain ⟨l', hl⟩ : ∃ l', ys[j.toNat]? = some l' := ⟨ys[j.toNat], List.getElem?_eq_getElem (by omega)⟩
    exact ⟨p, _, j, .str l', rfl, ey, SqL.of e2, atI_i j.toNat (by omega) (at_map hl), q l' hl⟩)
end
/-- what is left, what is found -/
structure PosI (H : Hp) (st l fo : Addr) (Y : Yr) (L i : Nat) (H' : Hp) : Prop where
  x : PX H st H'
  ex : ∃ (cs : List Cell) (ps : List Pc), ((ps.map Prod.fst ++ cs).Nodup ∧ (∀ c ∈ cs, isFree Y c = true) ∧ cs.length + i = L ∧ ps.length = i) ∧ ((∀ p ∈ ps, OkP Y p) ∧ (1 ≤ i → ∃ p ∈ ps, p.2.2 = ("k" : Str))) ∧ (∃ xs, H' l = some (.lst xs) ∧ Da Never H' xs (cs.map dCell)) ∧ ∃ ys, H' fo = some (.lst ys) ∧ Da Never H' ys (ps.map dPiece)
section
variable {H H' H'' : Hp} {st l fo : Addr} {Y : Yr} {L i : Nat}
theorem PosI.keep (h : PosI H st l fo Y L i H') (s : Same H' H'') : PosI H st l fo Y L i H'' := by
  obtain ⟨cs, ps, a, b, ⟨xs, x1, x2⟩, ys, y1, y2⟩ := h.ex
  exact ⟨h.x.keep s, cs, ps, a, b, ⟨xs, s _ _ x1, x2.keep s⟩, ys, s _ _ y1, y2.keep s⟩
theorem PosI.take (h : PosI H st l fo Y L i H') (n : H st = none) (nl : l ≠ st) (nf : fo ≠ st) (b : But st H' H'') (t : St3 H'' st) : PosI H st l fo Y L i H'' := by
  obtain ⟨cs, ps, a, b', ⟨xs, x1, x2⟩, ys, y1, y2⟩ := h.ex
  obtain ⟨zs, ez⟩ := h.x.t.lst
  exact ⟨h.x.take n b t, cs, ps, a, b', ⟨xs, b l _ nl x1, x2.but b ez fun z => z⟩, ys, b fo _ nf y1, y2.but b ez fun z => z⟩
end
theorem ok_start {Y : Yr} {ps : List Pc} {r : Int} (hr : 0 ≤ r ∧ r < 2) (fit : Fit Y) (nd : (ps.map Prod.fst).Nodup) (ok : ∀ p ∈ ps, OkP Y p) (k : ∃ p ∈ ps, p.2.2 = ("k" : Str)) (few : ps.length ≤ 4) : OkPos Y (r, psort ps) := by
  have pm := psort_perm ps
  obtain ⟨p, hp, ek⟩ := k
  obtain ⟨kx, hk, hc⟩ := fit.k
  refine ⟨by dsimp only; omega, fun q hq => ok q (pm.mem_iff.mp hq), psort_up ps nd, fun z => ?_, by dsimp only; rw [pm.length_eq]; exact few, ?_⟩
  · have := pm.mem_iff.mpr hp
    have z : psort ps = [] := z
    rw [z] at this
    cases this
  · have crown : ∀ s, p.2.1 = s → crowns Y (psort ps) s ≠ [] := fun s e z => by
      have : p.1 ∈ crowns Y (psort ps) s := mem_crowns.mpr ⟨p, pm.mem_iff.mpr hp, rfl, e, by rw [ek, kindAt_of hk]; exact hc⟩
      rw [z] at this
      cases this
    rcases (ok p hp).side with e | e
    · exact .inl (crown 0 e)
    · exact .inr (crown 1 e)
section
variable {P : Program} {w : World} {K : PySem.W.Frag} {mg : Str → Option Value} {base : Heap} {C : Addr}
abbrev N_law_position : List Str := ["script", "k", "parts", "most", "state", "left", "r", "c", "found", "number", "kind", "side"]
theorem sc_law_position : FnScope N_law_position ["script", "k", "parts", "most"] (defScope s_law_position) := ⟨rfl, rfl, rfl, by decide +kernel, rfl, by decide +kernel, by decide +kernel⟩
def spPos (K : PySem.W.Frag) : Sp := fun vs H Q _ => ∃ (a : Addr) (ns : List Int) (pv : V) (Y : Yr), vs = [.ref a, .int 1, pv, .int 4] ∧ SqL K H a (ns.map V.int) ∧ PartsAt All_ H pv Y ∧ Fit Y ∧ ∀ v p H', Same H H' → Dv (Free H) H' v (dPos p) → OkPos Y p → Q v H'
/-- the body of its second loop -/
abbrev posBody : List Stmt := match (defBody s_law_position).drop 4 with
  | .For _ _ b _ _ :: _ => b
  | _ => []
theorem kf_law_position (T : Txt K mg C) : Kf P w K mg base 3 "_law_position" ["script", "k", "parts", "most"] (spPos K) := by
  obtain ⟨f, fd, F, hm⟩ := T.f_law_position
  have G1 : Kf P w K mg base 1 "_law_take" ["state", "many"] spTake := kf_law_take T
  have G2 : Kf P w K mg base 2 "_law_begin" ["script", "k"] (spBegin K) := kf_law_begin T
  refine kf_mk F hm (fn_body (k := 2) F sc_law_position (fun vs H Q E ⟨_, _, _, _, e, _⟩ => by rw [e]; rfl) fun cdv A outer s H vs Q E hr hsp => ?_) (fun _ _ _ _ _ _ us hl => match us, hl with | [_, _, _, _], _ => rfl)
  obtain ⟨a, ns, pv, Y, rfl, hs, hpt, fit, q⟩ := hsp
  obtain ⟨ap, hv, ki, gv, rfl, hap, dh, dk, dg⟩ := hpt.ex
  have nd := sc_law_position.nd
  have ok := fit.ok
  refine b_cons (s_set 4 nd (e_call G2 hr ((as_v (v_var 0 rfl) (as_v (v_var 1 rfl) as_nil)) H (Same.refl _) _ fun vs H1 s1 hvs => ?_)))
  obtain ⟨_, rfl, hvs, _⟩ := hvs.consV
  obtain ⟨_, rfl, hvs, _⟩ := hvs.consV
  cases hvs.nilD
  refine ⟨a, ns, 1, rfl, sq_keep hs s1, by decide, fun st H2 s2 hst t2 => ?_⟩
  have nst : H st = none := s1.free hst
  have X2 : PX H st H2 := ⟨s1.trans s2, t2⟩
  show wB _ _ _ _ _
  -- the board's numbers
  obtain ⟨hh, ehh⟩ : ∃ n : Nat, Y.h = (n : Int) := ⟨Y.h.toNat, by have := ok.h; omega⟩
  obtain ⟨ww, eww⟩ : ∃ n : Nat, Y.w = (n : Int) := ⟨Y.w.toNat, by have := ok.w; omega⟩
  have hb1 := ok.h
  have hb2 := ok.w
  have room : 4 ≤ hh * ww := by
    have h1 := fit.room
    rw [ehh, eww, ← Int.natCast_mul] at h1
    omega
  have area : hh * ww ≤ 12 := by
    have h1 := ok.area
    rw [ehh, eww, ← Int.natCast_mul] at h1
    omega
  have pIx : ∀ {σ : L2.St} {H' : Hp}, Same H H' → σ[2]? = some (some (.ref ap)) → True := fun _ _ => trivial
  refine b_cons (s_set 5 nd (CD.run (N := Off H st) (c_cl (cs := []) cc_nil (by decide) fun p hp => X2.off hp) fun lv H3 s3 hlv => ?_))
  have X3 := X2.keep s3
  refine b_cons (s_forR rfl T.b_range (g_name 6 nd) ((v_ixT (v_var 2 rfl) (X3.s _ _ hap) c_int rfl).run fun H4 s4 => ⟨hh, fun i σ' H' => ∃ lv o6, σ' = [some (.ref a), some (.int 1), some (.ref ap), some (.int 4), some (.ref st), some lv, o6, none, none, none, none, none] ∧ PX H st H' ∧ Dv (Off H st) H' lv (dCells (leftOf Y ww i)), by rw [ehh], by omega, ⟨lv, none, rfl, X3.keep s4, hlv.keep s4⟩, ?_, ?_⟩))
  · rintro i σ' H' hi ⟨lv, o6, rfl, x, dl⟩
    show wB _ _ _ _ _
    have ll := leftOf_len Y ww i
    have ap' := x.s _ _ hap
    have i12 : i * ww ≤ 12 := Nat.le_trans (Nat.mul_le_mul_right ww (Nat.le_of_lt hi)) area
    refine b_one (s_set 5 nd (CD.run (N := Off H st) (d := dCells (leftOf Y ww (i + 1))) (CD.is (c_catC (cs := leftOf Y ww i) (cs' := (rowC (i : Int) ww).filter fun c => !decide (c ∈ Y.holes)) (c_var 5 rfl dl) (CD.is (c_lc1 (N := Off H st) (bs := List.range ww) (enc := eUp 0) (own := [("c", 7)]) (g := gName 7) (N0 := Off H st) (fun j => !decide (((i : Int), 0 + (j : Int)) ∈ Y.holes)) (fun j => dCell ((i : Int), 0 + (j : Int))) rfl nd (pi_range1 (by rfl) T.b_range (pa_cons (ew _ _) pa_nil)) (ci_range1 (c_val (v_ixT (v_var 2 rfl) ap' c_int rfl) (by rw [eww]; exact .int _)) (by omega)) (blkOk_by (N := N_law_position) (sc := defScope s_law_position) (by decide +kernel)) (fun _ _ _ _ _ => g_name 7 nd) (by rw [List.length_range]; omega) (fun p hp => x.off hp) (fun _ h => h) ?_) ?_) (by
      have h2 := List.length_filter_le (fun c => !decide (c ∈ Y.holes)) (rowC (i : Int) ww)
      rw [rowC_len] at h2
      omega) (fun p hp => x.off hp)) (by rw [leftOf_succ])) fun v H5 s5 hv5 => ⟨v, _, rfl, x.keep s5, hv5⟩))
    · intro N' j x' H6 hj s6 hx hfr R k
      exact k _ rfl (fun s Hb Cc cl fp => t_cmp ((notin_d (by exact hu65 hr) (sh_cell ((i : Int), 0 + (j : Int))) (sh_cells Y.holes)).is (by rw [any_cell])) (c_ce (c_var 6 rfl (.int _)) (c_var 7 rfl (d := .int (0 + (j : Int))) hx.any)) (c_val (v_ixT (v_var 2 rfl) (s6 _ _ ap') c_int rfl) (dh.keep (x.s.trans s6)))) fun _ s Hb Cc cl fp => c_ce (c_var 6 rfl (.int _)) (c_var 7 rfl (d := .int (0 + (j : Int))) hx)
    · rw [dCells, rowC, List.filter_map, List.map_map]
      rfl
  rintro σ' H4 ⟨lv, o6, rfl, X4, dl⟩
  obtain ⟨l, xl, rfl, hl, nl, dxl⟩ := dl.is_lst
  have L1 := leftOf_some room fit.few
  have L2' := leftOf_len Y ww hh
  refine b_cons (s_set 8 nd (CD.run (N := Off H4 st) (c_cl (cs := []) cc_nil (by decide) fun p hp => ⟨hp, fun z => by rw [z] at hp; exact X4.t.some_ hp⟩) fun fv H5 s5 hfv => ?_))
  obtain ⟨fo, xf, rfl, hf, nf, dxf⟩ := hfv.is_lst
  cases dxf
  have X5 := X4.keep s5
  have nlf : l ≠ fo := fun z => by
    have := nf.1
    rw [← z, hl] at this
    cases this
  have nfo : H fo = none := X4.s.free nf.1
  have P0 : PosI H st l fo Y (leftOf Y ww hh).length 0 H5 := ⟨X5, leftOf Y ww hh, [], ⟨rising_nodup cellLt_irrefl (leftOf_up Y ww hh), fun c hc => by
    have := leftOf_mem hc
    unfold isFree onBoard
    simp only [Bool.and_eq_true, decide_eq_true_eq, Bool.not_eq_true', decide_eq_false_iff_not]
    rw [ehh, eww]
    exact ⟨⟨this.1.1, this.1.2⟩, this.2⟩, rfl, rfl⟩, ⟨nofun, by omega⟩, ⟨xl, s5 _ _ hl, (Da.noL _ _ (fun d hd => by obtain ⟨c, _, rfl⟩ := List.mem_map.mp hd; exact noL_cell c) dxl).keep s5⟩, [], hf, .nil⟩
  have hL12 : (leftOf Y ww hh).length ≤ 12 := Nat.le_trans L2' area
  generalize hLL : (leftOf Y ww hh).length = L at P0 L1 hL12
  have dvl : ∀ {H' : Hp} {i : Nat}, PosI H st l fo Y L i H' → ∃ cs : List Cell, cs.length + i = L ∧ Dv All_ H' (.ref l) (dCells cs) := fun p => by
    obtain ⟨cs, ps, ⟨_, _, e, _⟩, _, ⟨xs, x1, x2⟩, _⟩ := p.ex
    exact ⟨cs, e, .lst x1 trivial (x2.mono (Same.refl _) fun _ z => z.elim)⟩
  obtain ⟨cs0, e0, d0⟩ := dvl P0
  have ki0 : KA All_ H ki Y.kinds := dk
  have nls : l ≠ st := nl.2
  have nfs : fo ≠ st := nf.2
  refine b_cons (s_forR rfl T.b_range (g_name 9 nd) (e_min2 rfl T.b_min (CD.run (N := All_) (c_lenL T.b_len (c_var 5 rfl d0)) fun x H6 s6 hx => e_addI (CD.run (N := All_) (d := .int 2) c_int fun y H7 s7 hy => e_take G1 hr (Nat.le_of_ble_eq_true rfl) (v_var 4 rfl) (i := 4 - 1) (c_sub (c_var 3 rfl (.int _)) c_int) (X5.keep (s6.trans s7)).t (by decide) fun r H8 b8 t8 r0 r3 => ⟨2, r, hy.is_int, rfl, _, 2 + r, ⟨hx.is_int, rfl⟩, ?_⟩))))
  have P8 := (P0.keep (s6.trans s7)).take nst nls nfs b8 t8
  obtain ⟨n, en, n1, nL, n4⟩ : ∃ n : Nat, (if 2 + r < (((cs0.map dCell).length : Nat) : Int) then 2 + r else (((cs0.map dCell).length : Nat) : Int)) = (n : Int) ∧ 1 ≤ n ∧ n ≤ L ∧ n ≤ 4 := by
    rw [List.length_map]
    split
    · exact ⟨(2 + r).toNat, by omega, by omega, by omega, by omega⟩
    · exact ⟨cs0.length, rfl, by omega, by omega, by omega⟩
  refine ⟨n, fun i σ' H' => ∃ o9 o10 o11, σ' = [some (.ref a), some (.int 1), some (.ref ap), some (.int 4), some (.ref st), some (.ref l), o6, none, some (.ref fo), o9, o10, o11] ∧ PosI H st l fo Y L i H', congrArg V.int en, by omega, ⟨none, none, none, rfl, P8⟩, ?_, ?_⟩
  · rintro i σ' H' hi ⟨o9, o10, o11, rfl, p⟩
    show wB _ _ _ _ _
    -- the piece is put in
    have app : ∀ (Dn : Ends) kd sd H', (∀ H', PosI H st l fo Y L (i + 1) H' → Dn.nx [some (.ref a), some (.int 1), some (.ref ap), some (.int 4), some (.ref st), some (.ref l), o6, none, some (.ref fo), some (.int (i : Int)), some (.str kd), some (.int sd)] H') → PosI H st l fo Y L i H' → (i ≤ 1 → kd = ("k" : Str)) → (∃ x, Y.kinds.lookup kd = some x) → (sd = 0 ∨ sd = 1) →
        wB (bX P w K mg base N_law_position "_law_position" s_law_position f cdv A outer s H E) (posBody.drop 4) Dn [some (.ref a), some (.int 1), some (.ref ap), some (.int 4), some (.ref st), some (.ref l), o6, none, some (.ref fo), some (.int (i : Int)), some (.str kd), some (.int sd)] H' := fun Dn kd sd H' hD p hk1 hkx hsd => by
      obtain ⟨cs, ps, ⟨pn, pf, pl, pln⟩, ⟨po, pk⟩, ⟨xs, x1, x2⟩, ys, y1, y2⟩ := p.ex
      refine b_one (s_expr (e_appW (v_var 8 rfl) y1 fun H6 s6 => e_tup3 (e_pop (v_var 5 rfl) (s6 _ _ x1) fun H7 s7 => e_take G1 hr (Nat.le_of_ble_eq_true rfl) (v_var 4 rfl) (i := ((cs.map dCell).length : Int)) (c_lenL T.b_len (c_var 5 rfl (.lst ((s6.trans s7) _ _ x1) trivial ((x2.keep (s6.trans s7)).mono (Same.refl _) fun _ z => z.elim)))) (p.keep (s6.trans s7)).x.t (by rw [List.length_map]; omega) fun r H8 b8 t8 r0 r1 => ?_)))
      have p8 := (p.keep (s6.trans s7)).take nst nls nfs b8 t8
      obtain ⟨zs, ez⟩ := (p.keep (s6.trans s7)).x.t.lst
      have x8 : H8 l = some (.lst xs) := b8 l _ nls ((s6.trans s7) _ _ x1)
      have dx8 : Da Never H8 xs (cs.map dCell) := (x2.keep (s6.trans s7)).but b8 ez fun z => z
      have y8 : H8 fo = some (.lst ys) := b8 fo _ nfs ((s6.trans s7) _ _ y1)
      have dy8 : Da Never H8 ys (ps.map dPiece) := (y2.keep (s6.trans s7)).but b8 ez fun z => z
      have lx := dx8.length
      rw [List.length_map] at lx r1
      obtain ⟨c, hc⟩ : ∃ c, cs[r.toNat]? = some c := ⟨cs[r.toNat], List.getElem?_eq_getElem (by omega)⟩
      obtain ⟨yv, hy, dy⟩ := dx8.at (at_map hc)
      refine ⟨r, xs, yv, rfl, x8, ⟨r0, by omega, by omega⟩, hy, ?_⟩
      have b9 : But l H8 (upd H8 l (.lst (xs.eraseIdx r.toNat))) := But.upd
      refine (v_var 11 rfl).run fun H10 s10 => (v_var 10 rfl).run fun H11 s11 p' hp' => ?_
      have sp := same_new (o := .tup [yv, .int sd, .str kd]) hp'
      have s912 := (s10.trans s11).trans sp
      have dy9 : Da Never (upd H8 l (.lst (xs.eraseIdx r.toNat))) ys (ps.map dPiece) := dy8.over x8 fun z => z
      have y9 := b9 fo _ (fun z => nlf z.symm) y8
      have c9 : Dv Never (upd H8 l (.lst (xs.eraseIdx r.toNat))) yv (dCell c) := dy.over x8 fun z => z
      have y12 := s912 _ _ y9
      have nlH : H l = none := nl.1
      refine ⟨ys, y12, ?_, ?_⟩
      · have := dy8.length
        rw [List.length_map] at this
        rw [this, sizeLine_eq]; omega
      refine hD _ ⟨⟨fun b x hb => ?_, ?_⟩, cs.eraseIdx r.toNat, ps ++ [(c, sd, kd)], ⟨?_, fun c' hc' => pf c' (List.mem_of_mem_eraseIdx hc'), ?_, ?_⟩, ⟨fun q' hq' => ?_, fun _ => ?_⟩, ⟨xs.eraseIdx r.toNat, ?_, ?_⟩, ys ++ [.ref p'], upd_same, ?_⟩
      · rw [upd_ne (fun z => by rw [z, nfo] at hb; cases hb)]
        exact s912 _ _ (b9 b x (fun z => by rw [z, nlH] at hb; cases hb) (p8.x.s _ _ hb))
      · obtain ⟨z1, z2, z3, ze⟩ := t8
        exact ⟨z1, z2, z3, by rw [upd_ne (fun z => nfs z.symm)]; exact s912 _ _ (b9 st _ (fun z => nls z.symm) ze)⟩
      · have pm : (c :: cs.eraseIdx r.toNat).Perm cs := erase_perm hc
        rw [List.map_append, List.append_assoc]
        exact ((pm.append_left (ps.map Prod.fst)).nodup_iff).mpr pn
      · rw [List.length_eraseIdx]
        split <;> omega
      · rw [List.length_append, pln]; rfl
      · rcases List.mem_append.mp hq' with z | z
        · exact po q' z
        · rw [List.mem_singleton.mp z]
          exact ⟨pf c (List.mem_of_getElem? hc), hsd, hkx⟩
      · rcases Nat.lt_or_ge i 1 with z | z
        · exact ⟨(c, sd, kd), List.mem_append_right _ (List.mem_singleton.mpr rfl), hk1 (by omega)⟩
        · obtain ⟨q', h1, h2⟩ := pk z
          exact ⟨q', List.mem_append_left _ h1, h2⟩
      · rw [upd_ne nlf]
        exact s912 _ _ upd_same
      · rw [← erase_map]
        exact ((((dx8.erase r.toNat).over x8 fun z => z).keep s912)).over y12 fun z => z
      · rw [List.map_append]
        refine Da.over ((dy9.keep s912).snoc ?_) y12 fun z => z
        exact .tup upd_same (.cons (c9.keep s912) (.cons (.int _) (.cons (.str _) .nil)))
    -- the side
    have sideP : ∀ (Dn : Ends) kd o11 H', (∀ sd H', PosI H st l fo Y L (i + 1) H' → Dn.nx [some (.ref a), some (.int 1), some (.ref ap), some (.int 4), some (.ref st), some (.ref l), o6, none, some (.ref fo), some (.int (i : Int)), some (.str kd), some (.int sd)] H') → PosI H st l fo Y L i H' → (i ≤ 1 → kd = ("k" : Str)) → (∃ x, Y.kinds.lookup kd = some x) →
        wB (bX P w K mg base N_law_position "_law_position" s_law_position f cdv A outer s H E) (posBody.drop 2) Dn [some (.ref a), some (.int 1), some (.ref ap), some (.int 4), some (.ref st), some (.ref l), o6, none, some (.ref fo), some (.int (i : Int)), some (.str kd), o11] H' := fun Dn kd o11 H' hD p hk1 hkx => by
      refine b_cons (s_set 11 nd (CD.run (N := All_) (d := .int ((i : Int) % 2)) (c_mod (c_var 9 rfl (.int _)) c_int (by decide)) fun v H6 s6 hv => ?_))
      obtain rfl := hv.is_int
      have p6 := p.keep s6
      have drawn : ∀ H', PosI H st l fo Y L i H' → wB (bX P w K mg base N_law_position "_law_position" s_law_position f cdv A outer s H E) (match posBody.drop 3 with | .If _ b _ _ :: _ => b | _ => []) { Dn with nx := wB (bX P w K mg base N_law_position "_law_position" s_law_position f cdv A outer s H E) (posBody.drop 4) Dn } [some (.ref a), some (.int 1), some (.ref ap), some (.int 4), some (.ref st), some (.ref l), o6, none, some (.ref fo), some (.int (i : Int)), some (.str kd), some (.int ((i : Int) % 2))] H' := fun H' p =>
        b_one (s_set 11 nd (e_take G1 hr (Nat.le_of_ble_eq_true rfl) (v_var 4 rfl) c_int p.x.t (by decide) fun r H7 b7 t7 r0 r2 => app Dn kd r H7 (hD r) (p.take nst nls nfs b7 t7) hk1 hkx (by omega)))
      refine b_cons (s_if (e_or2 (k1 := decide (1 < (i : Int))) (t_cmp gt_i (c_var 9 rfl (.int _)) c_int) (fun _ H7 s7 => e_eqI (e_take G1 hr (Nat.le_of_ble_eq_true rfl) (v_var 4 rfl) c_int (p6.keep s7).x.t (by decide) fun r H8 b8 t8 r0 r12 => ⟨r, 5, rfl, c_int, fun H9 s9 => ?_⟩)) fun _ H7 s7 => ?_))
      · have p9 := ((p6.keep s7).take nst nls nfs b8 t8).keep s9
        by_cases c : r = 5
        · exact Eq.mpr (if_pos (decide_eq_true c)) (drawn H9 p9)
        · exact Eq.mpr (if_neg (by rw [decide_eq_true_eq]; exact c)) (b_nil (app Dn kd _ H9 (hD _) p9 hk1 hkx (by omega)))
      · exact Eq.mpr (if_pos rfl) (drawn H7 (p6.keep s7))
    refine b_cons (s_set 10 nd (CD.run (N := All_) (d := .str "k") c_str fun v H6 s6 hv => ?_))
    obtain rfl := hv.is_str
    have p6 := p.keep s6
    have kk : ∃ x, Y.kinds.lookup ("k" : Str) = some x := by
      obtain ⟨kx, e, _⟩ := fit.k
      exact ⟨kx, e⟩
    refine b_cons (s_ifB (k := decide (1 < (i : Int))) (t_cmp gt_i (c_var 9 rfl (.int _)) c_int) (fun e H7 s7 => ?_) fun e H7 s7 => b_nil (sideP _ "k" o11 H7 (fun sd H8 p8 => ⟨_, _, _, rfl, p8⟩) (p6.keep s7) (fun _ => rfl) kk))
    have e := of_decide_eq_true e
    have p7 := p6.keep s7
    have kn := ok.kn
    refine b_one (s_set 10 nd (e_sortK (ks := Y.kinds) rfl T.b_sorted (v_ixT (v_var 2 rfl) (p7.x.s _ _ hap) c_int rfl) (dk.keep p7.x.s) (by omega) fun ys p' H8 pm s8 hp' e8 => e_take G1 hr (Nat.le_of_ble_eq_true rfl) (v_var 4 rfl) (c_lenK T.b_len (v_ixT (v_var 2 rfl) ((p7.keep s8).x.s _ _ hap) c_int rfl) (dk.keep (p7.keep s8).x.s)) (p7.keep s8).x.t (by omega) fun r H9 b9 t9 r0 r1 => ⟨r, rfl, ?_, ⟨r0, ?_⟩, fun kd hkd => ?_⟩))
    · refine b9 p' _ (fun z => ?_) e8
      rw [z] at hp'
      exact p7.x.t.some_ hp'
    · rw [pm.length_eq, List.length_map]
      exact r1
    · exact sideP _ kd o11 H9 (fun sd H8 p8 => ⟨_, _, _, rfl, p8⟩) ((p7.keep s8).take nst nls nfs b9 t9) (fun z => by omega) (mem_lookup (pm.mem_iff.mp (List.mem_of_getElem? hkd)))
  · rintro σ' H' ⟨o9, o10, o11, rfl, p⟩
    obtain ⟨cs, ps, ⟨pn, pf, pl, pln⟩, ⟨po, pk⟩, _, ys, y1, y2⟩ := p.ex
    refine b_one (s_ret (e_tup2 (e_take G1 hr (Nat.le_of_ble_eq_true rfl) (v_var 4 rfl) c_int p.x.t (by decide) fun r H9 b9 t9 r0 r2 => ?_)))
    have p9 := p.take nst nls nfs b9 t9
    obtain ⟨zs, ez⟩ := p.x.t.lst
    have y9 : Dv All_ H9 (.ref fo) (.list (ps.map dPiece)) := .lst (b9 fo _ nfs y1) trivial ((y2.but b9 ez fun z => z).mono (Same.refl _) fun _ z => z.elim)
    have nps : (ps.map Prod.fst).Nodup := (List.nodup_append.mp pn).1
    have hu : ∀ b ∈ ps, (bX P w K mg base N_law_position "_law_position" s_law_position f cdv A outer s H E).A.units + 2 + (dPiece b).depth < cLine := fun b _ => by
      rw [dd_piece]
      have := hu64 hr
      omega
    refine CD.run (N := All_) (d := dPieces (psort ps)) (CD.is (c_tupleL T.b_tuple (c_sorted (bs := ps) (enc := dPiece) T.b_sorted (c_var 8 rfl y9) (allAlike_of _ alike_piece) (Sortable.tuples fun b => ⟨_, _, rfl⟩) hu (by omega) (fun _ _ => trivial))) (by rw [sorted_pieces nps]; rfl)) fun v H10 s10 hv p' hp' => ?_
    have sp := same_new (o := .tup [.int r, v]) hp'
    exact q _ (r, psort ps) _ (((p9.x.keep s10).s).trans sp) (.tup upd_same (.cons (.int _) (.cons ((hv.keep sp).noL _ _ (noL_pieces _)) .nil))) (ok_start ⟨r0, r2⟩ fit nps po (pk (by omega)) (by omega))
end
end PY
set_option Elab.async false
set_option autoImplicit false
set_option linter.all false
set_option maxRecDepth 100000
set_option maxHeartbeats 16000000
/-! _law_race. -/
namespace PY
open PySem L2 PySem.W
/-- the cells that are left stand at l; what stood at H2 stands, but for the state -/
structure RI (H2 : Hp) (st l : Addr) (cs : List Cell) (H' : Hp) : Prop where
  b : But st H2 H'
  t : St3 H' st
  ex : ∃ xs, H' l = some (.lst xs) ∧ Da Never H' xs (cs.map dCell)
section
variable {H2 H' H'' : Hp} {st l : Addr} {cs : List Cell}
theorem RI.keep (r : RI H2 st l cs H') (s : Same H' H'') : RI H2 st l cs H'' := by
  obtain ⟨xs, e, d⟩ := r.ex
  exact ⟨r.b.trans (But.of s), r.t.keep s, xs, s _ _ e, d.keep s⟩
theorem RI.take (r : RI H2 st l cs H') (ne : l ≠ st) (b : But st H' H'') (t : St3 H'' st) : RI H2 st l cs H'' := by
  obtain ⟨xs, e, d⟩ := r.ex
  obtain ⟨zs, ez⟩ := r.t.lst
  exact ⟨r.b.trans b, t, xs, b l _ ne e, d.but b ez fun z => z⟩
theorem RI.dv (r : RI H2 st l cs H') (ne : l ≠ st) : Dv All_ H' (.ref l) (dCells cs) := by
  obtain ⟨xs, e, d⟩ := r.ex
  exact .lst e trivial (d.mono (Same.refl _) fun _ z => z.elim)
end
section
variable {X : Cx} {o m e : Expr} {σ : L2.St} {H : Hp} {pos : Pos} {Q : VK}
/-- left.pop(_law_take(state, len(left))) -/
theorem e_popC {apos p p1 pos1 pos2 : Pos} {ol ol2 om : Expr} {k : Nat} {H2 : Hp} {st l : Addr} {cs : List Cell} (G : Kf X.prog X.w X.K X.mg X.base 1 "_law_take" ["state", "many"] spTake) (hr : Room k X.A) (hk : 1 ≤ k) (hm : X.mg "len" = none) (ho : ∀ H', CV X ol σ H' (.ref l)) (ho2 : ∀ H', CV X ol2 σ H' (.ref l)) (hst : ∀ H', CV X om σ H' (.ref st)) (r : RI H2 st l cs H) (hl2 : H2 l = none) (ne : l ≠ st) (hc : 1 ≤ cs.length ∧ cs.length ≤ 100)
    (q : ∀ c cs' v H', (c :: cs').Perm cs → RI H2 st l cs' H' → Dv Never H' v (dCell c) → (∀ (N : Addr → Prop) u d, ¬ N st → ¬ N l → Dv N H u d → Dv N H' u d) → Q v H')
    (h1 : PE X (.Call (.Attribute ol "pop" apos) [.Call (.Name "_law_take" p) [om, .Call (.Name "len" p1) [ol2] [] pos1] [] pos2] [] pos) (tBM X.K "list" rPopAt (wE X ol) (tCons (wE X (.Call (.Name "_law_take" p) [om, .Call (.Name "len" p1) [ol2] [] pos1] [] pos2)) tNil)) := by exact pe_bm PySem.F.plainAttrs_list PySem.F.slot_list_pop PySem.F.type_list_pop mt_popAt (ew _ _) (pa_cons (ew _ _) pa_nil))
    (hg1 : Gl X "len" := by rfl) (he1 : starEach [ol2] X.env = [(false, eval ol2 X.env)] := by rfl) (hg : Gl X "_law_take" := by rfl) (he : starEach (om :: [.Call (.Name "len" p1) [ol2] [] pos1]) X.env = (false, eval om X.env) :: starEach [.Call (.Name "len" p1) [ol2] [] pos1] X.env := by rfl) (he2 : starEach (.Call (.Name "len" p1) [ol2] [] pos1 :: []) X.env = (false, eval (.Call (.Name "len" p1) [ol2] [] pos1) X.env) :: starEach [] X.env := by rfl) (hpl : (backTo pos2 (starEach [.Call (.Name "len" p1) [ol2] [] pos1] X.env)).any (·.1) = false := by rfl) :
    wE X (.Call (.Attribute ol "pop" apos) [.Call (.Name "_law_take" p) [om, .Call (.Name "len" p1) [ol2] [] pos1] [] pos2] [] pos) σ H Q := by
  obtain ⟨xs, e0, d0⟩ := r.ex
  refine e_pop (ho H) e0 (fun H3 s3 => e_take G hr hk (hst H3) (i := ((cs.map dCell).length : Int)) (c_lenL hm (c_val (ho2 H3) ((r.keep s3).dv ne)) hg1 he1) (r.keep s3).t (by rw [List.length_map]; omega) (fun i H4 b4 t4 r0 r1 => ?_) hg he he2 hpl) h1
  have r4 := (r.keep s3).take ne b4 t4
  obtain ⟨ys, e4, d4⟩ := r4.ex
  have ly := d4.length
  rw [List.length_map] at ly r1
  obtain ⟨c, hcc⟩ : ∃ c, cs[i.toNat]? = some c := ⟨cs[i.toNat], List.getElem?_eq_getElem (by omega)⟩
  obtain ⟨yv, hy, dy⟩ := d4.at (at_map hcc)
  refine ⟨i, ys, yv, rfl, e4, ⟨r0, by omega, by omega⟩, hy, q c (cs.eraseIdx i.toNat) yv _ (erase_perm hcc) ⟨fun b x n hb => ?_, ?_, ys.eraseIdx i.toNat, upd_same, ?_⟩ (dy.over e4 fun z => z) fun N u d ns nl hd => ?_⟩
  · rw [upd_ne (fun z => by rw [z, hl2] at hb; cases hb)]
    exact r4.b b x n hb
  · obtain ⟨z1, z2, z3, ze⟩ := t4
    exact ⟨z1, z2, z3, by rw [upd_ne (fun z => ne z.symm)]; exact ze⟩
  · rw [← erase_map]
    exact (d4.erase i.toNat).over e4 fun z => z
  · exact ((hd.keep s3).st b4 (r.keep s3).t ns).over e4 nl
/-- [e] as it runs -/
theorem e_lst1 (h : wE X e σ H fun v H1 => ∀ p, H1 p = none → Q (.ref p) (upd H1 p (.lst [v]))) (hs : starEach [e] X.env = (false, eval e X.env) :: starEach [] X.env := by rfl) : wE X (.List [e] pos) σ H Q :=
  (pe_lst (pa_cons (ew X e) pa_nil hs)).w (wE_mono h fun v H1 q => ⟨by rw [sizeLine_eq]; exact Nat.le_of_ble_eq_true rfl, q⟩)
end
def tRace : List Cell := [(3, 3), (2, 3), (3, 2), (2, 4)]
theorem race_ok : ∀ i : Nat, i < 4 → ∃ h w : Nat, tRace[i]? = some ((h : Int), (w : Int)) ∧ (1 ≤ h ∧ h ≤ 4) ∧ (1 ≤ w ∧ w ≤ 4) ∧ 4 ≤ h * w ∧ h * w ≤ 12
  | 0, _ => ⟨3, 3, rfl, by decide, by decide, by decide, by decide⟩
  | 1, _ => ⟨2, 3, rfl, by decide, by decide, by decide, by decide⟩
  | 2, _ => ⟨3, 2, rfl, by decide, by decide, by decide, by decide⟩
  | 3, _ => ⟨2, 4, rfl, by decide, by decide, by decide, by decide⟩
  | i + 4, h => by omega
theorem KA.apart {N : Addr → Prop} {H : Hp} {ki : Addr} {ks : List (Str × Kind)} (h : KA N H ki ks) : KA (fun a => N a ∧ H a ≠ none) H ki ks := by
  obtain ⟨kvs, h1, h2, h3⟩ := h.ex
  exact ⟨kvs, h1, h2, Da.apart _ _ h3⟩
section
variable {X : Cx} {a b : Expr} {σ : L2.St} {H : Hp} {pos : Pos} {D : Ends}
/-- x, y = a, b of plain names -/
theorem s_par {x y : Str} {px py pt : Pos} {kt k2 pt2} (i j : Nat) (hc : X.calm = true) (nd : X.N.Nodup) (h : wE X a σ H fun v H1 => wE X b σ H1 fun u H2 => D.nx ((σ.set i (some v)).set j (some u)) H2) (hi : X.N[i]? = some x := by rfl) (hj : X.N[j]? = some y := by rfl) (hij : i ≠ j := by decide)
    (hx : X.env.scope.names.lookup x = some .local := by rfl) (hy : X.env.scope.names.lookup y = some .local := by rfl) (hs1 : starEach [a, b] X.env = (false, eval a X.env) :: starEach [b] X.env := by rfl) (hs2 : starEach [b] X.env = (false, eval b X.env) :: starEach [] X.env := by rfl)
    (hw : swappedStores [.Tuple [.Name x px, .Name y py] kt pt] (.Tuple [a, b] k2 pt2) X.env = pure (some [x, y]) := by rfl) (hs : swapsWithSole [.Tuple [.Name x px, .Name y py] kt pt] (.Tuple [a, b] k2 pt2) pos.line X.env = pure false := by rfl) : wS X (.Assign [.Tuple [.Name x px, .Name y py] kt pt] (.Tuple [a, b] k2 pt2) pos) D σ H :=
  (ps_par hc nd hi hj hij hx hy (pa_cons (ew X a) (pa_cons (ew X b) pa_nil hs2) hs1) hw hs).w (wE_mono h fun v H1 h => wE_mono h fun u H2 q => ⟨v, u, rfl, q⟩)
end
section
variable {P : Program} {w : World} {K : PySem.W.Frag} {mg : Str → Option Value} {base : Heap} {C : Addr}
abbrev N_law_race : List Str := ["state", "height", "width", "kinds", "left", "r", "c", "goals", "first", "second", "position"]
theorem sc_law_race : FnScope N_law_race ["state"] (defScope s_law_race) := ⟨rfl, rfl, rfl, by decide +kernel, rfl, by decide +kernel, by decide +kernel⟩
def spRace : Sp := fun vs H Q _ => ∃ (st : Addr), vs = [.ref st] ∧ St3 H st ∧ ∀ q' pv posv Y p H', But st H H' → St3 H' st → H' q' = some (.tup [pv, posv]) → PartsAt (Free H) H' pv Y → Dv (Free H) H' posv (dPos p) → Fit Y → OkPos Y p → Q (.ref q') H'
theorem allOf_succ (w i : Nat) : allOf w (i + 1) = allOf w i ++ rowC (i : Int) w := by
  unfold allOf
  rw [List.range_succ, List.flatMap_append]
  simp
theorem allOf_mem {w i : Nat} {c : Cell} (h : c ∈ allOf w i) : (0 ≤ c.1 ∧ c.1 < i) ∧ (0 ≤ c.2 ∧ c.2 < w) := by
  obtain ⟨r, hr, h⟩ := List.mem_flatMap.mp h
  have := rowC_mem h
  rw [List.mem_range] at hr
  omega
theorem kf_law_race (T : Txt K mg C) : Kf P w K mg base 2 "_law_race" ["state"] spRace := by
  obtain ⟨f, fd, F, hm⟩ := T.f_law_race
  have G1 : Kf P w K mg base 1 "_law_take" ["state", "many"] spTake := kf_law_take T
  have G2 : Kf P w K mg base 1 "_law_steps" ["number"] spSteps := kf_law_steps T
  refine kf_mk F hm (fn_body (k := 1) F sc_law_race (fun vs H Q E ⟨_, e, _⟩ => by rw [e]; rfl) fun cdv A outer s H vs Q E hr hsp => ?_) (fun _ _ _ _ _ _ us hl => match us, hl with | [_], _ => rfl)
  obtain ⟨st, rfl, t0, q⟩ := hsp
  have nd := sc_law_race.nd
  have nst : ¬ Free H st := fun z => t0.some_ z
  -- the board
  refine b_cons (s_asg (pg_tup rfl (pgs_cons (g_name 1 nd) (pgs_cons (g_name 2 nd) pgs_nil))) (e_ixL (c_cl (N := Free H) (cs := tRace) (cc_cons (c_ce c_int c_int) (cc_cons (c_ce c_int c_int) (cc_cons (c_ce c_int c_int) (cc_cons (c_ce c_int c_int) cc_nil)))) (by decide) fun p hp => hp)
    fun v H1 s1 hv => e_take G1 hr (Nat.le_of_ble_eq_true rfl) (v_var 0 rfl) c_int (t0.keep s1) (by decide) fun r H2 b2 t2 r0 r4 => ?_))
  obtain ⟨hh, ww, eb, hb1, hb2, hb3, hb4⟩ := race_ok r.toNat (by omega)
  refine ⟨r, dCell ((hh : Int), (ww : Int)), rfl, hv.st b2 (t0.keep s1) nst, atI_i r.toNat (by omega) (at_map eb), fun wv hwv => un2 (d1 := .int (hh : Int)) (d2 := .int (ww : Int)) hwv fun u1 u2 g1 g2 => ?_⟩
  obtain rfl := g1.is_int
  obtain rfl := g2.is_int
  have B2 : But st H H2 := (But.of s1).trans b2
  show wB _ _ _ _ _
  -- the kinds
  refine b_cons (s_set 3 nd ((pe_disp (pps_cons (ew _ _) (ew _ _) (pps_cons (ew _ _) (ew _ _) pps_nil)) rfl rfl (by decide) (by decide)).w fun ki hki => ?_))
  have sk := same_new (o := .dK []) hki
  have nki : H ki = none := B2.free_ t2.some_ hki
  have kist : ki ≠ st := fun z => by rw [z] at nki; exact t0.some_ nki
  show wE _ _ _ _ _
  have Bk : But st H (upd H2 ki (.dK [])) := B2.trans (But.of sk)
  have tk := t2.keep sk
  refine CD.run (N := All_) (d := .str "k") c_str fun y1 H3 s3 hy1 => e_tup3 (e_call1 G2 hr (e_ixL (c_lst (N := Free H) (ds := [.int 1, .int 1, .int 2, .int 6]) (cs_cons c_int (cs_cons c_int (cs_cons c_int (cs_cons c_int cs_nil)))) fun p hp => (Bk.trans (But.of s3)).free_ (tk.keep s3).some_ hp) fun v4 H4 s4 hv4 => e_take G1 hr (Nat.le_of_ble_eq_true rfl) (v_var 0 rfl) c_int (tk.keep (s3.trans s4)) (by decide) fun r2 H5 b5 t5 r20 r24 => ?_))
  have B4 : But st H H4 := Bk.trans (But.of (s3.trans s4))
  have B5 : But st H H5 := B4.trans b5
  have e5 : H5 ki = some (.dK []) := b5 ki _ kist ((s3.trans s4) _ _ (show upd H2 ki (.dK []) ki = some (.dK []) from upd_same))
  have dat : ∃ d : Int, (0 ≤ d ∧ d < 8) ∧ atI [PyData.int 1, .int 1, .int 2, .int 6] r2 = some (.int d) := by
    rcases (by omega : r2 = 0 ∨ r2 = 1 ∨ r2 = 2 ∨ r2 = 3) with e | e | e | e
    · exact ⟨1, by decide, by rw [e]; rfl⟩
    · exact ⟨1, by decide, by rw [e]; rfl⟩
    · exact ⟨2, by decide, by rw [e]; rfl⟩
    · exact ⟨6, by decide, by rw [e]; rfl⟩
  obtain ⟨dd, hdd, edd⟩ := dat
  refine ⟨r2, .int dd, rfl, hv4.st b5 (tk.keep (s3.trans s4)) nst, edd, fun wv hwv => ⟨dd, by rw [hwv.is_int], hdd, fun vs5 cs H6 s6 hvs5 stp => ?_⟩⟩
  have B6 : But st H H6 := B5.trans (But.of s6)
  have t6 := t5.keep s6
  have d6 : Dv (Free H) H6 vs5 (dCells cs) := hvs5.mono (Same.refl _) fun p hp => B5.free_ t5.some_ hp
  refine CD.run (N := Free H) (d := dCells []) (c_cl (cs := []) cc_nil (by decide) fun p hp => B6.free_ t6.some_ hp) fun v7 H7 s7 hv7 => CD.run (N := Free H) (d := .int 1) c_int fun v8 H8 s8 hv8 p9 hp9 => ?_
  have s9 := (s7.trans s8).trans (same_new (o := .tup [vs5, v7, v8]) hp9)
  generalize hH9 : upd H8 p9 (.tup [vs5, v7, v8]) = H9 at s9
  have s99 : Same H8 H9 := by rw [← hH9]; exact same_new hp9
  have kv1 : Dv (Free H) H9 (.ref p9) (dKind (cs, [], 1)) := .tup (by rw [← hH9]; exact upd_same) (.cons (d6.keep s9) (.cons (hv7.keep (s8.trans s99)) (.cons (hv8.keep s99) .nil)))
  have t9 := t6.keep s9
  have B9 := B6.trans (But.of s9)
  refine CD.run (N := All_) (d := .str "a") c_str fun y10 H10 s10 hy10 => CD.run (N := Free H) (d := dKind ([], [], 0)) (c_tup (ds := [dCells [], dCells [], .int 0]) (cs_cons (c_cl (cs := []) cc_nil (by decide) fun p hp => (B9.trans (But.of s10)).free_ (t9.keep s10).some_ hp) (cs_cons (c_cl (cs := []) cc_nil (by decide) fun p hp => (B9.trans (But.of s10)).free_ (t9.keep s10).some_ hp) (cs_cons c_int cs_nil)))) fun kv2 H11 s11 hkv2 => ?_
  have sA := s10.trans s11
  have e11 : H11 ki = some (.dK []) := (s9.trans sA) _ _ (s6 _ _ e5)
  refine ⟨e11, [((Sum.inr ("k" : Str) : Key), V.ref p9), ((Sum.inr ("a" : Str) : Key), kv2)], by rw [hy1.is_str, hy10.is_str]; rfl, by simp, ?_⟩
  have B11 : But st H H11 := B9.trans (But.of sA)
  have t11 := t9.keep sA
  have ka : KA (Free H) (upd H11 ki (.dK (mergeK [] [((Sum.inr ("k" : Str) : Key), V.ref p9), ((Sum.inr ("a" : Str) : Key), kv2)]))) ki [("k", (cs, [], 1)), ("a", ([], [], 0))] := by
    refine ⟨[((Sum.inr ("k" : Str) : Key), V.ref p9), ((Sum.inr ("a" : Str) : Key), kv2)], ?_, rfl, .cons ((kv1.keep sA).by_ e11 trivial But.upd) (.cons (hkv2.by_ e11 trivial But.upd) .nil)⟩
    rw [upd_same]
    have : mergeK [] [((Sum.inr ("k" : Str) : Key), V.ref p9), ((Sum.inr ("a" : Str) : Key), kv2)] = [((Sum.inr ("k" : Str) : Key), V.ref p9), ((Sum.inr ("a" : Str) : Key), kv2)] := by
      unfold mergeK
      rw [List.foldl_cons, List.foldl_cons, List.foldl_nil, putK_new _ valV_nil, putK_new]
      · rfl
      · show valV [((Sum.inr ("k" : Str) : Key), V.ref p9)] (Sum.inr ("a" : Str)) = none
        rw [valV_neg (show ¬ (Sum.inr ("k" : Str) : Key) = Sum.inr ("a" : Str) by decide +kernel)]
        rfl
    rw [this]
  have bk12 : But ki H11 (upd H11 ki (.dK (mergeK [] [((Sum.inr ("k" : Str) : Key), V.ref p9), ((Sum.inr ("a" : Str) : Key), kv2)]))) := But.upd
  generalize upd H11 ki (.dK (mergeK [] [((Sum.inr ("k" : Str) : Key), V.ref p9), ((Sum.inr ("a" : Str) : Key), kv2)])) = H12 at ka bk12
  have t12 : St3 H12 st := by
    obtain ⟨z1, z2, z3, ze⟩ := t11
    exact ⟨z1, z2, z3, bk12 st _ (fun z => kist z.symm) ze⟩
  have B12 : But st H H12 := fun b x n hb => bk12 b x (fun z => by rw [z, nki] at hb; cases hb) (B11 b x n hb)
  have ka' := ka.apart
  have ko : KO ["k", "a"] [("k", (cs, [], 1)), ("a", ([], [], 0))] := by
    refine ⟨rfl, fun p hp => ?_, (cs, [], 1), [("a", ([], [], 0))], rfl, rfl⟩
    rcases List.mem_cons.mp hp with e | hp
    · rw [e]; exact ⟨stp.good, nofun, stp.len, (by show ([] : List Step).length ≤ 16; decide), stp.up, .nil, .inr rfl⟩
    · rw [List.mem_singleton.mp hp]; exact ⟨nofun, nofun, by decide, by decide, .nil, .nil, .inl rfl⟩
  show wB _ _ _ _ _
  -- all the cells
  refine b_cons (s_set 4 nd (CD.run (N := fun p => H12 p = none) (c_cl (cs := []) cc_nil (by decide) fun p hp => hp) fun lv H13 s13 hlv => ?_))
  refine b_cons (s_forR rfl T.b_range (g_name 5 nd) ((v_var 1 rfl).run fun H14 s14 => ⟨hh, fun i σ' H' => ∃ lv o5, σ' = [some (.ref st), some (.int (hh : Int)), some (.int (ww : Int)), some (.ref ki), some lv, o5, none, none, none, none, none] ∧ Same H12 H' ∧ Dv (fun p => H12 p = none) H' lv (dCells (allOf ww i)), rfl, by omega, ⟨lv, none, rfl, s13.trans s14, hlv.keep s14⟩, ?_, ?_⟩))
  · rintro i σ' H' hi ⟨lv, o5, rfl, x, dl⟩
    show wB _ _ _ _ _
    have ll := allOf_len ww i
    have i12 : i * ww ≤ 12 := Nat.le_trans (Nat.mul_le_mul_right ww (Nat.le_of_lt hi)) hb4
    refine b_one (s_set 4 nd (CD.run (N := fun p => H12 p = none) (d := dCells (allOf ww (i + 1))) (CD.is (c_catC (cs := allOf ww i) (cs' := rowC (i : Int) ww) (c_var 4 rfl dl) (CD.is (c_lc0 (N := fun p => H12 p = none) (bs := List.range ww) (enc := eUp 0) (own := [("c", 6)]) (g := gName 6) (N0 := fun p => H12 p = none) (fun j => dCell ((i : Int), 0 + (j : Int))) rfl nd (pi_range1 (by rfl) T.b_range (pa_cons (ew _ _) pa_nil)) (ci_range1 (c_var 2 rfl (.int _)) (by omega)) (blkOk_by (N := N_law_race) (sc := defScope s_law_race) (by decide +kernel)) (fun _ _ _ _ _ => g_name 6 nd) (by rw [List.length_range]; omega) (fun p hp => x.free hp) (fun _ h => h) ?_) ?_) (by rw [rowC_len]; omega) (fun p hp => x.free hp)) (by rw [allOf_succ])) fun v H5 s5 hv5 => ⟨v, _, rfl, x.trans s5, hv5⟩))
    · intro N' j x' H6 hj s6 hx hfr R k
      exact k _ rfl fun s Hb Cc cl fp => c_ce (c_var 5 rfl (.int _)) (c_var 6 rfl (d := .int (0 + (j : Int))) hx)
    · rw [dCells, rowC, List.map_map]
      rfl
  rintro σ' H14 ⟨lv, o5, rfl, s14, dl⟩
  obtain ⟨l, xl, rfl, hl, nl, dxl⟩ := dl.is_lst
  have nls : l ≠ st := fun z => by rw [z] at nl; exact t12.some_ nl
  have L := allOf_len ww hh
  have R14 : RI H12 st l (allOf ww hh) H14 := ⟨But.of s14, t12.keep s14, xl, hl, Da.noL _ _ (fun d hd => by obtain ⟨c, _, rfl⟩ := List.mem_map.mp hd; exact noL_cell c) dxl⟩
  have wb : allOf ww hh ≠ [] := fun z => by rw [z] at L; simp at L; omega
  have all_on : ∀ c ∈ allOf ww hh, ((0 ≤ c.1 ∧ c.1 < (hh : Int)) ∧ (0 ≤ c.2 ∧ c.2 < (ww : Int))) := fun c hc => allOf_mem hc
  have all_nd : (allOf ww hh).Nodup := rising_nodup cellLt_irrefl (allOf_up ww hh)
  generalize allOf ww hh = cs0 at R14 L all_on all_nd
  -- the goals
  refine b_cons (s_set 7 nd (e_tup2 (e_lst1 ?_)))
  refine (e_popC G1 hr (Nat.le_refl _) T.b_len (fun _ => v_var 4 rfl) (fun _ => v_var 4 rfl) (fun _ => v_var 0 rfl) R14 nl nls (by omega) fun c1 cs1 v15 H15 pm1 R15 d15 tr15 => ?_)
  intro pa hpa
  have ne1 : pa ≠ l := fun z => by
    obtain ⟨xs, e, _⟩ := R15.ex
    rw [z, e] at hpa
    cases hpa
  have sa := same_new (o := .lst [v15]) hpa
  have R16 := R15.keep sa
  have L1 := pm1.length_eq
  rw [List.length_cons] at L1
  have npa : ¬ Free H st := nst
  have paH : H12 pa = none := by
    cases e : H12 pa with
    | none => rfl
    | some o =>
      exfalso
      by_cases z : pa = st
      · rw [z] at hpa
        exact R15.t.some_ hpa
      · rw [R15.b pa o z e] at hpa
        cases hpa
  have past : pa ≠ st := fun z => by rw [z] at paH; exact t12.some_ paH
  have g16 : Dv (fun p => H12 p = none ∧ p ≠ l) (upd H15 pa (.lst [v15])) (.ref pa) (dCells [c1]) := .lst upd_same ⟨paH, ne1⟩ (.cons ((d15.keep sa).noL _ _ (noL_cell c1)) .nil)
  have N1st : ¬ (fun p => H12 p = none ∧ p ≠ l) st := fun z => t12.some_ z.1
  have N1l : ¬ (fun p => H12 p = none ∧ p ≠ l) l := fun z => z.2 rfl
  refine e_lst1 ?_
  refine (e_popC G1 hr (Nat.le_refl _) T.b_len (fun _ => v_var 4 rfl) (fun _ => v_var 4 rfl) (fun _ => v_var 0 rfl) R16 nl nls (by omega) fun c2 cs2 v17 H17 pm2 R17 d17 tr17 => ?_)
  intro pb hpb pt hpt
  have ne2 : pb ≠ l := fun z => by
    obtain ⟨xs, e, _⟩ := R17.ex
    rw [z, e] at hpb
    cases hpb
  have pbH : H12 pb = none := by
    cases e : H12 pb with
    | none => rfl
    | some o =>
      exfalso
      by_cases z : pb = st
      · rw [z] at hpb
        exact R17.t.some_ hpb
      · rw [R17.b pb o z e] at hpb
        cases hpb
  have sb := same_new (o := .lst [v17]) hpb
  have st_ := same_new (o := .tup [.ref pa, .ref pb]) hpt
  have sbt := sb.trans st_
  have dgo : Dv (fun p => H12 p = none ∧ p ≠ l) (upd (upd H17 pb (.lst [v17])) pt (.tup [.ref pa, .ref pb])) (.ref pt) (.tuple [dCells [c1], dCells [c2]]) :=
    .tup upd_same (.cons ((tr17 _ _ _ N1st N1l g16).keep sbt) (.cons (.lst (st_ _ _ upd_same) ⟨pbH, ne2⟩ (.cons ((d17.keep sbt).noL _ _ (noL_cell c2)) .nil)) .nil))
  have R18 := R17.keep sbt
  generalize upd (upd H17 pb (.lst [v17])) pt (.tup [.ref pa, .ref pb]) = H18 at dgo R18
  have L2 := pm2.length_eq
  rw [List.length_cons] at L2
  show wB _ _ _ _ _
  -- the two
  refine b_cons (s_par 8 9 rfl nd ?_)
  refine (e_popC G1 hr (Nat.le_refl _) T.b_len (fun _ => v_var 4 rfl) (fun _ => v_var 4 rfl) (fun _ => v_var 0 rfl) R18 nl nls (by omega) fun c3 cs3 v19 H19 pm3 R19 d19 tr19 => ?_)
  have L3 := pm3.length_eq
  rw [List.length_cons] at L3
  refine e_popC G1 hr (Nat.le_refl _) T.b_len (fun _ => v_var 4 rfl) (fun _ => v_var 4 rfl) (fun _ => v_var 0 rfl) R19 nl nls (by omega) fun c4 cs4 v20 H20 pm4 R20 d20 tr20 => ?_
  have dgo20 := tr20 _ _ _ N1st N1l (tr19 _ _ _ N1st N1l dgo)
  have d19' : Dv Never H20 v19 (dCell c3) := tr20 _ _ _ (fun z => z) (fun z => z) d19
  -- the cells are four
  have pmA : (c1 :: c2 :: c3 :: c4 :: cs4).Perm cs0 := ((((pm4.cons c3).trans pm3).cons c2).trans pm2 |>.cons c1).trans pm1
  have ndA := pmA.nodup_iff.mpr all_nd
  have on1 : ∀ c ∈ [c1, c2, c3, c4], ((0 ≤ c.1 ∧ c.1 < (hh : Int)) ∧ (0 ≤ c.2 ∧ c.2 < (ww : Int))) := fun c hc => all_on c (pmA.mem_iff.mp (by
    simp only [List.mem_cons, List.not_mem_nil, or_false] at hc ⊢
    rcases hc with h | h | h | h <;> simp [h]))
  have ne34 : c3 ≠ c4 := fun z => by
    simp only [List.nodup_cons, List.mem_cons, not_or] at ndA
    exact ndA.2.2.1.1 z
  show wB _ _ _ _ _
  -- the position
  refine b_cons (s_set 10 nd (e_tup2 (e_take G1 hr (Nat.le_refl _) (v_var 0 rfl) c_int R20.t (by decide) fun r3 H21 b21 t21 r30 r32 => ?_)))
  have R21 := R20.take nls b21 t21
  have dgo21 := dgo20.st b21 R20.t N1st
  have f21 : Dv Never H21 v19 (dCell c3) := d19'.st b21 R20.t fun z => z
  have g21 : Dv Never H21 v20 (dCell c4) := d20.st b21 R20.t fun z => z
  have nps : (([(c3, 0, ("k" : Str)), (c4, 1, ("k" : Str))] : List Pc).map Prod.fst).Nodup := by
    show ([c3, c4] : List Cell).Nodup
    simp [ne34]
  have hu : ∀ b ∈ ([(c3, 0, ("k" : Str)), (c4, 1, ("k" : Str))] : List Pc), (bX P w K mg base N_law_race "_law_race" s_law_race f cdv A outer s H E).A.units + 2 + (dPiece b).depth < cLine := fun b _ => by
    rw [dd_piece]
    have := hu64 hr
    omega
  refine CD.run (N := All_) (d := dPieces (psort [(c3, 0, ("k" : Str)), (c4, 1, ("k" : Str))])) (CD.is (c_tupleL T.b_tuple (c_sorted (bs := ([(c3, 0, ("k" : Str)), (c4, 1, ("k" : Str))] : List Pc)) (enc := dPiece) T.b_sorted (c_lst (ds := [dPiece (c3, 0, "k"), dPiece (c4, 1, "k")]) (cs_cons (c_tup (ds := [dCell c3, .int 0, .str "k"]) (cs_cons (c_var 8 rfl (f21.noL _ _ (noL_cell _))) (cs_cons c_int (cs_cons c_str cs_nil)))) (cs_cons (c_tup (ds := [dCell c4, .int 1, .str "k"]) (cs_cons (c_var 9 rfl (g21.noL _ _ (noL_cell _))) (cs_cons c_int (cs_cons c_str cs_nil)))) cs_nil)) fun _ _ => trivial) (allAlike_of _ alike_piece) (Sortable.tuples fun b => ⟨_, _, rfl⟩) hu (Nat.le_of_ble_eq_true rfl) (fun _ _ => trivial))) (by rw [sorted_pieces nps]; rfl)) fun v22 H22 s22 hv22 pq hpq => ?_
  have sp := same_new (o := .tup [.int r3, v22]) hpq
  have dpos : Dv (Free H) (upd H22 pq (.tup [.int r3, v22])) (.ref pq) (dPos (r3, psort [(c3, 0, ("k" : Str)), (c4, 1, ("k" : Str))])) := .tup upd_same (.cons (.int _) (.cons ((hv22.keep sp).noL _ _ (noL_pieces _)) .nil))
  have R23 := R21.keep (s22.trans sp)
  have dgo23 := dgo21.keep (s22.trans sp)
  generalize upd H22 pq (.tup [.int r3, v22]) = H23 at dpos R23 dgo23
  show wB _ _ _ _ _
  -- the end
  have B23 : But st H H23 := fun b x n hb => R23.b b x n (B12 b x n hb)
  refine b_one (s_ret (e_tup2 (e_tup6 ((v_var 1 rfl).run fun H24 s24 => (v_var 2 rfl).run fun H25 s25 => CD.run (N := Free H) (d := dCells []) (c_cl (cs := []) cc_nil (by decide) fun p hp => (B23.trans (But.of (s24.trans s25))).free_ (R23.keep (s24.trans s25)).t.some_ hp) fun vh H26 s26 hvh => (v_var 3 rfl).run fun H27 s27 => (v_var 7 rfl).run fun H28 s28 => ?_))))
  have s25' := s24.trans s25
  have s28' := ((s25'.trans s26).trans s27).trans s28
  have R28 := R23.keep s28'
  have B28 := B23.trans (But.of s28')
  refine e_ixL (c_lst (N := Free H) (ds := [.str "lost", .str "drawn"]) (cs_cons c_str (cs_cons c_str cs_nil)) fun p hp => B28.free_ R28.t.some_ hp) fun v H29 s29 hv29 => e_take G1 hr (Nat.le_refl _) (v_var 0 rfl) c_int (R28.keep s29).t (by decide) fun r4 H30 b30 t30 r40 r42 => ?_
  have R29 := R28.keep s29
  have R30 := R29.take nls b30 t30
  have B30 : But st H H30 := (B28.trans (But.of s29)).trans b30
  have hvh30 : Dv (Free H) H30 vh (dCells []) := (hvh.keep ((s27.trans s28).trans s29)).st b30 R29.t nst
  have dgo30 := (dgo23.keep (s28'.trans s29)).st b30 R29.t N1st
  have dpos30 := (dpos.keep (s28'.trans s29)).st b30 R29.t nst
  have ka30 : KA (fun a => Free H a ∧ H12 a ≠ none) H30 ki [("k", (cs, [], 1)), ("a", ([], [], 0))] := by
    obtain ⟨zs, ez⟩ := t12.lst
    exact ka'.but R30.b ez fun z => nst z.1
  have fit : ∀ lost : Bool, Fit ⟨hh, ww, [], [("k", (cs, [], 1)), ("a", ([], [], 0))], [c1], [c2], lost⟩ := fun lost => fit_of ⟨hb1, hb2, hb3, hb4⟩ .nil (by decide) nofun ko keys_a.1.a ⟨List.pairwise_singleton _ _, by show 1 ≤ 100; decide, fun c hc => by rw [List.mem_singleton.mp hc]; exact ⟨on1 c1 (by simp), nofun⟩⟩ ⟨List.pairwise_singleton _ _, by show 1 ≤ 100; decide, fun c hc => by rw [List.mem_singleton.mp hc]; exact ⟨on1 c2 (by simp), nofun⟩⟩
  have last : ∀ (lost : Bool) (wv : V), Dv (Free H) H30 wv (.str (if lost = true then "lost" else "drawn")) → ∀ p, H30 p = none → ∀ H31, Same (upd H30 p (.tup [.int (hh : Int), .int (ww : Int), vh, .ref ki, .ref pt, wv])) H31 → ∀ p2, H31 p2 = none → Q (.ref p2) (upd H31 p2 (.tup [.ref p, .ref pq])) := fun lost wv hwv p hp => by
    have sp := same_new (o := .tup [.int (hh : Int), .int (ww : Int), vh, .ref ki, .ref pt, wv]) hp
    rw [hwv.is_str] at sp ⊢
    intro H31 s31 p2 hp2
    have sp2 := same_new (o := .tup [.ref p, .ref pq]) hp2
    have s3 := (sp.trans s31).trans sp2
    refine q p2 (.ref p) (.ref pq) ⟨hh, ww, [], [("k", (cs, [], 1)), ("a", ([], [], 0))], [c1], [c2], lost⟩ (r3, psort [(c3, 0, ("k" : Str)), (c4, 1, ("k" : Str))]) _ (B30.trans (But.of s3)) (t30.keep s3) upd_same ⟨p, vh, ki, .ref pt, rfl, sp2 _ _ (s31 _ _ upd_same), hvh30.keep s3, (ka30.keep s3).mono fun a h => h.1, (dgo30.keep s3).mono (Same.refl _) fun a h => B12.free_ t12.some_ h.1⟩ (dpos30.keep s3) (fit lost) (ok_start ⟨r30, r32⟩ (fit lost) nps (fun p hp => ?_) ⟨(c3, 0, "k"), List.mem_cons_self, rfl⟩ (Nat.le_of_ble_eq_true rfl))
    have free : ∀ c, c ∈ [c1, c2, c3, c4] → isFree (⟨hh, ww, [], [("k", (cs, [], 1)), ("a", ([], [], 0))], [c1], [c2], lost⟩ : Yr) c = true := fun c hc => by
      have := on1 c hc
      unfold isFree onBoard
      simp only [Bool.and_eq_true, decide_eq_true_eq, Bool.not_eq_true', decide_eq_false_iff_not]
      exact ⟨this, nofun⟩
    rcases List.mem_cons.mp hp with e | hp
    · rw [e]; exact ⟨free c3 (by simp), .inl rfl, (cs, [], 1), by simp⟩
    · rw [List.mem_singleton.mp hp]; exact ⟨free c4 (by simp), .inr rfl, (cs, [], 1), by simp⟩
  rcases (by omega : r4 = 0 ∨ r4 = 1) with e | e
  · exact ⟨r4, .str "lost", rfl, hv29.st b30 R29.t nst, by rw [e]; rfl, fun wv hwv p hp => (v_var 10 rfl).run (last true wv hwv p hp)⟩
  · exact ⟨r4, .str "drawn", rfl, hv29.st b30 R29.t nst, by rw [e]; rfl, fun wv hwv p hp => (v_var 10 rfl).run (last false wv hwv p hp)⟩
end
end PY
set_option Elab.async false
set_option autoImplicit false
set_option linter.all false
set_option maxRecDepth 100000
set_option maxHeartbeats 16000000
/-! law. -/
namespace PY
open PySem L2 PySem.W
/-! ### the same yard -/
section
variable {Y Y' : Yr}
theorem Like.ok (L : Like Y Y') (o : OkParts Y) : OkY Y' := ⟨by rw [L.h]; exact o.h, by rw [L.w]; exact o.w, by rw [L.h, L.w]; exact o.area, fun k x hx => o.yard.kinds k x (by rw [← L.ks]; exact hx)⟩
theorem Like.free (L : Like Y Y') (c : Cell) : isFree Y' c = isFree Y c := by unfold isFree onBoard; rw [L.h, L.w, L.ho]
theorem Like.kind (L : Like Y Y') (k : Str) : kindAt Y' k = kindAt Y k := by unfold kindAt; rw [L.ks]
theorem Like.crowns (L : Like Y Y') (ps : List Pc) (s : Int) : crowns Y' ps s = crowns Y ps s := by unfold PY.crowns; simp only [L.kind]
theorem Like.pos (L : Like Y Y') {p : Ps} (o : OkPos Y p) : OkPos Y' p := ⟨o.turn, fun q hq => by
  have h := o.ps q hq
  exact ⟨by rw [L.free]; exact h.free, h.side, by rw [L.ks]; exact h.kind⟩, o.up, o.one, o.few, by rw [L.crowns, L.crowns]; exact o.crown⟩
end
theorem PartsAt.any {N : Addr → Prop} {H : Hp} {v : V} {Y : Yr} (h : PartsAt N H v Y) : PartsAt All_ H v Y := by
  obtain ⟨a, hv, ki, gv, e, h1, h2, h3, h4⟩ := h.ex
  exact ⟨a, hv, ki, gv, e, h1, h2.any, h3.mono fun _ _ => trivial, h4.any⟩
theorem PartsAt.st {N : Addr → Prop} {H H' : Hp} {v : V} {Y : Yr} {st : Addr} (h : PartsAt N H v Y) (b : But st H H') (t : St3 H st) (n : ¬ N st) : PartsAt N H' v Y := by
  obtain ⟨a, hv, ki, gv, e, h1, h2, h3, h4⟩ := h.ex
  obtain ⟨zs, ez⟩ := t.lst
  exact ⟨a, hv, ki, gv, e, b a _ (ne_of h1 ez (fun z => nomatch z)) h1, h2.st b t n, h3.but b ez n, h4.st b t n⟩
/-! ### what together tells -/
theorem tog_ex (Y : Yr) (s : Int) (p : Ps) : ∀ n : Nat, (∃ k, (k ≤ n ∧ winLines Y s k p ≠ []) ∧ ∀ j, j < k → winLines Y s j p = []) ∨ ∀ k, k ≤ n → winLines Y s k p = []
  | 0 => by
    by_cases h : winLines Y s 0 p = []
    · exact .inr fun k hk => by rw [show k = 0 by omega]; exact h
    · exact .inl ⟨0, ⟨Nat.le_refl _, h⟩, fun j hj => by omega⟩
  | n + 1 => by
    rcases tog_ex Y s p n with ⟨k, ⟨h1, h2⟩, h3⟩ | h
    · exact .inl ⟨k, ⟨by omega, h2⟩, h3⟩
    · by_cases e : winLines Y s (n + 1) p = []
      · refine .inr fun k hk => ?_
        rcases Nat.lt_or_ge k (n + 1) with z | z
        · exact h k (by omega)
        · rw [show k = n + 1 by omega]; exact e
      · exact .inl ⟨n + 1, ⟨Nat.le_refl _, e⟩, fun j hj => h j (by omega)⟩
theorem tog_some (Y : Yr) (s : Int) (n : Nat) (p : Ps) : ∃ d, Tog Y s n p d := by
  rcases tog_ex Y s p n with ⟨k, h1, h2⟩ | h
  · exact ⟨_, .inl ⟨k, h1, h2, rfl⟩⟩
  · exact ⟨_, .inr ⟨h, rfl⟩⟩
section
variable {P : Program} {w : World} {K : PySem.W.Frag} {mg : Str → Option Value} {base : Heap} {C : Addr}
abbrev N_law : List Str := ["script", "parts", "position", "state", "side", "many", "yard", "found", "tree", "number", "line", "less"]
theorem sc_law : FnScope N_law ["script"] (defScope s_law) := ⟨rfl, rfl, rfl, by decide +kernel, rfl, by decide +kernel, by decide +kernel⟩
def spLaw (K : PySem.W.Frag) : Sp := fun vs H Q _ => ∃ (a : Addr) (ns : List Int), vs = [.ref a] ∧ SqL K H a (ns.map V.int) ∧ ∀ H', Q (.bl true) H'
theorem fn_law (T : Txt K mg C) {f : Addr} {fd : FuncData} (F : FnP K "law" "law" s_law f fd) : FnOk P w K mg base CX0 16 f fd ["script"] (spLaw K) := by
  have G1 : Kf P w K mg base 1 "_law_take" ["state", "many"] spTake := kf_law_take T
  have G2 : Kf P w K mg base 2 "_law_begin" ["script", "k"] (spBegin K) := kf_law_begin T
  have Gp : Kf P w K mg base 3 "_law_parts" ["script", "k", "most"] (spParts K) := kf_law_parts T
  have Gs : Kf P w K mg base 3 "_law_position" ["script", "k", "parts", "most"] (spPos K) := kf_law_position T
  have Gr : Kf P w K mg base 2 "_law_race" ["state"] spRace := kf_law_race T
  have Gy : Kf P w K mg base 5 "_law_yard" ["parts"] (spYard C) := kf_law_yard T
  have Gt : Kf P w K mg base 14 "together" ["yard", "position", "side", "many"] (spF (pre_together C)) := kf_together T
  have Gw : Kf P w K mg base 15 "win_tree" ["yard", "position", "side", "many"] (spF (pre_win_tree C)) := kf_win_tree T
  have Ge : Kf P w K mg base 12 "_law_ends" ["yard", "position", "line"] (spF (pre_law_ends C)) := kf_law_ends T
  have Gd : Kf P w K mg base 7 "depth" ["tree"] (spF pre_depth) := kf_depth T
  have Gl' : Kf P w K mg base 14 "lines" ["yard", "position", "many"] (spF (pre_lines C)) := kf_lines T
  have Gk : Kf P w K mg base 11 "walked" ["yard", "position", "line"] (spF (pre_walked C)) := kf_walked T
  have Gv : Kf P w K mg base 8 "verdict" ["yard", "position"] (spF (pre_verdict_of C)) := kf_verdict T
  refine fn_body (k := 15) F sc_law (fun vs H Q E ⟨_, _, e, _⟩ => by rw [e]; rfl) fun cdv A outer s H vs Q E hr hsp => ?_
  obtain ⟨a, ns, rfl, hs, q⟩ := hsp
  have nd := sc_law.nd
  -- once the yard's parts, the position, the side and the many stand
  have rest : ∀ (pv v2 stv : V) (Y : Yr) (p : Ps) (sd : Int) (n : Nat) (H0 : Hp), PartsAt All_ H0 pv Y → Fit Y → Dv All_ H0 v2 (dPos p) → OkPos Y p → (sd = 0 ∨ sd = 1) → n ≤ 4 →
      wB (bX P w K mg base N_law "law" s_law f cdv A outer s H E) ((defBody s_law).drop 5) { nx := fun _ H' => Q .non H', rt := Q } [some (.ref a), some pv, some v2, some stv, some (.int sd), some (.int (n : Int)), none, none, none, none, none, none] H0 := fun pv v2 stv Y p sd n H0 hp fit dp okp0 hsd hn => by
    refine b_cons (s_set 6 nd (e_call1 Gy (hr.mono (by decide)) ((v_var 1 rfl).run fun H1 s1 => ⟨pv, Y, rfl, hp.keep s1, fit.ok, fun y Y' H2 s2 hy lk => ?_⟩)))
    show wB _ _ _ _ _
    have oy := lk.ok fit.ok
    have okp := lk.pos okp0
    have dp2 := dp.keep (s1.trans s2)
    obtain ⟨dT, hT⟩ := tog_some Y' sd n p
    refine b_cons (s_set 7 nd (CD.run (N := All_) (d := dT) (c_call Gt (hr.mono (by decide)) (as_v (v_var 6 rfl) (as_d (c_var 2 rfl dp2) (as_d (c_var 4 rfl (d := .int sd) (.int _)) (as_d (c_var 5 rfl (d := .int (n : Int)) (.int _)) as_nil)))) (fun H' s' => ⟨y, Y', p, sd, n, rfl, hy.keep s', oy, okp, hsd, hn, hT⟩) (fun _ _ => trivial)) fun fv H3 s3 hfv0 => ?_))
    refine b_cons (s_set 8 nd (CD.run (N := All_) (d := if wins Y' sd n p = true then dTr (winBy Y' sd n p) else .none) (c_call Gw hr (as_v (v_var 6 rfl) (as_d (c_var 2 rfl (dp2.keep s3)) (as_d (c_var 4 rfl (d := .int sd) (.int _)) (as_d (c_var 5 rfl (d := .int (n : Int)) (.int _)) as_nil)))) (fun H' s' => ⟨y, Y', p, sd, n, rfl, hy.keep (s3.trans s'), oy, okp, hsd, hn, rfl⟩) (fun _ _ => trivial)) fun tv H4 s4 htv => ?_))
    have dp4 := dp2.keep (s3.trans s4)
    have hy4 := hy.keep (s3.trans s4)
    have hfv := hfv0.keep s4
    -- no shorter line wins
    have fin : ∀ (nm : Nat) (num : Int) (o10 : Option V) (H' : Hp), num = (nm : Int) → nm ≤ n + 1 → (∀ j, j < nm → winLines Y' sd j p = []) → Same H4 H' →
        wB (bX P w K mg base N_law "law" s_law f cdv A outer s H E) ((defBody s_law).drop 9) { nx := fun _ H' => Q .non H', rt := Q } [some (.ref a), some pv, some v2, some stv, some (.int sd), some (.int (n : Int)), some (.ref y), some fv, some tv, some (.int num), o10, none] H' := fun nm num o10 H5 en hle hlt s5 => by
      refine b_cons (s_forR rfl T.b_range (g_name 11 nd) (CD.run (N := All_) (d := .int num) (c_var 9 rfl (.int _)) fun v H6 s6 hv => ⟨nm, fun i σ' H' => ∃ o10 o11, σ' = [some (.ref a), some pv, some v2, some stv, some (.int sd), some (.int (n : Int)), some (.ref y), some fv, some tv, some (.int num), o10, o11] ∧ Same H4 H', by rw [hv.is_int, en], by omega, ⟨o10, none, rfl, s5.trans s6⟩, ?_, ?_⟩))
      · rintro i σ' H' hi ⟨o10, o11, rfl, s'⟩
        show wB _ _ _ _ _
        refine b_one (s_forL (bs := linesOf Y' i p) (enc := dMoves) rfl (g_name 10 nd) (CD.run (N := All_) (d := dLines (linesOf Y' i p)) (c_call Gl' (hr.mono (by decide)) (as_v (v_var 6 rfl) (as_d (c_var 2 rfl (dp4.keep s')) (as_d (c_var 11 rfl (d := .int (i : Int)) (.int _)) as_nil))) (fun H'' s'' => ⟨y, Y', p, i, rfl, hy4.keep (s'.trans s''), oy, okp, by omega, rfl⟩) (fun _ _ => trivial)) fun v H7 s7 hv7 => ⟨All_, fun _ σ' H' => ∃ o10, σ' = [some (.ref a), some pv, some v2, some stv, some (.int sd), some (.int (n : Int)), some (.ref y), some fv, some tv, some (.int num), o10, some (.int (i : Int))] ∧ Same H4 H' ∧ Dv All_ H' v (dLines (linesOf Y' i p)), ⟨o10, rfl, s'.trans s7, hv7⟩, fun _ _ _ _ ⟨_, _, _, h⟩ => h, ?_, ?_⟩))
        · rintro j l x σ' H8 hl ⟨o10, rfl, s8, hv8⟩ hx
          show wB _ _ _ _ _
          have hm := List.mem_of_getElem? hl
          have lg := lines_legal hm
          have nw : verdict Y' (endOf p l) ≠ .won sd := fun z => by
            have : l ∈ winLines Y' sd i p := List.mem_filter.mpr ⟨hm, decide_eq_true z⟩
            rw [hlt i hi] at this
            cases this
          refine b_one (s_ifB (k := false) (t_cmp ((eq_d (by exact hu64 hr) (sh_vd _) (sh_int _)).is ((eqv_vd _ _).trans (decide_eq_false nw))) (c_call (d := dVd (verdict Y' (endOf p l))) Gv (hr.mono (by decide)) (as_v (v_var 6 rfl) (as_d (c_ixL (ds := (walk p l).map dPos) (c_call (d := dPoss (walk p l)) Gk (hr.mono (by decide)) (as_v (v_var 6 rfl) (as_d (c_var 2 rfl (dp4.keep s8)) (as_d (c_var 10 rfl hx) as_nil))) (fun H'' s'' => ⟨y, Y', p, l, rfl, hy4.keep (s8.trans s''), oy, okp, lg.2, by omega, rfl⟩) (fun _ _ => trivial)) (c_neg c_int) (atI_m1 (n := l.length) (by rw [List.length_map, walk_len]) (by rw [List.getElem?_map, walk_last]; rfl))) as_nil)) (fun H'' s'' => ⟨y, Y', endOf p l, rfl, hy4.keep (s8.trans s''), oy, legal_end okp lg.2, rfl⟩) (fun _ _ => trivial)) (c_var 4 rfl (.int _))) (fun e => nomatch e) fun _ H9 s9 => b_nil ⟨_, rfl, s8.trans s9, hv8.keep s9⟩)
        · rintro σ' H8 ⟨o10, rfl, s8, _⟩
          exact ⟨_, _, rfl, s8⟩
      · rintro σ' H6 ⟨o10, o11, rfl, s6⟩
        exact b_one (s_ret (CD.run (N := All_) (d := .bool true) c_bl fun v H7 s7 hv => by rw [hv.is_bl]; exact q H7))
    rcases hT with ⟨k, ⟨hk, hw⟩, hlt, rfl⟩ | ⟨hno, rfl⟩
    · refine b_cons (s_ifB (k := false) (t_cmp is_n (c_var 7 rfl hfv) c_non) (fun e => nomatch e) fun _ H5 s5 => ?_)
      refine b_cons (s_set 9 nd (CD.run (N := All_) (d := .int (k : Int)) (c_ixT (c_var 7 rfl (hfv.keep s5)) c_int rfl) fun v H6 s6 hv => ?_))
      obtain rfl := hv.is_int
      have f6 := hfv.keep (s5.trans s6)
      refine b_cons (s_ifB (k := false) (CT.is (t_or2 (k1 := false) (k2 := false) (CT.is (t_cmp eq_i (c_lenL T.b_len (c_ixT (d := dLines (winLines Y' sd k p)) (c_var 7 rfl f6) c_int rfl)) c_int) ?_) fun _ => CT.is (t_not (t_chain le_i le_i c_int (c_var 9 rfl (d := .int (k : Int)) (.int _)) (c_var 5 rfl (d := .int (n : Int)) (.int _)))) (by simp [hk])) rfl) (fun e => nomatch e) fun _ H7 s7 => b_nil ?_)
      · rw [List.length_map]
        refine decide_eq_false fun z => hw (List.eq_nil_of_length_eq_zero (by omega))
      have s47 := (s5.trans s6).trans s7
      refine b_cons (s_forL (bs := winLines Y' sd k p) (enc := dMoves) rfl (g_name 10 nd) (CD.run (N := All_) (d := dLines (winLines Y' sd k p)) (c_ixT (c_var 7 rfl (hfv.keep s47)) c_int rfl) fun v H8 s8 hv8 => ⟨All_, fun _ σ' H' => ∃ o10, σ' = [some (.ref a), some pv, some v2, some stv, some (.int sd), some (.int (n : Int)), some (.ref y), some fv, some tv, some (.int (k : Int)), o10, none] ∧ Same H4 H' ∧ Dv All_ H' v (dLines (winLines Y' sd k p)), ⟨none, rfl, s47.trans s8, hv8⟩, fun _ _ _ _ ⟨_, _, _, h⟩ => h, ?_, ?_⟩))
      · rintro j l x σ' H9 hl ⟨o10, rfl, s9, hv9⟩ hx
        show wB _ _ _ _ _
        have hm := List.mem_filter.mp (List.mem_of_getElem? hl)
        have lg := lines_legal hm.1
        have lw : verdict Y' (endOf p l) = .won sd := of_decide_eq_true hm.2
        refine b_one (s_ifB (k := false) (CT.is (t_or2 (k1 := false) (k2 := false) (CT.is (t_cmp ne_i (c_lenL T.b_len (c_var 10 rfl hx)) (c_var 9 rfl (d := .int (k : Int)) (.int _))) (by rw [List.length_map, lg.1]; simp)) fun _ => t_cmp ((ne_d (by exact hu64 hr) (sh_vd _) (sh_int _)).is (by rw [eqv_vd, decide_eq_true lw]; rfl)) (c_call (d := dVd (verdict Y' (endOf p l))) Ge (hr.mono (by decide)) (as_v (v_var 6 rfl) (as_d (c_var 2 rfl (dp4.keep s9)) (as_d (c_var 10 rfl hx) as_nil))) (fun H'' s'' => ⟨y, Y', p, l, rfl, hy4.keep (s9.trans s''), oy, okp, lg.2, by omega, rfl⟩) (fun _ _ => trivial)) (c_var 4 rfl (.int _))) rfl) (fun e => nomatch e) fun _ H10 s10 => b_nil ⟨_, rfl, s9.trans s10, hv9.keep s10⟩)
      · rintro σ' H9 ⟨o10, rfl, s9, _⟩
        show wB _ _ _ _ _
        cases ew : wins Y' sd n p with
        | false =>
          rw [ew, if_neg Bool.false_ne_true] at htv
          exact b_one (s_ifB (k := false) (CT.is (t_and2 (k1 := false) (k2 := false) (t_cmp isnot_n (c_var 8 rfl (htv.keep s9)) c_non) fun e => nomatch e) rfl) (fun e => nomatch e) fun _ H10 s10 => b_nil (fin k k o10 H10 rfl (by omega) hlt (s9.trans s10)))
        | true =>
          rw [ew, if_pos rfl] at htv
          have gd := by_good oy (s := sd) (n := n) okp
          obtain ⟨k', h1, h2, h3⟩ := win_line okp ew
          have hkk : k ≤ k' := Nat.le_of_not_lt fun z => h3 (hlt k' z)
          exact b_one (s_ifB (k := false) (CT.is (t_and2 (k2 := false) (t_cmp isnot_n (c_var 8 rfl (htv.keep s9)) c_non) fun _ => CT.is (t_cmp lt_i (c_call (d := .int ((winBy Y' sd n p).depth : Int)) Gd (hr.mono (by decide)) (as_d (c_var 8 rfl (htv.keep s9)) as_nil) (fun H'' s'' => ⟨winBy Y' sd n p, rfl, gd.1, by omega, rfl⟩) (fun _ _ => trivial)) (c_var 9 rfl (d := .int (k : Int)) (.int _))) (decide_eq_false (by omega))) (Bool.and_false _)) (fun e => nomatch e) fun _ H10 s10 => b_nil (fin k k o10 H10 rfl (by omega) hlt (s9.trans s10)))
    · have ew : wins Y' sd n p = false := by
        cases e : wins Y' sd n p with
        | false => rfl
        | true =>
          obtain ⟨k', h1, h2, h3⟩ := win_line okp e
          exact absurd (hno k' h2) h3
      rw [ew, if_neg Bool.false_ne_true] at htv
      refine b_cons (s_ifB (k := true) (t_cmp is_n (c_var 7 rfl hfv) c_non) (fun _ H5 s5 => ?_) fun e => nomatch e)
      refine b_cons (s_ifB (k := false) (t_cmp isnot_n (c_var 8 rfl (htv.keep s5)) c_non) (fun e => nomatch e) fun _ H6 s6 => b_nil ?_)
      refine b_one (s_set 9 nd (CD.run (N := All_) (d := .int ((n : Int) + 1)) (c_add (c_var 5 rfl (d := .int (n : Int)) (.int _)) c_int) fun v H7 s7 hv => ?_))
      obtain rfl := hv.is_int
      exact fin (n + 1) ((n : Int) + 1) none H7 rfl (Nat.le_refl _) (fun j hj => hno j (by omega)) ((s5.trans s6).trans s7)
  -- the parts
  refine b_cons (s_set 1 nd (e_call Gp (hr.mono (by decide)) ((as_v (v_var 0 rfl) (as_d c_int (as_d c_int as_nil))) H (Same.refl _) _ fun vs H1 s1 hvs => ?_)))
  obtain ⟨_, rfl, hvs, _⟩ := hvs.consV
  obtain ⟨x1, _, rfl, e1, hvs⟩ := hvs.consD
  obtain ⟨x2, _, rfl, e2, hvs⟩ := hvs.consD
  cases hvs.nilD
  obtain rfl := e1.is_int
  obtain rfl := e2.is_int
  refine ⟨a, ns, rfl, sq_keep hs s1, fun pv Y H2 s2 hp fit => ?_⟩
  show wB _ _ _ _ _
  have sA := s1.trans s2
  -- the position
  refine b_cons (s_set 2 nd (e_call Gs (hr.mono (by decide)) ((as_v (v_var 0 rfl) (as_d c_int (as_v (v_var 1 rfl) (as_d c_int as_nil)))) H2 (Same.refl _) _ fun vs H3 s3 hvs => ?_)))
  obtain ⟨_, rfl, hvs, _⟩ := hvs.consV
  obtain ⟨x3, _, rfl, e3, hvs⟩ := hvs.consD
  obtain ⟨_, rfl, hvs, _⟩ := hvs.consV
  obtain ⟨x4, _, rfl, e4, hvs⟩ := hvs.consD
  cases hvs.nilD
  obtain rfl := e3.is_int
  obtain rfl := e4.is_int
  refine ⟨a, ns, pv, Y, rfl, sq_keep hs (sA.trans s3), hp.any.keep s3, fit, fun v2 p H4 s4 dp okp => ?_⟩
  show wB _ _ _ _ _
  have sB := sA.trans (s3.trans s4)
  -- the state
  refine b_cons (s_set 3 nd (e_call G2 (hr.mono (by decide)) ((as_v (v_var 0 rfl) (as_d c_int as_nil)) H4 (Same.refl _) _ fun vs H5 s5 hvs => ?_)))
  obtain ⟨_, rfl, hvs, _⟩ := hvs.consV
  obtain ⟨x5, _, rfl, e5, hvs⟩ := hvs.consD
  cases hvs.nilD
  obtain rfl := e5.is_int
  refine ⟨a, ns, 2, rfl, sq_keep hs (sB.trans s5), by decide, fun st H6 s6 hst t6 => ?_⟩
  show wB _ _ _ _ _
  have nst : H4 st = none := s5.free hst
  -- the side, the many
  refine b_cons (s_par 4 5 rfl nd (e_take G1 hr (Nat.le_of_ble_eq_true rfl) (v_var 3 rfl) c_int t6 (by decide) fun r0 H7 b7 t7 r00 r02 => e_take G1 hr (Nat.le_of_ble_eq_true rfl) (v_var 3 rfl) c_int t7 (by decide) fun m0 H8 b8 t8 m00 m03 => ?_))
  show wB _ _ _ _ _
  have B8 : But st H4 H8 := ((But.of (s5.trans s6)).trans b7).trans b8
  have hr0 : r0 = 0 ∨ r0 = 1 := by omega
  refine b_cons (s_ifTake G1 hr (Nat.le_of_ble_eq_true rfl) (v_var 3 rfl) c_int (fun _ => c_int) t8 (by decide) (fun H9 b9 t9 => ?_) fun H9 b9 t9 => b_nil ?_)
  · refine b_cons (s_asg (pg_tup rfl (pgs_cons (g_name 1 nd) (pgs_cons (g_name 2 nd) pgs_nil))) (e_call1 Gr (hr.mono (by decide)) ((v_var 3 rfl).run fun H10 s10 => ⟨st, rfl, t9.keep s10, fun q' pv' posv Y1 p1 H11 b11 t11 hq hp1 dp1 fit1 okp1 => ⟨q', _, rfl, SqT.of hq, rfl, _, _, rfl, _, _, rfl, rfl, ?_⟩⟩)))
    show wB _ _ _ _ _
    refine b_one (s_set 5 nd (e_addI (CD.run (N := All_) (d := .int 3) c_int fun x H12 s12 hx => e_take G1 hr (Nat.le_of_ble_eq_true rfl) (v_var 3 rfl) c_int (t11.keep s12) (by decide) fun m1 H13 b13 t13 m10 m12 => ⟨3, m1, hx.is_int, rfl, ?_⟩)))
    obtain ⟨m, hm1⟩ : ∃ m : Nat, 3 + m1 = (m : Int) := ⟨(3 + m1).toNat, by omega⟩
    have nfr : ¬ Free H10 st := fun z => (t9.keep s10).some_ z
    rw [hm1]
    exact rest pv' posv (.ref st) Y1 p1 r0 m H13 ((hp1.keep s12).st b13 (t11.keep s12) nfr).any fit1 ((dp1.keep s12).st b13 (t11.keep s12) nfr).any okp1 hr0 (by omega)
  · have s9 : Same H4 H9 := But.same (B8.trans b9) (Same.refl _) nst
    obtain ⟨m, hm0⟩ : ∃ m : Nat, m0 = (m : Int) := ⟨m0.toNat, by omega⟩
    rw [hm0]
    exact rest pv v2 (.ref st) Y p r0 m H9 (hp.any.keep ((s3.trans s4).trans s9)) fit (dp.any.keep s9) okp hr0 (by omega)
end
end PY
set_option Elab.async false
set_option linter.all false
set_option maxRecDepth 100000
set_option maxHeartbeats 0
/-! The head: one run of the top, the facts that the walk leans on. -/
namespace PY
open PySem PySem.Spec PyProof.Rows L2
def facts : List He.Fa := [.glo "is_piece",
  .glo "crowns",
  .glo "is_position",
  .glo "check_position",
  .glo "piece_at",
  .glo "turned_step",
  .glo "gone",
  .glo "may_end",
  .glo "ride",
  .glo "ways_of",
  .glo "all_ways",
  .glo "on_goal",
  .glo "verdict_of",
  .glo "verdict",
  .glo "moves_of",
  .glo "check_move",
  .glo "after_of",
  .glo "after",
  .glo "walked",
  .glo "check_many",
  .glo "lines_of",
  .glo "lines",
  .glo "check_asked",
  .glo "wins",
  .glo "win_by",
  .glo "win_tree",
  .glo "is_tree",
  .glo "depth_of",
  .glo "check_either",
  .glo "depth",
  .glo "end_of",
  .glo "together",
  .glo "rising",
  .glo "is_step",
  .glo "is_kind",
  .glo "_law_cell",
  .glo "_law_begin",
  .glo "_law_take",
  .glo "_law_steps",
  .glo "_law_kind",
  .glo "_law_some_cells",
  .glo "_law_parts",
  .glo "_law_yard",
  .glo "_law_position",
  .glo "_law_race",
  .glo "_law_ends",
  .glo "law",
  .glo "Yard",
  .free "abs",
  .free "all",
  .free "any",
  .free "int",
  .free "len",
  .free "list",
  .free "max",
  .free "min",
  .free "range",
  .free "set",
  .free "sorted",
  .free "tuple",
  .int "MOST_PIECES" 10,
  .int "MOST_LINES" 4,
  .int "MOST_MOVES" 8,
  .int "MOST_SIDE" 5,
  .int "MOST_KINDS" 6,
  .int "MOST_STEP" 4,
  .str "WON" "won",
  .str "NOT" "not",
  .str "LETTERS" "abcdefghijklmnopqrstuvwxyz",
  .cls "Yard",
  .noat "Yard" "height",
  .noat "Yard" "width",
  .noat "Yard" "holes",
  .noat "Yard" "stuck",
  .noat "Yard" "goals",
  .noat "Yard" "kinds",
  .meth "Yard" "on_board",
  .meth "Yard" "is_free",
  .mkr "Yard"]
def defsD : List He.DefD := [⟨("is_piece", none), "is_piece", "is_piece", defArgs s_is_piece, defBody s_is_piece, defScope s_is_piece, [], []⟩,
  ⟨("crowns", none), "crowns", "crowns", defArgs s_crowns, defBody s_crowns, defScope s_crowns, [], []⟩,
  ⟨("is_position", none), "is_position", "is_position", defArgs s_is_position, defBody s_is_position, defScope s_is_position, [], []⟩,
  ⟨("check_position", none), "check_position", "check_position", defArgs s_check_position, defBody s_check_position, defScope s_check_position, [], []⟩,
  ⟨("piece_at", none), "piece_at", "piece_at", defArgs s_piece_at, defBody s_piece_at, defScope s_piece_at, [], []⟩,
  ⟨("turned_step", none), "turned_step", "turned_step", defArgs s_turned_step, defBody s_turned_step, defScope s_turned_step, [], []⟩,
  ⟨("gone", none), "gone", "gone", defArgs s_gone, defBody s_gone, defScope s_gone, [], []⟩,
  ⟨("may_end", none), "may_end", "may_end", defArgs s_may_end, defBody s_may_end, defScope s_may_end, [], []⟩,
  ⟨("ride", none), "ride", "ride", defArgs s_ride, defBody s_ride, defScope s_ride, [], []⟩,
  ⟨("ways_of", none), "ways_of", "ways_of", defArgs s_ways_of, defBody s_ways_of, defScope s_ways_of, [], []⟩,
  ⟨("all_ways", none), "all_ways", "all_ways", defArgs s_all_ways, defBody s_all_ways, defScope s_all_ways, [], []⟩,
  ⟨("on_goal", none), "on_goal", "on_goal", defArgs s_on_goal, defBody s_on_goal, defScope s_on_goal, [], []⟩,
  ⟨("verdict_of", none), "verdict_of", "verdict_of", defArgs s_verdict_of, defBody s_verdict_of, defScope s_verdict_of, [], []⟩,
  ⟨("verdict", none), "verdict", "verdict", defArgs s_verdict, defBody s_verdict, defScope s_verdict, [], []⟩,
  ⟨("moves_of", none), "moves_of", "moves_of", defArgs s_moves_of, defBody s_moves_of, defScope s_moves_of, [], []⟩,
  ⟨("check_move", none), "check_move", "check_move", defArgs s_check_move, defBody s_check_move, defScope s_check_move, [], []⟩,
  ⟨("after_of", none), "after_of", "after_of", defArgs s_after_of, defBody s_after_of, defScope s_after_of, [], []⟩,
  ⟨("after", none), "after", "after", defArgs s_after, defBody s_after, defScope s_after, [], []⟩,
  ⟨("walked", none), "walked", "walked", defArgs s_walked, defBody s_walked, defScope s_walked, [], []⟩,
  ⟨("check_many", none), "check_many", "check_many", defArgs s_check_many, defBody s_check_many, defScope s_check_many, [], []⟩,
  ⟨("lines_of", none), "lines_of", "lines_of", defArgs s_lines_of, defBody s_lines_of, defScope s_lines_of, [], []⟩,
  ⟨("lines", none), "lines", "lines", defArgs s_lines, defBody s_lines, defScope s_lines, [], []⟩,
  ⟨("check_asked", none), "check_asked", "check_asked", defArgs s_check_asked, defBody s_check_asked, defScope s_check_asked, [], []⟩,
  ⟨("wins", none), "wins", "wins", defArgs s_wins, defBody s_wins, defScope s_wins, [], []⟩,
  ⟨("win_by", none), "win_by", "win_by", defArgs s_win_by, defBody s_win_by, defScope s_win_by, [], []⟩,
  ⟨("win_tree", none), "win_tree", "win_tree", defArgs s_win_tree, defBody s_win_tree, defScope s_win_tree, [], []⟩,
  ⟨("is_tree", none), "is_tree", "is_tree", defArgs s_is_tree, defBody s_is_tree, defScope s_is_tree, [], []⟩,
  ⟨("depth_of", none), "depth_of", "depth_of", defArgs s_depth_of, defBody s_depth_of, defScope s_depth_of, [], []⟩,
  ⟨("check_either", none), "check_either", "check_either", defArgs s_check_either, defBody s_check_either, defScope s_check_either, [], []⟩,
  ⟨("depth", none), "depth", "depth", defArgs s_depth, defBody s_depth, defScope s_depth, [], []⟩,
  ⟨("end_of", none), "end_of", "end_of", defArgs s_end_of, defBody s_end_of, defScope s_end_of, [], []⟩,
  ⟨("together", none), "together", "together", defArgs s_together, defBody s_together, defScope s_together, [], []⟩,
  ⟨("rising", none), "rising", "rising", defArgs s_rising, defBody s_rising, defScope s_rising, [], []⟩,
  ⟨("is_step", none), "is_step", "is_step", defArgs s_is_step, defBody s_is_step, defScope s_is_step, [], []⟩,
  ⟨("is_kind", none), "is_kind", "is_kind", defArgs s_is_kind, defBody s_is_kind, defScope s_is_kind, [], []⟩,
  ⟨("_law_cell", none), "_law_cell", "_law_cell", defArgs s_law_cell, defBody s_law_cell, defScope s_law_cell, [], []⟩,
  ⟨("_law_begin", none), "_law_begin", "_law_begin", defArgs s_law_begin, defBody s_law_begin, defScope s_law_begin, [], []⟩,
  ⟨("_law_take", none), "_law_take", "_law_take", defArgs s_law_take, defBody s_law_take, defScope s_law_take, [], []⟩,
  ⟨("_law_steps", none), "_law_steps", "_law_steps", defArgs s_law_steps, defBody s_law_steps, defScope s_law_steps, [], []⟩,
  ⟨("_law_kind", none), "_law_kind", "_law_kind", defArgs s_law_kind, defBody s_law_kind, defScope s_law_kind, [], []⟩,
  ⟨("_law_some_cells", none), "_law_some_cells", "_law_some_cells", defArgs s_law_some_cells, defBody s_law_some_cells, defScope s_law_some_cells, [], []⟩,
  ⟨("_law_parts", none), "_law_parts", "_law_parts", defArgs s_law_parts, defBody s_law_parts, defScope s_law_parts, [], []⟩,
  ⟨("_law_yard", none), "_law_yard", "_law_yard", defArgs s_law_yard, defBody s_law_yard, defScope s_law_yard, [], []⟩,
  ⟨("_law_position", none), "_law_position", "_law_position", defArgs s_law_position, defBody s_law_position, defScope s_law_position, [], []⟩,
  ⟨("_law_race", none), "_law_race", "_law_race", defArgs s_law_race, defBody s_law_race, defScope s_law_race, [], []⟩,
  ⟨("_law_ends", none), "_law_ends", "_law_ends", defArgs s_law_ends, defBody s_law_ends, defScope s_law_ends, [], []⟩,
  ⟨("law", none), "law", "law", defArgs s_law, defBody s_law, defScope s_law, [], []⟩,
  ⟨("Yard", some "__init__"), "__init__", "Yard.__init__", defArgs s_Yard_init, defBody s_Yard_init, defScope s_Yard_init, [], []⟩,
  ⟨("Yard", some "on_board"), "on_board", "Yard.on_board", defArgs s_Yard_on_board, defBody s_Yard_on_board, defScope s_Yard_on_board, [], []⟩,
  ⟨("Yard", some "is_free"), "is_free", "Yard.is_free", defArgs s_Yard_is_free, defBody s_Yard_is_free, defScope s_Yard_is_free, [], []⟩]
def loose0 : List PySem.Str := ["YardError", "BadYard", "BadPosition", "NoMove", "Ended", "BadSide", "BadPaper", "TooMany", "MOST_PIECES", "is_piece", "crowns", "is_position", "check_position", "piece_at", "turned_step", "gone", "may_end", "ride", "ways_of", "all_ways", "on_goal", "verdict_of", "verdict", "moves_of", "check_move", "after_of", "after", "MOST_LINES", "walked", "check_many"]
def loose1 : List PySem.Str := ["lines_of", "lines", "MOST_MOVES", "WON", "NOT", "check_asked", "wins", "win_by", "win_tree", "is_tree", "depth_of", "check_either", "depth", "end_of", "together", "MOST_SIDE", "MOST_KINDS", "MOST_STEP", "LETTERS", "rising", "is_step", "is_kind", "Yard", "_law_cell", "_law_begin", "_law_take", "_law_steps", "_law_kind", "_law_some_cells", "_law_parts"]
def loose2 : List PySem.Str := ["_law_yard", "_law_position", "_law_goings", "_law_all_moves", "_law_kings", "_law_verdict", "_law_moves", "_law_after", "_law_race", "_law_ends"]
abbrev loose : List PySem.Str := loose0 ++ loose1 ++ loose2
abbrev R : PySem.W.OpenRow := PySem.W.OpenLaw.row PySem.Challenge.rw_pieceyard_k55_whole_lines_together
abbrev hk : PySem.W.Hook := He.hookD 4 facts defsD
def ob (s : PySem.W.SharedT) : He.AlD := He.obsDG 4 facts defsD (HandSHeadRun.getT s)
theorem ob_eq (s : PySem.W.SharedT) : ob s = hk.obs s.abs := He.obsDG_eq (HandSHeadRun.getT_eq s)
theorem head_run (w : World) : HandSHeadRun.RunEq R (PySem.W.view R.prog [80]) hk ob 12000 loose w := by
  intro os
  kernel_rfl
end PY
set_option Elab.async false
set_option linter.all false
set_option maxRecDepth 100000
set_option maxHeartbeats 0
/-! The facts of the head, the law. -/
namespace PY
open PySem PySem.Spec PyProof.Rows L2
theorem is_of {K : PySem.W.Frag} {h : Heap} {mg : Str → Option Value} (X : K.In h) (G : h.Ns mainGlobals mg) (c : He.SaysD facts defsD K) (i j : Nat) {x : Str} {st : Stmt} (h1 : defsD[i]? = some ⟨(x, none), x, x, defArgs st, defBody st, defScope st, [], []⟩) (h2 : facts[j]? = some (.glo x)) : Is K mg x st := by
  obtain ⟨fd, F⟩ := c.def_ i h1
  exact ⟨_, fd, F, He.glo_ok X G (c.fact j h2)⟩
theorem md_of {K : PySem.W.Frag} (c : He.SaysD facts defsD K) (i : Nat) {m q : Str} {st : Stmt} (h1 : defsD[i]? = some ⟨("Yard", some m), m, q, defArgs st, defBody st, defScope st, [], []⟩) : ∃ fd, FnP K m q st (He.ma K (He.ga K "Yard") m) fd := by
  obtain ⟨fd, F⟩ := c.def_ i h1
  exact ⟨fd, F⟩
theorem txt_of {K : PySem.W.Frag} {h : Heap} {mg : Str → Option Value} (X : K.In h) (G : h.Ns mainGlobals mg) (c : He.SaysD facts defsD K) : Txt K mg (He.ga K "Yard") :=
  {
    f_is_piece := is_of X G c 0 0 rfl rfl,
    f_crowns := is_of X G c 1 1 rfl rfl,
    f_is_position := is_of X G c 2 2 rfl rfl,
    f_check_position := is_of X G c 3 3 rfl rfl,
    f_piece_at := is_of X G c 4 4 rfl rfl,
    f_turned_step := is_of X G c 5 5 rfl rfl,
    f_gone := is_of X G c 6 6 rfl rfl,
    f_may_end := is_of X G c 7 7 rfl rfl,
    f_ride := is_of X G c 8 8 rfl rfl,
    f_ways_of := is_of X G c 9 9 rfl rfl,
    f_all_ways := is_of X G c 10 10 rfl rfl,
    f_on_goal := is_of X G c 11 11 rfl rfl,
    f_verdict_of := is_of X G c 12 12 rfl rfl,
    f_verdict := is_of X G c 13 13 rfl rfl,
    f_moves_of := is_of X G c 14 14 rfl rfl,
    f_check_move := is_of X G c 15 15 rfl rfl,
    f_after_of := is_of X G c 16 16 rfl rfl,
    f_after := is_of X G c 17 17 rfl rfl,
    f_walked := is_of X G c 18 18 rfl rfl,
    f_check_many := is_of X G c 19 19 rfl rfl,
    f_lines_of := is_of X G c 20 20 rfl rfl,
    f_lines := is_of X G c 21 21 rfl rfl,
    f_check_asked := is_of X G c 22 22 rfl rfl,
    f_wins := is_of X G c 23 23 rfl rfl,
    f_win_by := is_of X G c 24 24 rfl rfl,
    f_win_tree := is_of X G c 25 25 rfl rfl,
    f_is_tree := is_of X G c 26 26 rfl rfl,
    f_depth_of := is_of X G c 27 27 rfl rfl,
    f_check_either := is_of X G c 28 28 rfl rfl,
    f_depth := is_of X G c 29 29 rfl rfl,
    f_end_of := is_of X G c 30 30 rfl rfl,
    f_together := is_of X G c 31 31 rfl rfl,
    f_rising := is_of X G c 32 32 rfl rfl,
    f_is_step := is_of X G c 33 33 rfl rfl,
    f_is_kind := is_of X G c 34 34 rfl rfl,
    f_law_cell := is_of X G c 35 35 rfl rfl,
    f_law_begin := is_of X G c 36 36 rfl rfl,
    f_law_take := is_of X G c 37 37 rfl rfl,
    f_law_steps := is_of X G c 38 38 rfl rfl,
    f_law_kind := is_of X G c 39 39 rfl rfl,
    f_law_some_cells := is_of X G c 40 40 rfl rfl,
    f_law_parts := is_of X G c 41 41 rfl rfl,
    f_law_yard := is_of X G c 42 42 rfl rfl,
    f_law_position := is_of X G c 43 43 rfl rfl,
    f_law_race := is_of X G c 44 44 rfl rfl,
    f_law_ends := is_of X G c 45 45 rfl rfl,
    f_law := is_of X G c 46 46 rfl rfl,
    b_abs := He.free_ok X G (c.fact 48 (f := .free "abs") rfl),
    b_all := He.free_ok X G (c.fact 49 (f := .free "all") rfl),
    b_any := He.free_ok X G (c.fact 50 (f := .free "any") rfl),
    b_int := He.free_ok X G (c.fact 51 (f := .free "int") rfl),
    b_len := He.free_ok X G (c.fact 52 (f := .free "len") rfl),
    b_list := He.free_ok X G (c.fact 53 (f := .free "list") rfl),
    b_max := He.free_ok X G (c.fact 54 (f := .free "max") rfl),
    b_min := He.free_ok X G (c.fact 55 (f := .free "min") rfl),
    b_range := He.free_ok X G (c.fact 56 (f := .free "range") rfl),
    b_set := He.free_ok X G (c.fact 57 (f := .free "set") rfl),
    b_sorted := He.free_ok X G (c.fact 58 (f := .free "sorted") rfl),
    b_tuple := He.free_ok X G (c.fact 59 (f := .free "tuple") rfl),
    i_MOST_PIECES := He.int_ok X G (c.fact 60 (f := .int "MOST_PIECES" 10) rfl),
    i_MOST_LINES := He.int_ok X G (c.fact 61 (f := .int "MOST_LINES" 4) rfl),
    i_MOST_MOVES := He.int_ok X G (c.fact 62 (f := .int "MOST_MOVES" 8) rfl),
    i_MOST_SIDE := He.int_ok X G (c.fact 63 (f := .int "MOST_SIDE" 5) rfl),
    i_MOST_KINDS := He.int_ok X G (c.fact 64 (f := .int "MOST_KINDS" 6) rfl),
    i_MOST_STEP := He.int_ok X G (c.fact 65 (f := .int "MOST_STEP" 4) rfl),
    i_WON := He.str_ok X G (c.fact 66 (f := .str "WON" "won") rfl),
    i_NOT := He.str_ok X G (c.fact 67 (f := .str "NOT" "not") rfl),
    i_LETTERS := He.str_ok X G (c.fact 68 (f := .str "LETTERS" "abcdefghijklmnopqrstuvwxyz") rfl),
    yC := He.glo_ok X G (c.fact 47 (f := .glo "Yard") rfl),
    yCl := He.cls_ok (c.fact 69 (f := .cls "Yard") rfl),
    y_height := He.noat_ok (c.fact 70 (f := .noat "Yard" "height") rfl),
    y_width := He.noat_ok (c.fact 71 (f := .noat "Yard" "width") rfl),
    y_holes := He.noat_ok (c.fact 72 (f := .noat "Yard" "holes") rfl),
    y_stuck := He.noat_ok (c.fact 73 (f := .noat "Yard" "stuck") rfl),
    y_goals := He.noat_ok (c.fact 74 (f := .noat "Yard" "goals") rfl),
    y_kinds := He.noat_ok (c.fact 75 (f := .noat "Yard" "kinds") rfl),
    m_init := ⟨_, _, (md_of c 47 (m := "__init__") rfl).choose_spec, He.mkr_ok (c.fact 78 (f := .mkr "Yard") rfl)⟩,
    m_on_board := ⟨_, _, (md_of c 48 (m := "on_board") rfl).choose_spec, He.meth_ok (c.fact 76 (f := .meth "Yard" "on_board") rfl)⟩,
    m_is_free := ⟨_, _, (md_of c 49 (m := "is_free") rfl).choose_spec, He.meth_ok (c.fact 77 (f := .meth "Yard" "is_free") rfl)⟩
  }
theorem law_facts {P : Program} {w : World} {K : PySem.W.Frag} {h : Heap} {mg : Str → Option Value} {f : Addr} (X : K.In h) (G : h.Ns mainGlobals mg) (hfa : mg ("law" : Str) = some (.ref f)) (c : He.SaysD facts defsD K) :
    ∃ fd : FuncData, (∀ (s : Shared) (v : Value), BindsTo s fd ⟨[v], []⟩ [("script", v)]) ∧ ∀ base : Heap, K.In base → base.Ns mainGlobals mg → FnOk P w K mg base CX0 16 f fd ["script"] (spLaw K) := by
  obtain ⟨f', fd, F, e'⟩ := is_of X G c 46 46 (x := "law") (st := s_law) rfl rfl
  have e := hfa.symm.trans e'
  cases e
  have b := FunD.bindsA (ps := ["script"]) F fun _ _ _ _ _ _ us hl => match us, hl with | [_], _ => rfl
  exact ⟨fd, fun s v => b s [v] rfl, fun base _ _ => fn_law (txt_of X G c) F⟩
end PY
open PySem PySem.W PySem.Calls PyProof.Rows
theorem PySem.Challenge.cw_pieceyard_k55_whole_lines_together_holds : PySem.Challenge.rw_pieceyard_k55_whole_lines_together.Holds := by
  w_on; o_law
  refine HandSHeadRun.head_any (r := OpenLaw.row PySem.Challenge.rw_pieceyard_k55_whole_lines_together) (q := view (OpenLaw.row PySem.Challenge.rw_pieceyard_k55_whole_lines_together).prog [80]) (H := PY.hk) (ob := PY.ob) (M := 12000) (loose := PY.loose) (d := HandSHeadRun.topDef (OpenLaw.row PySem.Challenge.rw_pieceyard_k55_whole_lines_together).prog 80) (kwd := []) PY.ob_eq
    (by kernel_rfl) (fun s => by kernel_rfl) PY.head_run (by kernel_rfl) (by kernel_rfl) (by kernel_rfl) (by rfl) (by first | assumption | decide +kernel) (by decide +kernel) ⟨rfl, rfl, rfl, rfl, rfl, by decide +kernel⟩ ?hw ?hc
  case hw => w_witness2
  case hc =>
    refine L2.walk_ofE (l := PySem.Challenge.rw_pieceyard_k55_whole_lines_together) (n := 63) (k := 16) (x := "script") (CX := L2.CX0) rfl (by decide) (by kernel_rfl) ⟨rfl, by decide, by decide⟩ ?F (fun _ _ _ _ z => z)
    intro w mg fa h Y G hmg0
    obtain ⟨K, KX, c⟩ := Y
    have hmg : mg ("law" : PySem.Str) = some (.ref fa) := by
      have e : (HandSHeadRun.topDef (OpenLaw.row PySem.Challenge.rw_pieceyard_k55_whole_lines_together).prog 80).name = ("law" : PySem.Str) := by kernel_rfl
      rw [← e]
      exact hmg0
    obtain ⟨fd, hb, hF⟩ := PY.law_facts (P := (PySem.Challenge.rw_pieceyard_k55_whole_lines_together).prog) (w := w) KX G hmg c
    exact ⟨K, fd, PY.spLaw K, KX, hb, fun H a ns hl _ hS => ⟨a, ns, rfl, hS, fun _ => rfl⟩, hF⟩
