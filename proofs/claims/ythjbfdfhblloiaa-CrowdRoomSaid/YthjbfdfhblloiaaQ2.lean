/- Contracts of functions that the claim reaches: what each call gives, told in our own logic. Conditions: those of each theorem. -/
import Derived.Test.YthjbfdfhblloiaaQ1
set_option linter.all false
set_option linter.unusedSimpArgs false
set_option linter.unusedVariables false
namespace Go.Proofs.Ythjbfdfhblloiaa
open Go.Av
set_option maxRecDepth 20000
/-! ### Choices, squares that are too full, and proofs, plain -/
def catN {α : Type} (g : Nat → List α) : Nat → List α
  | 0 => []
  | k + 1 => catN g k ++ g k
def catK (g : Nat → List (List Int)) (a : Nat) : Nat → List (List Int)
  | 0 => []
  | k + 1 => catK g a k ++ g (a + k)
/-- All lists of so many numbers, ascending, from one on and below another. -/
def chs (n : Nat) : Nat → Nat → List (List Int)
  | 0, _ => [[]]
  | m + 1, a => catK (fun i => (chs n m (i + 1)).map (((i : Nat) : Int) :: ·)) a (n - a)
/-- The state in which some streets are closed. -/
def cls (l : List Int) (i : Nat) : Int := if l.contains ((i : Nat) : Int) then 2 else 1
structure Cr where
  step : Int
  sq : Int
  most : Int
def Cr.row (x : Cr) : List AV := [.int .i64 x.step, .int .i64 x.sq, .int .i64 x.most]
@[go_sem] theorem Cr.row_eq (x : Cr) : x.row = [.int .i64 x.step, .int .i64 x.sq, .int .i64 x.most] := rfl
def crF (t : Tw) (s : Nat → Int) (st q : Nat) : List Cr := if elt t.rooms q < ldHi t s (q : Nat) (st : Nat) then [⟨(st : Nat), (q : Nat), ldHi t s (q : Nat) (st : Nat)⟩] else []
def crS (t : Tw) (s : Nat → Int) (st : Nat) : List Cr := catN (crF t s st) t.rooms.length
def crL (t : Tw) (s : Nat → Int) : List Cr := catN (crS t s) (t.steps + 1).toNat
def chsAll (n most : Nat) : List (List Int) := catN (fun m => chs n m 0) (min most n + 1)
/-- The fewest streets to close, at most so many. -/
def clo (t : Tw) (most : Nat) : Option (List Int) := (chsAll t.sts.length most).find? fun l => (crL t (cls l)).isEmpty
structure Rn where
  kind : Int
  st : Int
  sq : Int
  step : Int
  deriving DecidableEq
def Rn.row (x : Rn) : List AV := [.int .i64 x.kind, .int .i64 x.st, .int .i64 x.sq, .int .i64 x.step]
@[go_sem] theorem Rn.row_eq (x : Rn) : x.row = [.int .i64 x.kind, .int .i64 x.st, .int .i64 x.sq, .int .i64 x.step] := rfl
/-- How many streets are closed in a state. -/
def shN (s : List Int) : Int := sumF (fun i => if elt s i = 2 then 1 else 0) s.length
/-- What is left of a list behind the proof that it begins with. -/
def pvd (t : Tw) (most : Int) : Nat → List Int → List Rn → Option (List Rn)
  | 0, _, _ => none
  | _ + 1, _, [] => none
  | k + 1, s, r :: rest =>
    if r = ⟨3, 0, 0, 0⟩ then (if most < shN s then some rest else none)
    else if r.kind = 2 ∧ r.st = 0 then (if 0 ≤ r.sq ∧ r.sq < t.rooms.length ∧ 0 ≤ r.step ∧ r.step ≤ t.steps ∧ elt t.rooms r.sq.toNat < ldHi t (elt s) r.sq r.step then some rest else none)
    else if r.kind = 1 ∧ r.sq = 0 ∧ r.step = 0 then
      (if 0 ≤ r.st ∧ r.st < t.sts.length ∧ elt s r.st.toNat = 0 then match pvd t most k (s.set r.st.toNat 1) rest with
        | none => none
        | some r2 => pvd t most k (s.set r.st.toNat 2) r2
       else none)
    else none
end Go.Proofs.Ythjbfdfhblloiaa
