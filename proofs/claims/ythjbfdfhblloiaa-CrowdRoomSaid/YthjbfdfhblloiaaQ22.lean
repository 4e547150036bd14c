/- Contracts of functions that the claim reaches: what each call gives, told in our own logic. Conditions: those of each theorem. -/
import Derived.Test.YthjbfdfhblloiaaQ21
set_option linter.all false
set_option linter.unusedSimpArgs false
set_option linter.unusedVariables false
namespace Go.Proofs.Ythjbfdfhblloiaa
open Go.Av
attribute [local irreducible] thenA blockA awp awpOps awpD awp1
set_option maxHeartbeats 8000000
set_option maxRecDepth 20000
/-! ### What is a proof -/
def cntZ (s : List Int) : Nat := s.countP fun x => decide (x = 0)
theorem elt_set (s : List Int) (i : Nat) (v : Int) (hi : i < s.length) : elt (s.set i v) = upd (elt s) i v := by
  funext j
  unfold upd
  show (s.set i v).getD j 0 = if j = i then v else s.getD j 0
  rw [List.getD_eq_getElem?_getD, List.getElem?_set, List.getD_eq_getElem?_getD]
  by_cases e : i = j
  · subst e; rw [if_pos rfl, if_pos hi, if_pos rfl]; rfl
  · rw [if_neg e, if_neg (fun q => e q.symm)]
theorem cntZ_set : ∀ (s : List Int) (i : Nat) (v : Int), i < s.length → elt s i = 0 → v ≠ 0 → cntZ (s.set i v) + 1 = cntZ s
  | [], i, v, h, _, _ => absurd h (Nat.not_lt_zero _)
  | x :: s, 0, v, h, h0, hv => by
    have e : x = 0 := h0
    subst e
    simp [cntZ, hv]
  | x :: s, i + 1, v, h, h0, hv => by
    have ih := cntZ_set s i v (by simpa using h) (by simpa [elt] using h0) hv
    unfold cntZ at *
    rw [List.set_cons_succ, List.countP_cons, List.countP_cons]
    omega
theorem sumF_more {F : Nat → Int} {n : Nat} : ∀ {m : Nat}, n ≤ m → (∀ i, n ≤ i → i < m → F i = 0) → sumF F m = sumF F n
  | 0, h, _ => by obtain rfl : n = 0 := by omega
                  rfl
  | m + 1, h, hz => by
    by_cases e : n = m + 1
    · rw [e]
    · show sumF F m + F m = _
      rw [sumF_more (m := m) (by omega) (fun i h1 h2 => hz i h1 (by omega)), hz m (by omega) (by omega), Int.add_zero]
theorem elt_none {s : List Int} {i : Nat} (h : s.length ≤ i) : elt s i = 0 := by
  unfold elt; rw [List.getD_eq_getElem?_getD, List.getElem?_eq_none h]; rfl
theorem shN_eq (s : List Int) (h : s.length ≤ 12) : shF (elt s) 12 = shN s := by
  unfold shF shN
  exact sumF_more h fun i h1 _ => by rw [if_neg (by rw [elt_none h1]; decide)]
def rn (l : List Rn) (i : Nat) : Rn := l.getD i ⟨0, 0, 0, 0⟩
@[go_sem] theorem rrow_getD {l : List Rn} {i : Nat} (h : i < l.length) : (l.map Rn.row).getD i [] = (rn l i).row := by
  simp [List.getD_eq_getElem?_getD, h, rn]
def pcap (b : Nat × Nat) (t : Tw) (most : Int) (p : List Rn) : List AV := [.ptr b 0 0, .iptr [.lst 4 (p.map Rn.row)] 0, .iptr [.int .i64 most] 0, .iptr t.cells 0]
@[go_sem] theorem pknot (b : Nat × Nat) (t : Tw) (most : Int) (p : List Rn) (d : Nat) : knot (.func 69) (pcap b t most p) (d + 1) = .iptr [.fn (.func 69) [] [.ptr b 0 0, .iptr [.lst 4 (p.map Rn.row)] 0, .iptr [.int .i64 most] 0, .iptr t.cells 0, knot (.func 69) (pcap b t most p) d]] 0 := rfl
theorem rn_eq3 (r : Rn) : ([(IntKind.i64, r.kind), (.i64, r.st), (.i64, r.sq), (.i64, r.step)] = [(IntKind.i64, (3 : Int)), (.i64, 0), (.i64, 0), (.i64, 0)]) ↔ r = ⟨3, 0, 0, 0⟩ := by
  cases r; simp
theorem rn_eq2 (r : Rn) : ([(IntKind.i64, r.kind), (.i64, r.st), (.i64, r.sq), (.i64, r.step)] = [(IntKind.i64, (2 : Int)), (.i64, 0), (.i64, r.sq), (.i64, r.step)]) ↔ r.kind = 2 ∧ r.st = 0 := by
  simp
theorem rn_eq1 (r : Rn) : ([(IntKind.i64, r.kind), (.i64, r.st), (.i64, r.sq), (.i64, r.step)] = [(IntKind.i64, (1 : Int)), (.i64, r.st), (.i64, 0), (.i64, 0)]) ↔ r.kind = 1 ∧ r.sq = 0 ∧ r.step = 0 := by
  simp
def W69 (t : Tw) (most : Int) (p : List Rn) (b : Nat × Nat) (k d : Nat) (s : List Int) (i : Nat) (h : AH) : Prop :=
    ACalls Try.prog 69 [.agg (stR (elt s)), .ptr b 0 0, .iptr [.lst 4 (p.map Rn.row)] 0, .iptr [.int .i64 most] 0, .iptr t.cells 0, knot (.func 69) (pcap b t most p) d] h
      (fun v h' => h.clk ≤ h'.clk ∧ h'.lp = h.lp ∧ (∀ b' : Bid, b' ≠ b → b'.1 < h.clk → h'.at_ b' = h.at_ b') ∧ ∃ i', i' ≤ p.length ∧ h'.at_ b = some ⟨1, [[.int .i64 ((i' : Nat) : Int)]]⟩ ∧ ((v = .bool true ∧ pvd t most k s (p.drop i) = some (p.drop i')) ∨ (v = .bool false ∧ pvd t most k s (p.drop i) = none)))
end Go.Proofs.Ythjbfdfhblloiaa
