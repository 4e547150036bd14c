/- Contracts of functions that the claim reaches: what each call gives, told in our own logic. Conditions: those of each theorem. -/
import Derived.Test.YtbbkeakbomngoaaP11
set_option linter.all false
set_option linter.unusedSimpArgs false
set_option linter.unusedVariables false
namespace Go.Proofs.Ytbbkeakbomngoaa
open Go.Av
set_option maxRecDepth 20000
/-! ### Flaws -/
structure Fl where
  k : Int
  b : Int
  f : Int
def Fl.row (x : Fl) : List AV := [.int .i64 x.k, .int .i64 x.b, .int .i64 x.f]
@[go_sem] theorem Fl.row_eq (x : Fl) : x.row = [.int .i64 x.k, .int .i64 x.b, .int .i64 x.f] := rfl
def useF (l : Lg) (t : List (List Int)) (i f : Nat) : List Fl := if 0 < elt (lel t i) f ∧ payB (fd l.fs f) (bl l.bs i) = false then [⟨2, (i : Nat), (f : Nat)⟩] else []
def bilF (l : Lg) (t : List (List Int)) (i : Nat) : List Fl := if sumL (lel t i) ≠ (bl l.bs i).amt then [⟨1, (i : Nat), 0⟩] else []
def rowFl (l : Lg) (t : List (List Int)) (i : Nat) : List Fl := bilF l t i ++ catN (useF l t i) l.fs.length
def colS (t : List (List Int)) (f n : Nat) : Int := sumF (fun i => elt (lel t i) f) n
def funF (l : Lg) (t : List (List Int)) (f : Nat) : List Fl := if (fd l.fs f).amt < colS t f l.bs.length then [⟨3, 0, (f : Nat)⟩] else []
def flL (l : Lg) (t : List (List Int)) : List Fl := catN (rowFl l t) l.bs.length ++ catN (funF l t) l.fs.length
def sqB (l : Lg) (t : List (List Int)) : Bool := t.all fun r => decide (r.length = l.fs.length)
def numB (t : List (List Int)) : Bool := t.all fun r => allIn 0 1000000000 r
def audE (l : Lg) (t : List (List Int)) : Int := if chkE l ≠ 0 then chkE l else if t.length ≠ l.bs.length then 1 else if sqB l t = false then 1 else if numB t = false then 2 else 0
def audL (l : Lg) (t : List (List Int)) : List Fl := if audE l t ≠ 0 then [] else flL l t
structure Tab (l : Lg) (t : List (List Int)) : Prop where
  ok : LgOk l
  len : t.length = l.bs.length
  row : ∀ i, i < l.bs.length → (lel t i).length = l.fs.length
  num : ∀ i, i < l.bs.length → allIn 0 1000000000 (lel t i) = true
theorem lelI_mem {t : List (List Int)} {i : Nat} (h : i < t.length) : lel t i ∈ t := by
  unfold lel; rw [List.getD_eq_getElem?_getD, List.getElem?_eq_getElem h]; exact List.getElem_mem _
theorem tab_of {l : Lg} {t : List (List Int)} (h : audE l t = 0) : Tab l t := by
  unfold audE at h
  by_cases h0 : chkE l = 0
  case neg => rw [if_pos h0] at h; exact absurd h h0
  rw [if_neg (fun e => e h0)] at h
  by_cases h1 : t.length = l.bs.length
  case neg => rw [if_pos h1] at h; cases h
  rw [if_neg (fun e => e h1)] at h
  cases h2 : sqB l t
  · rw [h2] at h; simp at h
  cases h3 : numB t
  · rw [h2, h3] at h; simp at h
  exact ⟨ledgerOk h0, h1, fun i hi => of_decide_eq_true (List.all_eq_true.1 h2 _ (lelI_mem (by omega))), fun i hi => List.all_eq_true.1 h3 _ (lelI_mem (by omega))⟩
theorem Tab.of {l : Lg} {t : List (List Int)} (h : Tab l t) (h0 : chkE l = 0) : audE l t = 0 := by
  have hm : ∀ x ∈ t, ∃ i, i < l.bs.length ∧ lel t i = x := fun x hx => by
    obtain ⟨i, hi, e⟩ := List.mem_iff_getElem.1 hx
    exact ⟨i, by rw [← h.len]; exact hi, by unfold lel; rw [List.getD_eq_getElem?_getD, List.getElem?_eq_getElem hi]; exact e⟩
  have h2 : sqB l t = true := List.all_eq_true.2 fun x hx => by
    obtain ⟨i, hi, rfl⟩ := hm x hx
    exact decide_eq_true (h.row i hi)
  have h3 : numB t = true := List.all_eq_true.2 fun x hx => by
    obtain ⟨i, hi, rfl⟩ := hm x hx
    exact h.num i hi
  unfold audE
  rw [if_neg (fun e => e h0), if_neg (fun e => e h.len), if_neg (by rw [h2]; simp), if_neg (by rw [h3]; simp)]
theorem Tab.elt {l : Lg} {t : List (List Int)} (h : Tab l t) {i : Nat} (hi : i < l.bs.length) (f : Nat) : 0 ≤ elt (lel t i) f ∧ elt (lel t i) f ≤ 1000000000 := by
  by_cases hf : f < (lel t i).length
  · exact allIn_elt (h.num i hi) f hf
  · rw [elt_out (by omega)]; omega
end Go.Proofs.Ytbbkeakbomngoaa
