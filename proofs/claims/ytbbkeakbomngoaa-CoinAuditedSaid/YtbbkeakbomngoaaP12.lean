/- Contracts of functions that the claim reaches: what each call gives, told in our own logic. Conditions: those of each theorem. -/
import Derived.Test.YtbbkeakbomngoaaP11
set_option linter.all false
set_option linter.unusedSimpArgs false
set_option linter.unusedVariables false
namespace Go.Proofs.Ytbbkeakbomngoaa
open Go.Av
set_option maxRecDepth 20000
/-! ### Flaws -/
structure Fl where
  k : Int
  b : Int
  f : Int
def Fl.row (x : Fl) : List AV := [.int .i64 x.k, .int .i64 x.b, .int .i64 x.f]
@[go_sem] theorem Fl.row_eq (x : Fl) : x.row = [.int .i64 x.k, .int .i64 x.b, .int .i64 x.f] := rfl
def useF (l : Lg) (t : List (List Int)) (i f : Nat) : List Fl := if 0 < elt (lel t i) f ∧ payB (fd l.fs f) (bl l.bs i) = false then [⟨2, (i : Nat), (f : Nat)⟩] else []
def bilF (l : Lg) (t : List (List Int)) (i : Nat) : List Fl := if sumL (lel t i) ≠ (bl l.bs i).amt then [⟨1, (i : Nat), 0⟩] else []
def rowFl (l : Lg) (t : List (List Int)) (i : Nat) : List Fl := bilF l t i ++ catN (useF l t i) l.fs.length
def colS (t : List (List Int)) (f n : Nat) : Int := sumF (fun i => elt (lel t i) f) n
def funF (l : Lg) (t : List (List Int)) (f : Nat) : List Fl := if (fd l.fs f).amt < colS t f l.bs.length then [⟨3, 0, (f : Nat)⟩] else []
def flL (l : Lg) (t : List (List Int)) : List Fl := catN (rowFl l t) l.bs.length ++ catN (funF l t) l.fs.length
def sqB (l : Lg) (t : List (List Int)) : Bool := t.all fun r => decide (r.length = l.fs.length)
def numB (t : List (List Int)) : Bool := t.all fun r => allIn 0 1000000000 r
def audE (l : Lg) (t : List (List Int)) : Int := if chkE l ≠ 0 then chkE l else if t.length ≠ l.bs.length then 1 else if sqB l t = false then 1 else if numB t = false then 2 else 0
def audL (l : Lg) (t : List (List Int)) : List Fl := if audE l t ≠ 0 then [] else flL l t
structure Tab (l : Lg) (t : List (List Int)) : Prop where
  ok : LgOk l
  len : t.length = l.bs.length
  row : ∀ i, i < l.bs.length → (lel t i).length = l.fs.length
  num : ∀ i, i < l.bs.length → allIn 0 1000000000 (lel t i) = true
theorem lelI_mem {t : List (List Int)} {i : Nat} (h : i < t.length) : lel t i ∈ t := by
  unfold lel; rw [List.getD_eq_getElem?_getD, List.getElem?_eq_getElem h]; exact List.getElem_mem _
theorem Tab.of {l : Lg} {t : List (List Int)} (h : Tab l t) (h0 : chkE l = 0) : audE l t = 0 := by
  have hm : ∀ x ∈ t, ∃ i, i < l.bs.length ∧ lel t i = x := fun x hx => by
    obtain ⟨i, hi, e⟩ := List.mem_iff_getElem.1 hx
    exact ⟨i, by rw [← h.len]; exact hi, by unfold lel; rw [List.getD_eq_getElem?_getD, List.getElem?_eq_getElem hi]; exact e⟩
  have h2 : sqB l t = true := List.all_eq_true.2 fun x hx => by
    obtain ⟨i, hi, rfl⟩ := hm x hx
    exact decide_eq_true (h.row i hi)
  have h3 : numB t = true := List.all_eq_true.2 fun x hx => by
    obtain ⟨i, hi, rfl⟩ := hm x hx
    exact h.num i hi
  unfold audE
  rw [if_neg (fun e => e h0), if_neg (fun e => e h.len), if_neg (by rw [h2]; simp), if_neg (by rw [h3]; simp)]
theorem Tab.elt {l : Lg} {t : List (List Int)} (h : Tab l t) {i : Nat} (hi : i < l.bs.length) (f : Nat) : 0 ≤ elt (lel t i) f ∧ elt (lel t i) f ≤ 1000000000 := by
  by_cases hf : f < (lel t i).length
  · exact allIn_elt (h.num i hi) f hf
  · rw [elt_out (by omega)]; omega
theorem catN_nilI {α : Type} {g : Nat → List α} : ∀ {k : Nat}, catN g k = [] → ∀ n, n < k → g n = []
  | 0, _, n, h => absurd h (Nat.not_lt_zero _)
  | k + 1, h, n, hn => by
    have h' : catN g k ++ g k = [] := h
    obtain ⟨h1, h2⟩ := List.append_eq_nil_iff.1 h'
    by_cases e : n = k
    · rw [e]; exact h2
    · exact catN_nilI h1 n (by omega)
theorem flL_nil {l : Lg} {t : List (List Int)} (h : Tab l t) : flL l t = [] ↔ Valid l t := by
  unfold flL
  rw [List.append_eq_nil_iff]
  constructor
  · rintro ⟨h1, h2⟩
    refine ⟨h.len, fun i hi => ?_, fun f hf => ?_⟩
    · obtain ⟨a, b⟩ := List.append_eq_nil_iff.1 (show bilF l t i ++ catN (useF l t i) l.fs.length = [] from catN_nilI h1 i hi)
      refine ⟨h.row i hi, fun f => (h.elt hi f).1, fun f hf => ?_, ?_⟩
      · have hf' : f < l.fs.length := Nat.lt_of_not_le fun c => by rw [elt_out (by rw [h.row i hi]; exact c)] at hf; omega
        have := catN_nilI b f hf'
        unfold useF at this
        cases hp : payB (fd l.fs f) (bl l.bs i)
        · rw [if_pos ⟨hf, hp⟩] at this; cases this
        · rfl
      · unfold bilF at a
        by_cases c : sumL (lel t i) = (bl l.bs i).amt
        · rw [← c]; unfold sumL; rw [h.row i hi]
        · rw [if_pos c] at a; cases a
    · have := catN_nilI h2 f hf
      unfold funF at this
      by_cases c : (fd l.fs f).amt < colS t f l.bs.length
      · rw [if_pos c] at this; cases this
      · unfold colS at c; omega
  · intro hv
    refine ⟨catN_nil fun i hi => List.append_eq_nil_iff.2 ⟨?_, catN_nil fun f hf => ?_⟩, catN_nil fun f hf => ?_⟩
    · unfold bilF; rw [if_neg]
      have := (hv.row i hi).sum
      unfold sumL; rw [h.row i hi, this]; simp
    · unfold useF; rw [if_neg]
      rintro ⟨a, b⟩
      rw [(hv.row i hi).can f a] at b; cases b
    · unfold funF; rw [if_neg]
      have := hv.col f hf
      unfold colS; omega
theorem valid_tab {l : Lg} (hl : LgOk l) {t : List (List Int)} (hv : Valid l t) : Tab l t := by
  refine ⟨hl, hv.len, fun i hi => (hv.row i hi).len, fun i hi => List.all_eq_true.2 fun x hx => ?_⟩
  obtain ⟨f, hf, e⟩ := List.mem_iff_getElem.1 hx
  have e' : elt (lel t i) f = x := by unfold elt; rw [List.getD_eq_getElem?_getD, List.getElem?_eq_getElem hf]; exact e
  have h1 := (hv.row i hi).nn f
  have h2 := sumF_term (F := elt (lel t i)) (n := l.fs.length) (k := f) (by rw [← (hv.row i hi).len]; exact hf) (fun j _ => (hv.row i hi).nn j)
  rw [(hv.row i hi).sum] at h2
  have h3 := (hl.b _ (bl_mem hi)).amt
  rw [e'] at h1 h2
  exact decide_eq_true ⟨h1, by omega⟩
end Go.Proofs.Ytbbkeakbomngoaa
