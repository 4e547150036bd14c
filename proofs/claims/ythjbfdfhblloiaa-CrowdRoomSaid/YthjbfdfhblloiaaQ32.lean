/- Contracts of functions that the claim reaches: what each call gives, told in our own logic. Conditions: those of each theorem. -/
import Derived.Test.YthjbfdfhblloiaaBaseD
import Derived.Test.YthjbfdfhblloiaaQ17
import Derived.Test.YthjbfdfhblloiaaQ2
set_option linter.all false
set_option linter.unusedSimpArgs false
set_option linter.unusedVariables false
namespace Go.Proofs.Ythjbfdfhblloiaa
open Go.Av
attribute [local irreducible] thenA blockA awp awpOps awpD awp1
set_option maxHeartbeats 8000000
set_option maxRecDepth 20000
/-! ### All choices, as a list -/
def rowA (r : List Int) : List AV := [.lst 1 (r.map iv)]
def lel (l : List (List Int)) (i : Nat) : List Int := l.getD i []
@[go_sem] theorem rowA_getD {l : List (List Int)} {i : Nat} (h : i < l.length) : (l.map rowA).getD i [] = [.lst 1 ((lel l i).map iv)] := by
  simp [lel, rowA, List.getD_eq_getElem?_getD, h]
def rowsN (bs : Nat → Nat × Nat) (t : List (List Int)) : List (List AV) := (List.range t.length).map fun j => nrow (bs j) ((lel t j).map iv)
theorem lel_app {t : List (List Int)} {r : List Int} {j : Nat} (h : j < t.length) : lel (t ++ [r]) j = lel t j := by
  unfold lel; simp only [List.getD_eq_getElem?_getD]; rw [List.getElem?_append_left h]
theorem lel_last {t : List (List Int)} {r : List Int} : lel (t ++ [r]) t.length = r := by
  unfold lel; simp only [List.getD_eq_getElem?_getD]; simp
/-- The rows that lie in blocks. -/
structure RowsN (n0 : Nat) (g : AH) (v : AV) (bs : Nat → Nat × Nat) (t : List (List Int)) : Prop where
  at_ : ∀ j, j < t.length → g.at_ (bs j) = some ⟨1, (lel t j).map iv⟩
  ge : ∀ j, j < t.length → n0 ≤ (bs j).1
  lt : ∀ j, j < t.length → (bs j).1 < g.clk
  ne : ∀ j, j < t.length → ∀ m, v ≠ .slc (bs j) 1 0 m
  inj : ∀ j k, j < t.length → k < t.length → bs j = bs k → j = k
theorem RowsN.add {n0 k0 d N nn : Nat} {g H G : AH} {v v' : AV} {bs : Nat → Nat × Nat} {t : List (List Int)} {row : List Int} {bb : Nat × Nat} {l : List (List AV)} (hA : AppA n0 k0 d H v 1 nn l v' G) (hR : RowsN n0 g v bs t) (hS : SlA n0 g v 1 (rowsN bs t)) (hH : ∀ b : Bid, b.1 < g.clk → H.at_ b = g.at_ b) (hbb : H.at_ bb = some ⟨1, row.map iv⟩) (hb1 : g.clk ≤ bb.1) (hbN : bb.1 < N) (hbd : bb ≠ (k0, d)) (hk0 : g.clk ≤ k0) (hn0 : n0 ≤ g.clk) : RowsN n0 (G.tick N) v' (fun j => if j = t.length then bb else bs j) (t ++ [row]) := by
  have hlen : (t ++ [row]).length = t.length + 1 := by simp
  have hnew : ∀ b' : Nat × Nat, (∀ m, v' = .slc b' 1 0 m → b' = (k0, d)) := fun b' m e => by
    rcases hA.new with e' | e'
    · rw [e'] at e; cases e
    · rw [e'] at e; injection e with e1; exact e1.symm
  refine ⟨fun j hj => ?_, fun j hj => ?_, fun j hj => ?_, fun j hj m e => ?_, fun j k hj hk e => ?_⟩
  · show G.at_ (if j = t.length then bb else bs j) = _
    by_cases q : j = t.length
    · rw [if_pos q, q, lel_last, hA.keep bb (fun m e => by have := (hS.lt e).2.1; omega) hbd]; exact hbb
    · have hj' : j < t.length := by omega
      have q2 := hR.lt j hj'
      rw [if_neg q, lel_app hj', hA.keep (bs j) (hR.ne j hj') (fun e => by rw [e] at q2; dsimp only at q2; omega), hH _ q2]
      exact hR.at_ j hj'
  · show _ ≤ (if j = t.length then bb else bs j).1
    by_cases q : j = t.length
    · rw [if_pos q]; omega
    · rw [if_neg q]; exact hR.ge j (by omega)
  · show (if j = t.length then bb else bs j).1 < N
    by_cases q : j = t.length
    · rw [if_pos q]; exact hbN
    · rw [if_neg q]; have := hR.lt j (by omega); omega
  · have q1 := hnew _ m e
    by_cases q : j = t.length
    · rw [if_pos q] at q1; exact hbd q1
    · rw [if_neg q] at q1; have := hR.lt j (by omega); rw [q1] at this; dsimp only at this; omega
  · have e : (if j = t.length then bb else bs j) = (if k = t.length then bb else bs k) := e
    by_cases q : j = t.length
    · by_cases q2 : k = t.length
      · omega
      · rw [if_pos q, if_neg q2] at e; have := hR.lt k (by omega); rw [← e] at this; omega
    · by_cases q2 : k = t.length
      · rw [if_neg q, if_pos q2] at e; have := hR.lt j (by omega); rw [e] at this; omega
      · rw [if_neg q, if_neg q2] at e; exact hR.inj j k (by omega) (by omega) e
theorem RowsN.tick {n0 : Nat} {g : AH} {v : AV} {bs : Nat → Nat × Nat} {t : List (List Int)} (hR : RowsN n0 g v bs t) {n : Nat} (hn : g.clk ≤ n) : RowsN n0 (g.tick n) v bs t :=
  ⟨hR.at_, hR.ge, fun j hj => Nat.lt_of_lt_of_le (hR.lt j hj) hn, hR.ne, hR.inj⟩
def chG (n m : Nat) (i : Nat) : List (List Int) := (chs n m (i + 1)).map (((i : Nat) : Int) :: ·)
theorem VLe.lst {e : Nat} {es es' : List (List AV)} (hl : es'.length = es.length) (hr : ∀ c xs, VRss c es xs → VRss c es' xs) (hc : ∀ r ∈ es', r.length = e ∧ r.all AV.cell = true) : VLe (.lst e es) (.lst e es') := by
  intro c x h
  simp only [VR] at h ⊢
  obtain ⟨a, cap, vs, h1, h2, h3, h4, h5, h6⟩ := h
  refine ⟨a, cap, vs, by rw [hl]; exact h1, by rw [hl]; exact h2, fun ea => ?_, hc, h5, hr c vs h6⟩
  have := h3 ea
  subst this
  exact List.length_eq_zero_iff.1 hl
end Go.Proofs.Ythjbfdfhblloiaa
