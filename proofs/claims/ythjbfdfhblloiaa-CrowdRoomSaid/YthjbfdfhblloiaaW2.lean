/- Contracts of functions that the claim reaches: what each call gives, told in our own logic. Conditions: those of each theorem. -/
import Derived.Test.YthjbfdfhblloiaaW1
set_option linter.all false
set_option linter.unusedSimpArgs false
set_option linter.unusedVariables false
namespace Go.Proofs.Ythjbfdfhblloiaa
open Go.Av
set_option maxRecDepth 20000
/-! ### What is known when the search has ended -/
structure SFin (t : Tw) (c : List Int) (to frm : Int) (M : List (Int × Int)) : Prop where
  ok : ∀ q v, fndM M q = some v → ∃ n : Nat, v = n ∧ isD t c to n q
  none_ : fndM M frm = none → dst t c to frm = none
  full : ∀ D, isD t c to D frm → ∀ q, 0 ≤ q → ∀ n, n ≤ D → isD t c to n q → fndM M q = some (n : Int)
theorem Bfs.fin {t : Tw} (hT : TwOk t) {c : List Int} {to frm : Int} (hto : 0 ≤ to ∧ to < t.rooms.length) (hf : 0 ≤ frm) {M : List (Int × Int)} {k : Nat} (B : Bfs t c to M k) (h : k = M.length ∨ (k < M.length ∧ ky M k = frm)) : SFin t c to frm M := by
  have key : ∀ q, q ∈ keysM M → ∀ n, isD t c to n q → fndM M q = some (n : Int) := fun q hq n hn => by
    obtain ⟨i, hi, e⟩ := mem_ky hq
    obtain ⟨_, n', e2, h2⟩ := B.ok i hi
    rw [← e, fndM_at B.nd hi, e2]
    rw [e] at h2
    rw [isD_one h2 hn]
  refine ⟨fun q v hv => B.get hv, fun hn => ?_, fun D hD q hq n hnD hn => key q ?_ n hn⟩
  · rw [dst_none hT hto hf]
    intro n
    cases e : lvl t c to n frm
    · rfl
    · exfalso
      refine fndM_none.1 hn ?_
      rcases h with rfl | ⟨hk, e2⟩
      · exact B.all hT n frm hf e
      · rw [← e2]; exact ky_mem hk
  · rcases h with rfl | ⟨hk, e2⟩
    · exact B.all hT n q hq hn.1
    · obtain ⟨_, n', e3, h2⟩ := B.ok k hk
      rw [e2] at h2
      have := isD_one h2 hD
      exact B.full hk q hq n (by omega) hn.1
theorem keysM_drop {M : List (Int × Int)} {k : Nat} (h : k < M.length) : (keysM M).drop k = ky M k :: (keysM M).drop (k + 1) := by
  have h' : k < (keysM M).length := by simpa [keysM] using h
  rw [List.drop_eq_getElem_cons h']
  congr 1
  simp [keysM, ky, List.getD_eq_getElem?_getD, h]
theorem wayL_drop (t : Tw) (c : List Int) (to : Int) (d : Nat) (q : Int) : (wayL t c to (d + 1) q).drop 1 = nxN t c to d q t.sts.length :: (wayL t c to d (nxN t c to d q t.sts.length)).drop 1 := by
  show wayL t c to d _ = _
  cases d <;> rfl
def wayO (t : Tw) (c : List Int) (frm to : Int) : Option Nat → AV
  | none => .tup [.lst 1 [], .int .i64 7]
  | some d => .tup [.lst 1 ((wayL t c to d frm).map iv), .int .i64 0]
def wayV (t : Tw) (c : List Int) (frm to : Int) : AV :=
  if cloE t c ≠ 0 then .tup [.lst 1 [], .int .i64 (cloE t c)] else if ¬ (0 ≤ frm ∧ frm ≤ t.rooms.length - 1 ∧ 0 ≤ to ∧ to ≤ t.rooms.length - 1) then .tup [.lst 1 [], .int .i64 7] else wayO t c frm to (dst t c to frm)
end Go.Proofs.Ythjbfdfhblloiaa
