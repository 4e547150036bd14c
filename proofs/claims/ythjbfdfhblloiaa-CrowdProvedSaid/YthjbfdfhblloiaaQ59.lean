/- CrowdProved of baterialaw06 is proved: for every input the law returns true, and the input reads as it did. Conditions: none. -/
import Derived.Test.YthjbfdfhblloiaaQ58
import Derived.Test.YthjbfdfhblloiaaQS
import Derived.Test.YthjbfdfhblloiaaBaseC
import Derived.Test.YthjbfdfhblloiaaRows
import Derived.WalkKit
import Derived.ProofKit
import Derived.OpenShut
import Derived.ShutString
import Derived.ChangeOld
import Derived.Below
set_option linter.all false
set_option linter.unusedSimpArgs false
set_option linter.unusedVariables false
namespace Go.Proofs.Ythjbfdfhblloiaa.crowdProvedDone
open Go.Av Go.Proofs.Ythjbfdfhblloiaa
open Go.ChangeShapes Go.WideShapes Go.ChangeAt Go.RowKit
set_option linter.unusedVariables false
theorem own : ownKnob Try.prog.godebug = none := by kernel_rfl
theorem laidOut : laidOutB Try.prog = true := by kernel_rfl
theorem walk (l0 : List Int) (p1 : Int) (p2 : Int) (h0 : l0.length ≤ maxLen) (h1 : I64 p1) (h2 : I64 p2) (w : World) {v0 v1 v2 : Value}
    (k0 : VR (c00 w) (.lst 1 (l0.map iv)) v0) (k1 : VR (c00 w) (.int .i64 p1) v1) (k2 : VR (c00 w) (.int .i64 p2) v2) :
    Calls Try.prog 13 #[v0, v1, v2] w fun e w' => e = .returned (.bool true) ∧ Below w.heap.size w w' := by
  have e0 : (l0.length : Int) ≤ (maxLen : Nat) := Int.ofNat_le.2 h0
  exact ACalls.walk (law13 l0 p1 p2 e0 h1 h2 h00) (VRs.cons k0 (VRs.cons k1 (VRs.cons k2 VRs.nil)))
set_option maxRecDepth 100000 in
theorem lifted (os : Os) (started : os.Started) (H : Type) (enc : TypeId × Value → H) :
    ReturnsInHanded {} Try.checked os 13 .any (Rows.crowdProvedSpec.pre6 enc Try.prog Try.f13 Rows.crowdProvedRow.domain false) (Rows.crowdProvedSpec.post enc Try.prog Try.f13 false true false false) := by
  refine returnsInHanded_of_change (C := Try.checked) own started (by kernel_rfl) Try.func13
    (ChangeSpec.witness6 (enc := enc) (C := Try.checked) false ⟨#[], #[.slice none 0 0, .int .i64 0, .int .i64 0], []⟩ 8 (by kernel_rfl) (by kernel_rfl) (by kernel_rfl) (by kernel_rfl)) ?_
  intro W base args ds gs before hval0 hW hcnd _
  have hval : ∀ (j : Nat) t v, Try.f13.params[j]? = some t → args[j]? = some v → Value.okWide Try.prog W .any base t v := hval0
  have hW' := hW
  obtain ⟨p, q, hA0, hV, rfl, hfz, hnd⟩ := hW
  have hA : DataW.TrodAll enc Try.prog W 0 (fun _ => true) true Try.f13.params.toList args.toList ds p := hA0
  rw [Try.params13] at hA hval
  obtain ⟨v0, vs0, d0, ds0, p0, q0, hargs0, rfl, rfl, k0, r0⟩ := trodAll_cons hA
  obtain ⟨v1, vs1, d1, ds1, p1, q1, hargs1, rfl, rfl, k1, r1⟩ := trodAll_cons r0
  obtain ⟨v2, vs2, d2, ds2, p2, q2, hargs2, rfl, rfl, k2, r2⟩ := trodAll_cons r1
  obtain ⟨rfl, rfl, rfl⟩ := trodAll_nil r2
  subst hargs2 hargs1
  obtain rfl : args = #[v0, v1, v2] := by cases args; simp_all
  obtain ⟨rfl, rfl⟩ := trodVars_none hV
  have lt0 : ∀ x ∈ p0, x.block < W.heap.size := by obtain ⟨m, hm⟩ := k0; exact DataW.trod_lt m _ _ _ hm
  have lt1 : ∀ x ∈ p1, x.block < W.heap.size := by obtain ⟨m, hm⟩ := k1; exact DataW.trod_lt m _ _ _ hm
  have lt2 : ∀ x ∈ p2, x.block < W.heap.size := by obtain ⟨m, hm⟩ := k2; exact DataW.trod_lt m _ _ _ hm
  have o0 := hval 0 22 v0 rfl rfl
  have o1 := hval 1 3 v1 rfl rfl
  have o2 := hval 2 3 v2 rfl rfl
  obtain ⟨a0, b0, c0, w0⟩ := okWide_slice Try.underlying22 o0
  obtain ⟨s0, u0, t0⟩ := arg_cell (d := 8) (by kernel_rfl) (by rw [w0]; rfl) k0
  obtain ⟨n1, w1⟩ := okWide_int Try.underlying3 o1
  obtain ⟨s1, u1, t1⟩ := arg_cell (d := 8) (by kernel_rfl) (by rw [w1]; rfl) k1
  obtain ⟨n2, w2⟩ := okWide_int Try.underlying3 o2
  obtain ⟨s2, u2, t2⟩ := arg_cell (d := 8) (by kernel_rfl) (by rw [w2]; rfl) k2
  obtain ⟨l0, x0, y0⟩ := shpNums t0
  obtain ⟨p1, x1, y1⟩ := shpInt t1
  obtain ⟨p2, x2, y2⟩ := shpInt t2
  obtain rfl : s0 = .lst 1 (l0.map iv) := by simpa using x0
  obtain rfl : s1 = .int .i64 p1 := by simpa using x1
  obtain rfl : s2 = .int .i64 p2 := by simpa using x2
  clear hA0 hval0
  refine (walk l0 p1 p2 y0 y1 y2 W u0 u1 u2).mono fun e W' ⟨he, bel⟩ => ?_
  subst he
  exact ⟨_, rfl, _, _, _, [], _, [], hW', trodAll_mk1 (shut_bool Try.underlying4 _), (trodAll_cons_mk (Below.trod laidOut (by kernel_rfl) (of_decide_eq_true (by kernel_rfl)) k0 bel lt0) (trodAll_cons_mk (Below.trod laidOut (by kernel_rfl) (of_decide_eq_true (by kernel_rfl)) k1 bel lt1) (trodAll_cons_mk (Below.trod laidOut (by kernel_rfl) (of_decide_eq_true (by kernel_rfl)) k2 bel lt2) trodAll_mk0))), rfl, bel.frame _, fun h => by cases h⟩
theorem over : Rows.crowdProvedRow.holds Try.pinned (OpenSpec.ofChange Rows.crowdProvedSpec) :=
  OpenClaim.holds_of_wide 13 Try.f13 rfl rfl rfl rfl rfl rfl rfl ⟨rfl, rfl, rfl, rfl, rfl⟩ rfl rfl rfl rfl rfl (by kernel_rfl) Try.func13 (by kernel_rfl)
    (of_decide_eq_true (by kernel_rfl)) (by unfold Func.isWrapper; first | (rw [if_pos (by decide +kernel)]; kernel_rfl) | (rw [if_neg (by decide +kernel)]; exact ⟨rfl, rfl⟩))
    (fun os started H enc _ => lifted os started H enc)
theorem proved : Rows.CrowdProvedSaid := over
#print axioms proved
end Go.Proofs.Ythjbfdfhblloiaa.crowdProvedDone
