/- CrowdPlaces of baterialaw06 is proved: for every input the law returns true, and the input reads as it did. Conditions: none. -/
import Derived.Test.YthjbfdfhblloiaaQ71
import Derived.Test.YthjbfdfhblloiaaQ63
import Derived.Test.YthjbfdfhblloiaaBaseC
import Derived.Test.YthjbfdfhblloiaaRows
import Derived.WalkKit
import Derived.ProofKit
import Derived.OpenShut
import Derived.ShutString
import Derived.ChangeOld
import Derived.Below
set_option linter.all false
set_option linter.unusedSimpArgs false
set_option linter.unusedVariables false
namespace Go.Proofs.Ythjbfdfhblloiaa.crowdPlacesDone
open Go.Av Go.Proofs.Ythjbfdfhblloiaa
open Go.ChangeShapes Go.WideShapes Go.ChangeAt Go.RowKit
set_option linter.unusedVariables false
theorem own : ownKnob Try.prog.godebug = none := by kernel_rfl
theorem laidOut : laidOutB Try.prog = true := by kernel_rfl
theorem walk (tw0 : Tw) (l1 : List Int) (p2 : Int) (p3 : Int) (l4 : List Int) (h0 : tw0.small) (h1 : l1.length ≤ maxLen) (h2 : I64 p2) (h3 : I64 p3) (h4 : l4.length ≤ maxLen) (w : World) {v0 v1 v2 v3 v4 : Value}
    (k0 : VR (c00 w) (tw0.av) v0) (k1 : VR (c00 w) (.lst 1 (l1.map iv)) v1) (k2 : VR (c00 w) (.int .i64 p2) v2) (k3 : VR (c00 w) (.int .i64 p3) v3) (k4 : VR (c00 w) (.lst 1 (l4.map iv)) v4) :
    Calls Try.prog 10 #[v0, v1, v2, v3, v4] w fun e w' => e = .returned (.bool true) ∧ Below w.heap.size w w' := by
  have e1 : (l1.length : Int) ≤ (maxLen : Nat) := Int.ofNat_le.2 h1
  have e4 : (l4.length : Int) ≤ (maxLen : Nat) := Int.ofNat_le.2 h4
  exact ACalls.walk (law10 tw0 l1 p2 p3 l4 h0 e1 h2 h3 e4 h00) (VRs.cons k0 (VRs.cons k1 (VRs.cons k2 (VRs.cons k3 (VRs.cons k4 VRs.nil)))))
set_option maxRecDepth 100000 in
theorem lifted (os : Os) (started : os.Started) (H : Type) (enc : TypeId × Value → H) :
    ReturnsInHanded {} Try.checked os 10 .any (Rows.crowdPlacesSpec.pre6 enc Try.prog Try.f10 Rows.crowdPlacesRow.domain false) (Rows.crowdPlacesSpec.post enc Try.prog Try.f10 false true false false) := by
  refine returnsInHanded_of_change (C := Try.checked) own started (by kernel_rfl) Try.func10
    (ChangeSpec.witness6 (enc := enc) (C := Try.checked) false ⟨#[], #[.agg #[.slice none 0 0, .slice none 0 0, .slice none 0 0, .int .i64 0], .slice none 0 0, .int .i64 0, .int .i64 0, .slice none 0 0], []⟩ 8 (by kernel_rfl) (by kernel_rfl) (by kernel_rfl) (by kernel_rfl)) ?_
  intro W base args ds gs before hval0 hW hcnd _
  have hval : ∀ (j : Nat) t v, Try.f10.params[j]? = some t → args[j]? = some v → Value.okWide Try.prog W .any base t v := hval0
  have hW' := hW
  obtain ⟨p, q, hA0, hV, rfl, hfz, hnd⟩ := hW
  have hA : DataW.TrodAll enc Try.prog W 0 (fun _ => true) true Try.f10.params.toList args.toList ds p := hA0
  rw [Try.params10] at hA hval
  obtain ⟨v0, vs0, d0, ds0, p0, q0, hargs0, rfl, rfl, k0, r0⟩ := trodAll_cons hA
  obtain ⟨v1, vs1, d1, ds1, p1, q1, hargs1, rfl, rfl, k1, r1⟩ := trodAll_cons r0
  obtain ⟨v2, vs2, d2, ds2, p2, q2, hargs2, rfl, rfl, k2, r2⟩ := trodAll_cons r1
  obtain ⟨v3, vs3, d3, ds3, p3, q3, hargs3, rfl, rfl, k3, r3⟩ := trodAll_cons r2
  obtain ⟨v4, vs4, d4, ds4, p4, q4, hargs4, rfl, rfl, k4, r4⟩ := trodAll_cons r3
  obtain ⟨rfl, rfl, rfl⟩ := trodAll_nil r4
  subst hargs4 hargs3 hargs2 hargs1
  obtain rfl : args = #[v0, v1, v2, v3, v4] := by cases args; simp_all
  obtain ⟨rfl, rfl⟩ := trodVars_none hV
  have lt0 : ∀ x ∈ p0, x.block < W.heap.size := by obtain ⟨m, hm⟩ := k0; exact DataW.trod_lt m _ _ _ hm
  have lt1 : ∀ x ∈ p1, x.block < W.heap.size := by obtain ⟨m, hm⟩ := k1; exact DataW.trod_lt m _ _ _ hm
  have lt2 : ∀ x ∈ p2, x.block < W.heap.size := by obtain ⟨m, hm⟩ := k2; exact DataW.trod_lt m _ _ _ hm
  have lt3 : ∀ x ∈ p3, x.block < W.heap.size := by obtain ⟨m, hm⟩ := k3; exact DataW.trod_lt m _ _ _ hm
  have lt4 : ∀ x ∈ p4, x.block < W.heap.size := by obtain ⟨m, hm⟩ := k4; exact DataW.trod_lt m _ _ _ hm
  have o0 := hval 0 26 v0 rfl rfl
  have o1 := hval 1 22 v1 rfl rfl
  have o2 := hval 2 3 v2 rfl rfl
  have o3 := hval 3 3 v3 rfl rfl
  have o4 := hval 4 22 v4 rfl rfl
  obtain ⟨s0, u0, t0⟩ := arg_struct (d := 8) Try.underlying26 (by kernel_rfl) o0 k0
  obtain ⟨a1, b1, c1, w1⟩ := okWide_slice Try.underlying22 o1
  obtain ⟨s1, u1, t1⟩ := arg_cell (d := 8) (by kernel_rfl) (by rw [w1]; rfl) k1
  obtain ⟨n2, w2⟩ := okWide_int Try.underlying3 o2
  obtain ⟨s2, u2, t2⟩ := arg_cell (d := 8) (by kernel_rfl) (by rw [w2]; rfl) k2
  obtain ⟨n3, w3⟩ := okWide_int Try.underlying3 o3
  obtain ⟨s3, u3, t3⟩ := arg_cell (d := 8) (by kernel_rfl) (by rw [w3]; rfl) k3
  obtain ⟨a4, b4, c4, w4⟩ := okWide_slice Try.underlying22 o4
  obtain ⟨s4, u4, t4⟩ := arg_cell (d := 8) (by kernel_rfl) (by rw [w4]; rfl) k4
  obtain ⟨tw0, x0, y0⟩ := shpTown t0
  obtain ⟨l1, x1, y1⟩ := shpNums t1
  obtain ⟨p2, x2, y2⟩ := shpInt t2
  obtain ⟨p3, x3, y3⟩ := shpInt t3
  obtain ⟨l4, x4, y4⟩ := shpNums t4
  rw [x0] at u0
  obtain rfl : s1 = .lst 1 (l1.map iv) := by simpa using x1
  obtain rfl : s2 = .int .i64 p2 := by simpa using x2
  obtain rfl : s3 = .int .i64 p3 := by simpa using x3
  obtain rfl : s4 = .lst 1 (l4.map iv) := by simpa using x4
  clear hA0 hval0
  refine (walk tw0 l1 p2 p3 l4 y0 y1 y2 y3 y4 W u0 u1 u2 u3 u4).mono fun e W' ⟨he, bel⟩ => ?_
  subst he
  exact ⟨_, rfl, _, _, _, [], _, [], hW', trodAll_mk1 (shut_bool Try.underlying4 _), (trodAll_cons_mk (Below.trod laidOut (by kernel_rfl) (of_decide_eq_true (by kernel_rfl)) k0 bel lt0) (trodAll_cons_mk (Below.trod laidOut (by kernel_rfl) (of_decide_eq_true (by kernel_rfl)) k1 bel lt1) (trodAll_cons_mk (Below.trod laidOut (by kernel_rfl) (of_decide_eq_true (by kernel_rfl)) k2 bel lt2) (trodAll_cons_mk (Below.trod laidOut (by kernel_rfl) (of_decide_eq_true (by kernel_rfl)) k3 bel lt3) (trodAll_cons_mk (Below.trod laidOut (by kernel_rfl) (of_decide_eq_true (by kernel_rfl)) k4 bel lt4) trodAll_mk0))))), rfl, bel.frame _, fun h => by cases h⟩
theorem over : Rows.crowdPlacesRow.holds Try.pinned (OpenSpec.ofChange Rows.crowdPlacesSpec) :=
  OpenClaim.holds_of_wide 10 Try.f10 rfl rfl rfl rfl rfl rfl rfl ⟨rfl, rfl, rfl, rfl, rfl⟩ rfl rfl rfl rfl rfl (by kernel_rfl) Try.func10 (by kernel_rfl)
    (of_decide_eq_true (by kernel_rfl)) (by unfold Func.isWrapper; first | (rw [if_pos (by decide +kernel)]; kernel_rfl) | (rw [if_neg (by decide +kernel)]; exact ⟨rfl, rfl⟩))
    (fun os started H enc _ => lifted os started H enc)
theorem proved : Rows.CrowdPlacesSaid := over
#print axioms proved
end Go.Proofs.Ythjbfdfhblloiaa.crowdPlacesDone
