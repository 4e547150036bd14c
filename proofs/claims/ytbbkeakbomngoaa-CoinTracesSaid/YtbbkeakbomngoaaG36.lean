/- CoinTraces of baterialaw09 is proved: for every input the law returns true, and the input reads as it did. Conditions: none. -/
import Derived.Test.YtbbkeakbomngoaaG35
import Derived.Test.YtbbkeakbomngoaaGS
import Derived.Test.YtbbkeakbomngoaaBaseC
import Derived.Test.YtbbkeakbomngoaaRows
import Derived.WalkKit
import Derived.ProofKit
import Derived.OpenShut
import Derived.ShutString
import Derived.ChangeOld
import Derived.Below
set_option linter.all false
set_option linter.unusedSimpArgs false
set_option linter.unusedVariables false
namespace Go.Proofs.Ytbbkeakbomngoaa.coinTracesDone
open Go.Av Go.Proofs.Ytbbkeakbomngoaa
open Go.ChangeShapes Go.WideShapes Go.ChangeAt Go.RowKit
set_option linter.unusedVariables false
theorem own : ownKnob Try.prog.godebug = none := by kernel_rfl
theorem laidOut : laidOutB Try.prog = true := by kernel_rfl
theorem walk (lg0 : Lg) (z1 : Bl) (p2 : Int) (l3 : List Int) (h0 : lg0.small) (h2 : I64 p2) (h3 : l3.length ≤ maxLen) (w : World) {v0 v1 v2 v3 : Value}
    (k0 : VR (c00 w) (lg0.av) v0) (k1 : VR (c00 w) (.agg z1.row) v1) (k2 : VR (c00 w) (.int .i64 p2) v2) (k3 : VR (c00 w) (.lst 1 (l3.map iv)) v3) :
    Calls Try.prog 3 #[v0, v1, v2, v3] w fun e w' => e = .returned (.bool true) ∧ Below w.heap.size w w' := by
  have e3 : (l3.length : Int) ≤ (maxLen : Nat) := Int.ofNat_le.2 h3
  exact ACalls.walk (law3 lg0 z1 p2 l3 h0 h2 e3 h00) (VRs.cons k0 (VRs.cons k1 (VRs.cons k2 (VRs.cons k3 VRs.nil))))
set_option maxRecDepth 100000 in
theorem lifted (os : Os) (started : os.Started) (H : Type) (enc : TypeId × Value → H) :
    ReturnsInHanded {} Try.checked os 3 .any (Rows.coinTracesSpec.pre6 enc Try.prog Try.f3 Rows.coinTracesRow.domain false) (Rows.coinTracesSpec.post enc Try.prog Try.f3 false true false false) := by
  refine returnsInHanded_of_change (C := Try.checked) own started (by kernel_rfl) Try.func3
    (ChangeSpec.witness6 (enc := enc) (C := Try.checked) false ⟨#[], #[.agg #[.slice none 0 0, .slice none 0 0], .agg #[.int .i64 0, .int .i64 0, .int .i64 0], .int .i64 0, .slice none 0 0], []⟩ 8 (by kernel_rfl) (by kernel_rfl) (by kernel_rfl) (by kernel_rfl)) ?_
  intro W base args ds gs before hval0 hW hcnd _
  have hval : ∀ (j : Nat) t v, Try.f3.params[j]? = some t → args[j]? = some v → Value.okWide Try.prog W .any base t v := hval0
  have hW' := hW
  obtain ⟨p, q, hA0, hV, rfl, hfz, hnd⟩ := hW
  have hA : DataW.TrodAll enc Try.prog W 0 (fun _ => true) true Try.f3.params.toList args.toList ds p := hA0
  rw [Try.params3] at hA hval
  obtain ⟨v0, vs0, d0, ds0, p0, q0, hargs0, rfl, rfl, k0, r0⟩ := trodAll_cons hA
  obtain ⟨v1, vs1, d1, ds1, p1, q1, hargs1, rfl, rfl, k1, r1⟩ := trodAll_cons r0
  obtain ⟨v2, vs2, d2, ds2, p2, q2, hargs2, rfl, rfl, k2, r2⟩ := trodAll_cons r1
  obtain ⟨v3, vs3, d3, ds3, p3, q3, hargs3, rfl, rfl, k3, r3⟩ := trodAll_cons r2
  obtain ⟨rfl, rfl, rfl⟩ := trodAll_nil r3
  subst hargs3 hargs2 hargs1
  obtain rfl : args = #[v0, v1, v2, v3] := by cases args; simp_all
  obtain ⟨rfl, rfl⟩ := trodVars_none hV
  have lt0 : ∀ x ∈ p0, x.block < W.heap.size := by obtain ⟨m, hm⟩ := k0; exact DataW.trod_lt m _ _ _ hm
  have lt1 : ∀ x ∈ p1, x.block < W.heap.size := by obtain ⟨m, hm⟩ := k1; exact DataW.trod_lt m _ _ _ hm
  have lt2 : ∀ x ∈ p2, x.block < W.heap.size := by obtain ⟨m, hm⟩ := k2; exact DataW.trod_lt m _ _ _ hm
  have lt3 : ∀ x ∈ p3, x.block < W.heap.size := by obtain ⟨m, hm⟩ := k3; exact DataW.trod_lt m _ _ _ hm
  have o0 := hval 0 25 v0 rfl rfl
  have o1 := hval 1 27 v1 rfl rfl
  have o2 := hval 2 3 v2 rfl rfl
  have o3 := hval 3 28 v3 rfl rfl
  obtain ⟨s0, u0, t0⟩ := arg_struct (d := 8) Try.underlying25 (by kernel_rfl) o0 k0
  obtain ⟨s1, u1, t1⟩ := arg_struct (d := 8) Try.underlying27 (by kernel_rfl) o1 k1
  obtain ⟨n2, w2⟩ := okWide_int Try.underlying3 o2
  obtain ⟨s2, u2, t2⟩ := arg_cell (d := 8) (by kernel_rfl) (by rw [w2]; rfl) k2
  obtain ⟨a3, b3, c3, w3⟩ := okWide_slice Try.underlying28 o3
  obtain ⟨s3, u3, t3⟩ := arg_cell (d := 8) (by kernel_rfl) (by rw [w3]; rfl) k3
  obtain ⟨lg0, x0, y0⟩ := shpLedger t0
  obtain ⟨z1, x1⟩ := shpBill t1
  obtain ⟨p2, x2, y2⟩ := shpInt t2
  obtain ⟨l3, x3, y3⟩ := shpNums t3
  rw [x0] at u0
  rw [x1] at u1
  obtain rfl : s2 = .int .i64 p2 := by simpa using x2
  obtain rfl : s3 = .lst 1 (l3.map iv) := by simpa using x3
  clear hA0 hval0
  refine (walk lg0 z1 p2 l3 y0 y2 y3 W u0 u1 u2 u3).mono fun e W' ⟨he, bel⟩ => ?_
  subst he
  exact ⟨_, rfl, _, _, _, [], _, [], hW', trodAll_mk1 (shut_bool Try.underlying4 _), (trodAll_cons_mk (Below.trod laidOut (by kernel_rfl) (of_decide_eq_true (by kernel_rfl)) k0 bel lt0) (trodAll_cons_mk (Below.trod laidOut (by kernel_rfl) (of_decide_eq_true (by kernel_rfl)) k1 bel lt1) (trodAll_cons_mk (Below.trod laidOut (by kernel_rfl) (of_decide_eq_true (by kernel_rfl)) k2 bel lt2) (trodAll_cons_mk (Below.trod laidOut (by kernel_rfl) (of_decide_eq_true (by kernel_rfl)) k3 bel lt3) trodAll_mk0)))), rfl, bel.frame _, fun h => by cases h⟩
theorem over : Rows.coinTracesRow.holds Try.pinned (OpenSpec.ofChange Rows.coinTracesSpec) :=
  OpenClaim.holds_of_wide 3 Try.f3 rfl rfl rfl rfl rfl rfl rfl ⟨rfl, rfl, rfl, rfl, rfl⟩ rfl rfl rfl rfl rfl (by kernel_rfl) Try.func3 (by kernel_rfl)
    (of_decide_eq_true (by kernel_rfl)) (by unfold Func.isWrapper; first | (rw [if_pos (by decide +kernel)]; kernel_rfl) | (rw [if_neg (by decide +kernel)]; exact ⟨rfl, rfl⟩))
    (fun os started H enc _ => lifted os started H enc)
theorem proved : Rows.CoinTracesSaid := over
#print axioms proved
end Go.Proofs.Ytbbkeakbomngoaa.coinTracesDone
