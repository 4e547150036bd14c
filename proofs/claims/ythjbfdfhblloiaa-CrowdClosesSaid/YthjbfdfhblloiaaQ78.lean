/- CrowdCloses of baterialaw06 is proved: for every input the law returns true, and the input reads as it did. Conditions: none. -/
import Derived.Test.YthjbfdfhblloiaaQ77
import Derived.Test.YthjbfdfhblloiaaQS
import Derived.Test.YthjbfdfhblloiaaBaseC
import Derived.Test.YthjbfdfhblloiaaRows
import Derived.WalkKit
import Derived.ProofKit
import Derived.OpenShut
import Derived.ShutString
import Derived.ChangeOld
import Derived.Below
set_option linter.all false
set_option linter.unusedSimpArgs false
set_option linter.unusedVariables false
namespace Go.Proofs.Ythjbfdfhblloiaa.crowdClosesDone
open Go.Av Go.Proofs.Ythjbfdfhblloiaa
open Go.ChangeShapes Go.WideShapes Go.ChangeAt Go.RowKit
set_option linter.unusedVariables false
theorem own : ownKnob Try.prog.godebug = none:=by kernel_rfl
theorem laidOut : laidOutB Try.prog = true:=by kernel_rfl
theorem walk (tw0 : Tw) (p1 : Int) (l2 : List Int) (h0 : tw0.small) (h1 : I64 p1) (h2 : l2.length ≤ maxLen) (w : World) {v0 v1 v2 : Value}
    (k0 : VR (c00 w) (tw0.av) v0) (k1 : VR (c00 w) (.int .i64 p1) v1) (k2 : VR (c00 w) (.lst 1 (l2.map iv)) v2) :
    Calls Try.prog 12 #[v0,v1,v2] w fun e w' => e = .returned (.bool true) ∧ Below w.heap.size w w':=by
  have e2 : (l2.length : Int) ≤ (maxLen : Nat):=Int.ofNat_le.2 h2
  exact ACalls.walk (law12 tw0 p1 l2 h0 h1 e2 h00) (VRs.cons k0 (VRs.cons k1 (VRs.cons k2 VRs.nil)))
set_option maxRecDepth 100000 in
theorem lifted (os : Os) (started : os.Started) (H : Type) (enc : TypeId × Value → H) :
    ReturnsInHanded {} Try.checked os 12 .any (Rows.crowdClosesSpec.pre6 enc Try.prog Try.f12 Rows.crowdClosesRow.domain false) (Rows.crowdClosesSpec.post enc Try.prog Try.f12 false true false false):=by
  refine returnsInHanded_of_change (C:=Try.checked) own started (by kernel_rfl) Try.func12
    (ChangeSpec.witness6 (enc:=enc) (C:=Try.checked) false ⟨#[],#[.agg #[.slice none 0 0,.slice none 0 0,.slice none 0 0,.int .i64 0],.int .i64 0,.slice none 0 0],[]⟩ 8 (by kernel_rfl) (by kernel_rfl) (by kernel_rfl) (by kernel_rfl)) ?_
  intro W base args ds gs before hval0 hW hcnd _
  have hval : ∀ (j : Nat) t v,Try.f12.params[j]? = some t → args[j]? = some v → Value.okWide Try.prog W .any base t v:=hval0
  have hW':=hW
  obtain ⟨p,q,hA0,hV,rfl,hfz,hnd⟩:=hW
  have hA : DataW.TrodAll enc Try.prog W 0 (fun _ => true) true Try.f12.params.toList args.toList ds p:=hA0
  rw [Try.params12] at hA hval
  obtain ⟨v0,vs0,d0,ds0,p0,q0,hargs0,rfl,rfl,k0,r0⟩:=trodAll_cons hA
  obtain ⟨v1,vs1,d1,ds1,p1,q1,hargs1,rfl,rfl,k1,r1⟩:=trodAll_cons r0
  obtain ⟨v2,vs2,d2,ds2,p2,q2,hargs2,rfl,rfl,k2,r2⟩:=trodAll_cons r1
  obtain ⟨rfl,rfl,rfl⟩:=trodAll_nil r2
  subst hargs2 hargs1
  obtain rfl : args = #[v0,v1,v2]:=by cases args;simp_all
  obtain ⟨rfl,rfl⟩:=trodVars_none hV
  have lt0 : ∀ x ∈ p0,x.block < W.heap.size:=by obtain ⟨m,hm⟩:=k0;exact DataW.trod_lt m _ _ _ hm
  have lt1 : ∀ x ∈ p1,x.block < W.heap.size:=by obtain ⟨m,hm⟩:=k1;exact DataW.trod_lt m _ _ _ hm
  have lt2 : ∀ x ∈ p2,x.block < W.heap.size:=by obtain ⟨m,hm⟩:=k2;exact DataW.trod_lt m _ _ _ hm
  have o0:=hval 0 26 v0 rfl rfl
  have o1:=hval 1 3 v1 rfl rfl
  have o2:=hval 2 22 v2 rfl rfl
  obtain ⟨s0,u0,t0⟩:=arg_struct (d:=8) Try.underlying26 (by kernel_rfl) o0 k0
  obtain ⟨n1,w1⟩:=okWide_int Try.underlying3 o1
  obtain ⟨s1,u1,t1⟩:=arg_cell (d:=8) (by kernel_rfl) (by rw [w1];rfl) k1
  obtain ⟨a2,b2,c2,w2⟩:=okWide_slice Try.underlying22 o2
  obtain ⟨s2,u2,t2⟩:=arg_cell (d:=8) (by kernel_rfl) (by rw [w2];rfl) k2
  obtain ⟨tw0,x0,y0⟩:=shpTown t0
  obtain ⟨p1,x1,y1⟩:=shpInt t1
  obtain ⟨l2,x2,y2⟩:=shpNums t2
  rw [x0] at u0
  obtain rfl : s1 = .int .i64 p1:=by simpa using x1
  obtain rfl : s2 = .lst 1 (l2.map iv):=by simpa using x2
  clear hA0 hval0
  refine (walk tw0 p1 l2 y0 y1 y2 W u0 u1 u2).mono fun e W' ⟨he,bel⟩ => ?_
  subst he
  exact ⟨_,rfl,_,_,_,[],_,[],hW',trodAll_mk1 (shut_bool Try.underlying4 _),(trodAll_cons_mk (Below.trod laidOut (by kernel_rfl) (of_decide_eq_true (by kernel_rfl)) k0 bel lt0) (trodAll_cons_mk (Below.trod laidOut (by kernel_rfl) (of_decide_eq_true (by kernel_rfl)) k1 bel lt1) (trodAll_cons_mk (Below.trod laidOut (by kernel_rfl) (of_decide_eq_true (by kernel_rfl)) k2 bel lt2) trodAll_mk0))),rfl,bel.frame _,fun h => by cases h⟩
theorem over : Rows.crowdClosesRow.holds Try.pinned (OpenSpec.ofChange Rows.crowdClosesSpec) :=
  OpenClaim.holds_of_wide 12 Try.f12 rfl rfl rfl rfl rfl rfl rfl ⟨rfl,rfl,rfl,rfl,rfl⟩ rfl rfl rfl rfl rfl (by kernel_rfl) Try.func12 (by kernel_rfl)
    (of_decide_eq_true (by kernel_rfl)) (by unfold Func.isWrapper;first | (rw [if_pos (by decide +kernel)];kernel_rfl) | (rw [if_neg (by decide +kernel)];exact ⟨rfl,rfl⟩))
    (fun os started H enc _ => lifted os started H enc)
theorem proved : Rows.CrowdClosesSaid:=over
#print axioms proved
end Go.Proofs.Ythjbfdfhblloiaa.crowdClosesDone
