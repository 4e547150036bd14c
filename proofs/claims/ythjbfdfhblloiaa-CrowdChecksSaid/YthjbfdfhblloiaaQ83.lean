/- CrowdChecks of baterialaw06 is proved: for every input the law returns true, and the input reads as it did. Conditions: none. -/
import Derived.Test.YthjbfdfhblloiaaQ82
import Derived.Test.YthjbfdfhblloiaaQS
import Derived.Test.YthjbfdfhblloiaaBaseC
import Derived.Test.YthjbfdfhblloiaaRows
import Derived.WalkKit
import Derived.ProofKit
import Derived.OpenShut
import Derived.ShutString
import Derived.ChangeOld
import Derived.Below
set_option linter.all false
set_option linter.unusedSimpArgs false
set_option linter.unusedVariables false
namespace Go.Proofs.Ythjbfdfhblloiaa.crowdChecksDone
open Go.Av Go.Proofs.Ythjbfdfhblloiaa
open Go.ChangeShapes Go.WideShapes Go.ChangeAt Go.RowKit
set_option linter.unusedVariables false
theorem own:ownKnob Try.prog.godebug=none:=by kernel_rfl
theorem laidOut:laidOutB Try.prog=true:=by kernel_rfl
theorem walk (tw0:Tw) (p1:Int) (rl2:List Rn) (z3:Rn) (p4:Int) (l5:List Int) (h0:tw0.small) (h1:I64 p1) (h2:rl2.length≤maxLen) (h4:I64 p4) (h5:l5.length≤maxLen) (w:World) {v0 v1 v2 v3 v4 v5:Value}
    (k0:VR (c00 w) (tw0.av) v0) (k1:VR (c00 w) (.int .i64 p1) v1) (k2:VR (c00 w) (.lst 4 (rl2.map Rn.row)) v2) (k3:VR (c00 w) (.agg z3.row) v3) (k4:VR (c00 w) (.int .i64 p4) v4) (k5:VR (c00 w) (.lst 1 (l5.map iv)) v5) :
    Calls Try.prog 3 #[v0,v1,v2,v3,v4,v5] w fun e w'=>e=.returned (.bool true)∧Below w.heap.size w w':=by
  have e5:(l5.length:Int)≤(maxLen:Nat):=Int.ofNat_le.2 h5
  exact ACalls.walk (law3 tw0 p1 rl2 z3 p4 l5 h0 h1 h2 h4 e5 h00) (VRs.cons k0 (VRs.cons k1 (VRs.cons k2 (VRs.cons k3 (VRs.cons k4 (VRs.cons k5 VRs.nil))))))
set_option maxRecDepth 100000 in
theorem lifted (os:Os) (started:os.Started) (H:Type) (enc:TypeId × Value→H) :
    ReturnsInHanded {} Try.checked os 3 .any (Rows.crowdChecksSpec.pre6 enc Try.prog Try.f3 Rows.crowdChecksRow.domain false) (Rows.crowdChecksSpec.post enc Try.prog Try.f3 false true false false):=by
  refine returnsInHanded_of_change (C:=Try.checked) own started (by kernel_rfl) Try.func3
    (ChangeSpec.witness6 (enc:=enc) (C:=Try.checked) false ⟨#[],#[.agg #[.slice none 0 0,.slice none 0 0,.slice none 0 0,.int .i64 0],.int .i64 0,.slice none 0 0,.agg #[.int .i64 0,.int .i64 0,.int .i64 0,.int .i64 0],.int .i64 0,.slice none 0 0],[]⟩ 8 (by kernel_rfl) (by kernel_rfl) (by kernel_rfl) (by kernel_rfl)) ?_
  intro W base args ds gs before hval0 hW hcnd _
  have hval:∀ (j:Nat) t v,Try.f3.params[j]?=some t→args[j]?=some v→Value.okWide Try.prog W .any base t v:=hval0
  have hW':=hW
  obtain ⟨p,q,hA0,hV,rfl,hfz,hnd⟩:=hW
  have hA:DataW.TrodAll enc Try.prog W 0 (fun _=>true) true Try.f3.params.toList args.toList ds p:=hA0
  rw [Try.params3] at hA hval
  obtain ⟨v0,vs0,d0,ds0,p0,q0,hargs0,rfl,rfl,k0,r0⟩:=trodAll_cons hA
  obtain ⟨v1,vs1,d1,ds1,p1,q1,hargs1,rfl,rfl,k1,r1⟩:=trodAll_cons r0
  obtain ⟨v2,vs2,d2,ds2,p2,q2,hargs2,rfl,rfl,k2,r2⟩:=trodAll_cons r1
  obtain ⟨v3,vs3,d3,ds3,p3,q3,hargs3,rfl,rfl,k3,r3⟩:=trodAll_cons r2
  obtain ⟨v4,vs4,d4,ds4,p4,q4,hargs4,rfl,rfl,k4,r4⟩:=trodAll_cons r3
  obtain ⟨v5,vs5,d5,ds5,p5,q5,hargs5,rfl,rfl,k5,r5⟩:=trodAll_cons r4
  obtain ⟨rfl,rfl,rfl⟩:=trodAll_nil r5
  subst hargs5 hargs4 hargs3 hargs2 hargs1
  obtain rfl:args=#[v0,v1,v2,v3,v4,v5]:=by cases args;simp_all
  obtain ⟨rfl,rfl⟩:=trodVars_none hV
  have lt0:∀ x ∈ p0,x.block < W.heap.size:=by obtain ⟨m,hm⟩:=k0;exact DataW.trod_lt m _ _ _ hm
  have lt1:∀ x ∈ p1,x.block < W.heap.size:=by obtain ⟨m,hm⟩:=k1;exact DataW.trod_lt m _ _ _ hm
  have lt2:∀ x ∈ p2,x.block < W.heap.size:=by obtain ⟨m,hm⟩:=k2;exact DataW.trod_lt m _ _ _ hm
  have lt3:∀ x ∈ p3,x.block < W.heap.size:=by obtain ⟨m,hm⟩:=k3;exact DataW.trod_lt m _ _ _ hm
  have lt4:∀ x ∈ p4,x.block < W.heap.size:=by obtain ⟨m,hm⟩:=k4;exact DataW.trod_lt m _ _ _ hm
  have lt5:∀ x ∈ p5,x.block < W.heap.size:=by obtain ⟨m,hm⟩:=k5;exact DataW.trod_lt m _ _ _ hm
  have o0:=hval 0 26 v0 rfl rfl
  have o1:=hval 1 3 v1 rfl rfl
  have o2:=hval 2 27 v2 rfl rfl
  have o3:=hval 3 29 v3 rfl rfl
  have o4:=hval 4 3 v4 rfl rfl
  have o5:=hval 5 22 v5 rfl rfl
  obtain ⟨s0,u0,t0⟩:=arg_struct (d:=8) Try.underlying26 (by kernel_rfl) o0 k0
  obtain ⟨n1,w1⟩:=okWide_int Try.underlying3 o1
  obtain ⟨s1,u1,t1⟩:=arg_cell (d:=8) (by kernel_rfl) (by rw [w1];rfl) k1
  obtain ⟨a2,b2,c2,w2⟩:=okWide_slice Try.underlying27 o2
  obtain ⟨s2,u2,t2⟩:=arg_cell (d:=8) (by kernel_rfl) (by rw [w2];rfl) k2
  obtain ⟨s3,u3,t3⟩:=arg_struct (d:=8) Try.underlying29 (by kernel_rfl) o3 k3
  obtain ⟨n4,w4⟩:=okWide_int Try.underlying3 o4
  obtain ⟨s4,u4,t4⟩:=arg_cell (d:=8) (by kernel_rfl) (by rw [w4];rfl) k4
  obtain ⟨a5,b5,c5,w5⟩:=okWide_slice Try.underlying22 o5
  obtain ⟨s5,u5,t5⟩:=arg_cell (d:=8) (by kernel_rfl) (by rw [w5];rfl) k5
  obtain ⟨tw0,x0,y0⟩:=shpTown t0
  obtain ⟨p1,x1,y1⟩:=shpInt t1
  obtain ⟨rl2,x2,y2⟩:=shpProof t2
  obtain ⟨z3,x3⟩:=shpReason t3
  obtain ⟨p4,x4,y4⟩:=shpInt t4
  obtain ⟨l5,x5,y5⟩:=shpNums t5
  rw [x0] at u0
  obtain rfl:s1=.int .i64 p1:=by simpa using x1
  obtain rfl:s2=.lst 4 (rl2.map Rn.row):=by simpa using x2
  rw [x3] at u3
  obtain rfl:s4=.int .i64 p4:=by simpa using x4
  obtain rfl:s5=.lst 1 (l5.map iv):=by simpa using x5
  clear hA0 hval0
  refine (walk tw0 p1 rl2 z3 p4 l5 y0 y1 y2 y4 y5 W u0 u1 u2 u3 u4 u5).mono fun e W' ⟨he,bel⟩=>?_
  subst he
  exact ⟨_,rfl,_,_,_,[],_,[],hW',trodAll_mk1 (shut_bool Try.underlying4 _),(trodAll_cons_mk (Below.trod laidOut (by kernel_rfl) (of_decide_eq_true (by kernel_rfl)) k0 bel lt0) (trodAll_cons_mk (Below.trod laidOut (by kernel_rfl) (of_decide_eq_true (by kernel_rfl)) k1 bel lt1) (trodAll_cons_mk (Below.trod laidOut (by kernel_rfl) (of_decide_eq_true (by kernel_rfl)) k2 bel lt2) (trodAll_cons_mk (Below.trod laidOut (by kernel_rfl) (of_decide_eq_true (by kernel_rfl)) k3 bel lt3) (trodAll_cons_mk (Below.trod laidOut (by kernel_rfl) (of_decide_eq_true (by kernel_rfl)) k4 bel lt4) (trodAll_cons_mk (Below.trod laidOut (by kernel_rfl) (of_decide_eq_true (by kernel_rfl)) k5 bel lt5) trodAll_mk0)))))),rfl,bel.frame _,fun h=>by cases h⟩
theorem over:Rows.crowdChecksRow.holds Try.pinned (OpenSpec.ofChange Rows.crowdChecksSpec) :=
  OpenClaim.holds_of_wide 3 Try.f3 rfl rfl rfl rfl rfl rfl rfl ⟨rfl,rfl,rfl,rfl,rfl⟩ rfl rfl rfl rfl rfl (by kernel_rfl) Try.func3 (by kernel_rfl)
    (of_decide_eq_true (by kernel_rfl)) (by unfold Func.isWrapper;first|(rw [if_pos (by decide +kernel)];kernel_rfl)|(rw [if_neg (by decide +kernel)];exact ⟨rfl,rfl⟩))
    (fun os started H enc _=>lifted os started H enc)
theorem proved:Rows.CrowdChecksSaid:=over
#print axioms proved
end Go.Proofs.Ythjbfdfhblloiaa.crowdChecksDone
