/- ShedPlans of baterialaw08 is proved: for every input the law returns true, and the input reads as it did. Conditions: none. -/
import Derived.Test.YtaijkalhkgjakaaDoorQS
import Derived.Test.YtaijkalhkgjakaaDoorQT
import Derived.Test.YtaijkalhkgjakaaDoorCards
import Derived.Test.YtaijkalhkgjakaaDoorTie
import Derived.SevenTiedAt
import Derived.WalkKit
import Derived.ProofKit
import Derived.OpenShut
import Derived.ShutString
import Derived.ChangeOld
import Derived.Below
import Derived.Handed
import Derived.JoinedOf
set_option linter.all false
set_option linter.unusedSimpArgs false
set_option linter.unusedVariables false
namespace Go.Proofs.YtaijkalhkgjakaaDoor.shedPlansDone
open Go.Av Go.Proofs.YtaijkalhkgjakaaDoor
open Go.ChangeShapes Go.WideShapes Go.ChangeAt Go.RowKit
set_option linter.unusedVariables false
theorem own:ownKnob Tryd.prog.godebug=none:=by kernel_rfl
theorem laidOut:laidOutB Tryd.prog=true:=by kernel_rfl
theorem walk (S0:Sp) (p1:List Sf) (j2:Jb) (l3:List Int) (h3:l3.length≤maxLen) (w:World) (hL:laidMetH Tryd.prog laidL w) {v0 v1 v2 v3:Value}
    (k0:VR (c00 w) (S0.av) v0) (k1:VR (c00 w) (.lst 2 (p1.map Sf.row)) v1) (k2:VR (c00 w) (.agg j2.row) v2) (k3:VR (c00 w) (.lst 1 (l3.map iv)) v3) :
    Calls Tryd.prog 8 #[v0,v1,v2,v3] w fun e w'=>e=.returned (.bool true)∧Below w.heap.size w w':=by
  have e3:(l3.length:Int)≤(maxLen:Nat):=Int.ofNat_le.2 h3
  exact LawG.walk (law8 S0 p1 j2 l3 e3) (glB hL) (VRs.cons k0 (VRs.cons k1 (VRs.cons k2 (VRs.cons k3 VRs.nil))))
set_option maxRecDepth 100000 in
theorem lifted (os:Os) (started:os.Started) (H:Type) (enc:TypeId × Value→H) :
    ReturnsInHanded {} Tryd.checked os 8 .any (fun w args=>(Rows.shedPlansSpec.pre enc Tryd.prog Tryd.f8 [] false w args∧laidMetH Tryd.prog laidL w)∧sizedMet enc Tryd.prog Tryd.f8 (OpenSpec.ofChange Rows.shedPlansSpec) false w args)
      (Rows.shedPlansSpec.post enc Tryd.prog Tryd.f8 false true false false):=by
  refine returnsInHanded_of_change_and (C:=Tryd.checked) (X:=fun w _=>laidMetH Tryd.prog laidL w) (fun _ _ _ hh h=>h.of_heap hh) own started (by kernel_rfl) Tryd.func8
    (ChangeSpec.witness_at (enc:=enc) (C:=Tryd.checked) (os:=os) (X:=fun w _=>laidMetH Tryd.prog laidL w) false (laidWorld os) #[.agg #[.slice none 0 0,.slice none 0 0],.slice none 0 0,.agg #[.int .i64 0,.int .i64 0,.int .i64 0],.slice none 0 0] 8 rfl (by kernel_rfl) (by kernel_rfl) (by kernel_rfl) (by kernel_rfl) (by kernel_rfl) (laidWorld_met os _)) ?_
  intro W base args ds gs before hval0 hW _ _ hL _
  have hval:∀ (j:Nat) t v,Tryd.f8.params[j]?=some t→args[j]?=some v→Value.okWide Tryd.prog W .any base t v:=hval0
  have hW':=hW
  obtain ⟨p,q,hA0,hV,rfl,hfz,hnd⟩:=hW
  have hA:DataW.TrodAll enc Tryd.prog W 0 (fun _=>true) true Tryd.f8.params.toList args.toList ds p:=hA0
  rw [Tryd.params8] at hA hval
  obtain ⟨v0,vs0,d0,ds0,p0,q0,hargs0,rfl,rfl,k0,r0⟩:=trodAll_cons hA
  obtain ⟨v1,vs1,d1,ds1,p1,q1,hargs1,rfl,rfl,k1,r1⟩:=trodAll_cons r0
  obtain ⟨v2,vs2,d2,ds2,p2,q2,hargs2,rfl,rfl,k2,r2⟩:=trodAll_cons r1
  obtain ⟨v3,vs3,d3,ds3,p3,q3,hargs3,rfl,rfl,k3,r3⟩:=trodAll_cons r2
  obtain ⟨rfl,rfl,rfl⟩:=trodAll_nil r3
  subst hargs3 hargs2 hargs1
  obtain rfl:args=#[v0,v1,v2,v3]:=by cases args;simp_all
  obtain ⟨rfl,rfl⟩:=trodVars_none hV
  have lt0:∀ x ∈ p0,x.block < W.heap.size:=by obtain ⟨m,hm⟩:=k0;exact DataW.trod_lt m _ _ _ hm
  have lt1:∀ x ∈ p1,x.block < W.heap.size:=by obtain ⟨m,hm⟩:=k1;exact DataW.trod_lt m _ _ _ hm
  have lt2:∀ x ∈ p2,x.block < W.heap.size:=by obtain ⟨m,hm⟩:=k2;exact DataW.trod_lt m _ _ _ hm
  have lt3:∀ x ∈ p3,x.block < W.heap.size:=by obtain ⟨m,hm⟩:=k3;exact DataW.trod_lt m _ _ _ hm
  have o0:=hval 0 25 v0 rfl rfl
  have o1:=hval 1 35 v1 rfl rfl
  have o2:=hval 2 80 v2 rfl rfl
  have o3:=hval 3 26 v3 rfl rfl
  obtain ⟨s0,u0,t0⟩:=arg_struct (d:=8) Tryd.underlying25 (by kernel_rfl) o0 k0
  obtain ⟨a1,b1,c1,w1⟩:=okWide_slice Tryd.underlying35 o1
  obtain ⟨s1,u1,t1⟩:=arg_cell (d:=8) (by kernel_rfl) (by rw [w1];rfl) k1
  obtain ⟨s2,u2,t2⟩:=arg_struct (d:=8) Tryd.underlying80 (by kernel_rfl) o2 k2
  obtain ⟨a3,b3,c3,w3⟩:=okWide_slice Tryd.underlying26 o3
  obtain ⟨s3,u3,t3⟩:=arg_cell (d:=8) (by kernel_rfl) (by rw [w3];rfl) k3
  obtain ⟨S0,x0⟩:=shpShop t0
  obtain ⟨p1,x1⟩:=shpShifts t1
  obtain ⟨j2,x2⟩:=shpJob t2
  obtain ⟨l3,x3,y3⟩:=shpNums t3
  rw [x0] at u0
  obtain rfl:s1=.lst 2 (p1.map Sf.row):=by simpa using x1
  rw [x2] at u2
  obtain rfl:s3=.lst 1 (l3.map iv):=by simpa using x3
  clear hA0 hval0
  refine (walk S0 p1 j2 l3 y3 W hL u0 u1 u2 u3).mono fun e W' ⟨he,bel⟩=>?_
  subst he
  exact ⟨_,rfl,_,_,_,[],_,[],hW',trodAll_mk1 (shut_bool Tryd.underlying4 _),(trodAll_cons_mk (Below.trod laidOut (by kernel_rfl) (of_decide_eq_true (by kernel_rfl)) k0 bel lt0) (trodAll_cons_mk (Below.trod laidOut (by kernel_rfl) (of_decide_eq_true (by kernel_rfl)) k1 bel lt1) (trodAll_cons_mk (Below.trod laidOut (by kernel_rfl) (of_decide_eq_true (by kernel_rfl)) k2 bel lt2) (trodAll_cons_mk (Below.trod laidOut (by kernel_rfl) (of_decide_eq_true (by kernel_rfl)) k3 bel lt3) trodAll_mk0)))),rfl,bel.frame _,fun h=>by cases h⟩
theorem over:Rows.shedPlansRow.holds Tryd.pinned (OpenSpec.ofChange Rows.shedPlansSpec) :=
  OpenClaim.holds_of_wide 8 Tryd.f8 rfl rfl rfl rfl rfl rfl rfl ⟨rfl,rfl,rfl,rfl,rfl⟩ rfl rfl rfl rfl rfl (by kernel_rfl) Tryd.func8 (by kernel_rfl)
    (of_decide_eq_true (by kernel_rfl)) (by unfold Func.isWrapper;first|(rw [if_pos (by decide +kernel)];kernel_rfl)|(rw [if_neg (by decide +kernel)];exact ⟨rfl,rfl⟩))
    (fun os started H enc _=>lifted os started H enc)
theorem proved:Rows.ShedPlansCardSaid :=
  Claim7.holds_tied_plain_at .later [] [.data] true (true, "f7793e3ab28938ded4c379ad53b599c5118ce520f63074f7826dfef2ea35c2f1") false
    over (fun _ h=>by cases h) (by kernel_rfl) (fun _ h=>by cases h) shedPlans_row_tie rfl ⟨rfl,rfl⟩ (by kernel_rfl) rfl
    (fun f fn hf hfn=>by
      obtain rfl : f = 8 := Option.some.inj ((show Tryd.prog.funcNamed "bateria/baterialaw08.ShedPlans" = some 8 by kernel_rfl).symm.trans hf) |>.symm
      obtain rfl:fn=Tryd.f8:=(Option.some.inj (Tryd.func8.symm.trans hfn)).symm
      exact ⟨by kernel_rfl,fun j t ht=>by
        rw [Tryd.params8] at ht
        have hm:t ∈ [25,35,80,26]:=by
          have:=Array.mem_of_getElem? ht
          simpa using this
        have hall:∀ t ∈ [25,35,80,26],Tryd.prog.wantsStandIn t=false:=by
          intro t ht
          simp only[List.mem_cons,List.not_mem_nil,or_false] at ht
          rcases ht with rfl|rfl|rfl|rfl <;> kernel_rfl
        exact hall t hm⟩)
    (by kernel_rfl)
#print axioms proved
end Go.Proofs.YtaijkalhkgjakaaDoor.shedPlansDone
