/- ShedJobs of baterialaw08 is proved: for every input the law returns true, and the input reads as it did. Conditions: none. -/
import Derived.Test.YtaijkalhkgjakaaDoorQL
import Derived.Test.YtaijkalhkgjakaaDoorCards
import Derived.Test.YtaijkalhkgjakaaDoorTie
import Derived.SevenTiedAt
import Derived.WalkKit
import Derived.ProofKit
import Derived.OpenShut
import Derived.ShutString
import Derived.ChangeOld
import Derived.Below
import Derived.Handed
import Derived.JoinedOf
set_option linter.all false
set_option linter.unusedSimpArgs false
set_option linter.unusedVariables false
namespace Go.Proofs.YtaijkalhkgjakaaDoor.shedJobsDone
open Go.Av Go.Proofs.YtaijkalhkgjakaaDoor
open Go.ChangeShapes Go.WideShapes Go.ChangeAt Go.RowKit
set_option linter.unusedVariables false
theorem own:ownKnob Tryd.prog.godebug=none:=by kernel_rfl
theorem laidOut:laidOutB Tryd.prog=true:=by kernel_rfl
theorem walk (l0:List Int) (p1:Int) (p2:Int) (p3:Int) (h0:l0.length≤maxLen) (h1:I64 p1) (h2:I64 p2) (h3:I64 p3) (w:World) (hL:laidMetH Tryd.prog laidL w) {v0 v1 v2 v3:Value}
    (k0:VR (c00 w) (.lst 1 (l0.map iv)) v0) (k1:VR (c00 w) (.int .i64 p1) v1) (k2:VR (c00 w) (.int .i64 p2) v2) (k3:VR (c00 w) (.int .i64 p3) v3) :
    Calls Tryd.prog 7 #[v0,v1,v2,v3] w fun e w'=>e=.returned (.bool true)∧Below w.heap.size w w':=by
  have e0:(l0.length:Int)≤(maxLen:Nat):=Int.ofNat_le.2 h0
  exact PureG.walk (law7 l0 p1 p2 p3 e0) (glB hL) (VRs.cons k0 (VRs.cons k1 (VRs.cons k2 (VRs.cons k3 VRs.nil))))
set_option maxRecDepth 100000 in
theorem lifted (os:Os) (started:os.Started) (H:Type) (enc:TypeId × Value→H) :
    ReturnsInHanded {} Tryd.checked os 7 .any (fun w args=>(Rows.shedJobsSpec.pre enc Tryd.prog Tryd.f7 [] false w args∧laidMetH Tryd.prog laidL w)∧sizedMet enc Tryd.prog Tryd.f7 (OpenSpec.ofChange Rows.shedJobsSpec) false w args)
      (Rows.shedJobsSpec.post enc Tryd.prog Tryd.f7 false true false false):=by
  refine returnsInHanded_of_change_and (C:=Tryd.checked) (X:=fun w _=>laidMetH Tryd.prog laidL w) (fun _ _ _ hh h=>h.of_heap hh) own started (by kernel_rfl) Tryd.func7
    (ChangeSpec.witness_at (enc:=enc) (C:=Tryd.checked) (os:=os) (X:=fun w _=>laidMetH Tryd.prog laidL w) false (laidWorld os) #[.slice none 0 0,.int .i64 0,.int .i64 0,.int .i64 0] 8 rfl (by kernel_rfl) (by kernel_rfl) (by kernel_rfl) (by kernel_rfl) (by kernel_rfl) (laidWorld_met os _)) ?_
  intro W base args ds gs before hval0 hW _ _ hL _
  have hval:∀ (j:Nat) t v,Tryd.f7.params[j]?=some t→args[j]?=some v→Value.okWide Tryd.prog W .any base t v:=hval0
  have hW':=hW
  obtain ⟨p,q,hA0,hV,rfl,hfz,hnd⟩:=hW
  have hA:DataW.TrodAll enc Tryd.prog W 0 (fun _=>true) true Tryd.f7.params.toList args.toList ds p:=hA0
  rw [Tryd.params7] at hA hval
  obtain ⟨v0,vs0,d0,ds0,p0,q0,hargs0,rfl,rfl,k0,r0⟩:=trodAll_cons hA
  obtain ⟨v1,vs1,d1,ds1,p1,q1,hargs1,rfl,rfl,k1,r1⟩:=trodAll_cons r0
  obtain ⟨v2,vs2,d2,ds2,p2,q2,hargs2,rfl,rfl,k2,r2⟩:=trodAll_cons r1
  obtain ⟨v3,vs3,d3,ds3,p3,q3,hargs3,rfl,rfl,k3,r3⟩:=trodAll_cons r2
  obtain ⟨rfl,rfl,rfl⟩:=trodAll_nil r3
  subst hargs3 hargs2 hargs1
  obtain rfl:args=#[v0,v1,v2,v3]:=by cases args;simp_all
  obtain ⟨rfl,rfl⟩:=trodVars_none hV
  have lt0:∀ x ∈ p0,x.block < W.heap.size:=by obtain ⟨m,hm⟩:=k0;exact DataW.trod_lt m _ _ _ hm
  have lt1:∀ x ∈ p1,x.block < W.heap.size:=by obtain ⟨m,hm⟩:=k1;exact DataW.trod_lt m _ _ _ hm
  have lt2:∀ x ∈ p2,x.block < W.heap.size:=by obtain ⟨m,hm⟩:=k2;exact DataW.trod_lt m _ _ _ hm
  have lt3:∀ x ∈ p3,x.block < W.heap.size:=by obtain ⟨m,hm⟩:=k3;exact DataW.trod_lt m _ _ _ hm
  have o0:=hval 0 26 v0 rfl rfl
  have o1:=hval 1 3 v1 rfl rfl
  have o2:=hval 2 3 v2 rfl rfl
  have o3:=hval 3 3 v3 rfl rfl
  obtain ⟨a0,b0,c0,w0⟩:=okWide_slice Tryd.underlying26 o0
  obtain ⟨s0,u0,t0⟩:=arg_cell (d:=8) (by kernel_rfl) (by rw [w0];rfl) k0
  obtain ⟨n1,w1⟩:=okWide_int Tryd.underlying3 o1
  obtain ⟨s1,u1,t1⟩:=arg_cell (d:=8) (by kernel_rfl) (by rw [w1];rfl) k1
  obtain ⟨n2,w2⟩:=okWide_int Tryd.underlying3 o2
  obtain ⟨s2,u2,t2⟩:=arg_cell (d:=8) (by kernel_rfl) (by rw [w2];rfl) k2
  obtain ⟨n3,w3⟩:=okWide_int Tryd.underlying3 o3
  obtain ⟨s3,u3,t3⟩:=arg_cell (d:=8) (by kernel_rfl) (by rw [w3];rfl) k3
  obtain ⟨l0,x0,y0⟩:=shpNums t0
  obtain ⟨p1,x1,y1⟩:=shpInt t1
  obtain ⟨p2,x2,y2⟩:=shpInt t2
  obtain ⟨p3,x3,y3⟩:=shpInt t3
  obtain rfl:s0=.lst 1 (l0.map iv):=by simpa using x0
  obtain rfl:s1=.int .i64 p1:=by simpa using x1
  obtain rfl:s2=.int .i64 p2:=by simpa using x2
  obtain rfl:s3=.int .i64 p3:=by simpa using x3
  clear hA0 hval0
  refine (walk l0 p1 p2 p3 y0 y1 y2 y3 W hL u0 u1 u2 u3).mono fun e W' ⟨he,bel⟩=>?_
  subst he
  exact ⟨_,rfl,_,_,_,[],_,[],hW',trodAll_mk1 (shut_bool Tryd.underlying4 _),(trodAll_cons_mk (Below.trod laidOut (by kernel_rfl) (of_decide_eq_true (by kernel_rfl)) k0 bel lt0) (trodAll_cons_mk (Below.trod laidOut (by kernel_rfl) (of_decide_eq_true (by kernel_rfl)) k1 bel lt1) (trodAll_cons_mk (Below.trod laidOut (by kernel_rfl) (of_decide_eq_true (by kernel_rfl)) k2 bel lt2) (trodAll_cons_mk (Below.trod laidOut (by kernel_rfl) (of_decide_eq_true (by kernel_rfl)) k3 bel lt3) trodAll_mk0)))),rfl,bel.frame _,fun h=>by cases h⟩
theorem over:Rows.shedJobsRow.holds Tryd.pinned (OpenSpec.ofChange Rows.shedJobsSpec) :=
  OpenClaim.holds_of_wide 7 Tryd.f7 rfl rfl rfl rfl rfl rfl rfl ⟨rfl,rfl,rfl,rfl,rfl⟩ rfl rfl rfl rfl rfl (by kernel_rfl) Tryd.func7 (by kernel_rfl)
    (of_decide_eq_true (by kernel_rfl)) (by unfold Func.isWrapper;first|(rw [if_pos (by decide +kernel)];kernel_rfl)|(rw [if_neg (by decide +kernel)];exact ⟨rfl,rfl⟩))
    (fun os started H enc _=>lifted os started H enc)
theorem proved:Rows.ShedJobsCardSaid :=
  Claim7.holds_tied_plain_at .later [] [.data] true (true, "f7793e3ab28938ded4c379ad53b599c5118ce520f63074f7826dfef2ea35c2f1") false
    over (fun _ h=>by cases h) (by kernel_rfl) (fun _ h=>by cases h) shedJobs_row_tie rfl ⟨rfl,rfl⟩ (by kernel_rfl) rfl
    (fun f fn hf hfn=>by
      obtain rfl : f = 7 := Option.some.inj ((show Tryd.prog.funcNamed "bateria/baterialaw08.ShedJobs" = some 7 by kernel_rfl).symm.trans hf) |>.symm
      obtain rfl:fn=Tryd.f7:=(Option.some.inj (Tryd.func7.symm.trans hfn)).symm
      exact ⟨by kernel_rfl,fun j t ht=>by
        rw [Tryd.params7] at ht
        have hm:t ∈ [26,3,3,3]:=by
          have:=Array.mem_of_getElem? ht
          simpa using this
        have hall:∀ t ∈ [26,3,3,3],Tryd.prog.wantsStandIn t=false:=by
          intro t ht
          simp only[List.mem_cons,List.not_mem_nil,or_false] at ht
          rcases ht with rfl|rfl|rfl|rfl <;> kernel_rfl
        exact hall t hm⟩)
    (by kernel_rfl)
#print axioms proved
end Go.Proofs.YtaijkalhkgjakaaDoor.shedJobsDone
