/- ShedCarries of baterialaw08 is proved: for every input the law returns true, and the input reads as it did. Conditions: none. -/
import Derived.Test.YtaijkalhkgjakaaDoorG60
import Derived.Test.YtaijkalhkgjakaaDoorQL
import Derived.Test.YtaijkalhkgjakaaDoorCards
import Derived.Test.YtaijkalhkgjakaaDoorTie
import Derived.SevenTiedAt
import Derived.WalkKit
import Derived.ProofKit
import Derived.OpenShut
import Derived.ShutString
import Derived.ChangeOld
import Derived.Below
import Derived.Handed
import Derived.JoinedOf
set_option linter.all false
set_option linter.unusedSimpArgs false
set_option linter.unusedVariables false
namespace Go.Proofs.YtaijkalhkgjakaaDoor.shedCarriesDone
open Go.Av Go.Proofs.YtaijkalhkgjakaaDoor
open Go.ChangeShapes Go.WideShapes Go.ChangeAt Go.RowKit
set_option linter.unusedVariables false
theorem own:ownKnob Tryd.prog.godebug=none:=by kernel_rfl
theorem laidOut:laidOutB Tryd.prog=true:=by kernel_rfl
theorem walk (l0:List Int) (h0:l0.length≤maxLen) (w:World) (hL:laidMetH Tryd.prog laidL w) {v0:Value}
    (k0:VR (c00 w) (.lst 1 (l0.map iv)) v0) :
    Calls Tryd.prog 4 #[v0] w fun e w'=>e=.returned (.bool true)∧Below w.heap.size w w':=by
  have e0:(l0.length:Int)≤(maxLen:Nat):=Int.ofNat_le.2 h0
  exact LawG.walk (law4 l0 e0) (glB hL) (VRs.cons k0 VRs.nil)
set_option maxRecDepth 100000 in
theorem lifted (os:Os) (started:os.Started) (H:Type) (enc:TypeId × Value→H) :
    ReturnsInHanded {} Tryd.checked os 4 .any (fun w args=>(Rows.shedCarriesSpec.pre enc Tryd.prog Tryd.f4 [] false w args∧laidMetH Tryd.prog laidL w)∧sizedMet enc Tryd.prog Tryd.f4 (OpenSpec.ofChange Rows.shedCarriesSpec) false w args)
      (Rows.shedCarriesSpec.post enc Tryd.prog Tryd.f4 false true false false):=by
  refine returnsInHanded_of_change_and (C:=Tryd.checked) (X:=fun w _=>laidMetH Tryd.prog laidL w) (fun _ _ _ hh h=>h.of_heap hh) own started (by kernel_rfl) Tryd.func4
    (ChangeSpec.witness_at (enc:=enc) (C:=Tryd.checked) (os:=os) (X:=fun w _=>laidMetH Tryd.prog laidL w) false (laidWorld os) #[.slice none 0 0] 8 rfl (by kernel_rfl) (by kernel_rfl) (by kernel_rfl) (by kernel_rfl) (by kernel_rfl) (laidWorld_met os _)) ?_
  intro W base args ds gs before hval0 hW _ _ hL _
  have hval:∀ (j:Nat) t v,Tryd.f4.params[j]?=some t→args[j]?=some v→Value.okWide Tryd.prog W .any base t v:=hval0
  have hW':=hW
  obtain ⟨p,q,hA0,hV,rfl,hfz,hnd⟩:=hW
  have hA:DataW.TrodAll enc Tryd.prog W 0 (fun _=>true) true Tryd.f4.params.toList args.toList ds p:=hA0
  rw [Tryd.params4] at hA hval
  obtain ⟨v0,vs0,d0,ds0,p0,q0,hargs0,rfl,rfl,k0,r0⟩:=trodAll_cons hA
  obtain ⟨rfl,rfl,rfl⟩:=trodAll_nil r0
  obtain rfl:args=#[v0]:=by cases args;simp_all
  obtain ⟨rfl,rfl⟩:=trodVars_none hV
  have lt0:∀ x ∈ p0,x.block < W.heap.size:=by obtain ⟨m,hm⟩:=k0;exact DataW.trod_lt m _ _ _ hm
  have o0:=hval 0 26 v0 rfl rfl
  obtain ⟨a0,b0,c0,w0⟩:=okWide_slice Tryd.underlying26 o0
  obtain ⟨s0,u0,t0⟩:=arg_cell (d:=8) (by kernel_rfl) (by rw [w0];rfl) k0
  obtain ⟨l0,x0,y0⟩:=shpNums t0
  obtain rfl:s0=.lst 1 (l0.map iv):=by simpa using x0
  clear hA0 hval0
  refine (walk l0 y0 W hL u0).mono fun e W' ⟨he,bel⟩=>?_
  subst he
  exact ⟨_,rfl,_,_,_,[],_,[],hW',trodAll_mk1 (shut_bool Tryd.underlying4 _),(trodAll_cons_mk (Below.trod laidOut (by kernel_rfl) (of_decide_eq_true (by kernel_rfl)) k0 bel lt0) trodAll_mk0),rfl,bel.frame _,fun h=>by cases h⟩
theorem over:Rows.shedCarriesRow.holds Tryd.pinned (OpenSpec.ofChange Rows.shedCarriesSpec) :=
  OpenClaim.holds_of_wide 4 Tryd.f4 rfl rfl rfl rfl rfl rfl rfl ⟨rfl,rfl,rfl,rfl,rfl⟩ rfl rfl rfl rfl rfl (by kernel_rfl) Tryd.func4 (by kernel_rfl)
    (of_decide_eq_true (by kernel_rfl)) (by unfold Func.isWrapper;first|(rw [if_pos (by decide +kernel)];kernel_rfl)|(rw [if_neg (by decide +kernel)];exact ⟨rfl,rfl⟩))
    (fun os started H enc _=>lifted os started H enc)
theorem proved:Rows.ShedCarriesCardSaid :=
  Claim7.holds_tied_plain_at .later [] [.data] true (true, "f7793e3ab28938ded4c379ad53b599c5118ce520f63074f7826dfef2ea35c2f1") false
    over (fun _ h=>by cases h) (by kernel_rfl) (fun _ h=>by cases h) shedCarries_row_tie rfl ⟨rfl,rfl⟩ (by kernel_rfl) rfl
    (fun f fn hf hfn=>by
      obtain rfl : f = 4 := Option.some.inj ((show Tryd.prog.funcNamed "bateria/baterialaw08.ShedCarries" = some 4 by kernel_rfl).symm.trans hf) |>.symm
      obtain rfl:fn=Tryd.f4:=(Option.some.inj (Tryd.func4.symm.trans hfn)).symm
      exact ⟨by kernel_rfl,fun j t ht=>by
        rw [Tryd.params4] at ht
        have hm:t ∈ [26]:=by
          have:=Array.mem_of_getElem? ht
          simpa using this
        have hall:∀ t ∈ [26],Tryd.prog.wantsStandIn t=false:=by
          intro t ht
          simp only[List.mem_cons,List.not_mem_nil,or_false] at ht
          rcases ht with rfl <;> kernel_rfl
        exact hall t hm⟩)
    (by kernel_rfl)
#print axioms proved
end Go.Proofs.YtaijkalhkgjakaaDoor.shedCarriesDone
