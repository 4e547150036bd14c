/- CrowdTape of baterialaw06 is proved: for every input the law returns true, and the input reads as it did. Conditions: none. -/
import Derived.Test.YtoafigpikgigaaaGreatDoorQSz
import Derived.Test.YtoafigpikgigaaaGreatDoorCards
import Derived.Test.YtoafigpikgigaaaGreatDoorTie
import Derived.SevenTiedAt
import Derived.WalkKit
import Derived.ProofKit
import Derived.OpenShut
import Derived.ShutString
import Derived.ChangeOld
import Derived.Below
import Derived.Handed
import Derived.JoinedOf
import Derived.ChangeMaps5
set_option linter.all false
set_option linter.unusedSimpArgs false
set_option linter.unusedVariables false
namespace Go.Proofs.YtoafigpikgigaaaGreatDoor.crowdTapeDone
open Go.Av Go.Proofs.YtoafigpikgigaaaGreatDoor
open Go.ChangeShapes Go.WideShapes Go.ChangeAt Go.RowKit
set_option linter.unusedVariables false
theorem own:ownKnob Tryz.prog.godebug=none:=by kernel_rfl
theorem laidOut:laidOutB Tryz.prog=true:=by kernel_rfl
theorem walk (l0:List Int) (l1:List UInt8) (h0_0:l0.length≤maxLen) (w:World) (hL:laidMetH Tryz.prog laidL w) (hm:maxI w) {v0 v1:Value}
  (k0:VR (c00 w) (.lst 1 (l0.map iv)) v0) (k1:VR (c00 w) (.str l1) v1) :
  Calls Tryz.prog 4 #[v0,v1] w fun e w'=>e=.returned (.bool true)∧Below w.heap.size w w':=by
 have e0:(l0.length:Int)≤(maxLen:Nat):=Int.ofNat_le.2 h0_0
 exact LawG.walk (law4 l0 l1 e0) (glB hL hm) (VRs.cons k0 (VRs.cons k1 VRs.nil))
set_option maxRecDepth 100000 in
theorem lifted (os:Os) (started:os.Started) (H:Type) (enc:TypeId × Value→H) :
  ReturnsInHanded {} Tryz.checked os 4 .any (fun w args=>(Rows.crowdTapeSpec.pre enc Tryz.prog Tryz.f4 [] false w args∧laidMetH Tryz.prog laidL w)∧sizedMet enc Tryz.prog Tryz.f4 (OpenSpec.ofChange Rows.crowdTapeSpec) false w args)
   (Rows.crowdTapeSpec.post enc Tryz.prog Tryz.f4 false true false false):=by
 refine change_and_shaped (C:=Tryz.checked) (X:=fun w _=>laidMetH Tryz.prog laidL w) (fun _ _ _ hh h=>h.of_heap hh) own started (by kernel_rfl) Tryz.func4
  (ChangeSpec.witness_at (enc:=enc) (C:=Tryz.checked) (os:=os) (X:=fun w _=>laidMetH Tryz.prog laidL w) false (laidWorld os) #[.slice none 0 0,.string ⟨#[]⟩] 8 rfl (by kernel_rfl) (by kernel_rfl) (by kernel_rfl) (by kernel_rfl) (by kernel_rfl) (laidWorld_met os _)) ?_
 intro W base args ds gs before hval0 hW hL hsh
 have hval:∀ (j:Nat) t v,Tryz.f4.params[j]?=some t→args[j]?=some v→Value.okWide Tryz.prog W .any base t v:=hval0
 have hW':=hW
 obtain ⟨p,q,hA0,hV,rfl,hfz,hnd⟩:=hW
 have hA:DataW.TrodAll enc Tryz.prog W 0 (fun _=>true) true Tryz.f4.params.toList args.toList ds p:=hA0
 rw [Tryz.params4] at hA hval
 obtain ⟨v0,vs0,d0,ds0,p0,q0,hargs0,rfl,rfl,k0,r0⟩:=trodAll_cons hA
 obtain ⟨v1,vs1,d1,ds1,p1,q1,hargs1,rfl,rfl,k1,r1⟩:=trodAll_cons r0
 obtain ⟨rfl,rfl,rfl⟩:=trodAll_nil r1
 subst hargs1
 obtain rfl:args=#[v0,v1]:=by cases args;simp_all
 obtain ⟨rfl,rfl⟩:=trodVars_none hV
 have lt0:∀ x ∈ p0,x.block < W.heap.size:=by obtain ⟨m,hm⟩:=k0;exact DataW.trod_lt m _ _ _ hm
 have lt1:∀ x ∈ p1,x.block < W.heap.size:=by obtain ⟨m,hm⟩:=k1;exact DataW.trod_lt m _ _ _ hm
 have o0:=hval 0 22 v0 rfl rfl
 have o1:=hval 1 9 v1 rfl rfl
 obtain ⟨a0,b0,c0,w0⟩:=okWide_slice Tryz.underlying22 o0
 obtain ⟨s0,u0,t0⟩:=arg_cell (d:=8) (by kernel_rfl) (by rw [w0];rfl) k0
 obtain ⟨z0,x0,y0⟩:=shpNums t0
 obtain rfl:s0=.lst 1 (z0.map iv):=by simpa using x0
 obtain ⟨n1,w1⟩:=okWide_string Tryz.underlying9 o1
 obtain ⟨s1,u1,t1⟩:=arg_cell (d:=8) (by kernel_rfl) (by rw [w1];rfl) k1
 obtain ⟨z1,x1,y1⟩:=shp_string Tryz.underlying9 t1
 obtain rfl:s1=.str z1:=by simpa using x1
 clear hA0 hval0
 refine (walk z0 z1 y0 W hL (max_of_shape hsh) u0 u1).mono fun e W' ⟨he,bel⟩=>?_
 subst he
 exact ⟨_,rfl,_,_,_,[],_,[],hW',trodAll_mk1 (shut_bool Tryz.underlying4 _),(trodAll_cons_mk (Below.trod laidOut (by kernel_rfl) (of_decide_eq_true (by kernel_rfl)) k0 bel lt0) (trodAll_cons_mk (Below.trod laidOut (by kernel_rfl) (of_decide_eq_true (by kernel_rfl)) k1 bel lt1) trodAll_mk0)),rfl,bel.frame _,fun h=>by cases h⟩
theorem over:Rows.crowdTapeRow.holds Tryz.pinned (OpenSpec.ofChange Rows.crowdTapeSpec) :=
 OpenClaim.holds_of_wide 4 Tryz.f4 rfl rfl rfl rfl rfl rfl rfl ⟨rfl,rfl,rfl,rfl,rfl⟩ rfl rfl rfl rfl rfl (by kernel_rfl) Tryz.func4 (by kernel_rfl)
  (of_decide_eq_true (by kernel_rfl)) (by unfold Func.isWrapper;first|(rw [if_pos (by decide +kernel)];kernel_rfl)|(rw [if_neg (by decide +kernel)];exact ⟨rfl,rfl⟩))
  (fun os started H enc _=>lifted os started H enc)
theorem proved:Rows.CrowdTapeCardSaid :=
 Claim7.holds_tied_plain_at .later [] [.data, .data, .data, .data, .sentinel, .sentinel, .pinned] true (true, "624c694edb86f477ec0ba500a4974b6a472950937f44149116cd35585ddb9921") true
  over (fun _ h=>by cases h) (by kernel_rfl) (fun _ h=>by cases h) crowdTape_row_tie rfl ⟨rfl,rfl⟩ (by kernel_rfl) rfl
  (fun f fn hf hfn=>by
   obtain rfl : f = 4 := Option.some.inj ((show Tryz.prog.funcNamed "bateria/baterialaw06.CrowdTape" = some 4 by kernel_rfl).symm.trans hf) |>.symm
   obtain rfl:fn=Tryz.f4:=(Option.some.inj (Tryz.func4.symm.trans hfn)).symm
   exact ⟨by kernel_rfl,fun j t ht=>by
    rw [Tryz.params4] at ht
    have hm:t ∈ [22,9]:=by
     have:=Array.mem_of_getElem? ht
     simpa using this
    have hall:∀ t ∈ [22,9],Tryz.prog.wantsStandIn t=false:=by
     intro t ht
     simp only[List.mem_cons,List.not_mem_nil,or_false] at ht
     rcases ht with rfl|rfl <;> kernel_rfl
    exact hall t hm⟩)
  (by kernel_rfl)
#print axioms proved
end Go.Proofs.YtoafigpikgigaaaGreatDoor.crowdTapeDone
