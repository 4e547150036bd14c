/- CrowdCharters of baterialaw06 is proved: for every input the law returns true, and the input reads as it did. Conditions: none. -/
import Derived.Test.YtoafigpikgigaaaGreatDoorQSz
import Derived.Test.YtoafigpikgigaaaGreatDoorCards
import Derived.Test.YtoafigpikgigaaaGreatDoorTie
import Derived.SevenTiedAt
import Derived.WalkKit
import Derived.ProofKit
import Derived.OpenShut
import Derived.ShutString
import Derived.ChangeOld
import Derived.Below
import Derived.Handed
import Derived.JoinedOf
import Derived.ChangeMaps5
set_option linter.all false
set_option linter.unusedSimpArgs false
set_option linter.unusedVariables false
namespace Go.Proofs.YtoafigpikgigaaaGreatDoor.crowdChartersDone
open Go.Av Go.Proofs.YtoafigpikgigaaaGreatDoor
open Go.ChangeShapes Go.WideShapes Go.ChangeAt Go.RowKit
set_option linter.unusedVariables false
theorem own:ownKnob Tryz.prog.godebug=none:=by kernel_rfl
theorem laidOut:laidOutB Tryz.prog=true:=by kernel_rfl
theorem walk (l0:Tw) (l1:List UInt8) (l2:List Int) (l3:Int) (l4:Int) (l5:Int) (h0_0:l0.small) (h1_0:l1.length≤maxLen) (h2_0:l2.length≤maxLen) (h3_0:I64 l3) (h4_0:I64 l4) (w:World) (hL:laidMetH Tryz.prog laidL w) (hm:maxI w) {v0 v1 v2 v3 v4 v5:Value}
  (k0:VR (c00 w) (l0.av) v0) (k1:VR (c00 w) (.str l1) v1) (k2:VR (c00 w) (.lst 1 (l2.map iv)) v2) (k3:VR (c00 w) (.int .i64 l3) v3) (k4:VR (c00 w) (.int .i64 l4) v4) (k5:VR (c00 w) (.int .u8 l5) v5) :
  Calls Tryz.prog 3 #[v0,v1,v2,v3,v4,v5] w fun e w'=>e=.returned (.bool true)∧Below w.heap.size w w':=by
 have e2:(l2.length:Int)≤(maxLen:Nat):=Int.ofNat_le.2 h2_0
 exact LawG.walk (law3 l0 l1 l2 l3 l4 l5 h0_0 h1_0 e2 h3_0 h4_0) (glB hL hm) (VRs.cons k0 (VRs.cons k1 (VRs.cons k2 (VRs.cons k3 (VRs.cons k4 (VRs.cons k5 VRs.nil))))))
set_option maxRecDepth 100000 in
theorem lifted (os:Os) (started:os.Started) (H:Type) (enc:TypeId × Value→H) :
  ReturnsInHanded {} Tryz.checked os 3 .any (fun w args=>(Rows.crowdChartersSpec.pre enc Tryz.prog Tryz.f3 [] false w args∧laidMetH Tryz.prog laidL w)∧sizedMet enc Tryz.prog Tryz.f3 (OpenSpec.ofChange Rows.crowdChartersSpec) false w args)
   (Rows.crowdChartersSpec.post enc Tryz.prog Tryz.f3 false true false false):=by
 refine change_and_shaped (C:=Tryz.checked) (X:=fun w _=>laidMetH Tryz.prog laidL w) (fun _ _ _ hh h=>h.of_heap hh) own started (by kernel_rfl) Tryz.func3
  (ChangeSpec.witness_at (enc:=enc) (C:=Tryz.checked) (os:=os) (X:=fun w _=>laidMetH Tryz.prog laidL w) false (laidWorld os) #[.agg #[.slice none 0 0,.slice none 0 0,.slice none 0 0,.int .i64 0],.string ⟨#[]⟩,.slice none 0 0,.int .i64 0,.int .i64 0,.int .u8 0] 8 rfl (by kernel_rfl) (by kernel_rfl) (by kernel_rfl) (by kernel_rfl) (by kernel_rfl) (laidWorld_met os _)) ?_
 intro W base args ds gs before hval0 hW hL hsh
 have hval:∀ (j:Nat) t v,Tryz.f3.params[j]?=some t→args[j]?=some v→Value.okWide Tryz.prog W .any base t v:=hval0
 have hW':=hW
 obtain ⟨p,q,hA0,hV,rfl,hfz,hnd⟩:=hW
 have hA:DataW.TrodAll enc Tryz.prog W 0 (fun _=>true) true Tryz.f3.params.toList args.toList ds p:=hA0
 rw [Tryz.params3] at hA hval
 obtain ⟨v0,vs0,d0,ds0,p0,q0,hargs0,rfl,rfl,k0,r0⟩:=trodAll_cons hA
 obtain ⟨v1,vs1,d1,ds1,p1,q1,hargs1,rfl,rfl,k1,r1⟩:=trodAll_cons r0
 obtain ⟨v2,vs2,d2,ds2,p2,q2,hargs2,rfl,rfl,k2,r2⟩:=trodAll_cons r1
 obtain ⟨v3,vs3,d3,ds3,p3,q3,hargs3,rfl,rfl,k3,r3⟩:=trodAll_cons r2
 obtain ⟨v4,vs4,d4,ds4,p4,q4,hargs4,rfl,rfl,k4,r4⟩:=trodAll_cons r3
 obtain ⟨v5,vs5,d5,ds5,p5,q5,hargs5,rfl,rfl,k5,r5⟩:=trodAll_cons r4
 obtain ⟨rfl,rfl,rfl⟩:=trodAll_nil r5
 subst hargs5 hargs4 hargs3 hargs2 hargs1
 obtain rfl:args=#[v0,v1,v2,v3,v4,v5]:=by cases args;simp_all
 obtain ⟨rfl,rfl⟩:=trodVars_none hV
 have lt0:∀ x ∈ p0,x.block < W.heap.size:=by obtain ⟨m,hm⟩:=k0;exact DataW.trod_lt m _ _ _ hm
 have lt1:∀ x ∈ p1,x.block < W.heap.size:=by obtain ⟨m,hm⟩:=k1;exact DataW.trod_lt m _ _ _ hm
 have lt2:∀ x ∈ p2,x.block < W.heap.size:=by obtain ⟨m,hm⟩:=k2;exact DataW.trod_lt m _ _ _ hm
 have lt3:∀ x ∈ p3,x.block < W.heap.size:=by obtain ⟨m,hm⟩:=k3;exact DataW.trod_lt m _ _ _ hm
 have lt4:∀ x ∈ p4,x.block < W.heap.size:=by obtain ⟨m,hm⟩:=k4;exact DataW.trod_lt m _ _ _ hm
 have lt5:∀ x ∈ p5,x.block < W.heap.size:=by obtain ⟨m,hm⟩:=k5;exact DataW.trod_lt m _ _ _ hm
 have o0:=hval 0 26 v0 rfl rfl
 have o1:=hval 1 9 v1 rfl rfl
 have o2:=hval 2 22 v2 rfl rfl
 have o3:=hval 3 3 v3 rfl rfl
 have o4:=hval 4 3 v4 rfl rfl
 have o5:=hval 5 5 v5 rfl rfl
 obtain ⟨s0,u0,t0⟩:=arg_struct (d:=8) Tryz.underlying26 (by kernel_rfl) o0 k0
 obtain ⟨z0,x0,y0⟩:=shpTown t0
 rw [x0] at u0
 obtain ⟨n1,w1⟩:=okWide_string Tryz.underlying9 o1
 obtain ⟨s1,u1,t1⟩:=arg_cell (d:=8) (by kernel_rfl) (by rw [w1];rfl) k1
 obtain ⟨z1,x1,y1⟩:=shp_string Tryz.underlying9 t1
 obtain rfl:s1=.str z1:=by simpa using x1
 obtain ⟨a2,b2,c2,w2⟩:=okWide_slice Tryz.underlying22 o2
 obtain ⟨s2,u2,t2⟩:=arg_cell (d:=8) (by kernel_rfl) (by rw [w2];rfl) k2
 obtain ⟨z2,x2,y2⟩:=shpNums t2
 obtain rfl:s2=.lst 1 (z2.map iv):=by simpa using x2
 obtain ⟨n3,w3⟩:=okWide_int Tryz.underlying3 o3
 obtain ⟨s3,u3,t3⟩:=arg_cell (d:=8) (by kernel_rfl) (by rw [w3];rfl) k3
 obtain ⟨z3,x3,y3⟩:=shpInt t3
 obtain rfl:s3=.int .i64 z3:=by simpa using x3
 obtain ⟨n4,w4⟩:=okWide_int Tryz.underlying3 o4
 obtain ⟨s4,u4,t4⟩:=arg_cell (d:=8) (by kernel_rfl) (by rw [w4];rfl) k4
 obtain ⟨z4,x4,y4⟩:=shpInt t4
 obtain rfl:s4=.int .i64 z4:=by simpa using x4
 obtain ⟨n5,w5⟩:=okWide_int Tryz.underlying5 o5
 obtain ⟨s5,u5,t5⟩:=arg_cell (d:=8) (by kernel_rfl) (by rw [w5];rfl) k5
 obtain ⟨z5,x5,_⟩:=shp_int Tryz.underlying5 t5
 obtain rfl:s5=.int .u8 z5:=by simpa using x5
 clear hA0 hval0
 refine (walk z0 z1 z2 z3 z4 z5 y0 y1 y2 y3 y4 W hL (max_of_shape hsh) u0 u1 u2 u3 u4 u5).mono fun e W' ⟨he,bel⟩=>?_
 subst he
 exact ⟨_,rfl,_,_,_,[],_,[],hW',trodAll_mk1 (shut_bool Tryz.underlying4 _),(trodAll_cons_mk (Below.trod laidOut (by kernel_rfl) (of_decide_eq_true (by kernel_rfl)) k0 bel lt0) (trodAll_cons_mk (Below.trod laidOut (by kernel_rfl) (of_decide_eq_true (by kernel_rfl)) k1 bel lt1) (trodAll_cons_mk (Below.trod laidOut (by kernel_rfl) (of_decide_eq_true (by kernel_rfl)) k2 bel lt2) (trodAll_cons_mk (Below.trod laidOut (by kernel_rfl) (of_decide_eq_true (by kernel_rfl)) k3 bel lt3) (trodAll_cons_mk (Below.trod laidOut (by kernel_rfl) (of_decide_eq_true (by kernel_rfl)) k4 bel lt4) (trodAll_cons_mk (Below.trod laidOut (by kernel_rfl) (of_decide_eq_true (by kernel_rfl)) k5 bel lt5) trodAll_mk0)))))),rfl,bel.frame _,fun h=>by cases h⟩
theorem over:Rows.crowdChartersRow.holds Tryz.pinned (OpenSpec.ofChange Rows.crowdChartersSpec) :=
 OpenClaim.holds_of_wide 3 Tryz.f3 rfl rfl rfl rfl rfl rfl rfl ⟨rfl,rfl,rfl,rfl,rfl⟩ rfl rfl rfl rfl rfl (by kernel_rfl) Tryz.func3 (by kernel_rfl)
  (of_decide_eq_true (by kernel_rfl)) (by unfold Func.isWrapper;first|(rw [if_pos (by decide +kernel)];kernel_rfl)|(rw [if_neg (by decide +kernel)];exact ⟨rfl,rfl⟩))
  (fun os started H enc _=>lifted os started H enc)
theorem proved:Rows.CrowdChartersCardSaid :=
 Claim7.holds_tied_plain_at .later [] [.data, .data, .data, .data, .sentinel, .sentinel, .pinned] true (true, "624c694edb86f477ec0ba500a4974b6a472950937f44149116cd35585ddb9921") true
  over (fun _ h=>by cases h) (by kernel_rfl) (fun _ h=>by cases h) crowdCharters_row_tie rfl ⟨rfl,rfl⟩ (by kernel_rfl) rfl
  (fun f fn hf hfn=>by
   obtain rfl : f = 3 := Option.some.inj ((show Tryz.prog.funcNamed "bateria/baterialaw06.CrowdCharters" = some 3 by kernel_rfl).symm.trans hf) |>.symm
   obtain rfl:fn=Tryz.f3:=(Option.some.inj (Tryz.func3.symm.trans hfn)).symm
   exact ⟨by kernel_rfl,fun j t ht=>by
    rw [Tryz.params3] at ht
    have hm:t ∈ [26,9,22,3,3,5]:=by
     have:=Array.mem_of_getElem? ht
     simpa using this
    have hall:∀ t ∈ [26,9,22,3,3,5],Tryz.prog.wantsStandIn t=false:=by
     intro t ht
     simp only[List.mem_cons,List.not_mem_nil,or_false] at ht
     rcases ht with rfl|rfl|rfl|rfl|rfl|rfl <;> kernel_rfl
    exact hall t hm⟩)
  (by kernel_rfl)
#print axioms proved
end Go.Proofs.YtoafigpikgigaaaGreatDoor.crowdChartersDone
