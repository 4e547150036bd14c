/- Our own logic over the model: abstract values, an abstract heap, and what a piece of code asks of them. Lean checks it. Conditions: none. -/
import Derived.Test.YtkjpceapflhmnaaBaseC
set_option linter.all false
set_option linter.unusedSimpArgs false
set_option linter.unusedVariables false
/- A range over a function within a round of another one. -/
namespace Go.Av
open Go
variable {P : Program} {tt : Nat → TI} {fi : FI}
set_option maxHeartbeats 2000000 in
theorem ASem.rangeFuncIn {n q : Nat} {g : Operand} {ps : Array Tmp} {assign body : Code} {Q : Exit → AS → Prop} {s : AS} {gf : FuncId} {first cap : List AV} {Rq : LRec} (hq : s.h.lp q = some Rq) (hg : s.ev g = .fn (.func gf) first cap)
    (h : ∀ (l : Nat) (fn : FuncId) (tm : Array Value), tm.size = n → s.h.lp l = none →
      ACalls P gf (first ++ [.fn (.yield l) [] []] ++ cap) (s.h.lpSet l (some ⟨rec0 fn tm ps assign body Rq.rc.defers, hide s.tmp⟩)) (fun _ h' => LQ P (some q) n l s s.mks Q h')) : ASem P (some q) n (.rangeFunc g ps assign body) Q s := by
  intro c0 h0 c lb a S
  refine wpIn_rangeFunc ?_
  intro fn _
  have hf := S.fr.ev g
  rw [hg] at hf
  have hf' : VR c (.fn (.func gf) first cap) (a.eval g) := hf
  simp only [VR] at hf'
  obtain ⟨xs, ys, hfe, h1, h2⟩ := hf'
  have hLq := S.hr.lp q Rq hq
  obtain ⟨l, hl⟩ : ∃ l, l = c.w.heap.size := ⟨_, rfl⟩
  obtain ⟨H2, E2⟩ := HRel.newLoop S.hr (rec0 fn a.tmps ps assign body Rq.rc.defers) (hide s.tmp) (fun t => hide_rel S.fr t)
  have S2 := S.go H2 E2 (fun _ h => .inl h)
  have hlp : s.h.lp l = none := by
    cases hx : s.h.lp l with
    | none => rfl
    | some x =>
      have := (Array.getElem?_eq_some_iff.1 (S.hr.lp l x hx).1).1
      rw [hl] at this
      exact absurd this (Nat.lt_irrefl _)
  have hcall := h l fn a.tmps S.fr.size hlp
  have hall : VRs { c with w := c.w.alloc (.loop (rec0 fn a.tmps ps assign body Rq.rc.defers)) } (first ++ [.fn (.yield l) [] []] ++ cap) (xs ++ [Value.func (.yield l) #[] #[]] ++ ys) := by
    have hle := E2.le
    refine ((VRs.mono hle _ _ h1).append (VRs.cons ?_ VRs.nil)).append (VRs.mono hle _ _ h2)
    simp only [VR]
    exact ⟨[], [], rfl, VRs.nil, VRs.nil⟩
  obtain ⟨W2, hW2⟩ : ∃ W2, W2 = c.w.alloc (.loop (rec0 fn a.tmps ps assign body Rq.rc.defers)) := ⟨_, rfl⟩
  have e1 : (Instr.enterLoop fn a.tmps ps assign body (some q)).run P c.w = .ok (l, []) W2 := by
    rw [hW2, hl]
    simp only [Instr.enterLoop, Sem.run_bind, run_getLoop hLq.1, run_newObj, Result.andThen_ok, Sem.run_pure, rec0]
  have e2 : (resolve a.eval (rangeCall g l) 0).run P W2 = .ok { target := .fn (.func gf) ys.toArray, args := xs.toArray ++ #[Value.func (.yield l) #[] #[]] } W2 := by
    unfold resolve
    simp only [Deferred.ofValue, hfe]
    simp [Act.eval]
  have e3 : (invoke (.fn (.func gf) ys.toArray) (xs.toArray ++ #[Value.func (.yield l) #[] #[]])).run P W2 = .ok (.enter gf (xs ++ [Value.func (.yield l) #[] #[]] ++ ys).toArray) W2 := by
    simp only [invoke]
    rw [show (xs.toArray ++ #[Value.func (.yield l) #[] #[]] ++ ys.toArray) = (xs ++ [Value.func (.yield l) #[] #[]] ++ ys).toArray by simp]
    exact hcall.1 _ _
  rw [← hW2] at H2 S2 hall
  rw [← hl] at H2 S2
  have hc2 : CallsIn (FW (some q)) 0 P gf (xs ++ [Value.func (.yield l) #[] #[]] ++ ys).toArray W2 _ := hcall.2 _ _ H2 hall
  refine ⟨l, _, W2, _, W2, gf, _, W2, e1, e2, fun _ _ => trivial, e3, fun h => by simp at h, hc2.mono ?_⟩
  rintro e w' ⟨v, x, c', h', rfl, rfl, hx, H', E, hdn, lr, hlr, hst, hq2⟩
  have S3 := S2.go H' E (fun b hb => (hdn b hb).imp id (fun h => Nat.le_trans S.evo.clk h))
  have hL := H'.lp _ lr hlr
  have hrun := run_endLoop (P := P) hL.1 hst
  have hsame : (World.lset c'.w l { lr.rc with state := .exhausted }).heap[l]? = some (.loop { lr.rc with state := .exhausted }) := lset_same hL.1
  have hrest : ∀ i, i ≠ l → (World.lset c'.w l { lr.rc with state := .exhausted }).heap[i]? = c'.w.heap[i]? := fun i hi => lset_ne hi
  obtain ⟨w4, hw4⟩ : ∃ w4, w4 = World.lset c'.w l { lr.rc with state := .exhausted } := ⟨_, rfl⟩
  have hsz4 : w4.heap.size = c'.w.heap.size := by rw [hw4]; simp [World.lset]
  have ho4 : w4.os = c'.w.os ∧ w4.output = c'.w.output ∧ w4.tape = c'.w.tape := by rw [hw4]; exact ⟨rfl, rfl, rfl⟩
  rw [← hw4] at hrun hsame hrest
  obtain ⟨H4, E4⟩ := H'.lpSet hlr (w' := w4) _ hsame hrest hsz4 ho4.1 ho4.2.1 ho4.2.2 none (fun _ h => by cases h)
  have S4 := S3.go H4 E4 (fun _ h => .inl h)
  refine ⟨_, _, hrun, ?_⟩
  cases hp : lr.rc.pending with
  | none => rw [hp] at hq2; exact ⟨_, lb, _, rfl, S4, hq2⟩
  | some cd => rw [hp] at hq2; exact hq2 c0 h0 _ lb _ S4
theorem st_rangeFuncIn {q : Nat} {g : Operand} {ps : Array Tmp} {assign body : Code} {Q : Exit → AS → Prop} {T : Nat → AV} {B : Bid → Option (List AV)} {M : List Nat} {H : AH} {gf : FuncId} {first cap : List AV} {Rq : LRec} (hr : fi.rnd = some q) (hq : H.lp q = some Rq) (hg : AS.ev ⟨T, B, M, H⟩ g = .fn (.func gf) first cap)
    (h : ∀ (l : Nat) (R : LRec), RecOk R fi.n ps assign body T → H.lp l = none →
      ACalls P gf (first ++ [.fn (.yield l) [] []] ++ cap) (H.lpSet l (some R)) (fun _ h' => (h'.lp l = some R ∧ Q .normal ⟨T, B, M, h'.lpSet l none⟩) ∨ (∃ c, h'.lp l = some (R.stop c) ∧ ASem P (some q) fi.n c Q ⟨T, B, M, h'.lpSet l none⟩))) : awp P tt fi (.rangeFunc g ps assign body) Q ⟨T, B, M, H⟩ := by
  show ASem P fi.rnd fi.n (.rangeFunc g ps assign body) Q ⟨T, B, M, H⟩
  rw [hr]
  refine ASem.rangeFuncIn hq hg (fun l fn tm htm hlp => ?_)
  refine (h l ⟨rec0 fn tm ps assign body Rq.rc.defers, hide T⟩ ⟨rfl, rfl, rfl, rfl, rfl, htm, rfl⟩ hlp).mono ?_
  rintro v h' (⟨h1, h2⟩ | ⟨c, h1, h2⟩)
  · exact ⟨_, h1, by simp [rec0], h2⟩
  · exact ⟨_, h1, by simp [LRec.stop], h2⟩
end Go.Av

/- A region that draws its order, taken in every order. -/
namespace Go.Av
open Go
variable {P : Program} {tt : Nat → TI}
def awpAll (P : Program) (tt : Nat → TI) (fi : FI) (k0 : Nat) (ops : Array Oper) (K : AS → Prop) : Nat → Array Bool → AS → Prop
  | 0, listed, s => Region.ready .any ops listed = [] ∧ K s
  | n + 1, listed, s => Region.ready .any ops listed ≠ [] ∧ ∀ i ∈ Region.ready .any ops listed, ∀ o, ops[i]? = some o →
      awpG ops o s (awp1 P tt fi k0 o s (awpAll P tt fi k0 ops K n (listed.setIfInBounds i true))) (awpAll P tt fi k0 ops K n (listed.setIfInBounds i true) (s.set o.dst (.tup [])))
def allOk (fi : FI) (ops : Array Oper) : Bool :=
  ((List.range ops.size).all fun i => (List.range ops.size).all fun j => i == j || (match ops[i]?, ops[j]? with | some a, some b => (match a.dst with | some d => b.dst != some d | none => true) | _, _ => true)) &&
    (List.range ops.size).all fun i => match ops[i]? with | some o => (match o.dst with | some d => decide (d < fi.n) | none => true) | none => true
theorem all_sound (T : Tab P tt) {fi : FI} {k0 : Nat} {r : Option Nat} {c0 : Cx} {h0 : AH} {ops : Array Oper} {K : AS → Prop} {Q : Exit → Act → World → Prop} (hk0 : h0.clk ≤ k0)
    (hn : ∀ (c : Cx) (lb : Bid → Option Nat) (s : AS) (a : Act), SR c0 h0 c lb s fi.n a → K s → Q .normal a c.w) (hc : allOk fi ops = true) :
    ∀ (n : Nat) (D : List Nat) (listed : Array Bool), listed.size = ops.size → (∀ (j : Nat) (o : Oper), ops[j]? = some o → listed.getD j true = false → ∀ d, o.dst = some d → d ∉ D) →
      ∀ (c : Cx) (lb : Bid → Option Nat) (s : AS) (a : Act), SR c0 h0 c lb s fi.n a → Fresh k0 c lb D → k0 < s.h.clk → awpAll P tt fi k0 ops K n listed s → wpAnyIn (FW r) 0 P .any ops Q n listed a c.w
  | 0, D, listed, hs, hf, c, lb, s, a, S, hF, hk, h => ⟨h.1, hn c lb s a S h.2⟩
  | n + 1, D, listed, hs, hf, c, lb, s, a, S, hF, hk, h => by
    refine ⟨fun he => absurd he h.1, fun i hi => ?_⟩
    obtain ⟨hun, o, ho, hp⟩ := mem_ready.1 hi
    have hlt : i < ops.size := (Array.getElem?_eq_some_iff.1 ho).1
    have hc' := hc
    unfold allOk at hc'
    simp only [Bool.and_eq_true, List.all_eq_true, List.mem_range, Bool.or_eq_true, beq_iff_eq] at hc'
    obtain ⟨hc1, hc2⟩ := hc'
    have hG := h.2 i hi o ho
    have hdn : ∀ d, o.dst = some d → d < fi.n := by
      intro d hd
      have := hc2 i hlt
      rw [ho] at this
      simpa [hd] using this
    have hfr : ∀ d, o.dst = some d → d ∉ D := hf i o ho hun
    have hf2 : ∀ (j : Nat) (o' : Oper), ops[j]? = some o' → (listed.setIfInBounds i true).getD j true = false → ∀ d, o'.dst = some d → d ∉ o.dst.toList ++ D := by
      intro j o' ho' hl d hd hm
      have hji : ¬ i = j := by
        intro e; subst e
        simp [hs, hlt] at hl
      have hl' : listed.getD j true = false := by
        simpa [Array.getElem?_setIfInBounds, hji] using hl
      rcases List.mem_append.1 hm with hm | hm
      · have hdo : o.dst = some d := by simpa using hm
        have hjl : j < ops.size := (Array.getElem?_eq_some_iff.1 ho').1
        rcases hc1 i hlt j hjl with e | e
        · exact hji e
        · rw [ho, ho'] at e
          dsimp only at e
          rw [hdo] at e
          simp [hd] at e
      · exact hf j o' ho' hl' d hd hm
    have next : ∀ c' lb' s' a', SR c0 h0 c' lb' s' fi.n a' → Fresh k0 c' lb' (o.dst.toList ++ D) → k0 < s'.h.clk → awpAll P tt fi k0 ops K n (listed.setIfInBounds i true) s' → wpAnyIn (FW r) 0 P .any ops Q n (listed.setIfInBounds i true) a' c'.w :=
      fun c' lb' s' a' S' F' k' h' => all_sound T hk0 hn hc n _ _ (by simp [hs]) hf2 c' lb' s' a' S' F' k' h'
    have run_ : awp1 P tt fi k0 o s (awpAll P tt fi k0 ops K n (listed.setIfInBounds i true)) → o.wpIn (FW r) 0 P a c.w (wpAnyIn (FW r) 0 P .any ops Q n (listed.setIfInBounds i true)) Q := fun h1 =>
      op1_sound T S hF hk hk0 (fun d hd => ⟨hdn d hd, hfr d hd⟩) h1 next
    have skip_ : awpAll P tt fi k0 ops K n (listed.setIfInBounds i true) (s.set o.dst (.tup [])) → wpAnyIn (FW r) 0 P .any ops Q n (listed.setIfInBounds i true) (a.put o.dst undef) c.w := fun h1 =>
      next c lb _ _ (S.put VL_undef hdn) (hF.mono (fun d hd => List.mem_append.2 (.inr hd))) (by rw [AS.set_h]; exact hk) h1
    unfold wpOpIn
    simp only [ho]
    unfold awpG at hG
    cases hg : gst ops o s with
    | none => rw [hg] at hG; exact hG.elim
    | some b =>
      rw [hg] at hG
      have hw := gst_sound S.fr hg
      cases b
      · rw [if_neg (by rw [hw]; simp)]
        exact ⟨fun _ _ => trivial, skip_ (hG.2 rfl)⟩
      · rw [if_pos hw]
        exact run_ (hG.1 rfl)
theorem ASem.drawAll {r : Option Nat} (T : Tab P tt) (hm : P.follows .mixedOrders = true) {fi : FI} {id : Nat} {ops : Array Oper} {Q : Exit → AS → Prop} {s : AS} (hc : allOk fi ops = true)
    (h : awpAll P tt fi s.h.clk ops (fun s' => Q .normal s') ops.size (Array.replicate ops.size false) { s with h := s.h.tick (s.h.clk + 1) }) : ASem P r fi.n (.region id ops true) Q s := by
  intro c0 h0 c lb a S
  obtain ⟨S1, hF⟩ := S.ticked
  exact wpIn_region_any hm (all_sound T (K := fun s' => Q .normal s') (c := { c with w := c.w.drew }) S.evo.clk (fun c' lb' s' a' S' hK => ⟨c', lb', s', rfl, S', hK⟩) hc ops.size [] _ (by simp) (fun j o _ _ d _ => by simp) lb _ a S1.drew hF (Nat.lt_succ_self _) h)
theorem asem_seqAll {fi : FI} (T : Tab P tt) (hm : P.follows .mixedOrders = true) {id : Nat} {ops : Array Oper} {b : Code} {Q : Exit → AS → Prop} {s : AS} (hc : allOk fi ops = true)
    (h : awpAll P tt fi s.h.clk ops (fun s' => ASem P fi.rnd fi.n b Q s') ops.size (Array.replicate ops.size false) { s with h := s.h.tick (s.h.clk + 1) }) : ASem P fi.rnd fi.n (.seq (.region id ops true) b) Q s :=
  ASem.seq (ASem.drawAll T hm hc h)
/-- The pieces of a walk that takes every order. -/
theorem st_allZ {fi : FI} {k0 : Nat} {ops : Array Oper} {K : AS → Prop} {listed : Array Bool} {s : AS} (hr : Region.ready .any ops listed = []) (h : K s) : awpAll P tt fi k0 ops K 0 listed s := ⟨hr, h⟩
theorem st_all1 {fi : FI} {k0 : Nat} {ops : Array Oper} {K : AS → Prop} {n : Nat} {listed l' : Array Bool} {s : AS} {i : Nat} {dst : Option Tmp} {op : Op} {t : TypeId} {p : String} {a : Array Edge} (hr : Region.ready .any ops listed = [i]) (ho : ops[i]? = some ⟨dst, op, t, p, a, none⟩) (hl : listed.setIfInBounds i true = l')
    (h : awp1 P tt fi k0 ⟨dst, op, t, p, a, none⟩ s (awpAll P tt fi k0 ops K n l')) : awpAll P tt fi k0 ops K (n + 1) listed s := by
  subst hl
  refine ⟨by rw [hr]; simp, fun j hj o ho' => ?_⟩
  rw [hr, List.mem_singleton] at hj
  subst hj
  rw [ho] at ho'
  cases ho'
  unfold awpG gst
  exact ⟨fun _ => h, fun e => by cases e⟩
theorem st_all2 {fi : FI} {k0 : Nat} {ops : Array Oper} {K : AS → Prop} {n : Nat} {listed l' m' : Array Bool} {s : AS} {i j : Nat} {dst dst2 : Option Tmp} {op op2 : Op} {t t2 : TypeId} {p p2 : String} {a a2 : Array Edge} (hr : Region.ready .any ops listed = [i, j])
    (ho : ops[i]? = some ⟨dst, op, t, p, a, none⟩) (hl : listed.setIfInBounds i true = l') (ho2 : ops[j]? = some ⟨dst2, op2, t2, p2, a2, none⟩) (hl2 : listed.setIfInBounds j true = m')
    (h : awp1 P tt fi k0 ⟨dst, op, t, p, a, none⟩ s (awpAll P tt fi k0 ops K n l')) (h2 : awp1 P tt fi k0 ⟨dst2, op2, t2, p2, a2, none⟩ s (awpAll P tt fi k0 ops K n m')) : awpAll P tt fi k0 ops K (n + 1) listed s := by
  subst hl hl2
  refine ⟨by rw [hr]; simp, fun k hk o ho' => ?_⟩
  rw [hr] at hk
  simp only [List.mem_cons, List.not_mem_nil, or_false] at hk
  rcases hk with rfl | rfl
  · rw [ho] at ho'
    cases ho'
    unfold awpG gst
    exact ⟨fun _ => h, fun e => by cases e⟩
  · rw [ho2] at ho'
    cases ho'
    unfold awpG gst
    exact ⟨fun _ => h2, fun e => by cases e⟩
end Go.Av

/- A block is given away as an argument. -/
namespace Go.Av
open Go
variable {P : Program}
theorem ACalls.frzIn {f : FuncId} {args args' : List AV} {h : AH} {Q : AV → AH → Prop} {b : Bid} {k : Blk} (hb : h.at_ b = some k) (ha : args' = frzs b k args) (H : ACalls P f args' (h.put b none) Q) : ACalls P f args h Q := by
  subst ha
  refine ⟨H.1, fun c xs hh hv => ?_⟩
  obtain ⟨H2, E2⟩ := hh.freeze hb
  refine (H.2 (c.freeze b) xs H2 (VRs.frz hh hb _ _ hv)).mono ?_
  rintro e w' ⟨v, x, c', h', rfl, rfl, hx, H', E, hdn, q⟩
  exact ⟨v, x, c', h', rfl, rfl, hx, H', E2.trans E, hdn, q⟩
end Go.Av
