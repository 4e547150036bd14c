/- Our own logic over the model: abstract values, an abstract heap, and what a piece of code asks of them. Lean checks it. Conditions: none. -/
import Derived.Test.YtbbkeakbomngoaaBaseC
set_option linter.all false
set_option linter.unusedSimpArgs false
set_option linter.unusedVariables false
/- A range over a function within a round of another one. -/
namespace Go.Av
open Go
variable {P : Program} {tt : Nat → TI} {fi : FI}
end Go.Av
/- A region that draws its order, taken in every order. -/
namespace Go.Av
open Go
variable {P : Program} {tt : Nat → TI}
end Go.Av
/- A block is given away as an argument. -/
namespace Go.Av
open Go
variable {P : Program}
theorem ACalls.frzIn {f : FuncId} {args args' : List AV} {h : AH} {Q : AV → AH → Prop} {b : Bid} {k : Blk} (hb : h.at_ b = some k) (ha : args' = frzs b k args) (H : ACalls P f args' (h.put b none) Q) : ACalls P f args h Q := by
  subst ha
  refine ⟨H.1, fun c xs hh hv => ?_⟩
  obtain ⟨H2, E2⟩ := hh.freeze hb
  refine (H.2 (c.freeze b) xs H2 (VRs.frz hh hb _ _ hv)).mono ?_
  rintro e w' ⟨v, x, c', h', rfl, rfl, hx, H', E, hdn, q⟩
  exact ⟨v, x, c', h', rfl, rfl, hx, H', E2.trans E, hdn, q⟩
end Go.Av
/- A variable that holds a function that holds the variable. -/
namespace Go.Av
open Go
variable {P : Program}
/-- The variable, unrolled so often. -/
def knot (g : Fn) (cap : List AV) : Nat → AV
  | 0 => .undef
  | n + 1 => .iptr [.fn g [] (cap ++ [knot g cap n])] 0
theorem VRs.unapp {c : Cx} : ∀ {vs ws : List AV} {zs : List Value}, VRs c (vs ++ ws) zs → ∃ xs ys, zs = xs ++ ys ∧ VRs c vs xs ∧ VRs c ws ys
  | [], ws, zs, h => ⟨[], zs, rfl, VRs.nil, h⟩
  | v :: vs, ws, zs, h => by
    simp only [List.cons_append, VRs] at h
    obtain ⟨x, xs, rfl, hx, h⟩ := h
    obtain ⟨us, ys, rfl, h1, h2⟩ := VRs.unapp h
    exact ⟨x :: us, ys, rfl, VRs.cons hx h1, h2⟩
theorem VR.knot {c : Cx} {h : AH} (H : HRel c h) {b : Bid} {g : Fn} {cap : List AV} (hb : h.at_ b = some ⟨1, [[.fn g [] (cap ++ [.ptr b 0 0])]]⟩) : ∀ (n : Nat) (x : Value), VR c (.ptr b 0 0) x → VR (c.freeze b) (Av.knot g cap n) x
  | 0, x, _ => by simp [Av.knot, VR]
  | n + 1, x, hx => by
    have hz := VR.frz H hb (.ptr b 0 0) x hx
    simp only [Av.frz, List.length_cons, List.length_nil, Nat.zero_add, true_and, Nat.lt_one_iff, if_true, List.getD_cons_zero] at hz
    simp only [VR] at hz
    obtain ⟨b0, o, xs, hxe, him, hra, hcs, hvs⟩ := hz
    simp only [VRs] at hvs
    obtain ⟨y, ys, rfl, hy, rfl⟩ := hvs
    simp only [VR] at hy
    obtain ⟨us, ws, rfl, hu, hw⟩ := hy
    obtain ⟨w1, w2, rfl, h1, h2⟩ := hw.unapp
    simp only [VRs] at h2
    obtain ⟨p, ps, rfl, hp, rfl⟩ := h2
    have hp' : VR c (.ptr b 0 0) p := by
      simp only [VR] at hp ⊢
      exact hp
    have ih := VR.knot H hb n p hp'
    show VR (c.freeze b) (.iptr [.fn g [] (cap ++ [Av.knot g cap n])] 0) x
    simp only [VR]
    refine ⟨b0, o, _, hxe, him, hra, by rfl, VRs.cons ?_ VRs.nil⟩
    simp only [VR]
    exact ⟨us, _, rfl, hu, h1.append (VRs.cons ih VRs.nil)⟩
theorem ASem.knot {r : Option Nat} {n : Nat} {code : Code} {Q : Exit → AS → Prop} {T : Nat → AV} {B : Bid → Option (List AV)} {M : List Nat} {H : AH} {b : Bid} {g : Fn} {cap : List AV} (d m : Nat) (hd : T d = .ptr b 0 0) (hb : H.at_ b = some ⟨1, [[.fn g [] (cap ++ [.ptr b 0 0])]]⟩)
    (h : ASem P r n code Q ⟨upd T d (Av.knot g cap m), B, M, H.put b none⟩) : ASem P r n code Q ⟨T, B, M, H⟩ := by
  intro c0 h0 c lb a S
  obtain ⟨H2, E2⟩ := S.hr.freeze hb
  have S2 := S.go H2 E2 (fun _ h => .inl h)
  refine h c0 h0 (c.freeze b) lb a ⟨S2.hr, ⟨S2.fr.size, fun t => ?_, S2.fr.defers, S2.fr.marks, S2.fr.box, S2.fr.lbclk, S2.fr.lbinj, S2.fr.lbsize⟩, S2.evo, S2.new, S2.dn, S2.mnew⟩
  by_cases e : t = d
  · subst e
    dsimp only
    rw [upd_same]
    have := S.fr.tmps t
    dsimp only at this
    rw [hd] at this
    exact (VR.knot S.hr hb m _ (this.vr rfl)).vl lb
  · dsimp only; rw [upd_ne _ _ e]; exact S2.fr.tmps t
end Go.Av
/- A loop in whose rounds functions are ranged over. -/
namespace Go.Av
variable {P : Program} {tt : Nat → TI} {fi : FI}
theorem st_loopM {α : Type} (T0 : Tab P tt) (hm : P.follows .mixedOrders = true) {c : Code} {Q : Exit → AS → Prop} {T : Nat → AV} {B : Bid → Option (List AV)} {M : List Nat} {h : AH}
    (sl : List Nat) (bs : List Bid) (hbs : bsOk T sl bs) (cl : List Nat) (cb : List Bid) (hcb : bsOk T cl cb) (V : α → List (Nat × AV)) (C : List (Nat × AV)) (VB : α → List (List AV)) (CB : List (List AV)) (H : α → AH) (inv : α → Prop) (μ : α → Nat) (hk : codeOk fi c = true)
    (a0 : α) (i0 : inv a0) (h1 : keepOk T (V a0 ++ C)) (h2 : keepBOk B (bs.zip (VB a0) ++ cb.zip CB)) (h3 : HOld (H a0) h)
    (round : ∀ a n M', inv a → (H a).clk ≤ n → awp P tt fi c (thenA (fun s => ∃ a', inv a' ∧ μ a' < μ a ∧ keepOk s.tmp (V a' ++ C) ∧ keepBOk s.box (bs.zip (VB a') ++ cb.zip CB) ∧ HOld (H a') s.h) Q) ⟨keep (V a ++ C), keepB (bs.zip (VB a) ++ cb.zip CB), M', (H a).tick n⟩) :
    awp P tt fi (.loop c) Q ⟨T, B, M, h⟩ := by
  show ASem P fi.rnd fi.n (.loop c) Q ⟨T, B, M, h⟩
  classical
  let L : α → List (Nat × AV) := fun a => V a ++ C
  let LB : α → List (Bid × List AV) := fun a => bs.zip (VB a) ++ cb.zip CB
  let G : AS → α → Prop := fun s a => inv a ∧ ∃ n M', (H a).clk ≤ n ∧ Sub ⟨keep (L a), keepB (LB a), M', (H a).tick n⟩ s
  let ν : AS → Nat := fun s => if hx : ∃ m, ∃ a, G s a ∧ μ a = m then (exists_min _ hx).choose else 0
  have hν : ∀ s a, G s a → ν s ≤ μ a := by
    intro s a ha
    have hex : ∃ m, ∃ a, G s a ∧ μ a = m := ⟨μ a, a, ha, rfl⟩
    simp only [ν, dif_pos hex]
    exact (exists_min _ hex).choose_spec.2 _ ⟨a, ha, rfl⟩
  have hat : ∀ s, (∃ a, G s a) → ∃ a, G s a ∧ μ a = ν s := by
    rintro s ⟨a, ha⟩
    have hex : ∃ m, ∃ a, G s a ∧ μ a = m := ⟨μ a, a, ha, rfl⟩
    simp only [ν, dif_pos hex]
    exact (exists_min _ hex).choose_spec.1
  refine ASem.loop (fun s => ∃ a, G s a) ν ⟨a0, i0, h.clk, M, h3.clk, Sub.of h1 h2 h3.sub⟩ ?_
  intro s hs
  obtain ⟨a, ⟨ha, n, M', hn, hsub⟩, hm'⟩ := hat s hs
  refine ASem.sub hsub ((awp_sound T0 hm c _ _ hk (round a n M' ha hn)).mono ?_)
  intro e s' q
  cases e with
  | normal =>
    obtain ⟨a', g1, g2, g3, g4, g6⟩ := q
    have hG : G s' a' := by
      obtain ⟨T', B', M'', h'⟩ := s'
      exact ⟨g1, h'.clk, M'', g6.clk, Sub.of g3 g4 g6.sub⟩
    exact ⟨⟨a', hG⟩, Nat.lt_of_le_of_lt (hν _ _ hG) (hm' ▸ g2)⟩
  | _ => exact q
end Go.Av
/- copy; an array, taken as a slice. -/
namespace Go.Av
variable {P : Program} {tt : Nat → TI} {fi : FI} {k0 : Nat} {ops : Array Oper} {K : AS → Prop} {T : Nat → AV} {B : Bid → Option (List AV)} {M : List Nat} {H : AH}
def acopyz (z : Nat) (h : AH) (x y : AV) : Option (Nat × AH) := match asrc h z y with
  | none => none
  | some rows => match x with
    | .slc b e 0 n => match h.at_ b with
      | some k => if e = z ∧ n = k.es.length ∧ n ≤ rows.length then some (n, h.put b (some ⟨k.esz, rows.take n⟩)) else none
      | none => none
    | _ => none
@[go_sem] theorem acopyz_slc (z e n : Nat) (h : AH) (b : Bid) (y : AV) : acopyz z h (.slc b e 0 n) y = (asrc h z y).bind fun rows => (h.at_ b).bind fun k => if e = z ∧ n = k.es.length ∧ n ≤ rows.length then some (n, h.put b (some ⟨k.esz, rows.take n⟩)) else none := by
  unfold acopyz
  cases asrc h z y <;> (try rfl)
  simp only [Option.bind_some]
  cases h.at_ b <;> rfl
theorem asl_iptr {ti : TI} {n el : Nat} (hk : ti.k = .array n el) (cs : List AV) : asl ti 1 none none (.iptr cs 0) = if cs.length = n then some (.lst 1 (cs.map fun x => [x])) else none := by
  simp only [asl, hk, true_and, and_true]
theorem st_copy {d : Tmp} {x y : Operand} {u u' t : TypeId} {p : String} {a : Array Edge} {g : Option (Nat × Bool)} {v : Nat} {H' : AH} (h : acopy tt H u (AS.ev ⟨T, B, M, H⟩ x) (AS.ev ⟨T, B, M, H⟩ y) = some (v, H')) (hk : K ⟨upd T d (.int .i64 v), B, M, H'⟩) :
    awp1 P tt fi k0 ⟨some d, .call ⟨.builtin .copy, #[x, y], #[u, u']⟩, t, p, a, g⟩ ⟨T, B, M, H⟩ K := by
  unfold awp1; dsimp only
  unfold awpCall
  exact ⟨_, h, hk⟩
/-- A region that was left as it stands is run after all. -/
theorem st_run (T0 : Tab P tt) (hm : P.follows .mixedOrders = true) {f2 : FI} {r : Option Nat} {n : Nat} {code : Code} {Q : Exit → AS → Prop} {s : AS} (hr : f2.rnd = r) (hn : f2.n = n) (hk : codeOk f2 code = true) (h : awp P tt f2 code Q s) : ASem P r n code Q s := by
  subst hr hn; exact asem_awp T0 hm hk h
end Go.Av
/- A scope through which the run goes without a goto. -/
namespace Go.Av
variable {P : Program} {tt : Nat → TI} {fi : FI}
theorem stepR_scope {b : Frame} {a : Act} {k : List Item} {cs : List Frame} {w : World} {c : Code} : step P (lone (b.atR a (.code (.scope c) :: k)) cs w) = .next (lone (b.atR a (.code c :: .inScope c :: k)) cs w) :=
  step_lone_go (by simp [stepG, stepG.exec, Frame.atR])
theorem stepR_inScope {b : Frame} {a : Act} {k : List Item} {cs : List Frame} {w : World} {c : Code} : step P (lone (b.atR a (.inScope c :: k)) cs w) = .next (lone (b.atR a k) cs w) :=
  step_lone_go (by simp [stepG, stepG.exec, Frame.atR])
theorem wpIn_scope_straight {F : Fence} {n : Nat} {Q : Exit → Act → World → Prop} {a : Act} {w : World} {c : Code} (h : c.wpIn F n P (Exit.noGoto Q) a w) : (Code.scope c).wpIn F n P Q a w := by
  intro b k cs hro hb hr
  have h0 : (lone (b.atR a (.code (.scope c) :: k)) cs w).fenced P F := fenced_calm hb hr rfl
  obtain ⟨e, a₁, w₁, hq, harr⟩ := h b (.inScope c :: k) cs hro hb hr
  cases e with
  | normal => exact ⟨.normal, a₁, w₁, hq, .head h0 stepR_scope (StepsIn.trans harr (.one (fenced_calm hb hr rfl) stepR_inScope))⟩
  | exit id =>
    have hx : exitTo id (.inScope c :: k) = exitTo id k := by simp [exitTo]
    exact ⟨.exit id, a₁, w₁, hq, fun k' hk => .head h0 stepR_scope (harr.1 k' (by rw [hx]; exact hk)),
      fun hr' hk => let ⟨k₁, h1, h2⟩ := harr.2 hr' (by rw [hx]; exact hk); ⟨k₁, h1, .head h0 stepR_scope h2⟩⟩
  | goto l => exact hq.elim
  | ret => exact ⟨_, a₁, w₁, hq, .of_steps (.one h0 stepR_scope) harr⟩
  | panic ch => exact ⟨_, a₁, w₁, hq, .of_steps (.one h0 stepR_scope) harr⟩
  | outgrown => exact ⟨_, a₁, w₁, hq, .of_steps (.one h0 stepR_scope) harr⟩
/-- What is asked where a scope is left without a goto. -/
def noGA (Q : Exit → AS → Prop) : Exit → AS → Prop
  | .goto _, _ => False
  | e, s => Q e s
theorem ASem.scope {r : Option Nat} {n : Nat} {c : Code} {Q : Exit → AS → Prop} {s : AS} (h : ASem P r n c (noGA Q) s) : ASem P r n (.scope c) Q s := by
  intro c0 h0 c lb a S
  refine wpIn_scope_straight (wpIn_mono (h c0 h0 c lb a S) ?_)
  rintro e a' w' ⟨c', lb', s', rfl, S', q⟩
  cases e with
  | goto l => exact q.elim
  | _ => exact ⟨c', lb', s', rfl, S', q⟩
theorem st_scope (T : Tab P tt) (hm : P.follows .mixedOrders = true) {c : Code} {Q : Exit → AS → Prop} {s : AS} (hk : codeOk fi c = true) (h : awp P tt fi c (noGA Q) s) : awp P tt fi (.scope c) Q s :=
  ASem.scope (awp_sound T hm c _ _ hk h)
theorem st_noN {Q : Exit → AS → Prop} {s : AS} (h : Q .normal s) : noGA Q .normal s := h
theorem st_noR {Q : Exit → AS → Prop} {s : AS} (h : Q .ret s) : noGA Q .ret s := h
theorem st_noE {Q : Exit → AS → Prop} {s : AS} {id : Nat} (h : Q (.exit id) s) : noGA Q (.exit id) s := h
theorem st_label {l : Nat} {Q : Exit → AS → Prop} {s : AS} (h : Q .normal s) : awp P tt fi (.label l) Q s := h
theorem st_free {id : Nat} {ops : Array Oper} {draw : Bool} {Q : Exit → AS → Prop} {s : AS} (h : ASem P fi.rnd fi.n (.region id ops draw) Q s) (hf : fi.free id = true := by rfl) : awp P tt fi (.region id ops draw) Q s := by
  unfold awp; rw [hf]; exact h
/-- A block is given away, in the temporaries and in the boxes. -/
theorem ASem.frzC {r : Option Nat} {n : Nat} {code : Code} {Q : Exit → AS → Prop} {T T' : Nat → AV} {B B' : Bid → Option (List AV)} {M : List Nat} {H : AH} {b : Bid} {k : Blk} (hb : H.at_ b = some k) (hT : ∀ t, T' t = T t ∨ T' t = Go.Av.frz b k (T t))
    (hB : ∀ id cs', B' id = some cs' → ∃ cs, B id = some cs ∧ (cs' = cs ∨ cs' = frzs b k cs))
    (h : ASem P r n code Q ⟨T', B', M, H.put b none⟩) : ASem P r n code Q ⟨T, B, M, H⟩ := by
  intro c0 h0 c lb a S
  obtain ⟨H2, E2⟩ := S.hr.freeze hb
  have S2 := S.go H2 E2 (fun _ h => .inl h)
  refine h c0 h0 (c.freeze b) lb a ⟨S2.hr, ⟨S2.fr.size, fun t => ?_, S2.fr.defers, S2.fr.marks, fun id cs' hcs => ?_, S2.fr.lbclk, S2.fr.lbinj, S2.fr.lbsize⟩, S2.evo, S2.new, S2.dn, S2.mnew⟩
  · rcases hT t with e | e
    · dsimp only; rw [e]; exact S2.fr.tmps t
    · dsimp only; rw [e]; exact VL.frz S.hr hb (S.fr.tmps t)
  · obtain ⟨cs, hcs0, e⟩ := hB id cs' hcs
    obtain ⟨b1, xs, ty, g1, g2, g3, g4, g5, g6⟩ := S2.fr.box id cs hcs0
    rcases e with rfl | rfl
    · exact ⟨b1, xs, ty, g1, g2, g3, g4, g5, g6⟩
    · obtain ⟨b2, xs2, ty2, k1, k2, k3, k4, k5, k6⟩ := S.fr.box id cs hcs0
      have eb : b1 = b2 := Option.some.inj (g1.symm.trans k1)
      subst eb
      have ex : (some (Obj.cells (List.toArray xs) ty (0, 0))) = some (Obj.cells (List.toArray xs2) ty2 (0, 0)) := g2.symm.trans k2
      have ex2 : xs = xs2 := by
        have := Option.some.inj ex
        injection this with h1 h2 h3
        simpa using h1
      subst ex2
      exact ⟨b1, xs, ty, g1, g2, g3, g4, VRs.frz S.hr hb _ _ k5, by rw [frzs_all]; exact k6⟩
/-- A cell that one temporary points to is given away. -/
theorem ASem.frzT {r : Option Nat} {n : Nat} {code : Code} {Q : Exit → AS → Prop} {T : Nat → AV} {B : Bid → Option (List AV)} {M : List Nat} {H : AH} {b : Bid} {z : Nat} {row : List AV} (d : Nat) (hb : H.at_ b = some ⟨z, [row]⟩) (hd : T d = .ptr b 0 0)
    (h : ASem P r n code Q ⟨upd T d (.iptr row 0), B, M, H.put b none⟩) : ASem P r n code Q ⟨T, B, M, H⟩ := by
  refine ASem.frzC hb (T' := upd T d (.iptr row 0)) (B' := B) (fun t => ?_) (fun id cs' hh => ⟨cs', hh, .inl rfl⟩) h
  by_cases e : t = d
  · subst e; right; rw [hd]; simp [upd, Go.Av.frz]
  · left; simp [upd, e]
/-- A slice that one temporary holds is given away. -/
theorem ASem.frzS {r : Option Nat} {n : Nat} {code : Code} {Q : Exit → AS → Prop} {T : Nat → AV} {B : Bid → Option (List AV)} {M : List Nat} {H : AH} {b : Bid} {k : Blk} {es : List (List AV)} (d e m : Nat) (hb : H.at_ b = some k) (hd : T d = .slc b e 0 m) (he : k.es = es) (hm : m = es.length)
    (h : ASem P r n code Q ⟨upd T d (.lst e es), B, M, H.put b none⟩) : ASem P r n code Q ⟨T, B, M, H⟩ := by
  subst he
  refine ASem.frzC hb (T' := upd T d (.lst e k.es)) (B' := B) (fun t => ?_) (fun id cs' hh => ⟨cs', hh, .inl rfl⟩) h
  by_cases e : t = d
  · subst e; right; rw [hd]; subst hm; simp [upd, Go.Av.frz]
  · left; simp [upd, e]
theorem ASem.leT {r : Option Nat} {n : Nat} {code : Code} {Q : Exit → AS → Prop} {T : Nat → AV} {B : Bid → Option (List AV)} {M : List Nat} {H : AH} (d : Nat) {v v' : AV} (hd : T d = v) (hn : noL v = true) (hl : VLe v v')
    (h : ASem P r n code Q ⟨upd T d v', B, M, H⟩) : ASem P r n code Q ⟨T, B, M, H⟩ := by
  intro c0 h0 c lb a S
  refine h c0 h0 c lb a ⟨S.hr, ⟨S.fr.size, fun t => ?_, S.fr.defers, S.fr.marks, S.fr.box, S.fr.lbclk, S.fr.lbinj, S.fr.lbsize⟩, S.evo, S.new, S.dn, S.mnew⟩
  by_cases e : t = d
  · subst e; dsimp only; rw [upd_same]
    have := S.fr.tmps t
    dsimp only at this
    rw [hd] at this
    exact (hl _ _ (this.vr hn)).vl lb
  · dsimp only; rw [upd_ne _ _ e]; exact S.fr.tmps t
/-- A slice in a temporary, or nil, is given away; all other blocks stay. -/
theorem ASem.cutK {r : Option Nat} {n : Nat} {code : Code} {Q : Exit → AS → Prop} {T : Nat → AV} {B : Bid → Option (List AV)} {M : List Nat} {H : AH} (d z : Nat) (l : List (List AV))
    (hd : (T d = .nils ∧ l = []) ∨ ∃ b, T d = .slc b z 0 l.length ∧ H.at_ b = some ⟨z, l⟩)
    (h : ∀ H', (∀ b, (∀ m, T d ≠ .slc b z 0 m) → H'.at_ b = H.at_ b) → H'.clk = H.clk → H'.lp = H.lp → ASem P r n code Q ⟨upd T d (.lst z l), B, M, H'⟩) : ASem P r n code Q ⟨T, B, M, H⟩ := by
  rcases hd with ⟨h1, rfl⟩ | ⟨b, h1, h2⟩
  · exact ASem.leT d h1 rfl (VLe.nils z) (h H (fun _ _ => rfl) rfl rfl)
  · refine ASem.frzS d z l.length h2 h1 rfl rfl (h _ (fun b' hb' => ?_) rfl rfl)
    have : ¬ b' = b := fun e => hb' l.length (by rw [e]; exact h1)
    exact upd_ne _ _ this
end Go.Av
/- A slice in a box is given away; all other blocks stay. -/
namespace Go.Av
variable {P : Program} {tt : Nat → TI} {fi : FI}
/-- Boxes that say less. -/
theorem ASem.leBx {r : Option Nat} {n : Nat} {code : Code} {Q : Exit → AS → Prop} {T : Nat → AV} {B B' : Bid → Option (List AV)} {M : List Nat} {H : AH}
    (hB : ∀ id cs', B' id = some cs' → ∃ cs, B id = some cs ∧ VLes cs cs' ∧ (cs.all AV.cell = true → cs'.all AV.cell = true)) (h : ASem P r n code Q ⟨T, B', M, H⟩) : ASem P r n code Q ⟨T, B, M, H⟩ := by
  intro c0 h0 c lb a S
  refine h c0 h0 c lb a ⟨S.hr, ⟨S.fr.size, S.fr.tmps, S.fr.defers, S.fr.marks, fun id cs' hcs => ?_, S.fr.lbclk, S.fr.lbinj, S.fr.lbsize⟩, S.evo, S.new, S.dn, S.mnew⟩
  obtain ⟨cs, hcs0, e, ec⟩ := hB id cs' hcs
  obtain ⟨b1, xs, ty, g1, g2, g3, g4, g5, g6⟩ := S.fr.box id cs hcs0
  exact ⟨b1, xs, ty, g1, g2, g3, g4, e.rel g5, ec g6⟩
theorem ASem.cutX {r : Option Nat} {n : Nat} {code : Code} {Q : Exit → AS → Prop} {T : Nat → AV} {B : Bid → Option (List AV)} {M : List Nat} {H : AH} (id : Bid) (W : Bid → Prop) {cs cs' : List AV} (h0 : B id = some cs)
    (hd : (VLes cs cs' ∧ (cs.all AV.cell = true → cs'.all AV.cell = true)) ∨ ∃ b k, H.at_ b = some k ∧ cs' = frzs b k cs ∧ W b)
    (h : ∀ H', (∀ b', ¬ W b' → H'.at_ b' = H.at_ b') → H'.clk = H.clk → H'.lp = H.lp → ASem P r n code Q ⟨T, upd B id (some cs'), M, H'⟩) : ASem P r n code Q ⟨T, B, M, H⟩ := by
  rcases hd with ⟨h1, h2⟩ | ⟨b, k, hb, rfl, hw⟩
  · refine ASem.leBx (fun i ds hds => ?_) (h H (fun _ _ => rfl) rfl rfl)
    by_cases e : i = id
    · subst e
      rw [upd_same] at hds
      cases hds
      exact ⟨cs, h0, h1, h2⟩
    · rw [upd_ne _ _ e] at hds
      exact ⟨ds, hds, VLes.refl ds, fun h => h⟩
  · refine ASem.frzC (T' := T) (B' := upd B id (some (frzs b k cs))) hb (fun _ => .inl rfl) (fun i ds hds => ?_) (h _ (fun b' hb' => ?_) rfl rfl)
    · by_cases e : i = id
      · subst e
        rw [upd_same] at hds
        cases hds
        exact ⟨cs, h0, .inr rfl⟩
      · rw [upd_ne _ _ e] at hds
        exact ⟨ds, hds, .inl rfl⟩
    · exact upd_ne _ _ (fun e => hb' (by rw [e]; exact hw))
end Go.Av
/- A slice that lies in another block is given away. -/
namespace Go.Av
variable {P : Program} {tt : Nat → TI} {fi : FI}
end Go.Av
/- A drawn region with one heap block that every call keeps: loads out of it pass the calls. (Printed by gen46.py.) -/
namespace Go.Av
variable {P : Program} {tt : Nat → TI} {gb : Bid}
end Go.Av
/- A list that grows: nil, or a block of one's own; append without cases. -/
namespace Go.Av
variable {P : Program} {tt : Nat → TI} {fi : FI} {k0 : Nat} {ops : Array Oper} {K : AS → Prop} {T : Nat → AV} {B : Bid → Option (List AV)} {M : List Nat} {H : AH}
/-- A value is nil and a list is empty, or it is a slice whose block, no older than a number, holds the list. -/
def SlA (h0 : Nat) (g : AH) (v : AV) (z : Nat) (l : List (List AV)) : Prop := (v = .nils ∧ l = []) ∨ ∃ b1 : Bid, v = .slc b1 z 0 l.length ∧ g.at_ b1 = some ⟨z, l⟩ ∧ h0 ≤ b1.1 ∧ b1.1 < g.clk
theorem SlA.nil (h0 : Nat) (g : AH) (z : Nat) : SlA h0 g .nils z [] := .inl ⟨rfl, rfl⟩
theorem SlA.to {h0 : Nat} {g g' : AH} {v : AV} {z : Nat} {l : List (List AV)} (hS : SlA h0 g v z l) (hk : ∀ b1 m, v = .slc b1 z 0 m → h0 ≤ b1.1 → b1.1 < g.clk → g'.at_ b1 = g.at_ b1) (hc : g.clk ≤ g'.clk) : SlA h0 g' v z l := by
  rcases hS with h' | ⟨b1, h1, h2, h3, h4⟩
  · exact .inl h'
  · exact .inr ⟨b1, h1, by rw [hk b1 _ h1 h3 h4]; exact h2, h3, by omega⟩
theorem SlA.noL {h0 : Nat} {g : AH} {v : AV} {z : Nat} {l : List (List AV)} (hS : SlA h0 g v z l) : noL v = true := by
  rcases hS with ⟨rfl, _⟩ | ⟨b1, rfl, _⟩ <;> rfl
theorem SlA.cell {h0 : Nat} {g : AH} {v : AV} {z : Nat} {l : List (List AV)} (hS : SlA h0 g v z l) : v.cell = true := by
  rcases hS with ⟨rfl, _⟩ | ⟨b1, rfl, _⟩ <;> rfl
theorem SlA.lt {h0 : Nat} {g : AH} {v : AV} {z : Nat} {l : List (List AV)} (hS : SlA h0 g v z l) {b : Bid} {m : Nat} (e : v = .slc b z 0 m) : h0 ≤ b.1 ∧ b.1 < g.clk ∧ g.at_ b = some ⟨z, l⟩ ∧ m = l.length := by
  rcases hS with ⟨rfl, _⟩ | ⟨b1, rfl, h2, h3, h4⟩
  · cases e
  · injection e with e1 e2 e3 e4; subst e1; exact ⟨h3, h4, h2, e4.symm⟩
/-- What is there after something was appended to a list of one's own. -/
structure AppA (h0 k0 d : Nat) (H : AH) (v : AV) (z n : Nat) (l : List (List AV)) (v' : AV) (G : AH) : Prop where
  sl : SlA h0 (G.tick n) v' z l
  lp : G.lp = H.lp
  keep : ∀ b : Bid, (∀ m, v ≠ .slc b z 0 m) → b ≠ (k0, d) → G.at_ b = H.at_ b
  nol : noL v' = true
  new : v' = .nils ∨ v' = .slc (k0, d) z 0 l.length
  old : ∀ b : Bid, b.1 < h0 → G.at_ b = H.at_ b
theorem st_appS {d : Tmp} {x y : Operand} {u t : TypeId} {p : String} {a : Array Edge} {g : Option (Nat × Bool)} {v : AV} {z m n h0 : Nat} {l rows : List (List AV)} {G0 : AH}
    (ht : ∀ h id x y, aapp tt h u id x y = aappz z m h id x y) (hx : AS.ev ⟨T, B, M, H⟩ x = v) (hy : asrc H z (AS.ev ⟨T, B, M, H⟩ y) = some rows) (hcl : H.clk = n) (hz : z ≠ 0)
    (hS : SlA h0 G0 v z l) (hg : ∀ b1 m, v = .slc b1 z 0 m → H.at_ b1 = G0.at_ b1) (hgc : G0.clk ≤ n) (hb : (l.length + rows.length) * m ≤ big ∧ l.length + rows.length ≤ big) (h0k : h0 ≤ k0) (hk0 : k0 < n)
    (hk : ∀ v' G, AppA h0 k0 d H v z n (l ++ rows) v' G → K ⟨upd T d v', B, M, G.tick n⟩) :
    awp1 P tt fi k0 ⟨some d, .call ⟨.builtin .append, #[x, y], #[u, u]⟩, t, p, a, g⟩ ⟨T, B, M, H⟩ K := by
  subst hcl
  rcases hS with ⟨rfl, rfl⟩ | ⟨b1, rfl, h2, h3, h4⟩
  · simp only [List.length_nil, Nat.zero_add] at hb
    by_cases hr : rows.length = 0
    · refine st_append (v := .nils) (H' := H) ?_ ?_
      · rw [ht, hx]; unfold aappz; rw [if_neg hz, hy]; dsimp only; rw [if_pos hb, if_pos hr]
      · have hr0 : rows = [] := List.length_eq_zero_iff.1 hr
        subst hr0
        exact hk .nils H ⟨.inl ⟨rfl, rfl⟩, rfl, fun _ _ _ => rfl, rfl, .inl rfl, fun _ _ => rfl⟩
    · refine st_append (v := .slc (k0, d) z 0 rows.length) (H' := H.put (k0, d) (some ⟨z, rows⟩)) ?_ ?_
      · rw [ht, hx]; unfold aappz; rw [if_neg hz, hy]; dsimp only; rw [if_pos hb, if_neg hr]
      · refine hk _ (H.put (k0, d) (some ⟨z, rows⟩)) ⟨.inr ⟨(k0, d), rfl, ?_, h0k, hk0⟩, rfl, fun b h1 h2 => put_ne H _ h2, rfl, .inr rfl, fun b hb => put_ne H _ (fun e => by rw [e] at hb; dsimp only at hb; omega)⟩
        show (H.put (k0, d) (some ⟨z, rows⟩)).at_ (k0, d) = _
        rw [put_same]; rfl
  · have h2' : H.at_ b1 = some ⟨z, l⟩ := by rw [hg b1 _ rfl]; exact h2
    refine st_append (v := .slc (k0, d) z 0 (l.length + rows.length)) (H' := (H.put b1 none).put (k0, d) (some ⟨z, l.take l.length ++ rows⟩)) ?_ ?_
    · rw [ht, hx]; unfold aappz; rw [if_neg hz, hy]; simp only [h2', if_true, Nat.le_refl, if_pos hb]
    · rw [List.take_length, ← List.length_append]
      have hne : ∀ b : Bid, b ≠ b1 → b ≠ (k0, d) → ((H.put b1 none).put (k0, d) (some ⟨z, l ++ rows⟩)).at_ b = H.at_ b := fun b e1 e2 => by rw [put_ne _ _ e2, put_ne _ _ e1]
      refine hk _ ((H.put b1 none).put (k0, d) (some ⟨z, l ++ rows⟩)) ⟨.inr ⟨(k0, d), rfl, ?_, h0k, hk0⟩, rfl, fun b q1 q2 => hne b (fun e => q1 l.length (by rw [e])) q2, rfl, .inr rfl, fun b q => hne b (fun e => by rw [e] at q; omega) (fun e => by rw [e] at q; dsimp only at q; omega)⟩
      show ((H.put b1 none).put (k0, d) (some ⟨z, l ++ rows⟩)).at_ (k0, d) = _
      rw [put_same]
theorem frz_lst {b : Bid} {z : Nat} {l : List (List AV)} : frz b ⟨z, l⟩ (.slc b z 0 l.length) = .lst z l := by
  simp only [frz]
  rw [if_pos ⟨trivial, by omega⟩, List.drop_zero, List.take_length]
theorem SlA.ans2 {h g : AH} {v : AV} {z : Nat} {l : List (List AV)} {R : AV → Prop} {k : IntKind} {e : Int} (hS : SlA h.clk g v z l) (hR : R (.tup [.lst z l, .int k e])) : (∃ v', VLe (.tup [v, .int k e]) v' ∧ R v') ∨ ∃ b2 k', h.clk ≤ b2.1 ∧ g.at_ b2 = some k' ∧ R (frz b2 k' (.tup [v, .int k e])) := by
  rcases hS with ⟨rfl, rfl⟩ | ⟨b1, rfl, h2, h3, h4⟩
  · exact .inl ⟨_, VLe.tup ⟨_, _, rfl, VLe.nils z, _, _, rfl, .refl _, rfl⟩, hR⟩
  · exact .inr ⟨b1, _, h3, h2, by have e := frz_lst (b := b1) (z := z) (l := l); simp only [frz, frzs] at e ⊢; rw [e]; exact hR⟩
end Go.Av
