/- Contracts of functions that the claim reaches: what each call gives, told in our own logic. Conditions: those of each theorem. -/
import Derived.Test.YthjbfdfhblloiaaBaseD
import Derived.Test.YthjbfdfhblloiaaQ61
import Derived.Test.YthjbfdfhblloiaaQ25
import Derived.Test.YthjbfdfhblloiaaW2
import Derived.Test.YthjbfdfhblloiaaQ30
set_option linter.all false
set_option linter.unusedSimpArgs false
set_option linter.unusedVariables false
namespace Go.Proofs.Ythjbfdfhblloiaa
open Go.Av
attribute [local irreducible] thenA blockA awp awpOps awpD awp1
set_option maxHeartbeats 8000000
set_option maxRecDepth 20000
/-! ### The reference's ways -/
structure RwS where
  d : Nat
  at_ : Int
  W : List Int
  v : AV
  g : AH
theorem dV_is {t : Tw} {c : List Int} {to q : Int} {d : Nat} : dV t c to q = (d : Nat) ↔ dst t c to q = some d := by
  unfold dV
  cases dst t c to q with
  | none => constructor <;> intro e <;> first | omega | cases e
  | some x =>
    dsimp only
    constructor
    · intro e
      have : x = d := by omega
      rw [this]
    · intro e; injection e with e; rw [e]
theorem c30 (t : Tw) (c : List Int) (frm to : Int) (hcl : c.length ≤ 1000000) : Pure Try.prog 30 [t.av, .lst 1 (c.map iv), .int .i64 frm, .int .i64 to] (fun v => v = wayV t c frm to) := by
  have k80 := c80 t c hcl
  have k65 := c65 frm 0 (t.rooms.length - 1 : Int)
  have k65b := c65 to 0 (t.rooms.length - 1 : Int)
  have ht0 : t.av = .agg t.cells := rfl
  refine Pure.give Try.call30 fun h hall => ?_
  by_cases h0 : cloE t c = 0
  case neg =>
    refine ACalls.of tab mixed Try.call30 Try.func30 rfl (fi := ⟨105, [], [4, 53, 102], none, [(18, [0, 0, 3, 7, 15, 31, 63, 127, 255, 511, 1023, 1023, 4095, 8191, 1023, 1023, 50175, 115711, 246783, 524287, 1048575], [(0, false), (1, false), (2, false), (3, true), (4, false), (5, false), (6, false), (7, false), (8, false), (9, false), (10, false), (11, false), (12, false), (13, true), (14, false), (15, false), (16, false), (17, true), (18, false), (19, false), (20, false)])]⟩) rfl rfl (Nat.le_of_ble_eq_true rfl) (by decide) ?_
    unfold startA
    simp only [go_sem]
    repeat' (first | refine st_seq_reg rfl (by first | (simp only [go_sem]; rfl) | rfl) (by first | (simp only [go_sem]; rfl) | rfl) ?_ | refine st_op ?_ | refine st_det rfl (by simp (disch := omega) only [go_sem, wr_i64, if_yes, if_no, ↓reduceIte, Nat.reduceAdd, Nat.reduceMul, Nat.reduceEqDiff, Nat.reduceBEq, Nat.reduceLeDiff]; rfl) ?_ | (refine st_pureE (by first | (simp (disch := omega) only [go_sem]; rfl) | rfl) rfl (k80) (by first | (simp only [go_sem]; rfl) | rfl) (by intro n; first | (simp (disch := omega) only [go_sem]; rfl) | rfl) ?_; intro n hn) | (refine st_condS rfl ?_ ?_ <;> intro hg <;> (try simp only [decide_eq_true_eq, decide_eq_false_iff_not, Bool.not_eq_true', Bool.not_eq_false'] at hg)) | refine st_nil ?_ | refine st_tN ?_ | refine st_seq ?_ | refine st_skip ?_ | refine st_ret ?_ | refine st_tR ?_)
    all_goals try (exfalso; omega)
    simp (disch := omega) only [AEnd, Try.results30, aresK, fin, go_sem, ↓reduceIte, Nat.reduceEqDiff, Nat.reduceAdd, Nat.reduceLeDiff, if_yes, if_no, implies_true, true_and, and_true, List.reverse_cons, List.reverse_nil]
    exact .inl ⟨_, le_nil2 _ 1, by unfold wayV; rw [if_pos h0]⟩
  rw [h0] at k80
  obtain ⟨hT, hc⟩ := cloOk h0
  have hrn := hT.rn
  have hsn := hT.sn
  by_cases h1 : 0 ≤ frm ∧ frm ≤ t.rooms.length - 1
  case neg =>
    rw [decide_eq_false h1] at k65
    refine ACalls.of tab mixed Try.call30 Try.func30 rfl (fi := ⟨105, [], [4, 53, 102], none, [(18, [0, 0, 3, 7, 15, 31, 63, 127, 255, 511, 1023, 1023, 4095, 8191, 1023, 1023, 50175, 115711, 246783, 524287, 1048575], [(0, false), (1, false), (2, false), (3, true), (4, false), (5, false), (6, false), (7, false), (8, false), (9, false), (10, false), (11, false), (12, false), (13, true), (14, false), (15, false), (16, false), (17, true), (18, false), (19, false), (20, false)])]⟩) rfl rfl (Nat.le_of_ble_eq_true rfl) (by decide) ?_
    unfold startA
    rw [ht0]
    unfold Tw.cells
    repeat' (first | refine st_seq_reg rfl (by first | (simp only [go_sem, List.length_map]; rfl) | rfl) (by first | (simp only [go_sem, List.length_map]; rfl) | rfl) ?_ | refine st_op ?_ | refine st_det rfl (by simp (disch := omega) only [go_sem, wr_i64, if_yes, if_no, ↓reduceIte, Nat.reduceAdd, Nat.reduceMul, Nat.reduceEqDiff, Nat.reduceBEq, Nat.reduceLeDiff, List.length_map]; rfl) ?_ | (refine st_pureE (by first | (simp (disch := omega) only [go_sem, List.length_map]; rfl) | rfl) rfl (k80) (by first | (simp only [go_sem, List.length_map]; rfl) | rfl) (by intro n; first | (simp (disch := omega) only [go_sem]; rfl) | rfl) ?_; intro n hn) | (refine st_pureE (by first | (simp (disch := omega) only [go_sem, List.length_map]; rfl) | rfl) rfl (k65) (by first | (simp only [go_sem, List.length_map]; rfl) | rfl) (by intro n; first | (simp (disch := omega) only [go_sem]; rfl) | rfl) ?_; intro n hn) | refine st_gF rfl rfl rfl ?_ | refine st_condT rfl ?_ | refine st_condF rfl ?_ | refine st_nil ?_ | refine st_tN ?_ | refine st_seq ?_ | refine st_skip ?_ | refine st_ret ?_ | refine st_tR ?_)
    all_goals try (exfalso; omega)
    simp (disch := omega) only [AEnd, Try.results30, aresK, fin, go_sem, ↓reduceIte, Nat.reduceEqDiff, Nat.reduceAdd, Nat.reduceLeDiff, if_yes, if_no, implies_true, true_and, and_true, List.reverse_cons, List.reverse_nil]
    exact .inl ⟨_, le_nil2 _ 1, by unfold wayV; rw [if_neg (fun e => e h0), if_pos (fun e => h1 ⟨e.1, e.2.1⟩)]⟩
  rw [decide_eq_true h1] at k65
  by_cases h2 : 0 ≤ to ∧ to ≤ t.rooms.length - 1
  case neg =>
    rw [decide_eq_false h2] at k65b
    refine ACalls.of tab mixed Try.call30 Try.func30 rfl (fi := ⟨105, [], [4, 53, 102], none, [(18, [0, 0, 3, 7, 15, 31, 63, 127, 255, 511, 1023, 1023, 4095, 8191, 1023, 1023, 50175, 115711, 246783, 524287, 1048575], [(0, false), (1, false), (2, false), (3, true), (4, false), (5, false), (6, false), (7, false), (8, false), (9, false), (10, false), (11, false), (12, false), (13, true), (14, false), (15, false), (16, false), (17, true), (18, false), (19, false), (20, false)])]⟩) rfl rfl (Nat.le_of_ble_eq_true rfl) (by decide) ?_
    unfold startA
    rw [ht0]
    unfold Tw.cells
    repeat' (first | refine st_seq_reg rfl (by first | (simp only [go_sem, List.length_map]; rfl) | rfl) (by first | (simp only [go_sem, List.length_map]; rfl) | rfl) ?_ | refine st_op ?_ | refine st_det rfl (by simp (disch := omega) only [go_sem, wr_i64, if_yes, if_no, ↓reduceIte, Nat.reduceAdd, Nat.reduceMul, Nat.reduceEqDiff, Nat.reduceBEq, Nat.reduceLeDiff, List.length_map]; rfl) ?_ | (refine st_pureE (by first | (simp (disch := omega) only [go_sem, List.length_map]; rfl) | rfl) rfl (k80) (by first | (simp only [go_sem, List.length_map]; rfl) | rfl) (by intro n; first | (simp (disch := omega) only [go_sem]; rfl) | rfl) ?_; intro n hn) | (refine st_pureE (by first | (simp (disch := omega) only [go_sem, List.length_map]; rfl) | rfl) rfl (k65) (by first | (simp only [go_sem, List.length_map]; rfl) | rfl) (by intro n; first | (simp (disch := omega) only [go_sem]; rfl) | rfl) ?_; intro n hn) | (refine st_pureE (by first | (simp (disch := omega) only [go_sem, List.length_map]; rfl) | rfl) rfl (k65b) (by first | (simp only [go_sem, List.length_map]; rfl) | rfl) (by intro n; first | (simp (disch := omega) only [go_sem]; rfl) | rfl) ?_; intro n hn) | refine st_gT rfl rfl rfl ?_ | refine st_condT rfl ?_ | refine st_condF rfl ?_ | refine st_nil ?_ | refine st_tN ?_ | refine st_seq ?_ | refine st_skip ?_ | refine st_ret ?_ | refine st_tR ?_)
    all_goals try (exfalso; omega)
    simp (disch := omega) only [AEnd, Try.results30, aresK, fin, go_sem, ↓reduceIte, Nat.reduceEqDiff, Nat.reduceAdd, Nat.reduceLeDiff, if_yes, if_no, implies_true, true_and, and_true, List.reverse_cons, List.reverse_nil]
    exact .inl ⟨_, le_nil2 _ 1, by unfold wayV; rw [if_neg (fun e => e h0), if_pos (fun e => h2 ⟨e.2.2.1, e.2.2.2⟩)]⟩
  rw [decide_eq_true h2] at k65b
  have hE : wayV t c frm to = wayO t c frm to (dst t c to frm) := by
    unfold wayV; rw [if_neg (fun e => e h0), if_neg (fun e => e ⟨h1.1, h1.2, h2.1, h2.2⟩)]
  have hto : 0 ≤ to ∧ to < t.rooms.length := by omega
  have k81 := c81 t c hcl hsn hc
  have k82 := c82 t c to hT hto
  obtain ⟨F, hF⟩ : ∃ m : Nat, frm = m := ⟨frm.toNat, by omega⟩
  have hFR : F < t.rooms.length := by omega
  have hgF := nl_get (f := fun q => dV t c to (q : Nat)) hFR
  rw [← hF] at hgF
  cases hd : dst t c to frm with
  | none =>
    have hdv : dV t c to frm = -1 := by unfold dV; rw [hd]
    rw [hdv] at hgF
    rw [hd] at hE
    refine ACalls.of tab mixed Try.call30 Try.func30 rfl (fi := ⟨105, [], [4, 53, 102], none, [(18, [0, 0, 3, 7, 15, 31, 63, 127, 255, 511, 1023, 1023, 4095, 8191, 1023, 1023, 50175, 115711, 246783, 524287, 1048575], [(0, false), (1, false), (2, false), (3, true), (4, false), (5, false), (6, false), (7, false), (8, false), (9, false), (10, false), (11, false), (12, false), (13, true), (14, false), (15, false), (16, false), (17, true), (18, false), (19, false), (20, false)])]⟩) rfl rfl (Nat.le_of_ble_eq_true rfl) (by decide) ?_
    unfold startA
    rw [ht0]
    unfold Tw.cells
    repeat' (first | refine st_seq_reg rfl (by first | (simp only [go_sem, List.length_map, nl_len, hF, hgF]; rfl) | rfl) (by first | (simp only [go_sem, List.length_map, nl_len, hF, hgF]; rfl) | rfl) ?_ | refine st_op ?_ | refine st_det rfl (by simp (disch := omega) only [go_sem, wr_i64, if_yes, if_no, ↓reduceIte, Nat.reduceAdd, Nat.reduceMul, Nat.reduceEqDiff, Nat.reduceBEq, Nat.reduceLeDiff, List.length_map, nl_len, hF, hgF]; rfl) ?_ | (refine st_pureE (by first | (simp (disch := omega) only [go_sem, List.length_map, nl_len, hF, hgF]; rfl) | rfl) rfl (k80) (by first | (simp only [go_sem, List.length_map, nl_len, hF, hgF]; rfl) | rfl) (by intro n; first | (simp (disch := omega) only [go_sem]; rfl) | rfl) ?_; intro n hn) | (refine st_pureE (by first | (simp (disch := omega) only [go_sem, List.length_map, nl_len, hF, hgF]; rfl) | rfl) rfl (k65) (by first | (simp only [go_sem, List.length_map, nl_len, hF, hgF]; rfl) | rfl) (by intro n; first | (simp (disch := omega) only [go_sem]; rfl) | rfl) ?_; intro n hn) | (refine st_pureE (by first | (simp (disch := omega) only [go_sem, List.length_map, nl_len, hF, hgF]; rfl) | rfl) rfl (k65b) (by first | (simp only [go_sem, List.length_map, nl_len, hF, hgF]; rfl) | rfl) (by intro n; first | (simp (disch := omega) only [go_sem]; rfl) | rfl) ?_; intro n hn) | (refine st_pureE (by first | (simp (disch := omega) only [go_sem, List.length_map, nl_len, hF, hgF]; rfl) | rfl) rfl (k81) (by first | (simp only [go_sem, List.length_map, nl_len, hF, hgF]; rfl) | rfl) (by intro n; first | (simp (disch := omega) only [go_sem]; rfl) | rfl) ?_; intro n hn) | (refine st_pureE (by first | (simp (disch := omega) only [go_sem, List.length_map, nl_len, hF, hgF]; rfl) | rfl) rfl (k82) (by first | (simp only [go_sem, List.length_map, nl_len, hF, hgF]; rfl) | rfl) (by intro n; first | (simp (disch := omega) only [go_sem]; rfl) | rfl) ?_; intro n hn) | refine st_gT rfl rfl rfl ?_ | refine st_condT rfl ?_ | refine st_condF rfl ?_ | refine st_nil ?_ | refine st_tN ?_ | refine st_seq ?_ | refine st_skip ?_ | refine st_ret ?_ | refine st_tR ?_)
    all_goals try (exfalso; omega)
    simp (disch := omega) only [AEnd, Try.results30, aresK, fin, go_sem, ↓reduceIte, Nat.reduceEqDiff, Nat.reduceAdd, Nat.reduceLeDiff, if_yes, if_no, implies_true, true_and, and_true, List.reverse_cons, List.reverse_nil]
    exact .inl ⟨_, le_nil2 7 1, by rw [hE]; rfl⟩
  | some D =>
    have hdv : dV t c to frm = (D : Nat) := dV_is.2 hd
    rw [hdv] at hgF
    rw [hd] at hE
    have hwl := wayL_len t c to D frm
    have hDR := dist_lt hT hto h1.1 ((dst_iff hT hto h1.1).1 hd)
    refine ACalls.of tab mixed Try.call30 Try.func30 rfl (fi := ⟨105, [], [4, 102], none, [(18, [0, 0, 3, 7, 15, 31, 63, 127, 255, 511, 1023, 1023, 4095, 8191, 1023, 1023, 50175, 115711, 246783, 524287, 1048575], [(0, false), (1, false), (2, false), (3, true), (4, false), (5, false), (6, false), (7, false), (8, false), (9, false), (10, false), (11, false), (12, false), (13, true), (14, false), (15, false), (16, false), (17, true), (18, false), (19, false), (20, false)])]⟩) rfl rfl (Nat.le_of_ble_eq_true rfl) (by decide) ?_
    unfold startA
    rw [ht0]
    unfold Tw.cells
    repeat' (first | refine st_seq_reg rfl (by first | (simp only [go_sem, List.length_map, nl_len, hF, hgF]; rfl) | rfl) (by first | (simp only [go_sem, List.length_map, nl_len, hF, hgF]; rfl) | rfl) ?_ | refine st_op ?_ | refine st_det rfl (by simp (disch := omega) only [go_sem, wr_i64, if_yes, if_no, ↓reduceIte, Nat.reduceAdd, Nat.reduceMul, Nat.reduceEqDiff, Nat.reduceBEq, Nat.reduceLeDiff, List.length_map, nl_len, hF, hgF]; rfl) ?_ | refine st_heap rfl (by simp (disch := omega) only [go_sem, wr_i64, if_yes, if_no, ↓reduceIte, Nat.reduceAdd, Nat.reduceMul, Nat.reduceEqDiff, Nat.reduceBEq, Nat.reduceLeDiff, List.length_map, nl_len, hF, hgF]; rfl) ?_ | (refine st_pureE (by first | (simp (disch := omega) only [go_sem, List.length_map, nl_len, hF, hgF]; rfl) | rfl) rfl (k80) (by first | (simp only [go_sem, List.length_map, nl_len, hF, hgF]; rfl) | rfl) (by intro n; first | (simp (disch := omega) only [go_sem]; rfl) | rfl) ?_; intro n hn) | (refine st_pureE (by first | (simp (disch := omega) only [go_sem, List.length_map, nl_len, hF, hgF]; rfl) | rfl) rfl (k65) (by first | (simp only [go_sem, List.length_map, nl_len, hF, hgF]; rfl) | rfl) (by intro n; first | (simp (disch := omega) only [go_sem]; rfl) | rfl) ?_; intro n hn) | (refine st_pureE (by first | (simp (disch := omega) only [go_sem, List.length_map, nl_len, hF, hgF]; rfl) | rfl) rfl (k65b) (by first | (simp only [go_sem, List.length_map, nl_len, hF, hgF]; rfl) | rfl) (by intro n; first | (simp (disch := omega) only [go_sem]; rfl) | rfl) ?_; intro n hn) | (refine st_pureE (by first | (simp (disch := omega) only [go_sem, List.length_map, nl_len, hF, hgF]; rfl) | rfl) rfl (k81) (by first | (simp only [go_sem, List.length_map, nl_len, hF, hgF]; rfl) | rfl) (by intro n; first | (simp (disch := omega) only [go_sem]; rfl) | rfl) ?_; intro n hn) | (refine st_pureE (by first | (simp (disch := omega) only [go_sem, List.length_map, nl_len, hF, hgF]; rfl) | rfl) rfl (k82) (by first | (simp only [go_sem, List.length_map, nl_len, hF, hgF]; rfl) | rfl) (by intro n; first | (simp (disch := omega) only [go_sem]; rfl) | rfl) ?_; intro n hn) | refine st_gT rfl rfl rfl ?_ | refine st_condF rfl ?_ | refine st_nil ?_ | refine st_tN ?_ | refine st_seq ?_ | refine st_block ?_ | refine st_skip ?_)
    all_goals try (exfalso; omega)
    rw [hF] at hd hwl hE
    have hn1 : h.clk ≤ n + 1 := by omega
    have hw0 : [((F : Nat) : Int)] ++ (wayL t c to D (F : Nat)).drop 1 = wayL t c to D (F : Nat) := by cases D <;> rfl
    have nbo : ∀ b' : Bid, b'.1 < h.clk → ¬ b' = (n + 1, 53) := fun b' hb' => ne_fst hb' hn1
    refine st_loopH (α := RwS) tab mixed [] [] (by repeat (first | exact trivial | refine ⟨rfl, ?_⟩)) [] [] (by repeat (first | exact trivial | refine ⟨rfl, ?_⟩)) (fun a => [(14, .int .i64 a.at_), (13, a.v)]) [(3, _), (4, _), (11, _), (12, _)] (fun _ => []) [] (fun a => a.g) (fun a => (dst t c to a.at_ = some a.d ∧ a.d ≤ D ∧ 0 ≤ a.at_ ∧ a.W ++ (wayL t c to a.d a.at_).drop 1 = wayL t c to D (F : Nat) ∧ a.W.length + a.d = D + 1) ∧ SlA h.clk a.g a.v 1 (a.W.map iv) ∧ (∀ b : Bid, b.1 < h.clk → a.g.at_ b = h.at_ b) ∧ a.g.lp = h.lp ∧ h.clk ≤ a.g.clk) (fun a => a.d) (by decide) ⟨D, (F : Nat), [((F : Nat) : Int)], .slc (n + 1, 53) 1 0 1, _⟩ (by refine ⟨⟨hd, Nat.le_refl _, Int.natCast_nonneg F, hw0, by show 1 + D = D + 1; omega⟩, .inr ⟨(n + 1, 53), rfl, by simp only [go_sem, ↓reduceIte] <;> rfl, hn1, by simp only [go_sem]; omega⟩, fun b' hb' => by simp only [go_sem, if_neg (nbo b' hb')], rfl, by simp only [go_sem]; omega⟩) (by (try simp only [go_sem]); repeat' (first | exact trivial | refine And.intro ?_ ?_ | rfl | (simp (disch := omega) only [go_sem, if_yes, if_no, ↓reduceIte, Nat.reduceAdd, Nat.reduceMul, Nat.reduceEqDiff, Nat.reduceBEq, Nat.reduceLeDiff]; rfl) | (simp (disch := omega) only [go_sem, if_yes, if_no, ↓reduceIte, Nat.reduceAdd, Nat.reduceMul, Nat.reduceEqDiff, Nat.reduceBEq, Nat.reduceLeDiff]))) (by (try simp only [go_sem]); repeat' (first | exact trivial | refine And.intro ?_ ?_ | rfl | (simp (disch := omega) only [go_sem, if_yes, if_no, ↓reduceIte, Nat.reduceAdd, Nat.reduceMul, Nat.reduceEqDiff, Nat.reduceBEq, Nat.reduceLeDiff]; rfl) | (simp (disch := omega) only [go_sem, if_yes, if_no, ↓reduceIte, Nat.reduceAdd, Nat.reduceMul, Nat.reduceEqDiff, Nat.reduceBEq, Nat.reduceLeDiff]))) (HOld.refl _) ?_
    rintro ⟨d, at_, W, v, G⟩ c3 ⟨⟨w1, w2, w3, w4, w5⟩, hS, z1, z2, z3⟩ hc3
    dsimp only at w1 w2 w3 w4 w5 hS z1 z2 z3 hc3
    simp only [go_sem]
    cases d with
    | zero =>
      have ht : at_ = to := (dst_zero hT hto w3).1 w1
      have hW : W = wayL t c to D (F : Nat) := by
        rw [← w4]; show W = W ++ []; rw [List.append_nil]
      have hnc := hS.noL
      repeat' (first | refine st_seq_reg rfl (by first | (simp only [go_sem, ht]; rfl) | rfl) (by first | (simp only [go_sem, ht]; rfl) | rfl) ?_ | refine st_op ?_ | refine st_det rfl (by simp (disch := omega) only [go_sem, wr_i64, if_yes, if_no, ↓reduceIte, Nat.reduceAdd, Nat.reduceMul, Nat.reduceEqDiff, Nat.reduceBEq, Nat.reduceLeDiff, ht]; rfl) ?_ | refine st_condF rfl ?_ | refine st_nil ?_ | refine st_tN ?_ | refine st_seq ?_ | refine st_exit ?_ | refine st_ret ?_ | refine st_tE ?_ | refine st_bH ?_)
      all_goals try (exfalso; omega)
      simp (disch := omega) only [AEnd, Try.results30, aresK, fin, go_sem, ↓reduceIte, Nat.reduceEqDiff, Nat.reduceAdd, Nat.reduceLeDiff, if_yes, if_no, implies_true, true_and, and_true, List.reverse_cons, List.reverse_nil]
      refine ⟨hS.noL, z1, z2, SlA.ans2 (h := h) (g := G) (R := fun v => v = wayV t c frm to) hS ?_⟩
      rw [hF, hE, hW]; rfl
    | succ d =>
      have ht : ¬ at_ = to := fun e => by
        have := (dst_zero (c := c) hT hto w3).2 e
        rw [w1] at this; cases this
      obtain ⟨v1, v2, v3, v4⟩ := nx_ok hT hto w3 w1
      have hdr := wayL_drop t c to d at_
      have hatR : at_ < t.rooms.length := lvl_bd hT hto w3 ((dst_iff hT hto w3).1 w1).1
      obtain ⟨A, rfl⟩ : ∃ m : Nat, at_ = m := ⟨at_.toNat, by omega⟩
      have hgA := nl_get (R := t.rooms.length) (f := fun q => dV t c to (q : Nat)) (q := A) (by omega)
      rw [dV_is.2 w1] at hgA
      have hnc := hS.noL
      repeat' (first | refine st_seq_reg rfl (by first | (simp only [go_sem, ht, List.length_map]; rfl) | rfl) (by first | (simp only [go_sem, ht, List.length_map]; rfl) | rfl) ?_ | refine st_op ?_ | refine st_det rfl (by simp (disch := omega) only [go_sem, wr_i64, if_yes, if_no, ↓reduceIte, Nat.reduceAdd, Nat.reduceMul, Nat.reduceEqDiff, Nat.reduceBEq, Nat.reduceLeDiff, ht, List.length_map]; rfl) ?_ | refine st_condT rfl ?_ | refine st_nil ?_ | refine st_tN ?_ | refine st_seq ?_ | refine st_block ?_ | refine st_skip ?_)
      all_goals try (exfalso; omega)
      refine st_loopC (α := Nat) tab mixed [] [] (by repeat (first | exact trivial | refine ⟨rfl, ?_⟩)) [] [] (by repeat (first | exact trivial | refine ⟨rfl, ?_⟩)) (fun i => [(16, .int .i64 (i : Nat)), (15, .int .i64 (nxN t c to d (A : Nat) i))]) [(3, _), (4, _), (11, _), (12, _), (13, _), (14, _)] (fun _ => []) [] (fun i => i ≤ t.sts.length) (fun i => t.sts.length - i) (by decide) 0 (Nat.zero_le _) (by (try simp only [go_sem]); repeat' (first | exact trivial | refine And.intro ?_ ?_ | rfl | (simp (disch := omega) only [go_sem, if_yes, if_no, ↓reduceIte, Nat.reduceAdd, Nat.reduceMul, Nat.reduceEqDiff, Nat.reduceBEq, Nat.reduceLeDiff]; rfl) | (simp (disch := omega) only [go_sem, if_yes, if_no, ↓reduceIte, Nat.reduceAdd, Nat.reduceMul, Nat.reduceEqDiff, Nat.reduceBEq, Nat.reduceLeDiff]))) (by (try simp only [go_sem]); repeat' (first | exact trivial | refine And.intro ?_ ?_ | rfl | (simp (disch := omega) only [go_sem, if_yes, if_no, ↓reduceIte, Nat.reduceAdd, Nat.reduceMul, Nat.reduceEqDiff, Nat.reduceBEq, Nat.reduceLeDiff]; rfl) | (simp (disch := omega) only [go_sem, if_yes, if_no, ↓reduceIte, Nat.reduceAdd, Nat.reduceMul, Nat.reduceEqDiff, Nat.reduceBEq, Nat.reduceLeDiff]))) (by first | (simp only [go_sem]; rfl) | rfl) (by intro n; simp only [go_sem]; rfl) ?_
      rintro i c4 hi1 hc4
      simp only [go_sem]
      by_cases hi : i < t.sts.length
      case pos =>
        have k64 := c64 (sx t.sts i) (A : Nat)
        have hre := refS_elt (f := cls c) hi
        have hrl := refS_len t.sts.length (cls c)
        have hcl3 := cls_open c i
        have hnx : nxN t c to d (A : Nat) (i + 1) = if clB c i = false ∧ 0 ≤ oth (sx t.sts i) (A : Nat) ∧ dst t c to (oth (sx t.sts i) (A : Nat)) = some d then min (nxN t c to d (A : Nat) i) (oth (sx t.sts i) (A : Nat)) else nxN t c to d (A : Nat) i := rfl
        cases hcB : clB c i with
        | true =>
          have hcl2 : cls c i = 2 := by rw [hcl3, hcB]; rfl
          rw [if_neg (fun e => by rw [hcB] at e; exact absurd e.1 (by decide))] at hnx
          repeat' (first | refine st_seq_reg rfl (by first | (simp only [go_sem, List.length_map, hre, hrl, hcl2, nl_len]; rfl) | rfl) (by first | (simp only [go_sem, List.length_map, hre, hrl, hcl2, nl_len]; rfl) | rfl) ?_ | refine st_reg rfl (by first | (simp only [go_sem, List.length_map, hre, hrl, hcl2, nl_len]; rfl) | rfl) (by first | (simp only [go_sem, List.length_map, hre, hrl, hcl2, nl_len]; rfl) | rfl) ?_ | refine st_seq_draw rfl (by first | (simp only [go_sem, List.length_map, hre, hrl, hcl2, nl_len]; rfl) | rfl) (by first | (simp only [go_sem, List.length_map, hre, hrl, hcl2, nl_len]; rfl) | rfl) ?_ | refine st_op ?_ | refine st_det rfl (by simp (disch := omega) only [go_sem, wr_i64, if_yes, if_no, ↓reduceIte, Nat.reduceAdd, Nat.reduceMul, Nat.reduceEqDiff, Nat.reduceBEq, Nat.reduceLeDiff, List.length_map, hre, hrl, hcl2, nl_len]; rfl) ?_ | refine st_dop rfl ?_ | (refine st_pureE (by first | (simp (disch := omega) only [go_sem, List.length_map, hre, hrl, hcl2, nl_len]; rfl) | rfl) rfl (k64) (by first | (simp only [go_sem, List.length_map, hre, hrl, hcl2, nl_len]; rfl) | rfl) (by intro n; first | (simp (disch := omega) only [go_sem]; rfl) | rfl) ?_; intro n hn) | refine st_dgF rfl rfl rfl ?_ | refine st_condF rfl ?_ | (refine st_condS rfl ?_ ?_ <;> intro hg <;> (try simp only [decide_eq_true_eq, decide_eq_false_iff_not, Bool.not_eq_true', Bool.not_eq_false'] at hg)) | refine st_nil ?_ | refine st_dnil ?_ | refine st_tN ?_ | refine st_seq ?_ | refine st_block ?_ | refine st_skip ?_ | refine st_exit ?_ | refine st_tE ?_ | refine st_bN ?_ | refine st_bH ?_)
          all_goals try (exfalso; omega)
          all_goals
            refine ⟨i + 1, by show i + 1 ≤ _; omega, by show t.sts.length - (i + 1) < t.sts.length - i; omega, (by (try (try simp only [hnx])); repeat' (first | exact trivial | refine And.intro ?_ ?_ | rfl | (simp (disch := omega) only [go_sem, if_yes, if_no, ↓reduceIte, Nat.reduceAdd, Nat.reduceMul, Nat.reduceEqDiff, Nat.reduceBEq, Nat.reduceLeDiff]; rfl) | (simp (disch := omega) only [go_sem, if_yes, if_no, ↓reduceIte, Nat.reduceAdd, Nat.reduceMul, Nat.reduceEqDiff, Nat.reduceBEq, Nat.reduceLeDiff]))), (by (try (try simp only [hnx])); repeat' (first | exact trivial | refine And.intro ?_ ?_ | rfl | (simp (disch := omega) only [go_sem, if_yes, if_no, ↓reduceIte, Nat.reduceAdd, Nat.reduceMul, Nat.reduceEqDiff, Nat.reduceBEq, Nat.reduceLeDiff]; rfl) | (simp (disch := omega) only [go_sem, if_yes, if_no, ↓reduceIte, Nat.reduceAdd, Nat.reduceMul, Nat.reduceEqDiff, Nat.reduceBEq, Nat.reduceLeDiff]))), rfl, (by first | exact HOld.of _ (by omega) | exact HOld.put _ _ _ (by omega))⟩
        | false =>
          have hcl2 : cls c i = 1 := by rw [hcl3, hcB]; rfl
          by_cases ho : 0 ≤ oth (sx t.sts i) (A : Nat)
          case neg =>
            rw [if_neg (fun e => ho e.2.1)] at hnx
            repeat' (first | refine st_seq_reg rfl (by first | (simp only [go_sem, List.length_map, hre, hrl, hcl2, nl_len]; rfl) | rfl) (by first | (simp only [go_sem, List.length_map, hre, hrl, hcl2, nl_len]; rfl) | rfl) ?_ | refine st_reg rfl (by first | (simp only [go_sem, List.length_map, hre, hrl, hcl2, nl_len]; rfl) | rfl) (by first | (simp only [go_sem, List.length_map, hre, hrl, hcl2, nl_len]; rfl) | rfl) ?_ | refine st_seq_draw rfl (by first | (simp only [go_sem, List.length_map, hre, hrl, hcl2, nl_len]; rfl) | rfl) (by first | (simp only [go_sem, List.length_map, hre, hrl, hcl2, nl_len]; rfl) | rfl) ?_ | refine st_op ?_ | refine st_det rfl (by simp (disch := omega) only [go_sem, wr_i64, if_yes, if_no, ↓reduceIte, Nat.reduceAdd, Nat.reduceMul, Nat.reduceEqDiff, Nat.reduceBEq, Nat.reduceLeDiff, List.length_map, hre, hrl, hcl2, nl_len]; rfl) ?_ | refine st_dop rfl ?_ | (refine st_pureE (by first | (simp (disch := omega) only [go_sem, List.length_map, hre, hrl, hcl2, nl_len]; rfl) | rfl) rfl (k64) (by first | (simp only [go_sem, List.length_map, hre, hrl, hcl2, nl_len]; rfl) | rfl) (by intro n; first | (simp (disch := omega) only [go_sem]; rfl) | rfl) ?_; intro n hn) | refine st_dgT rfl rfl rfl rfl ?_ | refine st_dgF rfl rfl rfl ?_ | (refine st_dgS rfl rfl ?_ ?_ <;> intro hg <;> (try simp only [decide_eq_true_eq, decide_eq_false_iff_not, Bool.not_eq_true', Bool.not_eq_false'] at hg)) | refine st_condF rfl ?_ | (refine st_condS rfl ?_ ?_ <;> intro hg <;> (try simp only [decide_eq_true_eq, decide_eq_false_iff_not, Bool.not_eq_true', Bool.not_eq_false'] at hg)) | refine st_nil ?_ | refine st_dnil ?_ | refine st_tN ?_ | refine st_seq ?_ | refine st_block ?_ | refine st_skip ?_ | refine st_exit ?_ | refine st_tE ?_ | refine st_bN ?_ | refine st_bH ?_)
            all_goals try (exfalso; omega)
            all_goals
              refine ⟨i + 1, by show i + 1 ≤ _; omega, by show t.sts.length - (i + 1) < t.sts.length - i; omega, (by (try (try simp only [hnx])); repeat' (first | exact trivial | refine And.intro ?_ ?_ | rfl | (simp (disch := omega) only [go_sem, if_yes, if_no, ↓reduceIte, Nat.reduceAdd, Nat.reduceMul, Nat.reduceEqDiff, Nat.reduceBEq, Nat.reduceLeDiff]; rfl) | (simp (disch := omega) only [go_sem, if_yes, if_no, ↓reduceIte, Nat.reduceAdd, Nat.reduceMul, Nat.reduceEqDiff, Nat.reduceBEq, Nat.reduceLeDiff]))), (by (try (try simp only [hnx])); repeat' (first | exact trivial | refine And.intro ?_ ?_ | rfl | (simp (disch := omega) only [go_sem, if_yes, if_no, ↓reduceIte, Nat.reduceAdd, Nat.reduceMul, Nat.reduceEqDiff, Nat.reduceBEq, Nat.reduceLeDiff]; rfl) | (simp (disch := omega) only [go_sem, if_yes, if_no, ↓reduceIte, Nat.reduceAdd, Nat.reduceMul, Nat.reduceEqDiff, Nat.reduceBEq, Nat.reduceLeDiff]))), rfl, (by first | exact HOld.of _ (by omega) | exact HOld.put _ _ _ (by omega))⟩
          have hob := oth_bd hT hi ho
          obtain ⟨O, hO⟩ : ∃ m : Nat, oth (sx t.sts i) (A : Nat) = m := ⟨(oth (sx t.sts i) (A : Nat)).toNat, by omega⟩
          rw [hO] at hnx k64 hob
          have hgO := nl_get (R := t.rooms.length) (f := fun q => dV t c to (q : Nat)) (q := O) (by omega)
          by_cases hdo : dst t c to (O : Nat) = some d
          · rw [if_pos ⟨hcB, by omega, hdo⟩] at hnx
            rw [dV_is.2 hdo] at hgO
            repeat' (first | refine st_seq_reg rfl (by first | (simp only [go_sem, List.length_map, hre, hrl, hcl2, hgA, hgO, nl_len]; rfl) | rfl) (by first | (simp only [go_sem, List.length_map, hre, hrl, hcl2, hgA, hgO, nl_len]; rfl) | rfl) ?_ | refine st_reg rfl (by first | (simp only [go_sem, List.length_map, hre, hrl, hcl2, hgA, hgO, nl_len]; rfl) | rfl) (by first | (simp only [go_sem, List.length_map, hre, hrl, hcl2, hgA, hgO, nl_len]; rfl) | rfl) ?_ | refine st_seq_draw rfl (by first | (simp only [go_sem, List.length_map, hre, hrl, hcl2, hgA, hgO, nl_len]; rfl) | rfl) (by first | (simp only [go_sem, List.length_map, hre, hrl, hcl2, hgA, hgO, nl_len]; rfl) | rfl) ?_ | refine st_op ?_ | refine st_det rfl (by simp (disch := omega) only [go_sem, wr_i64, if_yes, if_no, ↓reduceIte, Nat.reduceAdd, Nat.reduceMul, Nat.reduceEqDiff, Nat.reduceBEq, Nat.reduceLeDiff, List.length_map, hre, hrl, hcl2, hgA, hgO, nl_len]; rfl) ?_ | refine st_dop rfl ?_ | (refine st_pureE (by first | (simp (disch := omega) only [go_sem, List.length_map, hre, hrl, hcl2, hgA, hgO, nl_len]; rfl) | rfl) rfl (k64) (by first | (simp only [go_sem, List.length_map, hre, hrl, hcl2, hgA, hgO, nl_len]; rfl) | rfl) (by intro n; first | (simp (disch := omega) only [go_sem]; rfl) | rfl) ?_; intro n hn) | refine st_dgT rfl rfl rfl rfl ?_ | (refine st_condS rfl ?_ ?_ <;> intro hg <;> (try simp only [decide_eq_true_eq, decide_eq_false_iff_not, Bool.not_eq_true', Bool.not_eq_false'] at hg)) | refine st_nil ?_ | refine st_dnil ?_ | refine st_tN ?_ | refine st_seq ?_ | refine st_block ?_ | refine st_skip ?_ | refine st_exit ?_ | refine st_tE ?_ | refine st_bN ?_ | refine st_bH ?_)
            all_goals try (exfalso; omega)
            all_goals
              refine ⟨i + 1, by show i + 1 ≤ _; omega, by show t.sts.length - (i + 1) < t.sts.length - i; omega, (by (try (try simp only [hnx])); repeat' (first | exact trivial | refine And.intro ?_ ?_ | rfl | (simp (disch := omega) only [go_sem, if_yes, if_no, ↓reduceIte, Nat.reduceAdd, Nat.reduceMul, Nat.reduceEqDiff, Nat.reduceBEq, Nat.reduceLeDiff]; rfl) | (simp (disch := omega) only [go_sem, if_yes, if_no, ↓reduceIte, Nat.reduceAdd, Nat.reduceMul, Nat.reduceEqDiff, Nat.reduceBEq, Nat.reduceLeDiff]))), (by (try (try simp only [hnx])); repeat' (first | exact trivial | refine And.intro ?_ ?_ | rfl | (simp (disch := omega) only [go_sem, if_yes, if_no, ↓reduceIte, Nat.reduceAdd, Nat.reduceMul, Nat.reduceEqDiff, Nat.reduceBEq, Nat.reduceLeDiff]; rfl) | (simp (disch := omega) only [go_sem, if_yes, if_no, ↓reduceIte, Nat.reduceAdd, Nat.reduceMul, Nat.reduceEqDiff, Nat.reduceBEq, Nat.reduceLeDiff]))), rfl, (by first | exact HOld.of _ (by omega) | exact HOld.put _ _ _ (by omega))⟩
          · rw [if_neg (fun e => hdo e.2.2)] at hnx
            have hdo2 : ¬ dV t c to (O : Nat) = (d : Nat) := fun e => hdo (dV_is.1 e)
            generalize dV t c to (O : Nat) = xo at *
            repeat' (first | refine st_seq_reg rfl (by first | (simp only [go_sem, List.length_map, hre, hrl, hcl2, hgA, hgO, nl_len]; rfl) | rfl) (by first | (simp only [go_sem, List.length_map, hre, hrl, hcl2, hgA, hgO, nl_len]; rfl) | rfl) ?_ | refine st_reg rfl (by first | (simp only [go_sem, List.length_map, hre, hrl, hcl2, hgA, hgO, nl_len]; rfl) | rfl) (by first | (simp only [go_sem, List.length_map, hre, hrl, hcl2, hgA, hgO, nl_len]; rfl) | rfl) ?_ | refine st_seq_draw rfl (by first | (simp only [go_sem, List.length_map, hre, hrl, hcl2, hgA, hgO, nl_len]; rfl) | rfl) (by first | (simp only [go_sem, List.length_map, hre, hrl, hcl2, hgA, hgO, nl_len]; rfl) | rfl) ?_ | refine st_op ?_ | refine st_det rfl (by simp (disch := omega) only [go_sem, wr_i64, if_yes, if_no, ↓reduceIte, Nat.reduceAdd, Nat.reduceMul, Nat.reduceEqDiff, Nat.reduceBEq, Nat.reduceLeDiff, List.length_map, hre, hrl, hcl2, hgA, hgO, nl_len]; rfl) ?_ | refine st_dop rfl ?_ | (refine st_pureE (by first | (simp (disch := omega) only [go_sem, List.length_map, hre, hrl, hcl2, hgA, hgO, nl_len]; rfl) | rfl) rfl (k64) (by first | (simp only [go_sem, List.length_map, hre, hrl, hcl2, hgA, hgO, nl_len]; rfl) | rfl) (by intro n; first | (simp (disch := omega) only [go_sem]; rfl) | rfl) ?_; intro n hn) | refine st_dgT rfl rfl rfl rfl ?_ | (refine st_condS rfl ?_ ?_ <;> intro hg <;> (try simp only [decide_eq_true_eq, decide_eq_false_iff_not, Bool.not_eq_true', Bool.not_eq_false'] at hg)) | refine st_nil ?_ | refine st_dnil ?_ | refine st_tN ?_ | refine st_seq ?_ | refine st_block ?_ | refine st_skip ?_ | refine st_exit ?_ | refine st_tE ?_ | refine st_bN ?_ | refine st_bH ?_)
            all_goals try (exfalso; omega)
            all_goals
              refine ⟨i + 1, by show i + 1 ≤ _; omega, by show t.sts.length - (i + 1) < t.sts.length - i; omega, (by (try (try simp only [hnx])); repeat' (first | exact trivial | refine And.intro ?_ ?_ | rfl | (simp (disch := omega) only [go_sem, if_yes, if_no, ↓reduceIte, Nat.reduceAdd, Nat.reduceMul, Nat.reduceEqDiff, Nat.reduceBEq, Nat.reduceLeDiff]; rfl) | (simp (disch := omega) only [go_sem, if_yes, if_no, ↓reduceIte, Nat.reduceAdd, Nat.reduceMul, Nat.reduceEqDiff, Nat.reduceBEq, Nat.reduceLeDiff]))), (by (try (try simp only [hnx])); repeat' (first | exact trivial | refine And.intro ?_ ?_ | rfl | (simp (disch := omega) only [go_sem, if_yes, if_no, ↓reduceIte, Nat.reduceAdd, Nat.reduceMul, Nat.reduceEqDiff, Nat.reduceBEq, Nat.reduceLeDiff]; rfl) | (simp (disch := omega) only [go_sem, if_yes, if_no, ↓reduceIte, Nat.reduceAdd, Nat.reduceMul, Nat.reduceEqDiff, Nat.reduceBEq, Nat.reduceLeDiff]))), rfl, (by first | exact HOld.of _ (by omega) | exact HOld.put _ _ _ (by omega))⟩
      obtain rfl : i = t.sts.length := by omega
      generalize hX : nxN t c to d (A : Nat) t.sts.length = X at *
      repeat' (first | refine st_seq_reg rfl (by first | (simp only [go_sem, List.length_map]; rfl) | rfl) (by first | (simp only [go_sem, List.length_map]; rfl) | rfl) ?_ | refine st_reg rfl (by first | (simp only [go_sem, List.length_map]; rfl) | rfl) (by first | (simp only [go_sem, List.length_map]; rfl) | rfl) ?_ | refine st_op ?_ | refine st_det rfl (by simp (disch := omega) only [go_sem, wr_i64, if_yes, if_no, ↓reduceIte, Nat.reduceAdd, Nat.reduceMul, Nat.reduceEqDiff, Nat.reduceBEq, Nat.reduceLeDiff, List.length_map]; rfl) ?_ | (refine st_appS (by intro h id x y; simp only [go_sem]; rfl) rfl (by simp only [go_sem, List.length_map]; rfl) (by simp only [go_sem, List.length_map]; rfl) (by decide) hS (fun _ _ _ => rfl) (by omega) (by simp only [List.length_map, List.length_cons, List.length_nil, big, List.length_map]; omega) (by omega) (by omega) ?_; intro v' g' hA) | (refine st_condS rfl ?_ ?_ <;> intro hg <;> (try simp only [decide_eq_true_eq, decide_eq_false_iff_not, Bool.not_eq_true', Bool.not_eq_false'] at hg)) | refine st_nil ?_ | refine st_tN ?_ | refine st_seq ?_ | refine st_block ?_ | refine st_skip ?_ | refine st_exit ?_ | refine st_tE ?_ | refine st_bN ?_ | refine st_bH ?_)
      all_goals try (exfalso; omega)
      have hW1 : (W ++ [X]).length = W.length + 1 := by simp
      refine ⟨⟨d, X, W ++ [X], v', _⟩, (by refine ⟨⟨v3, by show d ≤ D; omega, v1, by rw [List.append_assoc, List.singleton_append, ← hdr]; exact w4, by show (W ++ [X]).length + d = D + 1; rw [hW1]; omega⟩, by rw [List.map_append]; exact hA.sl.to (fun _ _ _ _ _ => rfl) (by simp only [go_sem]; omega), fun b' hb' => (hA.old b' hb').trans (z1 b' hb'), hA.lp.trans z2, by simp only [go_sem]; omega⟩), by show d < d + 1; omega, (by repeat' (first | exact trivial | refine And.intro ?_ ?_ | rfl | (simp (disch := omega) only [go_sem, if_yes, if_no, ↓reduceIte, Nat.reduceAdd, Nat.reduceMul, Nat.reduceEqDiff, Nat.reduceBEq, Nat.reduceLeDiff]; rfl) | (simp (disch := omega) only [go_sem, if_yes, if_no, ↓reduceIte, Nat.reduceAdd, Nat.reduceMul, Nat.reduceEqDiff, Nat.reduceBEq, Nat.reduceLeDiff]))), (by repeat' (first | exact trivial | refine And.intro ?_ ?_ | rfl | (simp (disch := omega) only [go_sem, if_yes, if_no, ↓reduceIte, Nat.reduceAdd, Nat.reduceMul, Nat.reduceEqDiff, Nat.reduceBEq, Nat.reduceLeDiff]; rfl) | (simp (disch := omega) only [go_sem, if_yes, if_no, ↓reduceIte, Nat.reduceAdd, Nat.reduceMul, Nat.reduceEqDiff, Nat.reduceBEq, Nat.reduceLeDiff]))), rfl, HOld.refl _⟩
end Go.Proofs.Ythjbfdfhblloiaa
