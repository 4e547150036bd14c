/- Contracts of functions that the claim reaches: what each call gives, told in our own logic. Conditions: those of each theorem. -/
import Derived.Test.YthjbfdfhblloiaaW6a
import Derived.Test.YthjbfdfhblloiaaQ23
set_option linter.all false
set_option linter.unusedSimpArgs false
set_option linter.unusedVariables false
namespace Go.Proofs.Ythjbfdfhblloiaa
open Go.Av
set_option maxRecDepth 20000
/-! ### Towns that know more, plain -/
structure GpLe (a b : Gp) : Prop where
  stay : a.stay = b.stay
  first : a.first = b.first
  path : a.path = b.path
  lo : b.lo ≤ a.lo
  lh : a.lo ≤ a.hi
  hi : a.hi ≤ b.hi
  alo : b.alo ≤ a.alo
  mid : a.alo ≤ a.ahi
  ahi : a.ahi ≤ b.ahi
structure TwLe (u t : Tw) : Prop where
  sts : u.sts = t.sts
  steps : u.steps = t.steps
  rl : u.rooms.length = t.rooms.length
  room : ∀ i, i < t.rooms.length → elt t.rooms i ≤ elt u.rooms i
  gl : u.gs.length = t.gs.length
  g : ∀ i, i < t.gs.length → GpLe (gp u.gs i) (gp t.gs i)
theorem wlk_congr {u t : Tw} (h : u.sts = t.sts) (s : Nat → Int) : ∀ (p : List Int) (k : Nat) (q : Int), wlk u s p k q = wlk t s p k q
  | [], _, _ => rfl
  | _ :: _, 0, _ => rfl
  | p :: ps, k + 1, q => by
    show (if s p.toNat = 0 then -2 else if s p.toNat = 2 then q else wlk u s ps k (oth (sx u.sts p.toNat) q)) = (if s p.toNat = 0 then -2 else if s p.toNat = 2 then q else wlk t s ps k (oth (sx t.sts p.toNat) q))
    rw [wlk_congr h s ps k, h]
theorem plc_congr {u t : Tw} (h : u.sts = t.sts) (s : Nat → Int) {a b : Gp} (k : GpLe a b) (c st : Int) : plc u s a c st = plc t s b c st := by
  unfold plc; rw [wlk_congr h, k.stay, k.first, k.path]
theorem TwLe.ldHi {u t : Tw} (h : TwLe u t) (h0 : ∀ i, i < t.gs.length → 0 ≤ (gp t.gs i).hi) (s : Nat → Int) (q st : Int) : Go.Proofs.Ythjbfdfhblloiaa.ldHi u s q st ≤ Go.Proofs.Ythjbfdfhblloiaa.ldHi t s q st := by
  unfold Go.Proofs.Ythjbfdfhblloiaa.ldHi
  rw [h.gl]
  refine sumF_le fun i hi => ?_
  have k := h.g i hi
  unfold hiF
  by_cases e : someB u s (gp u.gs i) q st = true
  · obtain ⟨c, h1, h2, h3⟩ := someB_iff.1 e
    have e2 : someB t s (gp t.gs i) q st = true := someB_iff.2 ⟨c, by have := k.alo; omega, by have := k.ahi; omega, by rw [← plc_congr h.sts s k]; exact h3⟩
    rw [if_pos e, if_pos e2]; exact k.hi
  · rw [if_neg e]
    split
    · exact h0 i hi
    · exact Int.le_refl _
theorem TwLe.ldLo {u t : Tw} (h : TwLe u t) (h0 : ∀ i, i < t.gs.length → 0 ≤ (gp t.gs i).lo) (s : Nat → Int) (q st : Int) : Go.Proofs.Ythjbfdfhblloiaa.ldLo t s q st ≤ Go.Proofs.Ythjbfdfhblloiaa.ldLo u s q st := by
  unfold Go.Proofs.Ythjbfdfhblloiaa.ldLo
  rw [h.gl]
  refine sumF_le fun i hi => ?_
  have k := h.g i hi
  have h00 := h0 i hi
  have hl := k.lo
  unfold loF
  by_cases e : allB t s (gp t.gs i) q st = true
  · have e2 : allB u s (gp u.gs i) q st = true := allB_iff.2 fun c h1 h2 => by
      rw [plc_congr h.sts s k]
      exact allB_iff.1 e c (by have := k.alo; omega) (by have := k.ahi; omega)
    rw [if_pos e, if_pos e2]; exact k.lo
  · rw [if_neg e]
    split <;> omega
theorem catN_nil {α : Type} {g : Nat → List α} : ∀ {n : Nat}, catN g n = [] ↔ ∀ i, i < n → g i = []
  | 0 => ⟨fun _ i hi => absurd hi (Nat.not_lt_zero _), fun _ => rfl⟩
  | n + 1 => by
    show catN g n ++ g n = [] ↔ _
    rw [List.append_eq_nil_iff, catN_nil]
    constructor
    · rintro ⟨h1, h2⟩ i hi
      by_cases e : i = n
      · rw [e]; exact h2
      · exact h1 i (by omega)
    · intro h
      exact ⟨fun i hi => h i (by omega), h n (by omega)⟩
theorem mem_catN {α : Type} {g : Nat → List α} {x : α} : ∀ {n : Nat}, x ∈ catN g n ↔ ∃ i, i < n ∧ x ∈ g i
  | 0 => ⟨fun h => (by cases h), fun ⟨i, hi, _⟩ => absurd hi (Nat.not_lt_zero _)⟩
  | n + 1 => by
    show x ∈ catN g n ++ g n ↔ _
    rw [List.mem_append, mem_catN]
    constructor
    · rintro (⟨i, h1, h2⟩ | h)
      · exact ⟨i, by omega, h2⟩
      · exact ⟨n, by omega, h⟩
    · rintro ⟨i, h1, h2⟩
      by_cases e : i = n
      · rw [e] at h2; exact .inr h2
      · exact .inl ⟨i, by omega, h2⟩
theorem okB_iff {t : Tw} {l : List Int} : okB t l = true ↔ ∀ st q : Nat, st < (t.steps + 1).toNat → q < t.rooms.length → Go.Proofs.Ythjbfdfhblloiaa.ldHi t (cls l) (q : Nat) (st : Nat) ≤ elt t.rooms q := by
  unfold okB
  rw [List.isEmpty_iff]
  unfold crL
  rw [catN_nil]
  constructor
  · intro h st q h1 h2
    have := catN_nil.1 (h st h1) q h2
    unfold crF at this
    by_cases e : elt t.rooms q < Go.Proofs.Ythjbfdfhblloiaa.ldHi t (cls l) (q : Nat) (st : Nat)
    · rw [if_pos e] at this; cases this
    · omega
  · intro h st h1
    refine catN_nil.2 fun q h2 => ?_
    unfold crF
    rw [if_neg (by have := h st q h1 h2; omega)]
theorem TwLe.okB {u t : Tw} (h : TwLe u t) (h0 : ∀ i, i < t.gs.length → 0 ≤ (gp t.gs i).hi) {l : List Int} (k : Go.Proofs.Ythjbfdfhblloiaa.okB t l = true) : Go.Proofs.Ythjbfdfhblloiaa.okB u l = true := by
  rw [okB_iff] at k ⊢
  intro st q h1 h2
  rw [h.steps] at h1; rw [h.rl] at h2
  have e1 := k st q h1 h2
  have e2 := h.ldHi h0 (cls l) (q : Nat) (st : Nat)
  have e3 := h.room q h2
  omega
theorem TwLe.clo {u t : Tw} (h : TwLe u t) (h0 : ∀ i, i < t.gs.length → 0 ≤ (gp t.gs i).hi) {A : List Int} (k : Go.Proofs.Ythjbfdfhblloiaa.clo t t.sts.length = some A) : ∃ B, Go.Proofs.Ythjbfdfhblloiaa.clo u u.sts.length = some B ∧ B.length ≤ A.length := by
  rw [h.sts]
  unfold Go.Proofs.Ythjbfdfhblloiaa.clo chsAll at *
  rw [h.sts, Nat.min_self]
  rw [Nat.min_self] at k
  obtain ⟨m, hm, hA⟩ := mem_catN.1 (List.mem_of_find?_eq_some k)
  have hAl := (chs_ok (t := t) m 0 A hA).1
  have hp : (crL u (cls A)).isEmpty = true := h.okB h0 (l := A) (List.find?_some k)
  have hin : A ∈ catN (fun m => chs t.sts.length m 0) (m + 1) := mem_catN.2 ⟨m, by omega, hA⟩
  cases e : (catN (fun m => chs t.sts.length m 0) (m + 1)).find? fun l => (crL u (cls l)).isEmpty with
  | none => exact absurd hp (by rw [List.find?_eq_none] at e; exact e A hin)
  | some B =>
    refine ⟨B, catN_fpre e (by omega), ?_⟩
    obtain ⟨j, hj, hB⟩ := mem_catN.1 (List.mem_of_find?_eq_some e)
    have := (chs_ok (t := t) j 0 B hB).1
    omega
theorem TwLe.ok {u t : Tw} (h : TwLe u t) (hT : TwOk t) (hr : ∀ i, i < t.rooms.length → elt u.rooms i ≤ 1000000) : TwOk u := by
  have e1 := h.rl
  refine ⟨by rw [e1]; exact hT.r0, by rw [e1]; exact hT.rn, fun i hi => ?_, by rw [h.sts]; exact hT.sn, fun i hi => ?_, by rw [h.steps]; exact hT.steps, by rw [h.gl]; exact hT.gn, fun i hi => ?_⟩
  · rw [e1] at hi
    have a := hT.room i hi; have b := h.room i hi; have c := hr i hi
    omega
  · rw [h.sts] at hi
    have := hT.st i hi
    rw [h.sts, e1]; exact this
  · rw [h.gl] at hi
    have k := h.g i hi
    have a := hT.g i hi
    have a1 := a.size; have a2 := a.at_; have k1 := k.lo; have k2 := k.hi; have k3 := k.alo; have k4 := k.ahi; have k5 := k.lh; have k6 := k.mid
    refine ⟨by omega, by omega, by rw [k.stay]; exact a.stay, by rw [k.first, e1]; exact a.first, by rw [k.path]; exact a.many, fun j hj => ?_, fun j hj => ?_⟩
    · rw [k.path] at hj ⊢; rw [h.sts]; exact a.st j hj
    · rw [k.path] at hj ⊢; rw [k.first, wayN_congr h.sts]; exact a.way j hj
theorem TwLe.refl {t : Tw} (hT : TwOk t) : TwLe t t :=
  ⟨rfl, rfl, rfl, fun _ _ => Int.le_refl _, rfl, fun i hi => by
    have a := hT.g i hi
    have a1 := a.size; have a2 := a.at_
    exact ⟨rfl, rfl, rfl, Int.le_refl _, a1.2.1, Int.le_refl _, Int.le_refl _, a2.2.1, Int.le_refl _⟩⟩
end Go.Proofs.Ythjbfdfhblloiaa

/- Contracts of functions that the claim reaches: what each call gives, told in our own logic. Conditions: those of each theorem. -/
set_option linter.all false
set_option linter.unusedSimpArgs false
set_option linter.unusedVariables false
namespace Go.Proofs.Ythjbfdfhblloiaa
open Go.Av
set_option maxRecDepth 20000
/-! ### All choices are among the choices, plain -/
theorem catK_mem {g : Nat → List (List Int)} {a : Nat} {x : List Int} : ∀ {n j : Nat}, j < n → x ∈ g (a + j) → x ∈ catK g a n
  | 0, _, h, _ => absurd h (Nat.not_lt_zero _)
  | n + 1, j, h, hx => by
    show x ∈ catK g a n ++ g (a + n)
    rw [List.mem_append]
    by_cases e : j = n
    · rw [← e]; exact .inr hx
    · exact .inl (catK_mem (by omega) hx)
theorem chs_in (n : Nat) : ∀ (m a : Nat) (x : List Int), x.length = m → x.Pairwise (· < ·) → (∀ y, y ∈ x → (a : Int) ≤ y ∧ y < n) → x ∈ chs n m a
  | 0, a, x, h, _, _ => by
    have : x = [] := List.eq_nil_of_length_eq_zero h
    subst this
    show [] ∈ [[]]; simp
  | m + 1, a, [], h, _, _ => by cases h
  | m + 1, a, y :: r, h, hp, hb => by
    obtain ⟨hp1, hp2⟩ := List.pairwise_cons.1 hp
    have hy := hb y (by simp)
    obtain ⟨j, rfl⟩ : ∃ j : Nat, y = j := ⟨y.toNat, by omega⟩
    have ih := chs_in n m (j + 1) r (by simpa using h) hp2 (fun z hz => ⟨by have := hp1 z hz; omega, (hb z (by simp [hz])).2⟩)
    show _ ∈ catK (fun i => (chs n m (i + 1)).map (((i : Nat) : Int) :: ·)) a (n - a)
    refine catK_mem (j := j - a) (by omega) ?_
    rw [show a + (j - a) = j by omega]
    exact List.mem_map.2 ⟨r, ih, rfl⟩
/-- The streets that are closed in a state. -/
def shutL (s : List Int) (n : Nat) : List Int := ((List.range n).filter fun i => decide (elt s i = 2)).map fun i => ((i : Nat) : Int)
theorem shutL_len (s : List Int) : ∀ n, ((shutL s n).length : Int) = sumF (fun i => if elt s i = 2 then 1 else 0) n
  | 0 => rfl
  | n + 1 => by
    have ih := shutL_len s n
    unfold shutL at *
    rw [List.range_succ, List.filter_append, List.map_append, List.length_append]
    show _ = sumF _ n + (if elt s n = 2 then 1 else 0)
    rw [← ih]
    by_cases e : elt s n = 2
    · rw [if_pos e]; simp [e]
    · rw [if_neg e]; simp [e]
theorem shutL_mem {s : List Int} {n : Nat} {x : Int} : x ∈ shutL s n ↔ ∃ i : Nat, i < n ∧ elt s i = 2 ∧ x = (i : Nat) := by
  unfold shutL
  rw [List.mem_map]
  constructor
  · rintro ⟨i, h, rfl⟩
    rw [List.mem_filter, List.mem_range, decide_eq_true_eq] at h
    exact ⟨i, h.1, h.2, rfl⟩
  · rintro ⟨i, h1, h2, rfl⟩
    exact ⟨i, by rw [List.mem_filter, List.mem_range, decide_eq_true_eq]; exact ⟨h1, h2⟩, rfl⟩
theorem shutL_pw (s : List Int) (n : Nat) : (shutL s n).Pairwise (· < ·) := by
  unfold shutL
  rw [List.pairwise_map]
  exact (List.Pairwise.filter _ List.pairwise_lt_range).imp fun h => Int.ofNat_lt.2 h
theorem shutL_cls {s : List Int} {n i : Nat} (hi : i < n) (hv : elt s i = 1 ∨ elt s i = 2) : cls (shutL s n) i = elt s i := by
  unfold cls
  rcases hv with e | e
  · rw [if_neg, e]
    rw [List.contains_iff_mem, shutL_mem]
    rintro ⟨j, _, h2, h3⟩
    have : j = i := by omega
    rw [this, e] at h2; exact absurd h2 (by decide)
  · rw [if_pos, e]
    rw [List.contains_iff_mem, shutL_mem]
    exact ⟨i, hi, e, rfl⟩
theorem sumF_ext {F G : Nat → Int} : ∀ {n : Nat}, (∀ i, i < n → F i = G i) → sumF F n = sumF G n
  | 0, _ => rfl
  | n + 1, h => by
    show sumF F n + F n = sumF G n + G n
    rw [sumF_ext (n := n) fun i hi => h i (by omega), h n (by omega)]
theorem catN_ext {α : Type} {f g : Nat → List α} : ∀ {n : Nat}, (∀ i, i < n → f i = g i) → catN f n = catN g n
  | 0, _ => rfl
  | n + 1, h => by
    show catN f n ++ f n = catN g n ++ g n
    rw [catN_ext (n := n) fun i hi => h i (by omega), h n (by omega)]
theorem ldHi_ext {t : Tw} (hT : TwOk t) {f g : Nat → Int} (h : ∀ j, j < t.sts.length → f j = g j) (q st : Int) : ldHi t f q st = ldHi t g q st := by
  unfold ldHi
  refine sumF_ext fun i hi => ?_
  unfold hiF someB
  simp only [plc_ext h (hT.g i hi)]
theorem crL_ext {t : Tw} (hT : TwOk t) {f g : Nat → Int} (h : ∀ j, j < t.sts.length → f j = g j) : crL t f = crL t g := by
  unfold crL
  refine catN_ext fun st _ => ?_
  unfold crS
  refine catN_ext fun q _ => ?_
  unfold crF
  rw [ldHi_ext hT h]
theorem clo_none {t : Tw} (hT : TwOk t) {M : Nat} (hc : clo t M = none) {s : List Int} (hl : s.length = t.sts.length) (hv : ∀ i, i < t.sts.length → elt s i = 1 ∨ elt s i = 2) (hm : ¬ (M : Int) < shN s) : crL t (elt s) ≠ [] := by
  intro he
  rw [← crL_ext hT (f := cls (shutL s t.sts.length)) fun j hj => shutL_cls hj (hv j hj)] at he
  have hlen := shutL_len s t.sts.length
  have hsh : shN s = sumF (fun i => if elt s i = 2 then 1 else 0) t.sts.length := by unfold shN; rw [hl]
  rw [← hsh] at hlen
  have hle : (shutL s t.sts.length).length ≤ t.sts.length := by
    unfold shutL
    rw [List.length_map]
    exact Nat.le_trans (List.length_filter_le _ _) (by rw [List.length_range]; exact Nat.le_refl _)
  have hin := chs_in t.sts.length _ 0 (shutL s t.sts.length) rfl (shutL_pw _ _) (fun y hy => by
    obtain ⟨i, h1, _, rfl⟩ := shutL_mem.1 hy
    omega)
  unfold clo at hc
  rw [List.find?_eq_none] at hc
  refine hc _ (mem_catN.2 ⟨_, ?_, hin⟩) (by rw [he]; rfl)
  omega
end Go.Proofs.Ythjbfdfhblloiaa

/- Contracts of functions that the claim reaches: what each call gives, told in our own logic. Conditions: those of each theorem. -/
set_option linter.all false
set_option linter.unusedSimpArgs false
set_option linter.unusedVariables false
namespace Go.Proofs.Ythjbfdfhblloiaa
open Go.Av
attribute [local irreducible] thenA blockA awp awpOps awpD awp1
set_option maxHeartbeats 8000000
set_option maxRecDepth 20000
/-! ### Proofs that are made: the first undecided street -/
theorem ints_stR (f : Nat → Int) : ints (stR f) = some ((List.range 12).map fun i => (IntKind.i64, f i)) := rfl
theorem stR_neq (f : Nat → Int) (i : Nat) (v : Int) (hi : i < 12) (b : Bool) (h : b = !decide (f i = v)) : aeql 12 (fun b => !b) (ints (stR f)) (ints (stR (upd f i v))) = some (.bool b) := by
  rw [ints_stR, ints_stR, h]
  unfold aeql
  dsimp only
  rw [if_pos ⟨by simp, by simp⟩]
  have : ((List.range 12).map (fun i => (IntKind.i64, f i)) = (List.range 12).map (fun j => (IntKind.i64, upd f i v j))) ↔ f i = v := by
    constructor
    · intro e
      have := congrArg (fun l => l[i]?) e
      simp only [List.getElem?_map, List.getElem?_range hi, Option.map_some, Option.some.injEq, Prod.mk.injEq, true_and, upd_same] at this
      exact this
    · intro e
      rw [show upd f i v = f from upd_self e]
  simp only [this]
def undV (t : Tw) (s : List Int) : AV := match und t s with
  | some i => .tup [.int .i64 ((i : Nat) : Int), .bool true]
  | none => .tup [.int .i64 0, .bool false]
theorem und_some {t : Tw} {s : List Int} {i : Nat} (hi : i < t.sts.length) (h0 : elt s i = 0) (h : ∀ j, j < i → ¬ elt s j = 0) : und t s = some i := by
  unfold und
  rw [List.find?_eq_some_iff_getElem]
  refine ⟨decide_eq_true h0, i, by rw [List.length_range]; exact hi, by rw [List.getElem_range], fun j hj => ?_⟩
  rw [List.getElem_range]
  simp only [Bool.not_eq_true', decide_eq_false_iff_not]
  exact h j hj
theorem und_none {t : Tw} {s : List Int} (h : ∀ j, j < t.sts.length → ¬ elt s j = 0) : und t s = none := by
  unfold und
  rw [List.find?_eq_none]
  intro j hj
  simp only [decide_eq_true_eq]
  exact h j (List.mem_range.1 hj)
theorem c96 (t : Tw) (s : List Int) (hsn : t.sts.length ≤ 12) (hv : ∀ i, i < t.sts.length → elt s i = 0 ∨ elt s i = 1 ∨ elt s i = 2) : Pure Try.prog 96 [.agg (stR (elt s)), t.av] (fun v => v = undV t s) := by
  intro h
  have ht0 : t.av = .agg t.cells := rfl
  refine ACalls.forget (ACalls.of tab mixed Try.call96 Try.func96 rfl (fi := ⟨27, [], [2, 3], none, [(4, [0, 0, 0, 6, 15, 31, 63, 63, 63, 447, 1023, 2047], [(0, true), (1, true), (2, false), (3, false), (4, false), (5, false), (6, true), (7, true), (8, false), (9, false), (10, false), (11, false)])]⟩) rfl rfl (Nat.le_of_ble_eq_true rfl) (by decide) ?_)
  unfold startA
  rw [ht0]
  unfold Tw.cells
  repeat' (first | refine st_seq_reg rfl (by first | (simp only [go_sem, List.length_map]; rfl) | rfl) (by first | (simp only [go_sem, List.length_map]; rfl) | rfl) ?_ | refine st_reg rfl (by first | (simp only [go_sem, List.length_map]; rfl) | rfl) (by first | (simp only [go_sem, List.length_map]; rfl) | rfl) ?_ | refine st_seq_draw rfl (by first | (simp only [go_sem, List.length_map]; rfl) | rfl) (by first | (simp only [go_sem, List.length_map]; rfl) | rfl) ?_ | refine st_draw rfl (by first | (simp only [go_sem, List.length_map]; rfl) | rfl) (by first | (simp only [go_sem, List.length_map]; rfl) | rfl) ?_ | refine st_op ?_ | refine st_det rfl (by simp (disch := omega) only [go_sem, wr_i64, if_yes, if_no, ↓reduceIte, Nat.reduceAdd, Nat.reduceMul, Nat.reduceEqDiff, Nat.reduceBEq, Nat.reduceLeDiff, List.length_map]; rfl) ?_ | refine st_dop rfl ?_ | refine st_loc rfl (by simp (disch := omega) only [go_sem, wr_i64, if_yes, if_no, ↓reduceIte, Nat.reduceAdd, Nat.reduceMul, Nat.reduceEqDiff, Nat.reduceBEq, Nat.reduceLeDiff, List.length_map]; rfl) ?_ | refine st_heap rfl (by simp (disch := omega) only [go_sem, wr_i64, if_yes, if_no, ↓reduceIte, Nat.reduceAdd, Nat.reduceMul, Nat.reduceEqDiff, Nat.reduceBEq, Nat.reduceLeDiff, List.length_map]; rfl) ?_ | refine st_gT rfl rfl rfl ?_ | refine st_gF rfl rfl rfl ?_ | refine st_dgT rfl rfl rfl rfl ?_ | refine st_dgF rfl rfl rfl ?_ | (refine st_gS rfl rfl ?_ ?_ <;> intro hg <;> (try simp only [decide_eq_true_eq, decide_eq_false_iff_not, Bool.not_eq_true', Bool.not_eq_false'] at hg)) | (refine st_dgS rfl rfl ?_ ?_ <;> intro hg <;> (try simp only [decide_eq_true_eq, decide_eq_false_iff_not, Bool.not_eq_true', Bool.not_eq_false'] at hg)) | refine st_condT rfl ?_ | refine st_condF rfl ?_ | (refine st_condS rfl ?_ ?_ <;> intro hg <;> (try simp only [decide_eq_true_eq, decide_eq_false_iff_not, Bool.not_eq_true', Bool.not_eq_false'] at hg)) | refine st_nil ?_ | refine st_dnil ?_ | refine st_tN ?_ | refine st_seq ?_ | refine st_block ?_ | refine st_skip ?_ | refine st_exit ?_ | refine st_ret ?_ | refine st_tE ?_ | refine st_tR ?_ | refine st_bN ?_ | refine st_bR ?_ | refine st_bH ?_ | refine st_bM rfl ?_)
  refine st_loopC (α := Nat) tab mixed [] [] (by repeat (first | exact trivial | refine ⟨rfl, ?_⟩)) [] [] (by repeat (first | exact trivial | refine ⟨rfl, ?_⟩)) (fun i => [(10, .int .i64 (i : Nat))]) [(2, _), (3, _), (9, _)] (fun _ => []) [] (fun i => i ≤ t.sts.length ∧ ∀ j, j < i → ¬ elt s j = 0) (fun i => t.sts.length - i) (by decide) 0 ⟨Nat.zero_le _, fun j hj => absurd hj (Nat.not_lt_zero _)⟩ (by (try simp only [go_sem]); repeat' (first | exact trivial | refine And.intro ?_ ?_ | rfl | (simp (disch := omega) only [go_sem, if_yes, if_no, ↓reduceIte, Nat.reduceAdd, Nat.reduceMul, Nat.reduceEqDiff, Nat.reduceBEq, Nat.reduceLeDiff]; rfl) | (simp (disch := omega) only [go_sem, if_yes, if_no, ↓reduceIte, Nat.reduceAdd, Nat.reduceMul, Nat.reduceEqDiff, Nat.reduceBEq, Nat.reduceLeDiff]))) (by (try simp only [go_sem]); repeat' (first | exact trivial | refine And.intro ?_ ?_ | rfl | (simp (disch := omega) only [go_sem, if_yes, if_no, ↓reduceIte, Nat.reduceAdd, Nat.reduceMul, Nat.reduceEqDiff, Nat.reduceBEq, Nat.reduceLeDiff]; rfl) | (simp (disch := omega) only [go_sem, if_yes, if_no, ↓reduceIte, Nat.reduceAdd, Nat.reduceMul, Nat.reduceEqDiff, Nat.reduceBEq, Nat.reduceLeDiff]))) (by first | (simp only [go_sem]; rfl) | rfl) (by intro n; simp only [go_sem]; rfl) ?_
  rintro i c ⟨i1, i2⟩ hc
  simp only [go_sem]
  by_cases hi : i < t.sts.length
  case neg =>
    obtain rfl : i = t.sts.length := by omega
    repeat' (first | refine st_seq_reg rfl (by first | (simp only [go_sem]; rfl) | rfl) (by first | (simp only [go_sem]; rfl) | rfl) ?_ | refine st_reg rfl (by first | (simp only [go_sem]; rfl) | rfl) (by first | (simp only [go_sem]; rfl) | rfl) ?_ | refine st_seq_draw rfl (by first | (simp only [go_sem]; rfl) | rfl) (by first | (simp only [go_sem]; rfl) | rfl) ?_ | refine st_draw rfl (by first | (simp only [go_sem]; rfl) | rfl) (by first | (simp only [go_sem]; rfl) | rfl) ?_ | refine st_op ?_ | refine st_det rfl (by simp (disch := omega) only [go_sem, wr_i64, if_yes, if_no, ↓reduceIte, Nat.reduceAdd, Nat.reduceMul, Nat.reduceEqDiff, Nat.reduceBEq, Nat.reduceLeDiff]; rfl) ?_ | refine st_dop rfl ?_ | refine st_loc rfl (by simp (disch := omega) only [go_sem, wr_i64, if_yes, if_no, ↓reduceIte, Nat.reduceAdd, Nat.reduceMul, Nat.reduceEqDiff, Nat.reduceBEq, Nat.reduceLeDiff]; rfl) ?_ | refine st_heap rfl (by simp (disch := omega) only [go_sem, wr_i64, if_yes, if_no, ↓reduceIte, Nat.reduceAdd, Nat.reduceMul, Nat.reduceEqDiff, Nat.reduceBEq, Nat.reduceLeDiff]; rfl) ?_ | refine st_gT rfl rfl rfl ?_ | refine st_gF rfl rfl rfl ?_ | refine st_dgT rfl rfl rfl rfl ?_ | refine st_dgF rfl rfl rfl ?_ | (refine st_gS rfl rfl ?_ ?_ <;> intro hg <;> (try simp only [decide_eq_true_eq, decide_eq_false_iff_not, Bool.not_eq_true', Bool.not_eq_false'] at hg)) | (refine st_dgS rfl rfl ?_ ?_ <;> intro hg <;> (try simp only [decide_eq_true_eq, decide_eq_false_iff_not, Bool.not_eq_true', Bool.not_eq_false'] at hg)) | refine st_condT rfl ?_ | refine st_condF rfl ?_ | (refine st_condS rfl ?_ ?_ <;> intro hg <;> (try simp only [decide_eq_true_eq, decide_eq_false_iff_not, Bool.not_eq_true', Bool.not_eq_false'] at hg)) | refine st_nil ?_ | refine st_dnil ?_ | refine st_tN ?_ | refine st_seq ?_ | refine st_block ?_ | refine st_skip ?_ | refine st_exit ?_ | refine st_ret ?_ | refine st_tE ?_ | refine st_tR ?_ | refine st_bN ?_ | refine st_bR ?_ | refine st_bH ?_ | refine st_bM rfl ?_)
    all_goals try (exfalso; omega)
    simp (disch := omega) only [AEnd, Try.results96, aresK, fin, go_sem, ↓reduceIte, Nat.reduceEqDiff, Nat.reduceAdd, Nat.reduceLeDiff, if_yes, if_no, implies_true, true_and, and_true, List.reverse_cons, List.reverse_nil]
    unfold undV; rw [und_none i2]
  have w1 := c72 (elt s) (i : Nat) 1 ⟨by omega, by omega⟩
  have w2 := c72 (elt s) (i : Nat) 2 ⟨by omega, by omega⟩
  simp only [toNat_cast] at w1 w2
  by_cases h0 : elt s i = 0
  · have n1 := stR_neq (elt s) i 1 (by omega) true (by rw [h0]; rfl)
    have n2 := stR_neq (elt s) i 2 (by omega) true (by rw [h0]; rfl)
    repeat' (first | refine st_seq_reg rfl (by first | (simp only [go_sem, n1, n2]; rfl) | rfl) (by first | (simp only [go_sem, n1, n2]; rfl) | rfl) ?_ | refine st_reg rfl (by first | (simp only [go_sem, n1, n2]; rfl) | rfl) (by first | (simp only [go_sem, n1, n2]; rfl) | rfl) ?_ | refine st_seq_draw rfl (by first | (simp only [go_sem, n1, n2]; rfl) | rfl) (by first | (simp only [go_sem, n1, n2]; rfl) | rfl) ?_ | refine st_draw rfl (by first | (simp only [go_sem, n1, n2]; rfl) | rfl) (by first | (simp only [go_sem, n1, n2]; rfl) | rfl) ?_ | refine st_op ?_ | refine st_det rfl (by simp (disch := omega) only [go_sem, wr_i64, if_yes, if_no, ↓reduceIte, Nat.reduceAdd, Nat.reduceMul, Nat.reduceEqDiff, Nat.reduceBEq, Nat.reduceLeDiff, n1, n2]; rfl) ?_ | refine st_dop rfl ?_ | refine st_loc rfl (by simp (disch := omega) only [go_sem, wr_i64, if_yes, if_no, ↓reduceIte, Nat.reduceAdd, Nat.reduceMul, Nat.reduceEqDiff, Nat.reduceBEq, Nat.reduceLeDiff, n1, n2]; rfl) ?_ | refine st_heap rfl (by simp (disch := omega) only [go_sem, wr_i64, if_yes, if_no, ↓reduceIte, Nat.reduceAdd, Nat.reduceMul, Nat.reduceEqDiff, Nat.reduceBEq, Nat.reduceLeDiff, n1, n2]; rfl) ?_ | (refine st_pureE (by first | (simp (disch := omega) only [go_sem, n1, n2]; rfl) | rfl) rfl (w1) (by first | (simp only [go_sem, n1, n2]; rfl) | rfl) (by intro n; first | (simp (disch := omega) only [go_sem]; rfl) | rfl) ?_; intro n hn) | (refine st_pureE (by first | (simp (disch := omega) only [go_sem, n1, n2]; rfl) | rfl) rfl (w2) (by first | (simp only [go_sem, n1, n2]; rfl) | rfl) (by intro n; first | (simp (disch := omega) only [go_sem]; rfl) | rfl) ?_; intro n hn) | refine st_gT rfl rfl rfl ?_ | refine st_gF rfl rfl rfl ?_ | refine st_dgT rfl rfl rfl rfl ?_ | refine st_dgF rfl rfl rfl ?_ | (refine st_gS rfl rfl ?_ ?_ <;> intro hg <;> (try simp only [decide_eq_true_eq, decide_eq_false_iff_not, Bool.not_eq_true', Bool.not_eq_false'] at hg)) | (refine st_dgS rfl rfl ?_ ?_ <;> intro hg <;> (try simp only [decide_eq_true_eq, decide_eq_false_iff_not, Bool.not_eq_true', Bool.not_eq_false'] at hg)) | refine st_condT rfl ?_ | refine st_condF rfl ?_ | (refine st_condS rfl ?_ ?_ <;> intro hg <;> (try simp only [decide_eq_true_eq, decide_eq_false_iff_not, Bool.not_eq_true', Bool.not_eq_false'] at hg)) | refine st_nil ?_ | refine st_dnil ?_ | refine st_tN ?_ | refine st_seq ?_ | refine st_block ?_ | refine st_skip ?_ | refine st_exit ?_ | refine st_ret ?_ | refine st_tE ?_ | refine st_tR ?_ | refine st_bN ?_ | refine st_bR ?_ | refine st_bH ?_ | refine st_bM rfl ?_)
    all_goals try (exfalso; omega)
    simp (disch := omega) only [AEnd, Try.results96, aresK, fin, go_sem, ↓reduceIte, Nat.reduceEqDiff, Nat.reduceAdd, Nat.reduceLeDiff, if_yes, if_no, implies_true, true_and, and_true, List.reverse_cons, List.reverse_nil]
    unfold undV; rw [und_some hi h0 i2]
  · have hnx : ∀ j, j < i + 1 → ¬ elt s j = 0 := fun j hj => by
      by_cases e : j = i
      · rw [e]; exact h0
      · exact i2 j (by omega)
    by_cases h1 : elt s i = 1
    · have n1 := stR_neq (elt s) i 1 (by omega) false (by rw [h1]; rfl)
      repeat' (first | refine st_seq_reg rfl (by first | (simp only [go_sem, n1]; rfl) | rfl) (by first | (simp only [go_sem, n1]; rfl) | rfl) ?_ | refine st_reg rfl (by first | (simp only [go_sem, n1]; rfl) | rfl) (by first | (simp only [go_sem, n1]; rfl) | rfl) ?_ | refine st_seq_draw rfl (by first | (simp only [go_sem, n1]; rfl) | rfl) (by first | (simp only [go_sem, n1]; rfl) | rfl) ?_ | refine st_draw rfl (by first | (simp only [go_sem, n1]; rfl) | rfl) (by first | (simp only [go_sem, n1]; rfl) | rfl) ?_ | refine st_op ?_ | refine st_det rfl (by simp (disch := omega) only [go_sem, wr_i64, if_yes, if_no, ↓reduceIte, Nat.reduceAdd, Nat.reduceMul, Nat.reduceEqDiff, Nat.reduceBEq, Nat.reduceLeDiff, n1]; rfl) ?_ | refine st_dop rfl ?_ | refine st_loc rfl (by simp (disch := omega) only [go_sem, wr_i64, if_yes, if_no, ↓reduceIte, Nat.reduceAdd, Nat.reduceMul, Nat.reduceEqDiff, Nat.reduceBEq, Nat.reduceLeDiff, n1]; rfl) ?_ | refine st_heap rfl (by simp (disch := omega) only [go_sem, wr_i64, if_yes, if_no, ↓reduceIte, Nat.reduceAdd, Nat.reduceMul, Nat.reduceEqDiff, Nat.reduceBEq, Nat.reduceLeDiff, n1]; rfl) ?_ | (refine st_pureE (by first | (simp (disch := omega) only [go_sem, n1]; rfl) | rfl) rfl (w1) (by first | (simp only [go_sem, n1]; rfl) | rfl) (by intro n; first | (simp (disch := omega) only [go_sem]; rfl) | rfl) ?_; intro n hn) | (refine st_pureE (by first | (simp (disch := omega) only [go_sem, n1]; rfl) | rfl) rfl (w2) (by first | (simp only [go_sem, n1]; rfl) | rfl) (by intro n; first | (simp (disch := omega) only [go_sem]; rfl) | rfl) ?_; intro n hn) | refine st_gT rfl rfl rfl ?_ | refine st_gF rfl rfl rfl ?_ | refine st_dgT rfl rfl rfl rfl ?_ | refine st_dgF rfl rfl rfl ?_ | (refine st_gS rfl rfl ?_ ?_ <;> intro hg <;> (try simp only [decide_eq_true_eq, decide_eq_false_iff_not, Bool.not_eq_true', Bool.not_eq_false'] at hg)) | (refine st_dgS rfl rfl ?_ ?_ <;> intro hg <;> (try simp only [decide_eq_true_eq, decide_eq_false_iff_not, Bool.not_eq_true', Bool.not_eq_false'] at hg)) | refine st_condT rfl ?_ | refine st_condF rfl ?_ | (refine st_condS rfl ?_ ?_ <;> intro hg <;> (try simp only [decide_eq_true_eq, decide_eq_false_iff_not, Bool.not_eq_true', Bool.not_eq_false'] at hg)) | refine st_nil ?_ | refine st_dnil ?_ | refine st_tN ?_ | refine st_seq ?_ | refine st_block ?_ | refine st_skip ?_ | refine st_exit ?_ | refine st_ret ?_ | refine st_tE ?_ | refine st_tR ?_ | refine st_bN ?_ | refine st_bR ?_ | refine st_bH ?_ | refine st_bM rfl ?_)
      all_goals try (exfalso; omega)
      refine ⟨i + 1, ⟨by show i + 1 ≤ _; omega, hnx⟩, by show t.sts.length - (i + 1) < t.sts.length - i; omega, (by repeat' (first | exact trivial | refine And.intro ?_ ?_ | rfl | (simp (disch := omega) only [go_sem, if_yes, if_no, ↓reduceIte, Nat.reduceAdd, Nat.reduceMul, Nat.reduceEqDiff, Nat.reduceBEq, Nat.reduceLeDiff]; rfl) | (simp (disch := omega) only [go_sem, if_yes, if_no, ↓reduceIte, Nat.reduceAdd, Nat.reduceMul, Nat.reduceEqDiff, Nat.reduceBEq, Nat.reduceLeDiff]))), (by repeat' (first | exact trivial | refine And.intro ?_ ?_ | rfl | (simp (disch := omega) only [go_sem, if_yes, if_no, ↓reduceIte, Nat.reduceAdd, Nat.reduceMul, Nat.reduceEqDiff, Nat.reduceBEq, Nat.reduceLeDiff]; rfl) | (simp (disch := omega) only [go_sem, if_yes, if_no, ↓reduceIte, Nat.reduceAdd, Nat.reduceMul, Nat.reduceEqDiff, Nat.reduceBEq, Nat.reduceLeDiff]))), rfl, (by first | exact HOld.of _ (by omega) | exact HOld.put _ _ _ (by omega))⟩
    · have h2 : elt s i = 2 := by have := hv i hi; omega
      have n1 := stR_neq (elt s) i 1 (by omega) true (by rw [h2]; rfl)
      have n2 := stR_neq (elt s) i 2 (by omega) false (by rw [h2]; rfl)
      repeat' (first | refine st_seq_reg rfl (by first | (simp only [go_sem, n1, n2]; rfl) | rfl) (by first | (simp only [go_sem, n1, n2]; rfl) | rfl) ?_ | refine st_reg rfl (by first | (simp only [go_sem, n1, n2]; rfl) | rfl) (by first | (simp only [go_sem, n1, n2]; rfl) | rfl) ?_ | refine st_seq_draw rfl (by first | (simp only [go_sem, n1, n2]; rfl) | rfl) (by first | (simp only [go_sem, n1, n2]; rfl) | rfl) ?_ | refine st_draw rfl (by first | (simp only [go_sem, n1, n2]; rfl) | rfl) (by first | (simp only [go_sem, n1, n2]; rfl) | rfl) ?_ | refine st_op ?_ | refine st_det rfl (by simp (disch := omega) only [go_sem, wr_i64, if_yes, if_no, ↓reduceIte, Nat.reduceAdd, Nat.reduceMul, Nat.reduceEqDiff, Nat.reduceBEq, Nat.reduceLeDiff, n1, n2]; rfl) ?_ | refine st_dop rfl ?_ | refine st_loc rfl (by simp (disch := omega) only [go_sem, wr_i64, if_yes, if_no, ↓reduceIte, Nat.reduceAdd, Nat.reduceMul, Nat.reduceEqDiff, Nat.reduceBEq, Nat.reduceLeDiff, n1, n2]; rfl) ?_ | refine st_heap rfl (by simp (disch := omega) only [go_sem, wr_i64, if_yes, if_no, ↓reduceIte, Nat.reduceAdd, Nat.reduceMul, Nat.reduceEqDiff, Nat.reduceBEq, Nat.reduceLeDiff, n1, n2]; rfl) ?_ | (refine st_pureE (by first | (simp (disch := omega) only [go_sem, n1, n2]; rfl) | rfl) rfl (w1) (by first | (simp only [go_sem, n1, n2]; rfl) | rfl) (by intro n; first | (simp (disch := omega) only [go_sem]; rfl) | rfl) ?_; intro n hn) | (refine st_pureE (by first | (simp (disch := omega) only [go_sem, n1, n2]; rfl) | rfl) rfl (w2) (by first | (simp only [go_sem, n1, n2]; rfl) | rfl) (by intro n; first | (simp (disch := omega) only [go_sem]; rfl) | rfl) ?_; intro n hn) | refine st_gT rfl rfl rfl ?_ | refine st_gF rfl rfl rfl ?_ | refine st_dgT rfl rfl rfl rfl ?_ | refine st_dgF rfl rfl rfl ?_ | (refine st_gS rfl rfl ?_ ?_ <;> intro hg <;> (try simp only [decide_eq_true_eq, decide_eq_false_iff_not, Bool.not_eq_true', Bool.not_eq_false'] at hg)) | (refine st_dgS rfl rfl ?_ ?_ <;> intro hg <;> (try simp only [decide_eq_true_eq, decide_eq_false_iff_not, Bool.not_eq_true', Bool.not_eq_false'] at hg)) | refine st_condT rfl ?_ | refine st_condF rfl ?_ | (refine st_condS rfl ?_ ?_ <;> intro hg <;> (try simp only [decide_eq_true_eq, decide_eq_false_iff_not, Bool.not_eq_true', Bool.not_eq_false'] at hg)) | refine st_nil ?_ | refine st_dnil ?_ | refine st_tN ?_ | refine st_seq ?_ | refine st_block ?_ | refine st_skip ?_ | refine st_exit ?_ | refine st_ret ?_ | refine st_tE ?_ | refine st_tR ?_ | refine st_bN ?_ | refine st_bR ?_ | refine st_bH ?_ | refine st_bM rfl ?_)
      all_goals try (exfalso; omega)
      refine ⟨i + 1, ⟨by show i + 1 ≤ _; omega, hnx⟩, by show t.sts.length - (i + 1) < t.sts.length - i; omega, (by repeat' (first | exact trivial | refine And.intro ?_ ?_ | rfl | (simp (disch := omega) only [go_sem, if_yes, if_no, ↓reduceIte, Nat.reduceAdd, Nat.reduceMul, Nat.reduceEqDiff, Nat.reduceBEq, Nat.reduceLeDiff]; rfl) | (simp (disch := omega) only [go_sem, if_yes, if_no, ↓reduceIte, Nat.reduceAdd, Nat.reduceMul, Nat.reduceEqDiff, Nat.reduceBEq, Nat.reduceLeDiff]))), (by repeat' (first | exact trivial | refine And.intro ?_ ?_ | rfl | (simp (disch := omega) only [go_sem, if_yes, if_no, ↓reduceIte, Nat.reduceAdd, Nat.reduceMul, Nat.reduceEqDiff, Nat.reduceBEq, Nat.reduceLeDiff]; rfl) | (simp (disch := omega) only [go_sem, if_yes, if_no, ↓reduceIte, Nat.reduceAdd, Nat.reduceMul, Nat.reduceEqDiff, Nat.reduceBEq, Nat.reduceLeDiff]))), rfl, (by first | exact HOld.of _ (by omega) | exact HOld.put _ _ _ (by omega))⟩
end Go.Proofs.Ythjbfdfhblloiaa
