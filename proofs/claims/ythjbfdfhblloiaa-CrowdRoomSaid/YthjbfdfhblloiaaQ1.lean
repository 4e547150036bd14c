/- Contracts of functions that the claim reaches: what each call gives, told in our own logic. Conditions: those of each theorem. -/
import Derived.Test.YthjbfdfhblloiaaAvT
set_option linter.all false
set_option linter.unusedSimpArgs false
set_option linter.unusedVariables false
namespace Go.Proofs.Ythjbfdfhblloiaa
open Go.Av
set_option maxRecDepth 20000
theorem mixed : Try.prog.follows .mixedOrders = true := by decide
theorem drop_getD {α : Type} {l : List α} {i : Nat} (d : α) (h : i < l.length) : l.drop i = l.getD i d :: l.drop (i + 1) := by
  rw [List.drop_eq_getElem_cons h, List.getD_eq_getElem?_getD, List.getElem?_eq_getElem h]; rfl
/-! ### Towns, as values and as plain data -/
def iv (n : Int) : List AV := [.int .i64 n]
@[go_sem] theorem iv_eq (n : Int) : iv n = [.int .i64 n] := rfl
@[go_sem] theorem map_len {α β : Type} (f : α → β) (l : List α) : (l.map f).length = l.length := List.length_map f
@[go_sem] theorem toNat_cast (n : Nat) : ((n : Nat) : Int).toNat = n := rfl
structure Sx where
  a : Int
  b : Int
structure Gp where
  lo : Int
  hi : Int
  alo : Int
  ahi : Int
  stay : Int
  first : Int
  path : List Int
structure Tw where
  rooms : List Int
  sts : List Sx
  gs : List Gp
  steps : Int
def Sx.row (x : Sx) : List AV := [.int .i64 x.a, .int .i64 x.b]
@[go_sem] theorem Sx.row_eq (x : Sx) : x.row = [.int .i64 x.a, .int .i64 x.b] := rfl
def Gp.row (g : Gp) : List AV := [.int .i64 g.lo, .int .i64 g.hi, .int .i64 g.alo, .int .i64 g.ahi, .int .i64 g.stay, .int .i64 g.first, .lst 1 (g.path.map iv)]
@[go_sem] theorem Gp.row_eq (g : Gp) : g.row = [.int .i64 g.lo, .int .i64 g.hi, .int .i64 g.alo, .int .i64 g.ahi, .int .i64 g.stay, .int .i64 g.first, .lst 1 (g.path.map iv)] := rfl
def Tw.av (t : Tw) : AV := .agg [.lst 1 (t.rooms.map iv), .lst 2 (t.sts.map Sx.row), .lst 7 (t.gs.map Gp.row), .int .i64 t.steps]
@[go_sem] theorem Tw.av_eq (t : Tw) : t.av = .agg [.lst 1 (t.rooms.map iv), .lst 2 (t.sts.map Sx.row), .lst 7 (t.gs.map Gp.row), .int .i64 t.steps] := rfl
def elt (l : List Int) (i : Nat) : Int := l.getD i 0
@[go_sem] theorem ivs_getD {l : List Int} {i : Nat} (h : i < l.length) : (l.map iv).getD i [] = [.int .i64 (elt l i)] := by
  simp [List.getD_eq_getElem?_getD, h, iv, elt]
def sx (l : List Sx) (i : Nat) : Sx := l.getD i ⟨0, 0⟩
def gp (l : List Gp) (i : Nat) : Gp := l.getD i ⟨0, 0, 0, 0, 0, 0, []⟩
@[go_sem] theorem srow_getD {l : List Sx} {i : Nat} (h : i < l.length) : (l.map Sx.row).getD i [] = (sx l i).row := by
  simp [List.getD_eq_getElem?_getD, h, sx]
@[go_sem] theorem grow_getD {l : List Gp} {i : Nat} (h : i < l.length) : (l.map Gp.row).getD i [] = (gp l i).row := by
  simp [List.getD_eq_getElem?_getD, h, gp]
theorem elt_mem {l : List Int} {i : Nat} (h : i < l.length) : elt l i ∈ l := by
  unfold elt; rw [List.getD_eq_getElem?_getD, List.getElem?_eq_getElem h]; exact List.getElem_mem h
theorem sx_mem {l : List Sx} {i : Nat} (h : i < l.length) : sx l i ∈ l := by
  unfold sx; rw [List.getD_eq_getElem?_getD, List.getElem?_eq_getElem h]; exact List.getElem_mem h
theorem gp_mem {l : List Gp} {i : Nat} (h : i < l.length) : gp l i ∈ l := by
  unfold gp; rw [List.getD_eq_getElem?_getD, List.getElem?_eq_getElem h]; exact List.getElem_mem h
/-! ### The first error of a list of steps -/
def errN (f : Nat → Int) : Nat → Int
  | 0 => 0
  | n + 1 => if errN f n ≠ 0 then errN f n else f n
theorem errN_next {f : Nat → Int} {i : Nat} (h : errN f i = 0) : errN f (i + 1) = f i := by
  show (if errN f i ≠ 0 then errN f i else f i) = f i
  rw [if_neg (fun e => e h)]
theorem errN_keep {f : Nat → Int} {i : Nat} (h : errN f i ≠ 0) : ∀ {n : Nat}, i ≤ n → errN f n = errN f i
  | 0, hn => by obtain rfl : i = 0 := by omega
                rfl
  | n + 1, hn => by
    by_cases e : i = n + 1
    · rw [e]
    · have ih := errN_keep h (n := n) (by omega)
      show (if errN f n ≠ 0 then errN f n else f n) = _
      rw [ih, if_pos h]
theorem errN_stop {f : Nat → Int} {i n : Nat} (h : errN f i = 0) (hf : f i ≠ 0) (hi : i < n) : errN f n = f i := by
  have e := errN_next h
  rw [← e]
  exact errN_keep (by rw [e]; exact hf) (by omega)
theorem errN_zero {f : Nat → Int} : ∀ {n : Nat}, errN f n = 0 → ∀ i, i < n → f i = 0
  | 0, _, i, hi => absurd hi (Nat.not_lt_zero _)
  | n + 1, h, i, hi => by
    have h' : (if errN f n ≠ 0 then errN f n else f n) = 0 := h
    by_cases e : errN f n = 0
    · rw [if_neg (fun h => h e)] at h'
      by_cases e2 : i = n
      · rw [e2]; exact h'
      · exact errN_zero e i (by omega)
    · rw [if_pos e] at h'; exact absurd h' e
theorem errN_all {f : Nat → Int} : ∀ {n : Nat}, (∀ i, i < n → f i = 0) → errN f n = 0
  | 0, _ => rfl
  | n + 1, h => by
    have ih := errN_all (f := f) (n := n) fun i hi => h i (by omega)
    rw [errN_next ih]; exact h n (by omega)
/-! ### Which towns are valid -/
def allIn (lo hi : Int) (l : List Int) : Bool := l.all fun a => decide (lo ≤ a ∧ a ≤ hi)
theorem allIn_elt {lo hi : Int} {l : List Int} (h : allIn lo hi l = true) (i : Nat) (hi' : i < l.length) : lo ≤ elt l i ∧ elt l i ≤ hi :=
  of_decide_eq_true (List.all_eq_true.1 h (elt l i) (elt_mem hi'))
def oth (s : Sx) (q : Int) : Int := if q = s.a then s.b else if q = s.b then s.a else -1
def spanE (lo hi m : Int) : Int := if ¬ (0 ≤ lo ∧ lo ≤ m ∧ 0 ≤ hi ∧ hi ≤ m) then 2 else if hi < lo then 9 else 0
/-- Where a path leads, street by street. -/
def wayN (t : Tw) (p : List Int) (q : Int) : Nat → Int
  | 0 => q
  | i + 1 => oth (sx t.sts (elt p i).toNat) (wayN t p q i)
def pathF (t : Tw) (p : List Int) (q : Int) (i : Nat) : Int := if ¬ (0 ≤ elt p i ∧ elt p i < t.sts.length) then 7 else if wayN t p q (i + 1) < 0 then 1 else 0
def grpE (t : Tw) (g : Gp) : Int :=
  if spanE g.lo g.hi 1000000 ≠ 0 then spanE g.lo g.hi 1000000 else if spanE g.alo g.ahi 96 ≠ 0 then spanE g.alo g.ahi 96 else if ¬ (1 ≤ g.stay ∧ g.stay ≤ 96) then 2
  else if ¬ (0 ≤ g.first ∧ g.first < t.rooms.length) then 7 else if 12 < g.path.length then 5 else errN (pathF t g.path g.first) g.path.length
def stE (t : Tw) (i : Nat) : Int := if ¬ (0 ≤ (sx t.sts i).a ∧ (sx t.sts i).a < t.rooms.length ∧ 0 ≤ (sx t.sts i).b ∧ (sx t.sts i).b < t.rooms.length) then 7 else if (sx t.sts i).a = (sx t.sts i).b then 1 else 0
def chkE (t : Tw) : Int :=
  if t.rooms.length = 0 then 4 else if 12 < t.rooms.length then 5 else if allIn 0 1000000 t.rooms = false then 2 else if 12 < t.sts.length then 5
  else if errN (stE t) t.sts.length ≠ 0 then errN (stE t) t.sts.length else if ¬ (0 ≤ t.steps ∧ t.steps ≤ 96) then 2 else if 12 < t.gs.length then 5 else errN (fun i => grpE t (gp t.gs i)) t.gs.length
def cloF (t : Tw) (c : List Int) (i : Nat) : Int := if ¬ (0 ≤ elt c i ∧ elt c i < t.sts.length) then 7 else if 0 < i ∧ elt c i ≤ elt c (i - 1) then 9 else 0
def cloE (t : Tw) (c : List Int) : Int := if chkE t ≠ 0 then chkE t else errN (cloF t c) c.length
structure GpOk (t : Tw) (g : Gp) : Prop where
  size : 0 ≤ g.lo ∧ g.lo ≤ g.hi ∧ g.hi ≤ 1000000
  at_ : 0 ≤ g.alo ∧ g.alo ≤ g.ahi ∧ g.ahi ≤ 96
  stay : 1 ≤ g.stay ∧ g.stay ≤ 96
  first : 0 ≤ g.first ∧ g.first < t.rooms.length
  many : g.path.length ≤ 12
  st : ∀ i, i < g.path.length → 0 ≤ elt g.path i ∧ elt g.path i < t.sts.length
  way : ∀ i, i ≤ g.path.length → 0 ≤ wayN t g.path g.first i
structure TwOk (t : Tw) : Prop where
  r0 : 0 < t.rooms.length
  rn : t.rooms.length ≤ 12
  room : ∀ i, i < t.rooms.length → 0 ≤ elt t.rooms i ∧ elt t.rooms i ≤ 1000000
  sn : t.sts.length ≤ 12
  st : ∀ i, i < t.sts.length → 0 ≤ (sx t.sts i).a ∧ (sx t.sts i).a < t.rooms.length ∧ 0 ≤ (sx t.sts i).b ∧ (sx t.sts i).b < t.rooms.length ∧ (sx t.sts i).a ≠ (sx t.sts i).b
  steps : 0 ≤ t.steps ∧ t.steps ≤ 96
  gn : t.gs.length ≤ 12
  g : ∀ i, i < t.gs.length → GpOk t (gp t.gs i)
theorem spanE_zero {lo hi m : Int} (h : spanE lo hi m = 0) : 0 ≤ lo ∧ lo ≤ hi ∧ hi ≤ m := by
  unfold spanE at h
  split at h
  · omega
  · split at h <;> omega
theorem grpOk {t : Tw} {g : Gp} (h : grpE t g = 0) : GpOk t g := by
  unfold grpE at h
  by_cases h1 : spanE g.lo g.hi 1000000 = 0
  case neg => rw [if_pos h1] at h; exact absurd h h1
  rw [if_neg (fun e => e h1)] at h
  by_cases h2 : spanE g.alo g.ahi 96 = 0
  case neg => rw [if_pos h2] at h; exact absurd h h2
  rw [if_neg (fun e => e h2)] at h
  by_cases h3 : 1 ≤ g.stay ∧ g.stay ≤ 96
  case neg => rw [if_pos h3] at h; cases h
  rw [if_neg (fun e => e h3)] at h
  by_cases h4 : 0 ≤ g.first ∧ g.first < t.rooms.length
  case neg => rw [if_pos h4] at h; cases h
  rw [if_neg (fun e => e h4)] at h
  by_cases h5 : 12 < g.path.length
  · rw [if_pos h5] at h; cases h
  rw [if_neg h5] at h
  have hz := errN_zero h
  have hst : ∀ i, i < g.path.length → 0 ≤ elt g.path i ∧ elt g.path i < t.sts.length := fun i hi => by
    have := hz i hi
    unfold pathF at this
    by_cases c : 0 ≤ elt g.path i ∧ elt g.path i < t.sts.length
    · exact c
    · rw [if_pos c] at this; cases this
  refine ⟨spanE_zero h1, spanE_zero h2, h3, h4, by omega, hst, fun i hi => ?_⟩
  cases i with
  | zero => exact h4.1
  | succ i =>
    have := hz i (by omega)
    unfold pathF at this
    rw [if_neg (fun e => e (hst i (by omega)))] at this
    by_cases c : wayN t g.path g.first (i + 1) < 0
    · rw [if_pos c] at this; cases this
    · omega
theorem townOk {t : Tw} (h : chkE t = 0) : TwOk t := by
  unfold chkE at h
  by_cases h1 : t.rooms.length = 0
  · rw [if_pos h1] at h; cases h
  rw [if_neg h1] at h
  by_cases h2 : 12 < t.rooms.length
  · rw [if_pos h2] at h; cases h
  rw [if_neg h2] at h
  cases h3 : allIn 0 1000000 t.rooms
  · rw [h3] at h; simp at h
  rw [h3, if_neg (by simp)] at h
  by_cases h4 : 12 < t.sts.length
  · rw [if_pos h4] at h; cases h
  rw [if_neg h4] at h
  by_cases h5 : errN (stE t) t.sts.length = 0
  case neg => rw [if_pos h5] at h; exact absurd h h5
  rw [if_neg (fun e => e h5)] at h
  by_cases h6 : 0 ≤ t.steps ∧ t.steps ≤ 96
  case neg => rw [if_pos h6] at h; cases h
  rw [if_neg (fun e => e h6)] at h
  by_cases h7 : 12 < t.gs.length
  · rw [if_pos h7] at h; cases h
  rw [if_neg h7] at h
  refine ⟨by omega, by omega, fun i hi => allIn_elt h3 i hi, by omega, fun i hi => ?_, h6, by omega, fun i hi => grpOk (errN_zero h i hi)⟩
  have := errN_zero h5 i hi
  unfold stE at this
  by_cases c : 0 ≤ (sx t.sts i).a ∧ (sx t.sts i).a < t.rooms.length ∧ 0 ≤ (sx t.sts i).b ∧ (sx t.sts i).b < t.rooms.length
  · rw [if_neg (fun e => e c)] at this
    by_cases c2 : (sx t.sts i).a = (sx t.sts i).b
    · rw [if_pos c2] at this; cases this
    · exact ⟨c.1, c.2.1, c.2.2.1, c.2.2.2, c2⟩
  · rw [if_pos c] at this; cases this
/-! ### Where a group is -/
/-- 's': what each street is (0 undecided, 1 open, 2 closed). -/
def wlk (t : Tw) (s : Nat → Int) : List Int → Nat → Int → Int
  | [], k, q => if 0 < k then -1 else q
  | _ :: _, 0, q => q
  | p :: ps, k + 1, q => if s p.toNat = 0 then -2 else if s p.toNat = 2 then q else wlk t s ps k (oth (sx t.sts p.toNat) q)
def plc (t : Tw) (s : Nat → Int) (g : Gp) (came step : Int) : Int := if step < came then -1 else wlk t s g.path ((step - came).tdiv g.stay).toNat g.first
/-- In which squares a group may be, and where it must be. -/
def someB (t : Tw) (s : Nat → Int) (g : Gp) (q step : Int) : Bool := (List.range (g.ahi - g.alo + 1).toNat).any fun i => decide (plc t s g (g.alo + i) step = q)
def allB (t : Tw) (s : Nat → Int) (g : Gp) (q step : Int) : Bool := (List.range (g.ahi - g.alo + 1).toNat).all fun i => decide (plc t s g (g.alo + i) step = q)
def sumF (F : Nat → Int) : Nat → Int
  | 0 => 0
  | n + 1 => sumF F n + F n
def loF (t : Tw) (s : Nat → Int) (q step : Int) (i : Nat) : Int := if allB t s (gp t.gs i) q step = true then (gp t.gs i).lo else 0
def hiF (t : Tw) (s : Nat → Int) (q step : Int) (i : Nat) : Int := if someB t s (gp t.gs i) q step = true then (gp t.gs i).hi else 0
def ldLo (t : Tw) (s : Nat → Int) (q step : Int) : Int := sumF (loF t s q step) t.gs.length
def ldHi (t : Tw) (s : Nat → Int) (q step : Int) : Int := sumF (hiF t s q step) t.gs.length
end Go.Proofs.Ythjbfdfhblloiaa
