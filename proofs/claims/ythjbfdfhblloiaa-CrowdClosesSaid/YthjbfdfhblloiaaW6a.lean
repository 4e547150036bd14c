/- Contracts of functions that the claim reaches: what each call gives, told in our own logic. Conditions: those of each theorem. -/
import Derived.Test.YthjbfdfhblloiaaQ33
import Derived.Test.YthjbfdfhblloiaaQ24
import Derived.Test.YthjbfdfhblloiaaQ28
import Derived.Test.YthjbfdfhblloiaaQ30
import Derived.Test.YthjbfdfhblloiaaQ31
import Derived.Test.YthjbfdfhblloiaaW3
open Nat (reduceAdd reduceMul reduceEqDiff reduceLeDiff)
open List (length_map)
set_option linter.all false
set_option linter.unusedSimpArgs false
set_option linter.unusedVariables false
namespace Go.Proofs.Ythjbfdfhblloiaa
open Go.Av
attribute [local irreducible] thenA blockA awp awpOps awpD awp1
set_option maxHeartbeats 8000000
set_option maxRecDepth 20000
theorem c84 (t : Tw) (s : List Int) (g : Gp) (came step : Int) (hT : TwOk t) (hG : GpOk t g) (hsl : s.length = t.sts.length) (hc' : 0 ≤ came ∧ came ≤ 96) (hs' : 0 ≤ step ∧ step ≤ 96) : Pure Try.prog 84 [t.av,.lst 1 (s.map iv),.agg g.row,.int .i64 came,.int .i64 step] (fun v => v = .int .i64 (plc t (elt s) g came step)):=by
  have hst:=hG.stay
  have hsn:=hT.sn
  have hmy:=hG.many
  by_cases h0 : step < came
  · intro h
    refine ACalls.forget (ACalls.of tab mixed Try.call84 Try.func84 rfl (fi:=⟨67,[],[5,7],none,[(13,[0,1,0,4,0,28,60,127,255,0,1023,2047],[(0,false),(1,true),(2,false),(3,true),(4,false),(5,false),(6,true),(7,false),(8,true),(9,false),(10,false),(11,false)])]⟩) rfl rfl (Nat.le_of_ble_eq_true rfl) (by decide) ?_)
    unfold startA
    simp only [go_sem]
    repeat' (first | refine st_seq_reg rfl (by first | (simp only [go_sem];rfl) | rfl) (by first | (simp only [go_sem];rfl) | rfl) ?_ | refine st_op ?_ | refine st_det rfl (by simp (disch:=omega) only [go_sem,wr_i64,if_yes,if_no,↓reduceIte,reduceAdd,reduceMul,reduceEqDiff,Nat.reduceBEq,reduceLeDiff];rfl) ?_ | (refine st_condS rfl ?_ ?_ <;> intro hg <;> (try simp only [decide_eq_true_eq,decide_eq_false_iff_not,Bool.not_eq_true',Bool.not_eq_false'] at hg)) | refine st_nil ?_ | refine st_tN ?_ | refine st_seq ?_ | refine st_skip ?_ | refine st_ret ?_ | refine st_tR ?_)
    all_goals try (exfalso;omega)
    simp (disch:=omega) only [AEnd,Try.results84,aresK,fin,go_sem,↓reduceIte,reduceEqDiff,reduceAdd,reduceLeDiff,if_yes,if_no,implies_true,true_and,and_true,List.reverse_cons,List.reverse_nil]
    unfold plc;rw [if_pos h0]
  have hm:=many_bd (s:=step) (c:=came) (k:=g.stay) (by omega) (by omega) hst.1
  have hP : plc t (elt s) g came step = wlk t (elt s) g.path ((step - came).tdiv g.stay).toNat g.first:=by unfold plc;rw [if_neg h0]
  intro h
  refine ACalls.forget (ACalls.of tab mixed Try.call84 Try.func84 rfl (fi:=⟨67,[],[5,7],none,[(13,[0,1,0,4,0,28,60,127,255,0,1023,2047],[(0,false),(1,true),(2,false),(3,true),(4,false),(5,false),(6,true),(7,false),(8,true),(9,false),(10,false),(11,false)])]⟩) rfl rfl (Nat.le_of_ble_eq_true rfl) (by decide) ?_)
  unfold startA
  simp only [go_sem]
  repeat' (first | refine st_seq_reg rfl (by first | (simp only [go_sem,length_map];rfl) | rfl) (by first | (simp only [go_sem,length_map];rfl) | rfl) ?_ | refine st_op ?_ | refine st_det rfl (by simp (disch:=omega) only [go_sem,wr_i64,if_yes,if_no,↓reduceIte,reduceAdd,reduceMul,reduceEqDiff,Nat.reduceBEq,reduceLeDiff,length_map];rfl) ?_ | (refine st_condS rfl ?_ ?_ <;> intro hg <;> (try simp only [decide_eq_true_eq,decide_eq_false_iff_not,Bool.not_eq_true',Bool.not_eq_false'] at hg)) | refine st_nil ?_ | refine st_tN ?_ | refine st_seq ?_ | refine st_block ?_ | refine st_skip ?_ | refine st_ret ?_ | refine st_tR ?_)
  all_goals try (exfalso;omega)
  generalize hk : (step - came).tdiv g.stay = k at *
  obtain ⟨k,rfl⟩ : ∃ m : Nat,k = m:=⟨k.toNat,by omega⟩
  refine st_loopC (α:=Nat × Int) tab mixed [] [] (by repeat (first | exact trivial | refine ⟨rfl,?_⟩)) [] [] (by repeat (first | exact trivial | refine ⟨rfl,?_⟩)) (fun a => [(13,.int .i64 (a.1 : Nat)),(12,.int .i64 a.2)]) [(1,_),(5,_),(7,_),(11,_)] (fun _ => []) [] (fun a => a.1 ≤ g.path.length ∧ a.1 ≤ k ∧ wlk t (elt s) (g.path.drop a.1) (k - a.1) a.2 = plc t (elt s) g came step) (fun a => g.path.length - a.1) (by decide) (0,g.first) ⟨Nat.zero_le _,Nat.zero_le _,by rw [hP];rfl⟩ (by (try simp only [go_sem]);repeat' (first | exact trivial | refine And.intro ?_ ?_ | rfl | (simp (disch:=omega) only [go_sem,if_yes,if_no,↓reduceIte,reduceAdd,reduceMul,reduceEqDiff,Nat.reduceBEq,reduceLeDiff];rfl) | (simp (disch:=omega) only [go_sem,if_yes,if_no,↓reduceIte,reduceAdd,reduceMul,reduceEqDiff,Nat.reduceBEq,reduceLeDiff]))) (by (try simp only [go_sem]);repeat' (first | exact trivial | refine And.intro ?_ ?_ | rfl | (simp (disch:=omega) only [go_sem,if_yes,if_no,↓reduceIte,reduceAdd,reduceMul,reduceEqDiff,Nat.reduceBEq,reduceLeDiff];rfl) | (simp (disch:=omega) only [go_sem,if_yes,if_no,↓reduceIte,reduceAdd,reduceMul,reduceEqDiff,Nat.reduceBEq,reduceLeDiff]))) (by first | (simp only [go_sem];rfl) | rfl) (by intro n;simp only [go_sem];rfl) ?_
  rintro ⟨i,q⟩ d ⟨i1,i2,i3⟩ hd
  dsimp only at i1 i2 i3
  simp only [go_sem]
  have q2:=c64 (sx t.sts (elt g.path i).toNat) q
  by_cases hki : k = i
  · subst hki
    have i4 : plc t (elt s) g came step = q:=by
      rw [← i3,Nat.sub_self]
      by_cases hi : k < g.path.length
      · rw [wlk_stop hi]
      · rw [List.drop_eq_nil_of_le (by omega)];rfl
    repeat' (first | refine st_seq_reg rfl (by first | (simp only [go_sem,length_map,Nat.zero_add];rfl) | rfl) (by first | (simp only [go_sem,length_map,Nat.zero_add];rfl) | rfl) ?_ | refine st_draw rfl (by first | (simp only [go_sem,length_map,Nat.zero_add];rfl) | rfl) (by first | (simp only [go_sem,length_map,Nat.zero_add];rfl) | rfl) ?_ | refine st_op ?_ | refine st_det rfl (by simp (disch:=omega) only [go_sem,wr_i64,if_yes,if_no,↓reduceIte,reduceAdd,reduceMul,reduceEqDiff,Nat.reduceBEq,reduceLeDiff,length_map,Nat.zero_add];rfl) ?_ | refine st_dop rfl ?_ | refine st_gT rfl rfl rfl ?_ | refine st_gF rfl rfl rfl ?_ | (refine st_gS rfl rfl ?_ ?_ <;> intro hg <;> (try simp only [decide_eq_true_eq,decide_eq_false_iff_not,Bool.not_eq_true',Bool.not_eq_false'] at hg)) | refine st_condF rfl ?_ | (refine st_condS rfl ?_ ?_ <;> intro hg <;> (try simp only [decide_eq_true_eq,decide_eq_false_iff_not,Bool.not_eq_true',Bool.not_eq_false'] at hg)) | refine st_nil ?_ | refine st_tN ?_ | refine st_seq ?_ | refine st_block ?_ | refine st_skip ?_ | refine st_exit ?_ | refine st_ret ?_ | refine st_tE ?_ | refine st_tR ?_ | refine st_bN ?_ | refine st_bR ?_ | refine st_bH ?_)
    all_goals try (exfalso;omega)
    simp (disch:=omega) only [AEnd,Try.results84,aresK,fin,go_sem,↓reduceIte,reduceEqDiff,reduceAdd,reduceLeDiff,if_yes,if_no,implies_true,true_and,and_true,List.reverse_cons,List.reverse_nil]
    rw [i4]
  by_cases hi : i < g.path.length
  case pos =>
    have ha:=hG.st i hi
    have hil : (elt g.path i).toNat < s.length:=by omega
    by_cases s0 : elt s (elt g.path i).toNat = 0
    · repeat' (first | refine st_seq_reg rfl (by first | (simp only [go_sem,length_map,Nat.zero_add];rfl) | rfl) (by first | (simp only [go_sem,length_map,Nat.zero_add];rfl) | rfl) ?_ | refine st_draw rfl (by first | (simp only [go_sem,length_map,Nat.zero_add];rfl) | rfl) (by first | (simp only [go_sem,length_map,Nat.zero_add];rfl) | rfl) ?_ | refine st_op ?_ | refine st_det rfl (by simp (disch:=omega) only [go_sem,wr_i64,if_yes,if_no,↓reduceIte,reduceAdd,reduceMul,reduceEqDiff,Nat.reduceBEq,reduceLeDiff,length_map,Nat.zero_add];rfl) ?_ | refine st_dop rfl ?_ | refine st_gT rfl rfl rfl ?_ | refine st_gF rfl rfl rfl ?_ | (refine st_gS rfl rfl ?_ ?_ <;> intro hg <;> (try simp only [decide_eq_true_eq,decide_eq_false_iff_not,Bool.not_eq_true',Bool.not_eq_false'] at hg)) | refine st_condF rfl ?_ | (refine st_condS rfl ?_ ?_ <;> intro hg <;> (try simp only [decide_eq_true_eq,decide_eq_false_iff_not,Bool.not_eq_true',Bool.not_eq_false'] at hg)) | refine st_nil ?_ | refine st_tN ?_ | refine st_seq ?_ | refine st_block ?_ | refine st_skip ?_ | refine st_exit ?_ | refine st_ret ?_ | refine st_tE ?_ | refine st_tR ?_ | refine st_bN ?_ | refine st_bR ?_ | refine st_bH ?_)
      all_goals try (exfalso;omega)
      simp (disch:=omega) only [AEnd,Try.results84,aresK,fin,go_sem,↓reduceIte,reduceEqDiff,reduceAdd,reduceLeDiff,if_yes,if_no,implies_true,true_and,and_true,List.reverse_cons,List.reverse_nil]
      rw [← i3,wlk_zero hi hki i2 s0]
    by_cases s2 : elt s (elt g.path i).toNat = 2
    · repeat' (first | refine st_seq_reg rfl (by first | (simp only [go_sem,length_map,Nat.zero_add];rfl) | rfl) (by first | (simp only [go_sem,length_map,Nat.zero_add];rfl) | rfl) ?_ | refine st_draw rfl (by first | (simp only [go_sem,length_map,Nat.zero_add];rfl) | rfl) (by first | (simp only [go_sem,length_map,Nat.zero_add];rfl) | rfl) ?_ | refine st_op ?_ | refine st_det rfl (by simp (disch:=omega) only [go_sem,wr_i64,if_yes,if_no,↓reduceIte,reduceAdd,reduceMul,reduceEqDiff,Nat.reduceBEq,reduceLeDiff,length_map,Nat.zero_add];rfl) ?_ | refine st_dop rfl ?_ | refine st_gT rfl rfl rfl ?_ | refine st_gF rfl rfl rfl ?_ | (refine st_gS rfl rfl ?_ ?_ <;> intro hg <;> (try simp only [decide_eq_true_eq,decide_eq_false_iff_not,Bool.not_eq_true',Bool.not_eq_false'] at hg)) | refine st_condF rfl ?_ | (refine st_condS rfl ?_ ?_ <;> intro hg <;> (try simp only [decide_eq_true_eq,decide_eq_false_iff_not,Bool.not_eq_true',Bool.not_eq_false'] at hg)) | refine st_nil ?_ | refine st_tN ?_ | refine st_seq ?_ | refine st_block ?_ | refine st_skip ?_ | refine st_exit ?_ | refine st_ret ?_ | refine st_tE ?_ | refine st_tR ?_ | refine st_bN ?_ | refine st_bR ?_ | refine st_bH ?_)
      all_goals try (exfalso;omega)
      simp (disch:=omega) only [AEnd,Try.results84,aresK,fin,go_sem,↓reduceIte,reduceEqDiff,reduceAdd,reduceLeDiff,if_yes,if_no,implies_true,true_and,and_true,List.reverse_cons,List.reverse_nil]
      rw [← i3,wlk_two hi hki i2 s2]
    repeat' (first | refine st_seq_reg rfl (by first | (simp only [go_sem,length_map,Nat.zero_add];rfl) | rfl) (by first | (simp only [go_sem,length_map,Nat.zero_add];rfl) | rfl) ?_ | refine st_reg rfl (by first | (simp only [go_sem,length_map,Nat.zero_add];rfl) | rfl) (by first | (simp only [go_sem,length_map,Nat.zero_add];rfl) | rfl) ?_ | refine st_draw rfl (by first | (simp only [go_sem,length_map,Nat.zero_add];rfl) | rfl) (by first | (simp only [go_sem,length_map,Nat.zero_add];rfl) | rfl) ?_ | refine st_op ?_ | refine st_det rfl (by simp (disch:=omega) only [go_sem,wr_i64,if_yes,if_no,↓reduceIte,reduceAdd,reduceMul,reduceEqDiff,Nat.reduceBEq,reduceLeDiff,length_map,Nat.zero_add];rfl) ?_ | refine st_dop rfl ?_ | (refine st_pureE (by first | (simp (disch:=omega) only [go_sem,length_map,Nat.zero_add];rfl) | rfl) rfl (q2) (by first | (simp only [go_sem,length_map,Nat.zero_add];rfl) | rfl) (by intro n;first | (simp (disch:=omega) only [go_sem];rfl) | rfl) ?_;intro n hn) | refine st_gT rfl rfl rfl ?_ | refine st_gF rfl rfl rfl ?_ | (refine st_gS rfl rfl ?_ ?_ <;> intro hg <;> (try simp only [decide_eq_true_eq,decide_eq_false_iff_not,Bool.not_eq_true',Bool.not_eq_false'] at hg)) | refine st_condF rfl ?_ | (refine st_condS rfl ?_ ?_ <;> intro hg <;> (try simp only [decide_eq_true_eq,decide_eq_false_iff_not,Bool.not_eq_true',Bool.not_eq_false'] at hg)) | refine st_nil ?_ | refine st_dnil ?_ | refine st_tN ?_ | refine st_seq ?_ | refine st_block ?_ | refine st_skip ?_ | refine st_exit ?_ | refine st_ret ?_ | refine st_tE ?_ | refine st_tR ?_ | refine st_bN ?_ | refine st_bR ?_ | refine st_bH ?_)
    all_goals try (exfalso;omega)
    refine ⟨(i + 1,oth (sx t.sts (elt g.path i).toNat) q),⟨by show i + 1 ≤ _;omega,by show i + 1 ≤ k;omega,by rw [← i3,wlk_next hi hki i2 (.inr ⟨s0,s2⟩)]⟩,by show g.path.length - (i + 1) < g.path.length - i;omega,(by repeat' (first | exact trivial | refine And.intro ?_ ?_ | rfl | (simp (disch:=omega) only [go_sem,if_yes,if_no,↓reduceIte,reduceAdd,reduceMul,reduceEqDiff,Nat.reduceBEq,reduceLeDiff];rfl) | (simp (disch:=omega) only [go_sem,if_yes,if_no,↓reduceIte,reduceAdd,reduceMul,reduceEqDiff,Nat.reduceBEq,reduceLeDiff]))),(by repeat' (first | exact trivial | refine And.intro ?_ ?_ | rfl | (simp (disch:=omega) only [go_sem,if_yes,if_no,↓reduceIte,reduceAdd,reduceMul,reduceEqDiff,Nat.reduceBEq,reduceLeDiff];rfl) | (simp (disch:=omega) only [go_sem,if_yes,if_no,↓reduceIte,reduceAdd,reduceMul,reduceEqDiff,Nat.reduceBEq,reduceLeDiff]))),rfl,(by first | exact HOld.of _ (by omega) | exact HOld.put _ _ _ (by omega))⟩
  obtain rfl : i = g.path.length:=by omega
  rw [List.drop_eq_nil_of_le (Nat.le_refl _)] at i3
  have i4 : plc t (elt s) g came step = if 0 < k - g.path.length then -1 else q:=by rw [← i3];rfl
  rw [if_pos (by omega)] at i4
  repeat' (first | refine st_seq_reg rfl (by first | (simp only [go_sem,length_map,Nat.zero_add];rfl) | rfl) (by first | (simp only [go_sem,length_map,Nat.zero_add];rfl) | rfl) ?_ | refine st_draw rfl (by first | (simp only [go_sem,length_map,Nat.zero_add];rfl) | rfl) (by first | (simp only [go_sem,length_map,Nat.zero_add];rfl) | rfl) ?_ | refine st_op ?_ | refine st_det rfl (by simp (disch:=omega) only [go_sem,wr_i64,if_yes,if_no,↓reduceIte,reduceAdd,reduceMul,reduceEqDiff,Nat.reduceBEq,reduceLeDiff,length_map,Nat.zero_add];rfl) ?_ | refine st_dop rfl ?_ | refine st_gT rfl rfl rfl ?_ | refine st_gF rfl rfl rfl ?_ | (refine st_gS rfl rfl ?_ ?_ <;> intro hg <;> (try simp only [decide_eq_true_eq,decide_eq_false_iff_not,Bool.not_eq_true',Bool.not_eq_false'] at hg)) | refine st_condF rfl ?_ | (refine st_condS rfl ?_ ?_ <;> intro hg <;> (try simp only [decide_eq_true_eq,decide_eq_false_iff_not,Bool.not_eq_true',Bool.not_eq_false'] at hg)) | refine st_nil ?_ | refine st_tN ?_ | refine st_seq ?_ | refine st_block ?_ | refine st_skip ?_ | refine st_exit ?_ | refine st_ret ?_ | refine st_tE ?_ | refine st_tR ?_ | refine st_bN ?_ | refine st_bR ?_ | refine st_bH ?_)
  all_goals try (exfalso;omega)
  simp (disch:=omega) only [AEnd,Try.results84,aresK,fin,go_sem,↓reduceIte,reduceEqDiff,reduceAdd,reduceLeDiff,if_yes,if_no,implies_true,true_and,and_true,List.reverse_cons,List.reverse_nil]
  rw [i4]
def bl (R : Nat) (f : Nat → Bool) : List (List AV):=(List.range R).map fun q => [.bool (f q)]
@[go_sem] theorem bl_len (R : Nat) (f : Nat → Bool) : (bl R f).length = R:=by simp [bl]
@[go_sem] theorem bl_take (R : Nat) (f : Nat → Bool) : List.take R (bl R f) = bl R f:=List.take_of_length_le (by rw [bl_len];exact Nat.le_refl _)
theorem bl_get {R : Nat} {f : Nat → Bool} {q : Nat} (h : q < R) : (bl R f).getD q [] = [.bool (f q)]:=by
  unfold bl;rw [List.getD_eq_getElem?_getD,List.getElem?_map,List.getElem?_range h];rfl
theorem bl_congr {R : Nat} {f g : Nat → Bool} (h : ∀ q,q < R → f q = g q) : bl R f = bl R g:=by
  unfold bl;exact List.map_congr_left fun q hq => by rw [h q (List.mem_range.1 hq)]
theorem bl_set {R : Nat} {f : Nat → Bool} {q : Nat} {v : Bool} (_h : q < R) : (bl R f).set q [.bool v] = bl R (fun j => if j = q then v else f j):=by
  apply List.ext_getElem?
  intro j
  rw [List.getElem?_set]
  by_cases hj : j < R
  · have e : ∀ g : Nat → Bool,(bl R g)[j]? = some [.bool (g j)]:=fun g => by unfold bl;rw [List.getElem?_map,List.getElem?_range hj];rfl
    rw [e,e]
    by_cases q1 : q = j
    · subst q1;rw [if_pos rfl,if_pos (by rw [bl_len];exact hj),if_pos rfl]
    · rw [if_neg q1,if_neg (fun h => q1 h.symm)]
  · have e : ∀ g : Nat → Bool,(bl R g)[j]? = none:=fun g => List.getElem?_eq_none (by rw [bl_len];omega)
    rw [e,e]
    split
    · rw [if_neg (by rw [bl_len];omega)]
    · rfl
theorem bl_rep (R : Nat) : List.replicate R [AV.bool false] = bl R (fun _ => false):=by
  apply List.ext_getElem?
  intro j
  unfold bl
  rw [List.getElem?_replicate,List.getElem?_map]
  by_cases hj : j < R
  · rw [if_pos hj,List.getElem?_range hj];rfl
  · rw [if_neg hj,List.getElem?_eq_none (by simp;omega)];rfl
def nx (t : Tw) (c : List Int) (frm : Int) (n a q : Nat) : Bool:=lvl t c frm n (q : Nat) || (List.range a).any fun p => lvl t c frm n (p : Nat) && adjB t c (p : Nat) (q : Nat)
def nl (R : Nat) (f : Nat → Int) : List (List AV):=(List.range R).map fun q => [.int .i64 (f q)]
@[go_sem] theorem nl_len (R : Nat) (f : Nat → Int) : (nl R f).length = R:=by simp [nl]
@[go_sem] theorem nl_take (R : Nat) (f : Nat → Int) : List.take R (nl R f) = nl R f:=List.take_of_length_le (by rw [nl_len];exact Nat.le_refl _)
theorem nl_get {R : Nat} {f : Nat → Int} {q : Nat} (h : q < R) : (nl R f).getD q [] = [.int .i64 (f q)]:=by
  unfold nl;rw [List.getD_eq_getElem?_getD,List.getElem?_map,List.getElem?_range h];rfl
theorem nl_congr {R : Nat} {f g : Nat → Int} (h : ∀ q,q < R → f q = g q) : nl R f = nl R g:=by
  unfold nl;exact List.map_congr_left fun q hq => by rw [h q (List.mem_range.1 hq)]
theorem nl_set {R : Nat} {f : Nat → Int} {q : Nat} {v : Int} (_h : q < R) : (nl R f).set q [.int .i64 v] = nl R (fun j => if j = q then v else f j):=by
  apply List.ext_getElem?
  intro j
  rw [List.getElem?_set]
  by_cases hj : j < R
  · have e : ∀ g : Nat → Int,(nl R g)[j]? = some [.int .i64 (g j)]:=fun g => by unfold nl;rw [List.getElem?_map,List.getElem?_range hj];rfl
    rw [e,e]
    by_cases q1 : q = j
    · subst q1;rw [if_pos rfl,if_pos (by rw [nl_len];exact hj),if_pos rfl]
    · rw [if_neg q1,if_neg (fun h => q1 h.symm)]
  · have e : ∀ g : Nat → Int,(nl R g)[j]? = none:=fun g => List.getElem?_eq_none (by rw [nl_len];omega)
    rw [e,e]
    split
    · rw [if_neg (by rw [nl_len];omega)]
    · rfl
theorem nl_rep (R : Nat) : List.replicate R [AV.int .i64 0] = nl R (fun _ => 0):=by
  apply List.ext_getElem?
  intro j
  unfold nl
  rw [List.getElem?_replicate,List.getElem?_map]
  by_cases hj : j < R
  · rw [if_pos hj,List.getElem?_range hj];rfl
  · rw [if_neg hj,List.getElem?_eq_none (by simp;omega)];rfl
def refS (R : Nat) (f : Nat → Int) : List Int:=(List.range R).map f
theorem refS_nl (R : Nat) (f : Nat → Int) : (refS R f).map iv = nl R f:=by unfold refS nl;rw [List.map_map];rfl
theorem refS_len (R : Nat) (f : Nat → Int) : (refS R f).length = R:=by simp [refS]
theorem refS_elt {R : Nat} {f : Nat → Int} {i : Nat} (h : i < R) : elt (refS R f) i = f i:=by
  unfold elt refS;rw [List.getD_eq_getElem?_getD,List.getElem?_map,List.getElem?_range h];rfl
def clsN (c : List Int) (k : Nat) (j : Nat) : Int:=if (c.take k).contains ((j : Nat) : Int) then 2 else 1
theorem clsN_next {c : List Int} {k : Nat} (hk : k < c.length) (h0 : 0 ≤ elt c k) (j : Nat) : clsN c (k + 1) j = if j = (elt c k).toNat then 2 else clsN c k j:=by
  have e : c[k] = elt c k:=by unfold elt;rw [List.getD_eq_getElem?_getD,List.getElem?_eq_getElem hk];rfl
  unfold clsN
  rw [List.take_succ_eq_append_getElem hk,e]
  by_cases q : j = (elt c k).toNat
  · have q2 : ((j : Nat) : Int) = elt c k:=by omega
    rw [if_pos q,if_pos (by rw [List.contains_iff_mem,q2];simp)]
  · have q2 : ¬ ((j : Nat) : Int) = elt c k:=by omega
    rw [if_neg q]
    have : (c.take k ++ [elt c k]).contains ((j : Nat) : Int) = (c.take k).contains ((j : Nat) : Int):=by
      rw [Bool.eq_iff_iff,List.contains_iff_mem,List.contains_iff_mem,List.mem_append,List.mem_singleton]
      exact ⟨fun h => h.resolve_right q2,.inl⟩
    rw [this]
theorem c81 (t : Tw) (c : List Int) (hcl : c.length ≤ 1000000) (hsn : t.sts.length ≤ 12) (hb : ∀ i,i < c.length → 0 ≤ elt c i ∧ elt c i < t.sts.length) : Pure Try.prog 81 [t.av,.lst 1 (c.map iv)] (fun v => v = .lst 1 ((refS t.sts.length (cls c)).map iv)):=by
  refine Pure.give Try.call81 fun h hall => ?_
  refine ACalls.of tab mixed Try.call81 Try.func81 rfl (fi:=⟨34,[],[2],none,[]⟩) rfl rfl (Nat.le_of_ble_eq_true rfl) (by decide) ?_
  unfold startA
  simp only [go_sem]
  repeat' (first | refine st_seq_reg rfl (by first | (simp only [go_sem,length_map,nl_rep,nl_len,Nat.zero_add];rfl) | rfl) (by first | (simp only [go_sem,length_map,nl_rep,nl_len,Nat.zero_add];rfl) | rfl) ?_ | refine st_op ?_ | refine st_det rfl (by simp (disch:=omega) only [go_sem,wr_i64,if_yes,if_no,↓reduceIte,reduceAdd,reduceMul,reduceEqDiff,Nat.reduceBEq,reduceLeDiff,length_map,nl_rep,nl_len,Nat.zero_add];rfl) ?_ | refine st_heap rfl (by simp (disch:=omega) only [go_sem,wr_i64,if_yes,if_no,↓reduceIte,reduceAdd,reduceMul,reduceEqDiff,Nat.reduceBEq,reduceLeDiff,length_map,nl_rep,nl_len,Nat.zero_add];rfl) ?_ | refine st_nil ?_ | refine st_seq ?_ | refine st_block ?_)
  refine st_loopH (α:=Nat × AH) tab mixed [] [] (by repeat (first | exact trivial | refine ⟨rfl,?_⟩)) [] [] (by repeat (first | exact trivial | refine ⟨rfl,?_⟩)) (fun a => [(6,.int .i64 (a.1 : Nat))]) [(1,_),(2,_),(5,_)] (fun _ => []) [] (fun a => a.2) (fun a => a.1 ≤ t.sts.length ∧ a.2.at_ (h.clk + 1,11) = some ⟨1,nl t.sts.length fun j => if j < a.1 then 1 else 0⟩ ∧ h.clk + 1 < a.2.clk ∧ (∀ b' : Bid,b'.1 < h.clk → a.2.at_ b' = h.at_ b') ∧ a.2.lp = h.lp) (fun a => t.sts.length - a.1) (by decide) (0,_) (by refine ⟨Nat.zero_le _,by simp only [go_sem,↓reduceIte];exact congrArg some (congrArg (Blk.mk 1) (nl_congr fun q _ => by simp)),by simp only [go_sem];omega,fun b' hb' => by simp only [go_sem,if_neg (ne_fst hb' (by show h.clk ≤ h.clk + 1;omega) : ¬ b' = (h.clk + 1,11))],rfl⟩) (by (try simp only [go_sem]);repeat' (first | exact trivial | refine And.intro ?_ ?_ | rfl | (simp (disch:=omega) only [go_sem,if_yes,if_no,↓reduceIte,reduceAdd,reduceMul,reduceEqDiff,Nat.reduceBEq,reduceLeDiff];rfl) | (simp (disch:=omega) only [go_sem,if_yes,if_no,↓reduceIte,reduceAdd,reduceMul,reduceEqDiff,Nat.reduceBEq,reduceLeDiff]))) (by (try simp only [go_sem]);repeat' (first | exact trivial | refine And.intro ?_ ?_ | rfl | (simp (disch:=omega) only [go_sem,if_yes,if_no,↓reduceIte,reduceAdd,reduceMul,reduceEqDiff,Nat.reduceBEq,reduceLeDiff];rfl) | (simp (disch:=omega) only [go_sem,if_yes,if_no,↓reduceIte,reduceAdd,reduceMul,reduceEqDiff,Nat.reduceBEq,reduceLeDiff]))) (HOld.refl _) ?_
  rintro ⟨i,g⟩ d ⟨i1,i2,i3,i4,i5⟩ hd
  dsimp only at i1 i2 i3 i4 i5 hd
  simp only [go_sem]
  have nbo : ∀ b' : Bid,b'.1 < h.clk → ¬ b' = (h.clk + 1,11):=fun b' hb' => ne_fst hb' (by show h.clk ≤ h.clk + 1;omega)
  by_cases hi : i < t.sts.length
  case pos =>
    have hst : (nl t.sts.length fun j => if j < i then 1 else 0).set i [.int .i64 1] = nl t.sts.length fun j => if j < i + 1 then 1 else 0:=by
      rw [nl_set hi]
      refine nl_congr fun q _ => ?_
      by_cases q1 : q = i
      · rw [if_pos q1,if_pos (by omega)]
      · rw [if_neg q1]
        by_cases q2 : q < i
        · rw [if_pos q2,if_pos (by omega)]
        · rw [if_neg q2,if_neg (by omega)]
    repeat' (first | refine st_seq_reg rfl (by first | (simp only [go_sem,i2,nl_get,nl_len,Nat.zero_add,hst];rfl) | rfl) (by first | (simp only [go_sem,i2,nl_get,nl_len,Nat.zero_add,hst];rfl) | rfl) ?_ | refine st_reg rfl (by first | (simp only [go_sem,i2,nl_get,nl_len,Nat.zero_add,hst];rfl) | rfl) (by first | (simp only [go_sem,i2,nl_get,nl_len,Nat.zero_add,hst];rfl) | rfl) ?_ | refine st_op ?_ | refine st_det rfl (by simp (disch:=omega) only [go_sem,wr_i64,if_yes,if_no,↓reduceIte,reduceAdd,reduceMul,reduceEqDiff,Nat.reduceBEq,reduceLeDiff,i2,nl_get,nl_len,Nat.zero_add,hst];rfl) ?_ | refine st_store (by simp (disch:=omega) only [go_sem,wr_i64,if_yes,if_no,↓reduceIte,reduceAdd,reduceMul,reduceEqDiff,Nat.reduceBEq,reduceLeDiff,i2,nl_get,nl_len,Nat.zero_add,hst];rfl) ?_ | (refine st_condS rfl ?_ ?_ <;> intro hg <;> (try simp only [decide_eq_true_eq,decide_eq_false_iff_not,Bool.not_eq_true',Bool.not_eq_false'] at hg)) | refine st_nil ?_ | refine st_tN ?_ | refine st_seq ?_ | refine st_block ?_ | refine st_skip ?_ | refine st_exit ?_ | refine st_tE ?_ | refine st_bN ?_ | refine st_bH ?_)
    all_goals try (exfalso;omega)
    refine ⟨(i + 1,_),(by refine ⟨by show i + 1 ≤ _;omega,by simp only [go_sem,↓reduceIte],by simp only [go_sem];omega,fun b' hb' => by simp only [go_sem,if_neg (nbo b' hb')];exact i4 b' hb',i5⟩),by show t.sts.length - (i + 1) < t.sts.length - i;omega,(by repeat' (first | exact trivial | refine And.intro ?_ ?_ | rfl | (simp (disch:=omega) only [go_sem,if_yes,if_no,↓reduceIte,reduceAdd,reduceMul,reduceEqDiff,Nat.reduceBEq,reduceLeDiff];rfl) | (simp (disch:=omega) only [go_sem,if_yes,if_no,↓reduceIte,reduceAdd,reduceMul,reduceEqDiff,Nat.reduceBEq,reduceLeDiff]))),(by repeat' (first | exact trivial | refine And.intro ?_ ?_ | rfl | (simp (disch:=omega) only [go_sem,if_yes,if_no,↓reduceIte,reduceAdd,reduceMul,reduceEqDiff,Nat.reduceBEq,reduceLeDiff];rfl) | (simp (disch:=omega) only [go_sem,if_yes,if_no,↓reduceIte,reduceAdd,reduceMul,reduceEqDiff,Nat.reduceBEq,reduceLeDiff]))),rfl,HOld.refl _⟩
  obtain rfl : i = t.sts.length:=by omega
  have i6 : g.at_ (h.clk + 1,11) = some ⟨1,nl t.sts.length (clsN c 0)⟩:=by
    rw [i2];exact congrArg some (congrArg (Blk.mk 1) (nl_congr fun q hq => by rw [if_pos hq];rfl))
  repeat' (first | refine st_seq_reg rfl (by first | (simp only [go_sem,length_map,nl_len];rfl) | rfl) (by first | (simp only [go_sem,length_map,nl_len];rfl) | rfl) ?_ | refine st_reg rfl (by first | (simp only [go_sem,length_map,nl_len];rfl) | rfl) (by first | (simp only [go_sem,length_map,nl_len];rfl) | rfl) ?_ | refine st_op ?_ | refine st_det rfl (by simp (disch:=omega) only [go_sem,wr_i64,if_yes,if_no,↓reduceIte,reduceAdd,reduceMul,reduceEqDiff,Nat.reduceBEq,reduceLeDiff,length_map,nl_len];rfl) ?_ | (refine st_condS rfl ?_ ?_ <;> intro hg <;> (try simp only [decide_eq_true_eq,decide_eq_false_iff_not,Bool.not_eq_true',Bool.not_eq_false'] at hg)) | refine st_nil ?_ | refine st_tN ?_ | refine st_seq ?_ | refine st_block ?_ | refine st_skip ?_ | refine st_exit ?_ | refine st_tE ?_ | refine st_bH ?_)
  all_goals try (exfalso;omega)
  refine st_loopH (α:=Nat × AH) tab mixed [] [] (by repeat (first | exact trivial | refine ⟨rfl,?_⟩)) [] [] (by repeat (first | exact trivial | refine ⟨rfl,?_⟩)) (fun a => [(7,.int .i64 (a.1 : Nat))]) [(1,_),(2,_),(5,_)] (fun _ => []) [] (fun a => a.2) (fun a => a.1 ≤ c.length ∧ a.2.at_ (h.clk + 1,11) = some ⟨1,nl t.sts.length (clsN c a.1)⟩ ∧ h.clk + 1 < a.2.clk ∧ (∀ b' : Bid,b'.1 < h.clk → a.2.at_ b' = h.at_ b') ∧ a.2.lp = h.lp) (fun a => c.length - a.1) (by decide) (0,_) (by refine ⟨Nat.zero_le _,by simp only [go_sem];exact i6,by simp only [go_sem];omega,fun b' hb' => i4 b' hb',i5⟩) (by (try simp only [go_sem]);repeat' (first | exact trivial | refine And.intro ?_ ?_ | rfl | (simp (disch:=omega) only [go_sem,if_yes,if_no,↓reduceIte,reduceAdd,reduceMul,reduceEqDiff,Nat.reduceBEq,reduceLeDiff];rfl) | (simp (disch:=omega) only [go_sem,if_yes,if_no,↓reduceIte,reduceAdd,reduceMul,reduceEqDiff,Nat.reduceBEq,reduceLeDiff]))) (by (try simp only [go_sem]);repeat' (first | exact trivial | refine And.intro ?_ ?_ | rfl | (simp (disch:=omega) only [go_sem,if_yes,if_no,↓reduceIte,reduceAdd,reduceMul,reduceEqDiff,Nat.reduceBEq,reduceLeDiff];rfl) | (simp (disch:=omega) only [go_sem,if_yes,if_no,↓reduceIte,reduceAdd,reduceMul,reduceEqDiff,Nat.reduceBEq,reduceLeDiff]))) (HOld.refl _) ?_
  rintro ⟨k,g2⟩ e ⟨j1,j2,j3,j4,j5⟩ he
  dsimp only at j1 j2 j3 j4 j5 he
  simp only [go_sem]
  by_cases hk : k < c.length
  case pos =>
    have hbk:=hb k hk
    have hbn : (elt c k).toNat < t.sts.length:=by omega
    have hst : (nl t.sts.length (clsN c k)).set (elt c k).toNat [.int .i64 2] = nl t.sts.length (clsN c (k + 1)):=by
      rw [nl_set hbn]
      exact nl_congr fun q _ => (clsN_next hk hbk.1 q).symm
    repeat' (first | refine st_seq_reg rfl (by first | (simp only [go_sem,length_map,j2,nl_get,nl_len,Nat.zero_add,hst];rfl) | rfl) (by first | (simp only [go_sem,length_map,j2,nl_get,nl_len,Nat.zero_add,hst];rfl) | rfl) ?_ | refine st_reg rfl (by first | (simp only [go_sem,length_map,j2,nl_get,nl_len,Nat.zero_add,hst];rfl) | rfl) (by first | (simp only [go_sem,length_map,j2,nl_get,nl_len,Nat.zero_add,hst];rfl) | rfl) ?_ | refine st_op ?_ | refine st_det rfl (by simp (disch:=omega) only [go_sem,wr_i64,if_yes,if_no,↓reduceIte,reduceAdd,reduceMul,reduceEqDiff,Nat.reduceBEq,reduceLeDiff,length_map,j2,nl_get,nl_len,Nat.zero_add,hst];rfl) ?_ | refine st_store (by simp (disch:=omega) only [go_sem,wr_i64,if_yes,if_no,↓reduceIte,reduceAdd,reduceMul,reduceEqDiff,Nat.reduceBEq,reduceLeDiff,length_map,j2,nl_get,nl_len,Nat.zero_add,hst];rfl) ?_ | (refine st_condS rfl ?_ ?_ <;> intro hg <;> (try simp only [decide_eq_true_eq,decide_eq_false_iff_not,Bool.not_eq_true',Bool.not_eq_false'] at hg)) | refine st_nil ?_ | refine st_tN ?_ | refine st_seq ?_ | refine st_block ?_ | refine st_skip ?_ | refine st_exit ?_ | refine st_ret ?_ | refine st_tE ?_ | refine st_bN ?_ | refine st_bH ?_)
    all_goals try (exfalso;omega)
    refine ⟨(k + 1,_),(by refine ⟨by show k + 1 ≤ _;omega,by simp only [go_sem,↓reduceIte],by simp only [go_sem];omega,fun b' hb' => by simp only [go_sem,if_neg (nbo b' hb')];exact j4 b' hb',j5⟩),by show c.length - (k + 1) < c.length - k;omega,(by repeat' (first | exact trivial | refine And.intro ?_ ?_ | rfl | (simp (disch:=omega) only [go_sem,if_yes,if_no,↓reduceIte,reduceAdd,reduceMul,reduceEqDiff,Nat.reduceBEq,reduceLeDiff];rfl) | (simp (disch:=omega) only [go_sem,if_yes,if_no,↓reduceIte,reduceAdd,reduceMul,reduceEqDiff,Nat.reduceBEq,reduceLeDiff]))),(by repeat' (first | exact trivial | refine And.intro ?_ ?_ | rfl | (simp (disch:=omega) only [go_sem,if_yes,if_no,↓reduceIte,reduceAdd,reduceMul,reduceEqDiff,Nat.reduceBEq,reduceLeDiff];rfl) | (simp (disch:=omega) only [go_sem,if_yes,if_no,↓reduceIte,reduceAdd,reduceMul,reduceEqDiff,Nat.reduceBEq,reduceLeDiff]))),rfl,HOld.refl _⟩
  obtain rfl : k = c.length:=by omega
  have j6 : g2.at_ (h.clk + 1,11) = some ⟨1,(refS t.sts.length (cls c)).map iv⟩:=by
    rw [j2,refS_nl];exact congrArg some (congrArg (Blk.mk 1) (nl_congr fun q hq => by unfold clsN;rw [List.take_length];rfl))
  repeat' (first | refine st_seq_reg rfl (by first | (simp only [go_sem,length_map];rfl) | rfl) (by first | (simp only [go_sem,length_map];rfl) | rfl) ?_ | refine st_reg rfl (by first | (simp only [go_sem,length_map];rfl) | rfl) (by first | (simp only [go_sem,length_map];rfl) | rfl) ?_ | refine st_op ?_ | refine st_det rfl (by simp (disch:=omega) only [go_sem,wr_i64,if_yes,if_no,↓reduceIte,reduceAdd,reduceMul,reduceEqDiff,Nat.reduceBEq,reduceLeDiff,length_map];rfl) ?_ | (refine st_condS rfl ?_ ?_ <;> intro hg <;> (try simp only [decide_eq_true_eq,decide_eq_false_iff_not,Bool.not_eq_true',Bool.not_eq_false'] at hg)) | refine st_nil ?_ | refine st_tN ?_ | refine st_seq ?_ | refine st_block ?_ | refine st_skip ?_ | refine st_exit ?_ | refine st_ret ?_ | refine st_tE ?_ | refine st_bH ?_)
  all_goals try (exfalso;omega)
  simp (disch:=omega) only [AEnd,Try.results81,aresK,fin,go_sem,↓reduceIte,reduceEqDiff,reduceAdd,reduceLeDiff,if_yes,if_no,implies_true,true_and,and_true,List.reverse_cons,List.reverse_nil]
  refine ⟨j4,j5,.inr ⟨(h.clk + 1,11),_,by show h.clk ≤ h.clk + 1;omega,j6,?_⟩⟩
  simp only [frz]
  rw [if_pos ⟨trivial,by rw [length_map,refS_len];omega⟩,List.drop_zero,List.take_of_length_le (by rw [length_map,refS_len];exact Nat.le_refl _)]
theorem wlk_ext {t : Tw} {f g : Nat → Int} (R : Nat) (h : ∀ j,j < R → f j = g j) : ∀ (p : List Int) (k : Nat) (q : Int),(∀ x ∈ p,0 ≤ x ∧ x < R) → wlk t f p k q = wlk t g p k q
  | [],_,_,_ => rfl
  | _ :: _,0,_,_ => rfl
  | p :: ps,k + 1,q,hp => by
    have hp0:=hp p (List.mem_cons_self ..)
    show (if f p.toNat = 0 then -2 else if f p.toNat = 2 then q else wlk t f ps k (oth (sx t.sts p.toNat) q)) = (if g p.toNat = 0 then -2 else if g p.toNat = 2 then q else wlk t g ps k (oth (sx t.sts p.toNat) q))
    rw [wlk_ext R h ps k _ (fun x hx => hp x (List.mem_cons_of_mem _ hx)),h p.toNat (by omega)]
theorem plc_ext {t : Tw} {f g : Nat → Int} (h : ∀ j,j < t.sts.length → f j = g j) {x : Gp} (hG : GpOk t x) (came step : Int) : plc t f x came step = plc t g x came step:=by
  unfold plc
  rw [wlk_ext t.sts.length h x.path _ _ (fun y hy => ?_)]
  obtain ⟨i,hi,e⟩:=List.mem_iff_getElem.1 hy
  have:=hG.st i hi
  unfold elt at this
  rw [List.getD_eq_getElem?_getD,List.getElem?_eq_getElem hi] at this
  rw [← e];exact this
end Go.Proofs.Ythjbfdfhblloiaa

namespace Go.Proofs.Ythjbfdfhblloiaa
open Go.Av
set_option maxRecDepth 20000
theorem someB_iff {t : Tw} {s : Nat → Int} {g : Gp} {q st : Int} : someB t s g q st = true ↔ ∃ c,g.alo ≤ c ∧ c ≤ g.ahi ∧ plc t s g c st = q:=by
  unfold someB
  rw [List.any_eq_true]
  constructor
  · rintro ⟨i,hi,h⟩
    have:=List.mem_range.1 hi
    exact ⟨g.alo + i,by omega,by omega,of_decide_eq_true h⟩
  · rintro ⟨c,h1,h2,h3⟩
    exact ⟨(c - g.alo).toNat,List.mem_range.2 (by omega),decide_eq_true (by rw [show g.alo + (((c - g.alo).toNat : Nat) : Int) = c by omega];exact h3)⟩
theorem allB_iff {t : Tw} {s : Nat → Int} {g : Gp} {q st : Int} : allB t s g q st = true ↔ ∀ c,g.alo ≤ c → c ≤ g.ahi → plc t s g c st = q:=by
  unfold allB
  rw [List.all_eq_true]
  constructor
  · intro h c h1 h2
    have:=of_decide_eq_true (h (c - g.alo).toNat (List.mem_range.2 (by omega)))
    rw [show g.alo + (((c - g.alo).toNat : Nat) : Int) = c by omega] at this
    exact this
  · intro h i hi
    have:=List.mem_range.1 hi
    exact decide_eq_true (h _ (by omega) (by omega))
theorem sumF_le {F G : Nat → Int} : ∀ {n : Nat},(∀ i,i < n → F i ≤ G i) → sumF F n ≤ sumF G n
  | 0,_ => Int.le_refl _
  | n + 1,h => by
    have h1:=sumF_le (n:=n) fun i hi => h i (by omega)
    have h2:=h n (by omega)
    show sumF F n + F n ≤ sumF G n + G n
    omega
end Go.Proofs.Ythjbfdfhblloiaa
