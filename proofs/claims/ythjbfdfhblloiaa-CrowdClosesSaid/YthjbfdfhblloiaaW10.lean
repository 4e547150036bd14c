/- Contracts of functions that the claim reaches: what each call gives, told in our own logic. Conditions: those of each theorem. -/
import Derived.Test.YthjbfdfhblloiaaQ22d
import Derived.Test.YthjbfdfhblloiaaQ22
open Nat (reduceAdd reduceMul reduceEqDiff reduceLeDiff)
open List (length_map)
set_option linter.all false
set_option linter.unusedSimpArgs false
set_option linter.unusedVariables false
namespace Go.Proofs.Ythjbfdfhblloiaa
open Go.Av
attribute [local irreducible] thenA blockA awp awpOps awpD awp1
set_option maxHeartbeats 8000000
set_option maxRecDepth 20000
theorem c69 (t : Tw) (most : Int) (p : List Rn) (b : Nat × Nat) (hT : TwOk t) (hp : p.length ≤ 1000000) : ∀ (k d : Nat),k ≤ d → ∀ (s : List Int) (i : Nat) (h : AH),s.length = t.sts.length → cntZ s < k → i ≤ p.length → h.at_ b = some ⟨1,[[.int .i64 (i : Nat)]]⟩ → b.1 < h.clk → W69 t most p b k d s i h:=by
  intro k
  induction k with
  | zero => intro d _ s i h _ hc;exact absurd hc (Nat.not_lt_zero _)
  | succ k ih =>
    rintro d hd s i h hsl hcz hi hb hbc
    by_cases hlt : i < p.length
    case neg => exact w69_end t most p b k d s i h hT hp hsl hb (by omega)
    by_cases h3 : rn p i = ⟨3,0,0,0⟩
    · exact w69_many t most p b k d s i h hT hp hsl hb hlt h3
    by_cases h2 : (rn p i).kind = 2 ∧ (rn p i).st = 0
    · exact w69_full t most p b k d s i h hT hp hsl hb hlt h3 h2
    by_cases h1 : (rn p i).kind = 1 ∧ (rn p i).sq = 0 ∧ (rn p i).step = 0
    case neg => exact w69_none t most p b k d s i h hT hp hsl hb hlt h3 h2 h1
    by_cases hc : 0 ≤ (rn p i).st ∧ (rn p i).st < t.sts.length ∧ elt s (rn p i).st.toNat = 0
    case neg => exact w69_bad t most p b k d s i h hT hp hsl hb hlt h3 h2 h1 hc
    obtain ⟨d,rfl⟩ : ∃ d',d = d' + 1:=⟨d - 1,by omega⟩
    have hx : (rn p i).st.toNat < s.length:=by omega
    exact w69_split t most p b k d s i h hT hp hsl hb hlt h3 h2 h1 hc hbc fun v j g hv hj hg hgc => ih d (by omega) _ j g (by rw [List.length_set];exact hsl) (by have:=cntZ_set s _ v hx hc.2.2 hv;omega) hj hg hgc
def provedB (t : Tw) (most : Int) (p : List Rn) : Bool:=decide (pvd t most (t.sts.length + 1) (List.replicate t.sts.length 0) p = some [])
def provedV (t : Tw) (most : Int) (p : List Rn) : AV:=if chkE t ≠ 0 then .tup [.bool false,.int .i64 (chkE t)] else if ¬ (0 ≤ most ∧ most ≤ 12) then .tup [.bool false,.int .i64 2] else .tup [.bool (provedB t most p),.int .i64 0]
theorem cntZ_rep : ∀ n,cntZ (List.replicate n 0) = n:=fun n => by unfold cntZ;rw [List.countP_replicate];simp
theorem stR_zero (n : Nat) : [AV.int .i64 0,.int .i64 0,.int .i64 0,.int .i64 0,.int .i64 0,.int .i64 0,.int .i64 0,.int .i64 0,.int .i64 0,.int .i64 0,.int .i64 0,.int .i64 0] = stR (elt (List.replicate n 0)):=by
  have : stR (elt (List.replicate n 0)) = stR (fun _ => 0):=stR_ext fun i _ => by
    unfold elt;rw [List.getD_eq_getElem?_getD,List.getElem?_replicate];split <;> rfl
  rw [this];rfl
theorem c23 (t : Tw) (most : Int) (p : List Rn) (hp : p.length ≤ 1000000) : Pure Try.prog 23 [t.av,.int .i64 most,.lst 4 (p.map Rn.row)] (fun v => v = provedV t most p):=by
  have k51:=c51 t
  have k68:=c68a 0 12 most
  intro h
  by_cases h0 : chkE t = 0
  case neg =>
    refine ACalls.forget (ACalls.of tab mixed Try.call23 Try.func23 rfl (fi:=⟨30,[],[3,4,5,17],none,[]⟩) rfl rfl (Nat.le_of_ble_eq_true rfl) (by decide) ?_)
    unfold startA
    simp only [go_sem]
    repeat' (first | refine st_seq_reg rfl (by first | (simp only [go_sem];rfl) | rfl) (by first | (simp only [go_sem];rfl) | rfl) ?_ | refine st_op ?_ | refine st_det rfl (by simp (disch:=omega) only [go_sem,wr_i64,if_yes,if_no,↓reduceIte,reduceAdd,reduceMul,reduceEqDiff,Nat.reduceBEq,reduceLeDiff];rfl) ?_ | (refine st_pureE (by first | (simp (disch:=omega) only [go_sem];rfl) | rfl) rfl (k51) (by first | (simp only [go_sem];rfl) | rfl) (by intro n;first | (simp (disch:=omega) only [go_sem];rfl) | rfl) ?_;intro n hn) | (refine st_condS rfl ?_ ?_ <;> intro hg <;> (try simp only [decide_eq_true_eq,decide_eq_false_iff_not,Bool.not_eq_true',Bool.not_eq_false'] at hg)) | refine st_nil ?_ | refine st_tN ?_ | refine st_seq ?_ | refine st_skip ?_ | refine st_ret ?_ | refine st_tR ?_)
    all_goals try (exfalso;omega)
    simp (disch:=omega) only [AEnd,Try.results23,aresK,fin,go_sem,↓reduceIte,reduceEqDiff,reduceAdd,reduceLeDiff,if_yes,if_no,implies_true,true_and,and_true,List.reverse_cons,List.reverse_nil]
    unfold provedV;rw [if_pos h0]
  rw [h0] at k51
  have hT:=townOk h0
  have hsn:=hT.sn
  by_cases h1 : 0 ≤ most ∧ most ≤ 12
  case neg =>
    rw [decide_eq_false h1] at k68
    refine ACalls.forget (ACalls.of tab mixed Try.call23 Try.func23 rfl (fi:=⟨30,[],[3,4,5,17],none,[]⟩) rfl rfl (Nat.le_of_ble_eq_true rfl) (by decide) ?_)
    unfold startA
    simp only [go_sem]
    repeat' (first | refine st_seq_reg rfl (by first | (simp only [go_sem];rfl) | rfl) (by first | (simp only [go_sem];rfl) | rfl) ?_ | refine st_op ?_ | refine st_det rfl (by simp (disch:=omega) only [go_sem,wr_i64,if_yes,if_no,↓reduceIte,reduceAdd,reduceMul,reduceEqDiff,Nat.reduceBEq,reduceLeDiff];rfl) ?_ | (refine st_pureE (by first | (simp (disch:=omega) only [go_sem];rfl) | rfl) rfl (k51) (by first | (simp only [go_sem];rfl) | rfl) (by intro n;first | (simp (disch:=omega) only [go_sem];rfl) | rfl) ?_;intro n hn) | (refine st_pureE (by first | (simp (disch:=omega) only [go_sem];rfl) | rfl) rfl (k68) (by first | (simp only [go_sem];rfl) | rfl) (by intro n;first | (simp (disch:=omega) only [go_sem];rfl) | rfl) ?_;intro n hn) | refine st_condT rfl ?_ | refine st_condF rfl ?_ | refine st_nil ?_ | refine st_tN ?_ | refine st_seq ?_ | refine st_skip ?_ | refine st_ret ?_ | refine st_tR ?_)
    all_goals try (exfalso;omega)
    simp (disch:=omega) only [AEnd,Try.results23,aresK,fin,go_sem,↓reduceIte,reduceEqDiff,reduceAdd,reduceLeDiff,if_yes,if_no,implies_true,true_and,and_true,List.reverse_cons,List.reverse_nil]
    unfold provedV;rw [if_neg (fun e => e h0),if_pos h1]
  rw [decide_eq_true h1] at k68
  have hE : provedV t most p = .tup [.bool (provedB t most p),.int .i64 0]:=by
    unfold provedV;rw [if_neg (fun e => e h0),if_neg (fun e => e h1)]
  have hz:=stR_zero t.sts.length
  obtain ⟨d,hd⟩ : ∃ d,13 ≤ d:=⟨13,Nat.le_refl _⟩
  refine ACalls.forget ?_
  refine ACalls.ofS tab Try.call23 Try.func23 rfl (fi:=⟨30,[],[3,4,5,17],none,[]⟩) rfl rfl (Nat.le_of_ble_eq_true rfl) ?_
  unfold startA
  refine asem_seq (fi:=⟨30,[],[3,4,5,17],none,[]⟩) tab mixed (by decide) ?_
  repeat' (first | refine st_reg rfl (by first | (simp only [go_sem];rfl) | rfl) (by first | (simp only [go_sem];rfl) | rfl) ?_ | refine st_op ?_ | refine st_det rfl (by simp (disch:=omega) only [go_sem,wr_i64,if_yes,if_no,↓reduceIte,reduceAdd,reduceMul,reduceEqDiff,Nat.reduceBEq,reduceLeDiff];rfl) ?_ | refine st_nil ?_ | refine st_tN ?_)
  refine asem_seq (fi:=⟨30,[],[3,4,5,17],none,[]⟩) tab mixed (by decide) ?_
  repeat' (first | refine st_seq_reg rfl (by first | (simp only [go_sem];rfl) | rfl) (by first | (simp only [go_sem];rfl) | rfl) ?_ | refine st_op ?_ | refine st_det rfl (by simp (disch:=omega) only [go_sem,wr_i64,if_yes,if_no,↓reduceIte,reduceAdd,reduceMul,reduceEqDiff,Nat.reduceBEq,reduceLeDiff];rfl) ?_ | (refine st_pureE (by first | (simp (disch:=omega) only [go_sem];rfl) | rfl) rfl (k51) (by first | (simp only [go_sem];rfl) | rfl) (by intro n;first | (simp (disch:=omega) only [go_sem];rfl) | rfl) ?_;intro n hn) | refine st_condF rfl ?_ | refine st_nil ?_ | refine st_tN ?_ | refine st_skip ?_)
  all_goals try (exfalso;omega)
  simp only [go_sem]
  refine asem_seq (fi:=⟨30,[],[3,4,5,17],none,[]⟩) tab mixed (by decide) ?_
  repeat' (first | refine st_seq_reg rfl (by first | (simp only [go_sem];rfl) | rfl) (by first | (simp only [go_sem];rfl) | rfl) ?_ | refine st_op ?_ | refine st_det rfl (by simp (disch:=omega) only [go_sem,wr_i64,if_yes,if_no,↓reduceIte,reduceAdd,reduceMul,reduceEqDiff,Nat.reduceBEq,reduceLeDiff];rfl) ?_ | (refine st_pureE (by first | (simp (disch:=omega) only [go_sem];rfl) | rfl) rfl (k68) (by first | (simp only [go_sem];rfl) | rfl) (by intro n;first | (simp (disch:=omega) only [go_sem];rfl) | rfl) ?_;intro n hn) | refine st_condF rfl ?_ | refine st_nil ?_ | refine st_tN ?_ | refine st_skip ?_)
  refine asem_seq (fi:=⟨30,[],[3,4,5,17],none,[]⟩) tab mixed (by decide) ?_
  repeat' (first | refine st_reg rfl (by first | (simp only [go_sem];rfl) | rfl) (by first | (simp only [go_sem];rfl) | rfl) ?_ | refine st_op ?_ | refine st_heap rfl (by simp (disch:=omega) only [go_sem,wr_i64,if_yes,if_no,↓reduceIte,reduceAdd,reduceMul,reduceEqDiff,Nat.reduceBEq,reduceLeDiff];rfl) ?_ | refine st_store (by simp (disch:=omega) only [go_sem,wr_i64,if_yes,if_no,↓reduceIte,reduceAdd,reduceMul,reduceEqDiff,Nat.reduceBEq,reduceLeDiff];rfl) ?_ | refine st_nil ?_ | refine st_tN ?_)
  refine asem_seq (fi:=⟨30,[],[3,4,5,17],none,[]⟩) tab mixed (by decide) ?_
  repeat' (first | refine st_reg rfl (by first | (simp only [go_sem];rfl) | rfl) (by first | (simp only [go_sem];rfl) | rfl) ?_ | refine st_op ?_ | refine st_heap rfl (by simp (disch:=omega) only [go_sem,wr_i64,if_yes,if_no,↓reduceIte,reduceAdd,reduceMul,reduceEqDiff,Nat.reduceBEq,reduceLeDiff];rfl) ?_ | refine st_nil ?_ | refine st_tN ?_)
  refine asem_seq (fi:=⟨30,[],[3,4,5,17],none,[]⟩) tab mixed (by decide) ?_
  repeat' (first | refine st_reg rfl (by first | (simp only [go_sem];rfl) | rfl) (by first | (simp only [go_sem];rfl) | rfl) ?_ | refine st_op ?_ | refine st_det rfl (by simp (disch:=omega) only [go_sem,wr_i64,if_yes,if_no,↓reduceIte,reduceAdd,reduceMul,reduceEqDiff,Nat.reduceBEq,reduceLeDiff];rfl) ?_ | refine st_store (by simp (disch:=omega) only [go_sem,wr_i64,if_yes,if_no,↓reduceIte,reduceAdd,reduceMul,reduceEqDiff,Nat.reduceBEq,reduceLeDiff];rfl) ?_ | refine st_nil ?_ | refine st_tN ?_)
  refine ASem.knot (g:=.func 69) (cap:=pcap (n,9) t most p) 10 (d + 1) rfl (by simp only [go_sem,↓reduceIte];rfl) ?_
  refine asem_awp (fi:=⟨30,[],[3,4,5,17],none,[]⟩) tab mixed (by decide) ?_
  simp only [go_sem]
  have hc:=c69 t most p (n,9) hT hp (t.sts.length + 1) d (by omega) (List.replicate t.sts.length 0) 0 (((h.tick (n + 1 + 1 + 1 + 1)).put (n,9) (some ⟨1,[[.int .i64 0]]⟩)).put (n + 1,10) none) (by simp) (by rw [cntZ_rep];omega) (Nat.zero_le _) (by simp only [go_sem,reduceEqDiff,and_false,↓reduceIte] <;> rfl) (by show n < n + 1 + 1 + 1 + 1;omega)
  unfold W69 at hc
  rw [List.drop_zero] at hc
  repeat' (first | refine st_seq_reg rfl (by first | (simp only [go_sem,hz,length_map];rfl) | rfl) (by first | (simp only [go_sem,hz,length_map];rfl) | rfl) ?_ | refine st_op ?_ | refine st_det rfl (by simp (disch:=omega) only [go_sem,wr_i64,if_yes,if_no,↓reduceIte,reduceAdd,reduceMul,reduceEqDiff,Nat.reduceBEq,reduceLeDiff,hz,length_map];rfl) ?_ | (refine st_call (args:=[.agg (stR (elt (List.replicate t.sts.length 0)))]) rfl (by first | (simp (disch:=omega) only [go_sem,hz];rfl) | (simp (disch:=omega) only [go_sem,hz])) rfl hc ?_;rintro v g1 ⟨q1,q2,q3,i',q4,q5,(⟨rfl,q6⟩ | ⟨rfl,q6⟩)⟩) | refine st_gT rfl rfl rfl ?_ | refine st_gF rfl rfl rfl ?_ | refine st_nil ?_ | refine st_ret ?_)
  all_goals simp only [go_sem] at q1 q2 q3
  have hold : ∀ b' : Bid,b'.1 < h.clk → g1.at_ b' = h.at_ b':=fun b' hb' => by
    have e9 : ¬ b' = (n,9):=ne_fst hb' (by show h.clk ≤ n;omega)
    have e10 : ¬ b' = (n + 1,10):=ne_fst hb' (by show h.clk ≤ n + 1;omega)
    rw [q3 b' e9 (by omega),if_neg e10,if_neg e9]
  · repeat' (first | refine st_op ?_ | refine st_det rfl (by simp (disch:=omega) only [go_sem,wr_i64,if_yes,if_no,↓reduceIte,reduceAdd,reduceMul,reduceEqDiff,Nat.reduceBEq,reduceLeDiff,q5,length_map];rfl) ?_ | refine st_gT rfl rfl rfl ?_ | refine st_nil ?_ | refine st_ret ?_)
    simp (disch:=omega) only [AEnd,Try.results23,aresK,fin,go_sem,↓reduceIte,reduceEqDiff,reduceAdd,reduceLeDiff,if_yes,if_no,implies_true,true_and,and_true,List.reverse_cons,List.reverse_nil]
    refine ⟨hold,q2,?_⟩
    rw [hE]
    unfold provedB
    rw [q6]
    have : decide ((i' : Int) = (p.length : Int)) = decide (some (p.drop i') = some []):=by
      by_cases e : i' = p.length
      · rw [e,List.drop_length,decide_eq_true rfl,decide_eq_true rfl]
      · rw [decide_eq_false (by omega),decide_eq_false (fun q => by
          have:=congrArg (fun x => (x.getD []).length) q
          simp at this;omega)]
    rw [this]
  · have hold : ∀ b' : Bid,b'.1 < h.clk → g1.at_ b' = h.at_ b':=fun b' hb' => by
      have e9 : ¬ b' = (n,9):=ne_fst hb' (by show h.clk ≤ n;omega)
      have e10 : ¬ b' = (n + 1,10):=ne_fst hb' (by show h.clk ≤ n + 1;omega)
      rw [q3 b' e9 (by omega),if_neg e10,if_neg e9]
    repeat' (first | refine st_seq_reg rfl (by first | (simp only [go_sem,q5];rfl) | rfl) (by first | (simp only [go_sem,q5];rfl) | rfl) ?_)
    simp (disch:=omega) only [AEnd,Try.results23,aresK,fin,go_sem,↓reduceIte,reduceEqDiff,reduceAdd,reduceLeDiff,if_yes,if_no,implies_true,true_and,and_true,List.reverse_cons,List.reverse_nil]
    refine ⟨hold,q2,?_⟩
    rw [hE]
    unfold provedB
    rw [q6];rfl
theorem ints_stR (f : Nat → Int) : ints (stR f) = some ((List.range 12).map fun i => (IntKind.i64,f i)):=rfl
theorem stR_neq (f : Nat → Int) (i : Nat) (v : Int) (hi : i < 12) (b : Bool) (h : b = !decide (f i = v)) : aeql 12 (fun b => !b) (ints (stR f)) (ints (stR (upd f i v))) = some (.bool b):=by
  rw [ints_stR,ints_stR,h]
  unfold aeql
  dsimp only
  rw [if_pos ⟨by simp,by simp⟩]
  have : ((List.range 12).map (fun i => (IntKind.i64,f i)) = (List.range 12).map (fun j => (IntKind.i64,upd f i v j))) ↔ f i = v:=by
    constructor
    · intro e
      have:=congrArg (fun l => l[i]?) e
      simp only [List.getElem?_map,List.getElem?_range hi,Option.map_some,Option.some.injEq,Prod.mk.injEq,true_and,upd_same] at this
      exact this
    · intro e
      rw [show upd f i v = f from upd_self e]
  simp only [this]
def undV (t : Tw) (s : List Int) : AV:=match und t s with
  | some i => .tup [.int .i64 ((i : Nat) : Int),.bool true]
  | none => .tup [.int .i64 0,.bool false]
theorem und_some {t : Tw} {s : List Int} {i : Nat} (hi : i < t.sts.length) (h0 : elt s i = 0) (h : ∀ j,j < i → ¬ elt s j = 0) : und t s = some i:=by
  unfold und
  rw [List.find?_eq_some_iff_getElem]
  refine ⟨decide_eq_true h0,i,by rw [List.length_range];exact hi,by rw [List.getElem_range],fun j hj => ?_⟩
  rw [List.getElem_range]
  simp only [Bool.not_eq_true',decide_eq_false_iff_not]
  exact h j hj
theorem und_none {t : Tw} {s : List Int} (h : ∀ j,j < t.sts.length → ¬ elt s j = 0) : und t s = none:=by
  unfold und
  rw [List.find?_eq_none]
  intro j hj
  simp only [decide_eq_true_eq]
  exact h j (List.mem_range.1 hj)
theorem c96 (t : Tw) (s : List Int) (hsn : t.sts.length ≤ 12) (hv : ∀ i,i < t.sts.length → elt s i = 0 ∨ elt s i = 1 ∨ elt s i = 2) : Pure Try.prog 96 [.agg (stR (elt s)),t.av] (fun v => v = undV t s):=by
  intro h
  have ht0 : t.av = .agg t.cells:=rfl
  refine ACalls.forget (ACalls.of tab mixed Try.call96 Try.func96 rfl (fi:=⟨27,[],[2,3],none,[(4,[0,0,0,6,15,31,63,63,63,447,1023,2047],[(0,true),(1,true),(2,false),(3,false),(4,false),(5,false),(6,true),(7,true),(8,false),(9,false),(10,false),(11,false)])]⟩) rfl rfl (Nat.le_of_ble_eq_true rfl) (by decide) ?_)
  unfold startA
  rw [ht0]
  unfold Tw.cells
  repeat' (first | refine st_seq_reg rfl (by first | (simp only [go_sem,length_map];rfl) | rfl) (by first | (simp only [go_sem,length_map];rfl) | rfl) ?_ | refine st_reg rfl (by first | (simp only [go_sem,length_map];rfl) | rfl) (by first | (simp only [go_sem,length_map];rfl) | rfl) ?_ | refine st_seq_draw rfl (by first | (simp only [go_sem,length_map];rfl) | rfl) (by first | (simp only [go_sem,length_map];rfl) | rfl) ?_ | refine st_draw rfl (by first | (simp only [go_sem,length_map];rfl) | rfl) (by first | (simp only [go_sem,length_map];rfl) | rfl) ?_ | refine st_op ?_ | refine st_det rfl (by simp (disch:=omega) only [go_sem,wr_i64,if_yes,if_no,↓reduceIte,reduceAdd,reduceMul,reduceEqDiff,Nat.reduceBEq,reduceLeDiff,length_map];rfl) ?_ | refine st_dop rfl ?_ | refine st_loc rfl (by simp (disch:=omega) only [go_sem,wr_i64,if_yes,if_no,↓reduceIte,reduceAdd,reduceMul,reduceEqDiff,Nat.reduceBEq,reduceLeDiff,length_map];rfl) ?_ | refine st_heap rfl (by simp (disch:=omega) only [go_sem,wr_i64,if_yes,if_no,↓reduceIte,reduceAdd,reduceMul,reduceEqDiff,Nat.reduceBEq,reduceLeDiff,length_map];rfl) ?_ | refine st_gT rfl rfl rfl ?_ | refine st_gF rfl rfl rfl ?_ | refine st_dgT rfl rfl rfl rfl ?_ | refine st_dgF rfl rfl rfl ?_ | (refine st_gS rfl rfl ?_ ?_ <;> intro hg <;> (try simp only [decide_eq_true_eq,decide_eq_false_iff_not,Bool.not_eq_true',Bool.not_eq_false'] at hg)) | (refine st_dgS rfl rfl ?_ ?_ <;> intro hg <;> (try simp only [decide_eq_true_eq,decide_eq_false_iff_not,Bool.not_eq_true',Bool.not_eq_false'] at hg)) | refine st_condT rfl ?_ | refine st_condF rfl ?_ | (refine st_condS rfl ?_ ?_ <;> intro hg <;> (try simp only [decide_eq_true_eq,decide_eq_false_iff_not,Bool.not_eq_true',Bool.not_eq_false'] at hg)) | refine st_nil ?_ | refine st_dnil ?_ | refine st_tN ?_ | refine st_seq ?_ | refine st_block ?_ | refine st_skip ?_ | refine st_exit ?_ | refine st_ret ?_ | refine st_tE ?_ | refine st_tR ?_ | refine st_bN ?_ | refine st_bR ?_ | refine st_bH ?_ | refine st_bM rfl ?_)
  refine st_loopC (α:=Nat) tab mixed [] [] (by repeat (first | exact trivial | refine ⟨rfl,?_⟩)) [] [] (by repeat (first | exact trivial | refine ⟨rfl,?_⟩)) (fun i => [(10,.int .i64 (i : Nat))]) [(2,_),(3,_),(9,_)] (fun _ => []) [] (fun i => i ≤ t.sts.length ∧ ∀ j,j < i → ¬ elt s j = 0) (fun i => t.sts.length - i) (by decide) 0 ⟨Nat.zero_le _,fun j hj => absurd hj (Nat.not_lt_zero _)⟩ (by (try simp only [go_sem]);repeat' (first | exact trivial | refine And.intro ?_ ?_ | rfl | (simp (disch:=omega) only [go_sem,if_yes,if_no,↓reduceIte,reduceAdd,reduceMul,reduceEqDiff,Nat.reduceBEq,reduceLeDiff];rfl) | (simp (disch:=omega) only [go_sem,if_yes,if_no,↓reduceIte,reduceAdd,reduceMul,reduceEqDiff,Nat.reduceBEq,reduceLeDiff]))) (by (try simp only [go_sem]);repeat' (first | exact trivial | refine And.intro ?_ ?_ | rfl | (simp (disch:=omega) only [go_sem,if_yes,if_no,↓reduceIte,reduceAdd,reduceMul,reduceEqDiff,Nat.reduceBEq,reduceLeDiff];rfl) | (simp (disch:=omega) only [go_sem,if_yes,if_no,↓reduceIte,reduceAdd,reduceMul,reduceEqDiff,Nat.reduceBEq,reduceLeDiff]))) (by first | (simp only [go_sem];rfl) | rfl) (by intro n;simp only [go_sem];rfl) ?_
  rintro i c ⟨i1,i2⟩ hc
  simp only [go_sem]
  by_cases hi : i < t.sts.length
  case neg =>
    obtain rfl : i = t.sts.length:=by omega
    repeat' (first | refine st_seq_reg rfl (by first | (simp only [go_sem];rfl) | rfl) (by first | (simp only [go_sem];rfl) | rfl) ?_ | refine st_reg rfl (by first | (simp only [go_sem];rfl) | rfl) (by first | (simp only [go_sem];rfl) | rfl) ?_ | refine st_seq_draw rfl (by first | (simp only [go_sem];rfl) | rfl) (by first | (simp only [go_sem];rfl) | rfl) ?_ | refine st_draw rfl (by first | (simp only [go_sem];rfl) | rfl) (by first | (simp only [go_sem];rfl) | rfl) ?_ | refine st_op ?_ | refine st_det rfl (by simp (disch:=omega) only [go_sem,wr_i64,if_yes,if_no,↓reduceIte,reduceAdd,reduceMul,reduceEqDiff,Nat.reduceBEq,reduceLeDiff];rfl) ?_ | refine st_dop rfl ?_ | refine st_loc rfl (by simp (disch:=omega) only [go_sem,wr_i64,if_yes,if_no,↓reduceIte,reduceAdd,reduceMul,reduceEqDiff,Nat.reduceBEq,reduceLeDiff];rfl) ?_ | refine st_heap rfl (by simp (disch:=omega) only [go_sem,wr_i64,if_yes,if_no,↓reduceIte,reduceAdd,reduceMul,reduceEqDiff,Nat.reduceBEq,reduceLeDiff];rfl) ?_ | refine st_gT rfl rfl rfl ?_ | refine st_gF rfl rfl rfl ?_ | refine st_dgT rfl rfl rfl rfl ?_ | refine st_dgF rfl rfl rfl ?_ | (refine st_gS rfl rfl ?_ ?_ <;> intro hg <;> (try simp only [decide_eq_true_eq,decide_eq_false_iff_not,Bool.not_eq_true',Bool.not_eq_false'] at hg)) | (refine st_dgS rfl rfl ?_ ?_ <;> intro hg <;> (try simp only [decide_eq_true_eq,decide_eq_false_iff_not,Bool.not_eq_true',Bool.not_eq_false'] at hg)) | refine st_condT rfl ?_ | refine st_condF rfl ?_ | (refine st_condS rfl ?_ ?_ <;> intro hg <;> (try simp only [decide_eq_true_eq,decide_eq_false_iff_not,Bool.not_eq_true',Bool.not_eq_false'] at hg)) | refine st_nil ?_ | refine st_dnil ?_ | refine st_tN ?_ | refine st_seq ?_ | refine st_block ?_ | refine st_skip ?_ | refine st_exit ?_ | refine st_ret ?_ | refine st_tE ?_ | refine st_tR ?_ | refine st_bN ?_ | refine st_bR ?_ | refine st_bH ?_ | refine st_bM rfl ?_)
    all_goals try (exfalso;omega)
    simp (disch:=omega) only [AEnd,Try.results96,aresK,fin,go_sem,↓reduceIte,reduceEqDiff,reduceAdd,reduceLeDiff,if_yes,if_no,implies_true,true_and,and_true,List.reverse_cons,List.reverse_nil]
    unfold undV;rw [und_none i2]
  have w1:=c72 (elt s) (i : Nat) 1 ⟨by omega,by omega⟩
  have w2:=c72 (elt s) (i : Nat) 2 ⟨by omega,by omega⟩
  simp only [toNat_cast] at w1 w2
  by_cases h0 : elt s i = 0
  · have n1:=stR_neq (elt s) i 1 (by omega) true (by rw [h0];rfl)
    have n2:=stR_neq (elt s) i 2 (by omega) true (by rw [h0];rfl)
    repeat' (first | refine st_seq_reg rfl (by first | (simp only [go_sem,n1,n2];rfl) | rfl) (by first | (simp only [go_sem,n1,n2];rfl) | rfl) ?_ | refine st_reg rfl (by first | (simp only [go_sem,n1,n2];rfl) | rfl) (by first | (simp only [go_sem,n1,n2];rfl) | rfl) ?_ | refine st_seq_draw rfl (by first | (simp only [go_sem,n1,n2];rfl) | rfl) (by first | (simp only [go_sem,n1,n2];rfl) | rfl) ?_ | refine st_draw rfl (by first | (simp only [go_sem,n1,n2];rfl) | rfl) (by first | (simp only [go_sem,n1,n2];rfl) | rfl) ?_ | refine st_op ?_ | refine st_det rfl (by simp (disch:=omega) only [go_sem,wr_i64,if_yes,if_no,↓reduceIte,reduceAdd,reduceMul,reduceEqDiff,Nat.reduceBEq,reduceLeDiff,n1,n2];rfl) ?_ | refine st_dop rfl ?_ | refine st_loc rfl (by simp (disch:=omega) only [go_sem,wr_i64,if_yes,if_no,↓reduceIte,reduceAdd,reduceMul,reduceEqDiff,Nat.reduceBEq,reduceLeDiff,n1,n2];rfl) ?_ | refine st_heap rfl (by simp (disch:=omega) only [go_sem,wr_i64,if_yes,if_no,↓reduceIte,reduceAdd,reduceMul,reduceEqDiff,Nat.reduceBEq,reduceLeDiff,n1,n2];rfl) ?_ | (refine st_pureE (by first | (simp (disch:=omega) only [go_sem,n1,n2];rfl) | rfl) rfl (w1) (by first | (simp only [go_sem,n1,n2];rfl) | rfl) (by intro n;first | (simp (disch:=omega) only [go_sem];rfl) | rfl) ?_;intro n hn) | (refine st_pureE (by first | (simp (disch:=omega) only [go_sem,n1,n2];rfl) | rfl) rfl (w2) (by first | (simp only [go_sem,n1,n2];rfl) | rfl) (by intro n;first | (simp (disch:=omega) only [go_sem];rfl) | rfl) ?_;intro n hn) | refine st_gT rfl rfl rfl ?_ | refine st_gF rfl rfl rfl ?_ | refine st_dgT rfl rfl rfl rfl ?_ | refine st_dgF rfl rfl rfl ?_ | (refine st_gS rfl rfl ?_ ?_ <;> intro hg <;> (try simp only [decide_eq_true_eq,decide_eq_false_iff_not,Bool.not_eq_true',Bool.not_eq_false'] at hg)) | (refine st_dgS rfl rfl ?_ ?_ <;> intro hg <;> (try simp only [decide_eq_true_eq,decide_eq_false_iff_not,Bool.not_eq_true',Bool.not_eq_false'] at hg)) | refine st_condT rfl ?_ | refine st_condF rfl ?_ | (refine st_condS rfl ?_ ?_ <;> intro hg <;> (try simp only [decide_eq_true_eq,decide_eq_false_iff_not,Bool.not_eq_true',Bool.not_eq_false'] at hg)) | refine st_nil ?_ | refine st_dnil ?_ | refine st_tN ?_ | refine st_seq ?_ | refine st_block ?_ | refine st_skip ?_ | refine st_exit ?_ | refine st_ret ?_ | refine st_tE ?_ | refine st_tR ?_ | refine st_bN ?_ | refine st_bR ?_ | refine st_bH ?_ | refine st_bM rfl ?_)
    all_goals try (exfalso;omega)
    simp (disch:=omega) only [AEnd,Try.results96,aresK,fin,go_sem,↓reduceIte,reduceEqDiff,reduceAdd,reduceLeDiff,if_yes,if_no,implies_true,true_and,and_true,List.reverse_cons,List.reverse_nil]
    unfold undV;rw [und_some hi h0 i2]
  · have hnx : ∀ j,j < i + 1 → ¬ elt s j = 0:=fun j hj => by
      by_cases e : j = i
      · rw [e];exact h0
      · exact i2 j (by omega)
    by_cases h1 : elt s i = 1
    · have n1:=stR_neq (elt s) i 1 (by omega) false (by rw [h1];rfl)
      repeat' (first | refine st_seq_reg rfl (by first | (simp only [go_sem,n1];rfl) | rfl) (by first | (simp only [go_sem,n1];rfl) | rfl) ?_ | refine st_reg rfl (by first | (simp only [go_sem,n1];rfl) | rfl) (by first | (simp only [go_sem,n1];rfl) | rfl) ?_ | refine st_seq_draw rfl (by first | (simp only [go_sem,n1];rfl) | rfl) (by first | (simp only [go_sem,n1];rfl) | rfl) ?_ | refine st_draw rfl (by first | (simp only [go_sem,n1];rfl) | rfl) (by first | (simp only [go_sem,n1];rfl) | rfl) ?_ | refine st_op ?_ | refine st_det rfl (by simp (disch:=omega) only [go_sem,wr_i64,if_yes,if_no,↓reduceIte,reduceAdd,reduceMul,reduceEqDiff,Nat.reduceBEq,reduceLeDiff,n1];rfl) ?_ | refine st_dop rfl ?_ | refine st_loc rfl (by simp (disch:=omega) only [go_sem,wr_i64,if_yes,if_no,↓reduceIte,reduceAdd,reduceMul,reduceEqDiff,Nat.reduceBEq,reduceLeDiff,n1];rfl) ?_ | refine st_heap rfl (by simp (disch:=omega) only [go_sem,wr_i64,if_yes,if_no,↓reduceIte,reduceAdd,reduceMul,reduceEqDiff,Nat.reduceBEq,reduceLeDiff,n1];rfl) ?_ | (refine st_pureE (by first | (simp (disch:=omega) only [go_sem,n1];rfl) | rfl) rfl (w1) (by first | (simp only [go_sem,n1];rfl) | rfl) (by intro n;first | (simp (disch:=omega) only [go_sem];rfl) | rfl) ?_;intro n hn) | (refine st_pureE (by first | (simp (disch:=omega) only [go_sem,n1];rfl) | rfl) rfl (w2) (by first | (simp only [go_sem,n1];rfl) | rfl) (by intro n;first | (simp (disch:=omega) only [go_sem];rfl) | rfl) ?_;intro n hn) | refine st_gT rfl rfl rfl ?_ | refine st_gF rfl rfl rfl ?_ | refine st_dgT rfl rfl rfl rfl ?_ | refine st_dgF rfl rfl rfl ?_ | (refine st_gS rfl rfl ?_ ?_ <;> intro hg <;> (try simp only [decide_eq_true_eq,decide_eq_false_iff_not,Bool.not_eq_true',Bool.not_eq_false'] at hg)) | (refine st_dgS rfl rfl ?_ ?_ <;> intro hg <;> (try simp only [decide_eq_true_eq,decide_eq_false_iff_not,Bool.not_eq_true',Bool.not_eq_false'] at hg)) | refine st_condT rfl ?_ | refine st_condF rfl ?_ | (refine st_condS rfl ?_ ?_ <;> intro hg <;> (try simp only [decide_eq_true_eq,decide_eq_false_iff_not,Bool.not_eq_true',Bool.not_eq_false'] at hg)) | refine st_nil ?_ | refine st_dnil ?_ | refine st_tN ?_ | refine st_seq ?_ | refine st_block ?_ | refine st_skip ?_ | refine st_exit ?_ | refine st_ret ?_ | refine st_tE ?_ | refine st_tR ?_ | refine st_bN ?_ | refine st_bR ?_ | refine st_bH ?_ | refine st_bM rfl ?_)
      all_goals try (exfalso;omega)
      refine ⟨i + 1,⟨by show i + 1 ≤ _;omega,hnx⟩,by show t.sts.length - (i + 1) < t.sts.length - i;omega,(by repeat' (first | exact trivial | refine And.intro ?_ ?_ | rfl | (simp (disch:=omega) only [go_sem,if_yes,if_no,↓reduceIte,reduceAdd,reduceMul,reduceEqDiff,Nat.reduceBEq,reduceLeDiff];rfl) | (simp (disch:=omega) only [go_sem,if_yes,if_no,↓reduceIte,reduceAdd,reduceMul,reduceEqDiff,Nat.reduceBEq,reduceLeDiff]))),(by repeat' (first | exact trivial | refine And.intro ?_ ?_ | rfl | (simp (disch:=omega) only [go_sem,if_yes,if_no,↓reduceIte,reduceAdd,reduceMul,reduceEqDiff,Nat.reduceBEq,reduceLeDiff];rfl) | (simp (disch:=omega) only [go_sem,if_yes,if_no,↓reduceIte,reduceAdd,reduceMul,reduceEqDiff,Nat.reduceBEq,reduceLeDiff]))),rfl,(by first | exact HOld.of _ (by omega) | exact HOld.put _ _ _ (by omega))⟩
    · have h2 : elt s i = 2:=by have:=hv i hi;omega
      have n1:=stR_neq (elt s) i 1 (by omega) true (by rw [h2];rfl)
      have n2:=stR_neq (elt s) i 2 (by omega) false (by rw [h2];rfl)
      repeat' (first | refine st_seq_reg rfl (by first | (simp only [go_sem,n1,n2];rfl) | rfl) (by first | (simp only [go_sem,n1,n2];rfl) | rfl) ?_ | refine st_reg rfl (by first | (simp only [go_sem,n1,n2];rfl) | rfl) (by first | (simp only [go_sem,n1,n2];rfl) | rfl) ?_ | refine st_seq_draw rfl (by first | (simp only [go_sem,n1,n2];rfl) | rfl) (by first | (simp only [go_sem,n1,n2];rfl) | rfl) ?_ | refine st_draw rfl (by first | (simp only [go_sem,n1,n2];rfl) | rfl) (by first | (simp only [go_sem,n1,n2];rfl) | rfl) ?_ | refine st_op ?_ | refine st_det rfl (by simp (disch:=omega) only [go_sem,wr_i64,if_yes,if_no,↓reduceIte,reduceAdd,reduceMul,reduceEqDiff,Nat.reduceBEq,reduceLeDiff,n1,n2];rfl) ?_ | refine st_dop rfl ?_ | refine st_loc rfl (by simp (disch:=omega) only [go_sem,wr_i64,if_yes,if_no,↓reduceIte,reduceAdd,reduceMul,reduceEqDiff,Nat.reduceBEq,reduceLeDiff,n1,n2];rfl) ?_ | refine st_heap rfl (by simp (disch:=omega) only [go_sem,wr_i64,if_yes,if_no,↓reduceIte,reduceAdd,reduceMul,reduceEqDiff,Nat.reduceBEq,reduceLeDiff,n1,n2];rfl) ?_ | (refine st_pureE (by first | (simp (disch:=omega) only [go_sem,n1,n2];rfl) | rfl) rfl (w1) (by first | (simp only [go_sem,n1,n2];rfl) | rfl) (by intro n;first | (simp (disch:=omega) only [go_sem];rfl) | rfl) ?_;intro n hn) | (refine st_pureE (by first | (simp (disch:=omega) only [go_sem,n1,n2];rfl) | rfl) rfl (w2) (by first | (simp only [go_sem,n1,n2];rfl) | rfl) (by intro n;first | (simp (disch:=omega) only [go_sem];rfl) | rfl) ?_;intro n hn) | refine st_gT rfl rfl rfl ?_ | refine st_gF rfl rfl rfl ?_ | refine st_dgT rfl rfl rfl rfl ?_ | refine st_dgF rfl rfl rfl ?_ | (refine st_gS rfl rfl ?_ ?_ <;> intro hg <;> (try simp only [decide_eq_true_eq,decide_eq_false_iff_not,Bool.not_eq_true',Bool.not_eq_false'] at hg)) | (refine st_dgS rfl rfl ?_ ?_ <;> intro hg <;> (try simp only [decide_eq_true_eq,decide_eq_false_iff_not,Bool.not_eq_true',Bool.not_eq_false'] at hg)) | refine st_condT rfl ?_ | refine st_condF rfl ?_ | (refine st_condS rfl ?_ ?_ <;> intro hg <;> (try simp only [decide_eq_true_eq,decide_eq_false_iff_not,Bool.not_eq_true',Bool.not_eq_false'] at hg)) | refine st_nil ?_ | refine st_dnil ?_ | refine st_tN ?_ | refine st_seq ?_ | refine st_block ?_ | refine st_skip ?_ | refine st_exit ?_ | refine st_ret ?_ | refine st_tE ?_ | refine st_tR ?_ | refine st_bN ?_ | refine st_bR ?_ | refine st_bH ?_ | refine st_bM rfl ?_)
      all_goals try (exfalso;omega)
      refine ⟨i + 1,⟨by show i + 1 ≤ _;omega,hnx⟩,by show t.sts.length - (i + 1) < t.sts.length - i;omega,(by repeat' (first | exact trivial | refine And.intro ?_ ?_ | rfl | (simp (disch:=omega) only [go_sem,if_yes,if_no,↓reduceIte,reduceAdd,reduceMul,reduceEqDiff,Nat.reduceBEq,reduceLeDiff];rfl) | (simp (disch:=omega) only [go_sem,if_yes,if_no,↓reduceIte,reduceAdd,reduceMul,reduceEqDiff,Nat.reduceBEq,reduceLeDiff]))),(by repeat' (first | exact trivial | refine And.intro ?_ ?_ | rfl | (simp (disch:=omega) only [go_sem,if_yes,if_no,↓reduceIte,reduceAdd,reduceMul,reduceEqDiff,Nat.reduceBEq,reduceLeDiff];rfl) | (simp (disch:=omega) only [go_sem,if_yes,if_no,↓reduceIte,reduceAdd,reduceMul,reduceEqDiff,Nat.reduceBEq,reduceLeDiff]))),rfl,(by first | exact HOld.of _ (by omega) | exact HOld.put _ _ _ (by omega))⟩
end Go.Proofs.Ythjbfdfhblloiaa

namespace Go.Proofs.Ythjbfdfhblloiaa
open Go.Av
set_option maxRecDepth 20000
theorem prv_len (t : Tw) (most : Int) : ∀ (k : Nat) (s : List Int),(prv t most k s).length + 1 ≤ 2 ^ k
  | 0,_ => by show 0 + 1 ≤ 1;omega
  | k + 1,s => by
    have h2 : (2 : Nat) ^ (k + 1) = 2 ^ k * 2:=Nat.pow_succ ..
    have hk : 1 ≤ (2 : Nat) ^ k:=Nat.one_le_two_pow
    show (if most < shN s then [⟨3,0,0,0⟩] else match (crL t (elt s)).head? with
      | some x => [⟨2,0,x.sq,x.step⟩]
      | none => match und t s with
        | none => []
        | some i => (⟨1,(i : Nat),0,0⟩ : Rn) :: (prv t most k (s.set i 1) ++ prv t most k (s.set i 2))).length + 1 ≤ 2 ^ (k + 1)
    split
    · simp only [List.length_cons,List.length_nil];omega
    · split
      · simp only [List.length_cons,List.length_nil];omega
      · split
        · simp only [List.length_nil];omega
        · rename_i i _
          have a:=prv_len t most k (s.set i 1)
          have b:=prv_len t most k (s.set i 2)
          simp only [List.length_cons,List.length_append];omega
theorem prv_many {t : Tw} {most : Int} {k : Nat} {s : List Int} (h : most < shN s) : prv t most (k + 1) s = [⟨3,0,0,0⟩]:=by
  show (if most < shN s then _ else _) = _;rw [if_pos h]
theorem prv_full {t : Tw} {most : Int} {k : Nat} {s : List Int} (h : ¬ most < shN s) {x : Cr} {l : List Cr} (hx : crL t (elt s) = x :: l) : prv t most (k + 1) s = [⟨2,0,x.sq,x.step⟩]:=by
  show (if most < shN s then _ else match (crL t (elt s)).head? with | some x => _ | none => _) = _;rw [if_neg h,hx];rfl
theorem prv_split {t : Tw} {most : Int} {k : Nat} {s : List Int} (h : ¬ most < shN s) (hx : crL t (elt s) = []) {i : Nat} (hu : und t s = some i) : prv t most (k + 1) s = ⟨1,(i : Nat),0,0⟩ :: (prv t most k (s.set i 1) ++ prv t most k (s.set i 2)):=by
  show (if most < shN s then _ else match (crL t (elt s)).head? with | some x => _ | none => match und t s with | none => _ | some i => _) = _;rw [if_neg h,hx,hu];rfl
end Go.Proofs.Ythjbfdfhblloiaa
