/- Contracts of functions that the claim reaches: what each call gives, told in our own logic. Conditions: those of each theorem. -/
import Derived.Test.YthjbfdfhblloiaaW15
import Derived.Test.YthjbfdfhblloiaaBaseD
import Derived.Test.YthjbfdfhblloiaaQ18
import Derived.Test.YthjbfdfhblloiaaQ14
import Derived.Test.YthjbfdfhblloiaaW4
import Derived.Test.YthjbfdfhblloiaaBaseC
import Derived.Test.YthjbfdfhblloiaaQ33
open Nat (reduceAdd reduceMul reduceEqDiff reduceLeDiff)
open List (length_map)
set_option linter.all false
set_option linter.unusedSimpArgs false
set_option linter.unusedVariables false
namespace Go.Proofs.Ythjbfdfhblloiaa
open Go.Av
attribute [local irreducible] thenA blockA awp awpOps awpD awp1
set_option maxHeartbeats 8000000
set_option maxRecDepth 20000
theorem c89 (t : Tw) (s : List Int) (step : Int) (hT : TwOk t) (hsl : s.length = t.sts.length) (hs' : 0 ≤ step ∧ step ≤ 96) : Pure Try.prog 89 [t.av,.lst 1 (s.map iv),.int .i64 step] (fun v => v = .lst 2 (rlds t (elt s) step)):=by
  have hrn:=hT.rn
  have hgn:=hT.gn
  have ht0 : t.av = .agg t.cells:=rfl
  refine Pure.give Try.call89 fun h hall => ?_
  refine ACalls.of tab mixed Try.call89 Try.func89 rfl (fi:=⟨82,[9],[3],none,[(11,[0,0,0,0,12,28,60,0,128,384,1020,2047,4095,8191],[(0,false),(1,false),(2,false),(3,false),(4,false),(5,false),(6,false),(7,false),(8,false),(9,true),(10,false),(11,false),(12,false),(13,false)]),(13,[0,0,0,0,12,28,60,0,128,384,1020,2047,4095,8191],[(0,false),(1,false),(2,false),(3,false),(4,false),(5,false),(6,false),(7,false),(8,false),(9,true),(10,false),(11,false),(12,false),(13,false)])]⟩) rfl rfl (Nat.le_of_ble_eq_true rfl) (by decide) ?_
  unfold startA
  rw [ht0]
  unfold Tw.cells
  repeat' (first | refine st_seq_reg rfl (by first | (simp only [go_sem,length_map,sl_rep,sl_len,Nat.zero_add];rfl) | rfl) (by first | (simp only [go_sem,length_map,sl_rep,sl_len,Nat.zero_add];rfl) | rfl) ?_ | refine st_op ?_ | refine st_det rfl (by simp (disch:=omega) only [go_sem,wr_i64,if_yes,if_no,↓reduceIte,reduceAdd,reduceMul,reduceEqDiff,Nat.reduceBEq,reduceLeDiff,length_map,sl_rep,sl_len,Nat.zero_add];rfl) ?_ | refine st_heap rfl (by simp (disch:=omega) only [go_sem,wr_i64,if_yes,if_no,↓reduceIte,reduceAdd,reduceMul,reduceEqDiff,Nat.reduceBEq,reduceLeDiff,length_map,sl_rep,sl_len,Nat.zero_add];rfl) ?_ | refine st_nil ?_ | refine st_seq ?_ | refine st_block ?_)
  all_goals try (exfalso;omega)
  have nbo : ∀ b' : Bid,b'.1 < h.clk → ¬ b' = (h.clk + 1,16):=fun b' hb' => ne_fst hb' (by show h.clk ≤ h.clk + 1;omega)
  refine st_loopH (α:=Nat × AH) tab mixed [] [] (by repeat (first | exact trivial | refine ⟨rfl,?_⟩)) [] [] (by repeat (first | exact trivial | refine ⟨rfl,?_⟩)) (fun a => [(8,.int .i64 (a.1 : Nat))]) [(1,_),(2,_),(3,_),(7,_)] (fun _ => []) [] (fun a => a.2) (fun a => a.1 ≤ t.gs.length ∧ a.2.at_ (h.clk + 1,16) = some ⟨2,sl t.rooms.length (fun q => sumF (rloF t (elt s) (q : Nat) step) a.1) (fun q => sumF (hiF t (elt s) (q : Nat) step) a.1)⟩ ∧ h.clk + 1 < a.2.clk ∧ (∀ b' : Bid,b'.1 < h.clk → a.2.at_ b' = h.at_ b') ∧ a.2.lp = h.lp) (fun a => t.gs.length - a.1) (by decide) (0,_) (by refine ⟨Nat.zero_le _,by simp only [go_sem,↓reduceIte];rfl,by simp only [go_sem];omega,fun b' hb' => by simp only [go_sem,if_neg (nbo b' hb')],rfl⟩) (by (try simp only [go_sem]);repeat' (first | exact trivial | refine And.intro ?_ ?_ | rfl | (simp (disch:=omega) only [go_sem,if_yes,if_no,↓reduceIte,reduceAdd,reduceMul,reduceEqDiff,Nat.reduceBEq,reduceLeDiff];rfl) | (simp (disch:=omega) only [go_sem,if_yes,if_no,↓reduceIte,reduceAdd,reduceMul,reduceEqDiff,Nat.reduceBEq,reduceLeDiff]))) (by (try simp only [go_sem]);repeat' (first | exact trivial | refine And.intro ?_ ?_ | rfl | (simp (disch:=omega) only [go_sem,if_yes,if_no,↓reduceIte,reduceAdd,reduceMul,reduceEqDiff,Nat.reduceBEq,reduceLeDiff];rfl) | (simp (disch:=omega) only [go_sem,if_yes,if_no,↓reduceIte,reduceAdd,reduceMul,reduceEqDiff,Nat.reduceBEq,reduceLeDiff]))) (HOld.refl _) ?_
  rintro ⟨i,G⟩ d ⟨i1,i2,i3,i4,i5⟩ hd
  dsimp only at i1 i2 i3 i4 i5 hd
  simp only [go_sem]
  by_cases hi : i < t.gs.length
  case neg =>
    obtain rfl : i = t.gs.length:=by omega
    repeat' (first | refine st_seq_reg rfl (by first | (simp only [go_sem,length_map];rfl) | rfl) (by first | (simp only [go_sem,length_map];rfl) | rfl) ?_ | refine st_op ?_ | refine st_det rfl (by simp (disch:=omega) only [go_sem,wr_i64,if_yes,if_no,↓reduceIte,reduceAdd,reduceMul,reduceEqDiff,Nat.reduceBEq,reduceLeDiff,length_map];rfl) ?_ | refine st_loc rfl (by simp (disch:=omega) only [go_sem,wr_i64,if_yes,if_no,↓reduceIte,reduceAdd,reduceMul,reduceEqDiff,Nat.reduceBEq,reduceLeDiff,length_map];rfl) ?_ | refine st_store (by simp (disch:=omega) only [go_sem,wr_i64,if_yes,if_no,↓reduceIte,reduceAdd,reduceMul,reduceEqDiff,Nat.reduceBEq,reduceLeDiff,length_map];rfl) ?_ | (refine st_condS rfl ?_ ?_ <;> intro hg <;> (try simp only [decide_eq_true_eq,decide_eq_false_iff_not,Bool.not_eq_true',Bool.not_eq_false'] at hg)) | refine st_nil ?_ | refine st_tN ?_ | refine st_seq ?_ | refine st_block ?_ | refine st_skip ?_ | refine st_exit ?_ | refine st_ret ?_ | refine st_tE ?_ | refine st_bH ?_)
    all_goals try (exfalso;omega)
    simp (disch:=omega) only [AEnd,Try.results89,aresK,fin,go_sem,↓reduceIte,reduceEqDiff,reduceAdd,reduceLeDiff,if_yes,if_no,implies_true,true_and,and_true,List.reverse_cons,List.reverse_nil]
    refine ⟨i4,i5,.inr ⟨(h.clk + 1,16),_,by show h.clk ≤ h.clk + 1;omega,i2,?_⟩⟩
    simp only [frz]
    rw [if_pos ⟨trivial,by rw [sl_len];omega⟩,List.drop_zero,List.take_of_length_le (by rw [sl_len];exact Nat.le_refl _)]
    rfl
  have hGp:=hT.g i hi
  have hsz:=hGp.size
  have k88:=c88 t s (gp t.gs i) step hT hGp hsl hs'
  have hmB : ∀ q : Nat,q < t.rooms.length → mayB t (elt s) (gp t.gs i) step (plN (gp t.gs i)) q = someB t (elt s) (gp t.gs i) (q : Nat) step:=fun q hq => by unfold mayB;rw [if_neg (by omega)];rfl
  have hlF : ∀ q : Nat,rloF t (elt s) (q : Nat) step i = if someB t (elt s) (gp t.gs i) (q : Nat) step = true ∧ oneB t (elt s) (gp t.gs i) step = true then (gp t.gs i).lo else 0:=fun q => rfl
  have hhF : ∀ q : Nat,hiF t (elt s) (q : Nat) step i = if someB t (elt s) (gp t.gs i) (q : Nat) step = true then (gp t.gs i).hi else 0:=fun q => rfl
  generalize hON : oneB t (elt s) (gp t.gs i) step = one at *
  repeat' (first | refine st_seq_reg rfl (by first | (simp only [go_sem,length_map];rfl) | rfl) (by first | (simp only [go_sem,length_map];rfl) | rfl) ?_ | refine st_op ?_ | refine st_det rfl (by simp (disch:=omega) only [go_sem,wr_i64,if_yes,if_no,↓reduceIte,reduceAdd,reduceMul,reduceEqDiff,Nat.reduceBEq,reduceLeDiff,length_map];rfl) ?_ | refine st_loc rfl (by simp (disch:=omega) only [go_sem,wr_i64,if_yes,if_no,↓reduceIte,reduceAdd,reduceMul,reduceEqDiff,Nat.reduceBEq,reduceLeDiff,length_map];rfl) ?_ | refine st_store (by simp (disch:=omega) only [go_sem,wr_i64,if_yes,if_no,↓reduceIte,reduceAdd,reduceMul,reduceEqDiff,Nat.reduceBEq,reduceLeDiff,length_map];rfl) ?_ | (refine st_pureE (by first | (simp (disch:=omega) only [go_sem,length_map];rfl) | rfl) rfl (k88) (by first | (simp only [go_sem,length_map];rfl) | rfl) (by intro n;first | (simp (disch:=omega) only [go_sem];rfl) | rfl) ?_;intro n hn) | (refine st_condS rfl ?_ ?_ <;> intro hg <;> (try simp only [decide_eq_true_eq,decide_eq_false_iff_not,Bool.not_eq_true',Bool.not_eq_false'] at hg)) | refine st_nil ?_ | refine st_tN ?_ | refine st_seq ?_ | refine st_block ?_ | refine st_skip ?_ | refine st_exit ?_ | refine st_ret ?_ | refine st_tE ?_ | refine st_bH ?_)
  all_goals try (exfalso;omega)
  refine st_loopH (α:=Nat × AH) tab mixed [] [] (by repeat (first | exact trivial | refine ⟨rfl,?_⟩)) [9] [_] (by repeat (first | exact trivial | refine ⟨rfl,?_⟩)) (fun a => [(12,.int .i64 (a.1 : Nat))]) [(1,_),(2,_),(3,_),(7,_),(8,_),(9,_),(10,_),(11,_)] (fun _ => []) [_] (fun a => a.2) (fun a => a.1 ≤ t.rooms.length ∧ a.2.at_ (h.clk + 1,16) = some ⟨2,sl t.rooms.length (pS (fun q => rloF t (elt s) (q : Nat) step) i a.1) (pS (fun q => hiF t (elt s) (q : Nat) step) i a.1)⟩ ∧ h.clk + 1 < a.2.clk ∧ (∀ b' : Bid,b'.1 < h.clk → a.2.at_ b' = h.at_ b') ∧ a.2.lp = h.lp) (fun a => t.rooms.length - a.1) (by decide) (0,_) (by refine ⟨Nat.zero_le _,by simp only [go_sem];rw [i2];exact congrArg (fun l => some (⟨2,l⟩ : Blk)) (sl_congr fun q _ => ⟨by rw [pS_zero],by rw [pS_zero]⟩),by simp only [go_sem];omega,fun b' hb' => i4 b' hb',i5⟩) (by (try simp only [go_sem]);repeat' (first | exact trivial | refine And.intro ?_ ?_ | rfl | (simp (disch:=omega) only [go_sem,if_yes,if_no,↓reduceIte,reduceAdd,reduceMul,reduceEqDiff,Nat.reduceBEq,reduceLeDiff];rfl) | (simp (disch:=omega) only [go_sem,if_yes,if_no,↓reduceIte,reduceAdd,reduceMul,reduceEqDiff,Nat.reduceBEq,reduceLeDiff]))) (by (try simp only [go_sem]);repeat' (first | exact trivial | refine And.intro ?_ ?_ | rfl | (simp (disch:=omega) only [go_sem,if_yes,if_no,↓reduceIte,reduceAdd,reduceMul,reduceEqDiff,Nat.reduceBEq,reduceLeDiff];rfl) | (simp (disch:=omega) only [go_sem,if_yes,if_no,↓reduceIte,reduceAdd,reduceMul,reduceEqDiff,Nat.reduceBEq,reduceLeDiff]))) (HOld.refl _) ?_
  clear i2 i3 i4 i5 hd
  rintro ⟨q,G⟩ d ⟨j1,i2,i3,i4,i5⟩ hd
  dsimp only at j1 i2 i3 i4 i5 hd
  simp only [go_sem]
  by_cases hq : q < t.rooms.length
  case neg =>
    obtain rfl : q = t.rooms.length:=by omega
    repeat' (first | refine st_seq_reg rfl (by first | (simp only [go_sem,length_map];rfl) | rfl) (by first | (simp only [go_sem,length_map];rfl) | rfl) ?_ | refine st_reg rfl (by first | (simp only [go_sem,length_map];rfl) | rfl) (by first | (simp only [go_sem,length_map];rfl) | rfl) ?_ | refine st_op ?_ | refine st_det rfl (by simp (disch:=omega) only [go_sem,wr_i64,if_yes,if_no,↓reduceIte,reduceAdd,reduceMul,reduceEqDiff,Nat.reduceBEq,reduceLeDiff,length_map];rfl) ?_ | (refine st_condS rfl ?_ ?_ <;> intro hg <;> (try simp only [decide_eq_true_eq,decide_eq_false_iff_not,Bool.not_eq_true',Bool.not_eq_false'] at hg)) | refine st_nil ?_ | refine st_tN ?_ | refine st_seq ?_ | refine st_block ?_ | refine st_skip ?_ | refine st_exit ?_ | refine st_tE ?_ | refine st_bN ?_ | refine st_bH ?_)
    all_goals try (exfalso;omega)
    refine ⟨(i + 1,_),(by refine ⟨by show i + 1 ≤ _;omega,by simp only [go_sem];rw [i2];exact congrArg (fun l => some (⟨2,l⟩ : Blk)) (sl_congr fun q hq => ⟨pS_end _ hq,pS_end _ hq⟩),by simp only [go_sem];omega,fun b' hb' => i4 b' hb',i5⟩),by show t.gs.length - (i + 1) < t.gs.length - i;omega,(by repeat' (first | exact trivial | refine And.intro ?_ ?_ | rfl | (simp (disch:=omega) only [go_sem,if_yes,if_no,↓reduceIte,reduceAdd,reduceMul,reduceEqDiff,Nat.reduceBEq,reduceLeDiff];rfl) | (simp (disch:=omega) only [go_sem,if_yes,if_no,↓reduceIte,reduceAdd,reduceMul,reduceEqDiff,Nat.reduceBEq,reduceLeDiff]))),(by repeat' (first | exact trivial | refine And.intro ?_ ?_ | rfl | (simp (disch:=omega) only [go_sem,if_yes,if_no,↓reduceIte,reduceAdd,reduceMul,reduceEqDiff,Nat.reduceBEq,reduceLeDiff];rfl) | (simp (disch:=omega) only [go_sem,if_yes,if_no,↓reduceIte,reduceAdd,reduceMul,reduceEqDiff,Nat.reduceBEq,reduceLeDiff]))),rfl,HOld.refl _⟩
  have hgl:=bl_get (R:=t.rooms.length + 1) (f:=mayB t (elt s) (gp t.gs i) step (plN (gp t.gs i))) (q:=q) (by omega)
  rw [hmB q hq] at hgl
  have hLq:=hlF q
  have hHq:=hhF q
  have hgs:=sl_get (F:=pS (fun q => rloF t (elt s) (q : Nat) step) i q) (G:=pS (fun q => hiF t (elt s) (q : Nat) step) i q) hq
  have b1:=sumF_bd0 (F:=rloF t (elt s) (q : Nat) step) (n:=t.gs.length) (B:=1000000) (rloF_bd hT (elt s) (q : Nat) step) i (by omega)
  have b2:=sumF_bd0 (F:=hiF t (elt s) (q : Nat) step) (n:=t.gs.length) (B:=1000000) (hiF_bd hT (elt s) (q : Nat) step) i (by omega)
  have e1 : pS (fun q => rloF t (elt s) (q : Nat) step) i q q = sumF (rloF t (elt s) (q : Nat) step) i:=if_neg (Nat.lt_irrefl _)
  have e2 : pS (fun q => hiF t (elt s) (q : Nat) step) i q q = sumF (hiF t (elt s) (q : Nat) step) i:=if_neg (Nat.lt_irrefl _)
  have hnx : ∀ a c : Int,a = rloF t (elt s) (q : Nat) step i → c = hiF t (elt s) (q : Nat) step i → (sl t.rooms.length (pS (fun q => rloF t (elt s) (q : Nat) step) i q) (pS (fun q => hiF t (elt s) (q : Nat) step) i q)).set q [.int .i64 (sumF (rloF t (elt s) (q : Nat) step) i + a),.int .i64 (sumF (hiF t (elt s) (q : Nat) step) i + c)] = sl t.rooms.length (pS (fun q => rloF t (elt s) (q : Nat) step) i (q + 1)) (pS (fun q => hiF t (elt s) (q : Nat) step) i (q + 1)):=fun a c ha hc => by
    rw [sl_set hq]
    refine sl_congr fun p hp => ⟨?_,?_⟩
    · rw [pS_next,e1,ha]
    · rw [pS_next,e2,hc]
  have hrs : ∀ r : List AV,((sl t.rooms.length (pS (fun q => rloF t (elt s) (q : Nat) step) i q) (pS (fun q => hiF t (elt s) (q : Nat) step) i q)).set q r).getD q [] = r:=fun r => by
    rw [List.getD_eq_getElem?_getD,List.getElem?_set_self (by rw [sl_len];exact hq)];rfl
  have hsm : rloF t (elt s) (q : Nat) step i = 0 → hiF t (elt s) (q : Nat) step i = 0 → sl t.rooms.length (pS (fun q => rloF t (elt s) (q : Nat) step) i (q + 1)) (pS (fun q => hiF t (elt s) (q : Nat) step) i (q + 1)) = sl t.rooms.length (pS (fun q => rloF t (elt s) (q : Nat) step) i q) (pS (fun q => hiF t (elt s) (q : Nat) step) i q):=fun h1 h2 => sl_congr fun p _ => by
    rw [pS_next,pS_next,h1,h2]
    by_cases e : p = q
    · rw [if_pos e,if_pos e,e];exact ⟨Int.add_zero _,Int.add_zero _⟩
    · rw [if_neg e,if_neg e];exact ⟨rfl,rfl⟩
  rw [e1,e2] at hgs
  have hSl:=sl_len t.rooms.length (pS (fun q => rloF t (elt s) (q : Nat) step) i q) (pS (fun q => hiF t (elt s) (q : Nat) step) i q)
  generalize sl t.rooms.length (pS (fun q => rloF t (elt s) (q : Nat) step) i q) (pS (fun q => hiF t (elt s) (q : Nat) step) i q) = SL at *
  generalize sumF (rloF t (elt s) (q : Nat) step) i = sa at *
  generalize sumF (hiF t (elt s) (q : Nat) step) i = sb at *
  cases hsb : someB t (elt s) (gp t.gs i) (q : Nat) step with
  | false =>
    rw [hsb] at hgl hLq hHq
    rw [if_neg (fun e => absurd e.1 (by decide))] at hLq
    rw [if_neg (by decide)] at hHq
    have hs1:=hsm hLq hHq
    clear hnx hsm
    repeat' (first | refine st_seq_reg rfl (by first | (simp only [go_sem,length_map,i2,bl_len,hgl,hSl,Nat.zero_add];rfl) | rfl) (by first | (simp only [go_sem,length_map,i2,bl_len,hgl,hSl,Nat.zero_add];rfl) | rfl) ?_ | refine st_reg rfl (by first | (simp only [go_sem,length_map,i2,bl_len,hgl,hSl,Nat.zero_add];rfl) | rfl) (by first | (simp only [go_sem,length_map,i2,bl_len,hgl,hSl,Nat.zero_add];rfl) | rfl) ?_ | refine st_op ?_ | refine st_det rfl (by simp (disch:=omega) only [go_sem,wr_i64,if_yes,if_no,↓reduceIte,reduceAdd,reduceMul,reduceEqDiff,Nat.reduceBEq,reduceLeDiff,length_map,i2,bl_len,hgl,hSl,Nat.zero_add];rfl) ?_ | refine st_gF rfl rfl rfl ?_ | refine st_condF rfl ?_ | (refine st_condS rfl ?_ ?_ <;> intro hg <;> (try simp only [decide_eq_true_eq,decide_eq_false_iff_not,Bool.not_eq_true',Bool.not_eq_false'] at hg)) | refine st_nil ?_ | refine st_tN ?_ | refine st_seq ?_ | refine st_block ?_ | refine st_skip ?_ | refine st_exit ?_ | refine st_tE ?_ | refine st_bN ?_ | refine st_bH ?_)
    all_goals try (exfalso;omega)
    refine ⟨(q + 1,_),(by refine ⟨by show q + 1 ≤ _;omega,by simp only [go_sem];rw [i2,hs1],by simp only [go_sem];omega,fun b' hb' => i4 b' hb',i5⟩),by show t.rooms.length - (q + 1) < t.rooms.length - q;omega,(by repeat' (first | exact trivial | refine And.intro ?_ ?_ | rfl | (simp (disch:=omega) only [go_sem,if_yes,if_no,↓reduceIte,reduceAdd,reduceMul,reduceEqDiff,Nat.reduceBEq,reduceLeDiff];rfl) | (simp (disch:=omega) only [go_sem,if_yes,if_no,↓reduceIte,reduceAdd,reduceMul,reduceEqDiff,Nat.reduceBEq,reduceLeDiff]))),(by repeat' (first | exact trivial | refine And.intro ?_ ?_ | rfl | (simp (disch:=omega) only [go_sem,if_yes,if_no,↓reduceIte,reduceAdd,reduceMul,reduceEqDiff,Nat.reduceBEq,reduceLeDiff];rfl) | (simp (disch:=omega) only [go_sem,if_yes,if_no,↓reduceIte,reduceAdd,reduceMul,reduceEqDiff,Nat.reduceBEq,reduceLeDiff]))),rfl,HOld.refl _⟩
  | true =>
    rw [hsb] at hgl hLq hHq
    rw [if_pos rfl] at hHq
    cases one with
    | false =>
      rw [if_neg (fun e => absurd e.2 (by decide))] at hLq
      have hset:=hnx 0 (gp t.gs i).hi hLq.symm hHq.symm
      rw [Int.add_zero] at hset
      clear hnx hsm
      repeat' (first | refine st_seq_reg rfl (by first | (simp only [go_sem,length_map,i2,bl_len,hgl,hgs,hrs,hset,hSl,Nat.zero_add,List.length_set];rfl) | rfl) (by first | (simp only [go_sem,length_map,i2,bl_len,hgl,hgs,hrs,hset,hSl,Nat.zero_add,List.length_set];rfl) | rfl) ?_ | refine st_reg rfl (by first | (simp only [go_sem,length_map,i2,bl_len,hgl,hgs,hrs,hset,hSl,Nat.zero_add,List.length_set];rfl) | rfl) (by first | (simp only [go_sem,length_map,i2,bl_len,hgl,hgs,hrs,hset,hSl,Nat.zero_add,List.length_set];rfl) | rfl) ?_ | refine st_draw rfl (by first | (simp only [go_sem,length_map,i2,bl_len,hgl,hgs,hrs,hset,hSl,Nat.zero_add,List.length_set];rfl) | rfl) (by first | (simp only [go_sem,length_map,i2,bl_len,hgl,hgs,hrs,hset,hSl,Nat.zero_add,List.length_set];rfl) | rfl) ?_ | refine st_op ?_ | refine st_det rfl (by simp (disch:=omega) only [go_sem,wr_i64,if_yes,if_no,↓reduceIte,reduceAdd,reduceMul,reduceEqDiff,Nat.reduceBEq,reduceLeDiff,length_map,i2,bl_len,hgl,hgs,hrs,hset,hSl,Nat.zero_add,List.length_set];rfl) ?_ | refine st_dop rfl ?_ | refine st_store (by simp (disch:=omega) only [go_sem,wr_i64,if_yes,if_no,↓reduceIte,reduceAdd,reduceMul,reduceEqDiff,Nat.reduceBEq,reduceLeDiff,length_map,i2,bl_len,hgl,hgs,hrs,hset,hSl,Nat.zero_add,List.length_set];rfl) ?_ | refine st_gT rfl rfl rfl ?_ | refine st_condT rfl ?_ | refine st_condF rfl ?_ | (refine st_condS rfl ?_ ?_ <;> intro hg <;> (try simp only [decide_eq_true_eq,decide_eq_false_iff_not,Bool.not_eq_true',Bool.not_eq_false'] at hg)) | refine st_nil ?_ | refine st_dnil ?_ | refine st_tN ?_ | refine st_seq ?_ | refine st_block ?_ | refine st_skip ?_ | refine st_exit ?_ | refine st_tE ?_ | refine st_bN ?_ | refine st_bH ?_)
      all_goals try (exfalso;omega)
      refine ⟨(q + 1,_),(by refine ⟨by show q + 1 ≤ _;omega,by simp only [go_sem,↓reduceIte],by simp only [go_sem];omega,fun b' hb' => by simp only [go_sem,if_neg (nbo b' hb')];exact i4 b' hb',i5⟩),by show t.rooms.length - (q + 1) < t.rooms.length - q;omega,(by repeat' (first | exact trivial | refine And.intro ?_ ?_ | rfl | (simp (disch:=omega) only [go_sem,if_yes,if_no,↓reduceIte,reduceAdd,reduceMul,reduceEqDiff,Nat.reduceBEq,reduceLeDiff];rfl) | (simp (disch:=omega) only [go_sem,if_yes,if_no,↓reduceIte,reduceAdd,reduceMul,reduceEqDiff,Nat.reduceBEq,reduceLeDiff]))),(by repeat' (first | exact trivial | refine And.intro ?_ ?_ | rfl | (simp (disch:=omega) only [go_sem,if_yes,if_no,↓reduceIte,reduceAdd,reduceMul,reduceEqDiff,Nat.reduceBEq,reduceLeDiff];rfl) | (simp (disch:=omega) only [go_sem,if_yes,if_no,↓reduceIte,reduceAdd,reduceMul,reduceEqDiff,Nat.reduceBEq,reduceLeDiff]))),rfl,HOld.refl _⟩
    | true =>
      rw [if_pos ⟨rfl,rfl⟩] at hLq
      have hset:=hnx (gp t.gs i).lo (gp t.gs i).hi hLq.symm hHq.symm
      clear hnx hsm
      repeat' (first | refine st_seq_reg rfl (by first | (simp only [go_sem,length_map,i2,bl_len,hgl,hgs,hrs,hset,hSl,Nat.zero_add,List.length_set,List.set_set];rfl) | rfl) (by first | (simp only [go_sem,length_map,i2,bl_len,hgl,hgs,hrs,hset,hSl,Nat.zero_add,List.length_set,List.set_set];rfl) | rfl) ?_ | refine st_reg rfl (by first | (simp only [go_sem,length_map,i2,bl_len,hgl,hgs,hrs,hset,hSl,Nat.zero_add,List.length_set,List.set_set];rfl) | rfl) (by first | (simp only [go_sem,length_map,i2,bl_len,hgl,hgs,hrs,hset,hSl,Nat.zero_add,List.length_set,List.set_set];rfl) | rfl) ?_ | refine st_draw rfl (by first | (simp only [go_sem,length_map,i2,bl_len,hgl,hgs,hrs,hset,hSl,Nat.zero_add,List.length_set,List.set_set];rfl) | rfl) (by first | (simp only [go_sem,length_map,i2,bl_len,hgl,hgs,hrs,hset,hSl,Nat.zero_add,List.length_set,List.set_set];rfl) | rfl) ?_ | refine st_op ?_ | refine st_det rfl (by simp (disch:=omega) only [go_sem,wr_i64,if_yes,if_no,↓reduceIte,reduceAdd,reduceMul,reduceEqDiff,Nat.reduceBEq,reduceLeDiff,length_map,i2,bl_len,hgl,hgs,hrs,hset,hSl,Nat.zero_add,List.length_set,List.set_set];rfl) ?_ | refine st_dop rfl ?_ | refine st_store (by simp (disch:=omega) only [go_sem,wr_i64,if_yes,if_no,↓reduceIte,reduceAdd,reduceMul,reduceEqDiff,Nat.reduceBEq,reduceLeDiff,length_map,i2,bl_len,hgl,hgs,hrs,hset,hSl,Nat.zero_add,List.length_set,List.set_set];rfl) ?_ | refine st_gT rfl rfl rfl ?_ | refine st_condT rfl ?_ | (refine st_condS rfl ?_ ?_ <;> intro hg <;> (try simp only [decide_eq_true_eq,decide_eq_false_iff_not,Bool.not_eq_true',Bool.not_eq_false'] at hg)) | refine st_nil ?_ | refine st_dnil ?_ | refine st_tN ?_ | refine st_seq ?_ | refine st_block ?_ | refine st_skip ?_ | refine st_exit ?_ | refine st_tE ?_ | refine st_bN ?_ | refine st_bH ?_)
      all_goals try (exfalso;omega)
      refine ⟨(q + 1,_),(by refine ⟨by show q + 1 ≤ _;omega,by simp only [go_sem,↓reduceIte],by simp only [go_sem];omega,fun b' hb' => by simp only [go_sem,if_neg (nbo b' hb')];exact i4 b' hb',i5⟩),by show t.rooms.length - (q + 1) < t.rooms.length - q;omega,(by repeat' (first | exact trivial | refine And.intro ?_ ?_ | rfl | (simp (disch:=omega) only [go_sem,if_yes,if_no,↓reduceIte,reduceAdd,reduceMul,reduceEqDiff,Nat.reduceBEq,reduceLeDiff];rfl) | (simp (disch:=omega) only [go_sem,if_yes,if_no,↓reduceIte,reduceAdd,reduceMul,reduceEqDiff,Nat.reduceBEq,reduceLeDiff]))),(by repeat' (first | exact trivial | refine And.intro ?_ ?_ | rfl | (simp (disch:=omega) only [go_sem,if_yes,if_no,↓reduceIte,reduceAdd,reduceMul,reduceEqDiff,Nat.reduceBEq,reduceLeDiff];rfl) | (simp (disch:=omega) only [go_sem,if_yes,if_no,↓reduceIte,reduceAdd,reduceMul,reduceEqDiff,Nat.reduceBEq,reduceLeDiff]))),rfl,HOld.refl _⟩
structure CsS where
  i : Nat
  v : AV
  g : AH
theorem rlds_get {t : Tw} {f : Nat → Int} {st : Int} {q : Nat} (h : q < t.rooms.length) : (rlds t f st).getD q [] = [.int .i64 (sumF (rloF t f (q : Nat) st) t.gs.length),.int .i64 (ldHi t f (q : Nat) st)]:=sl_get h
theorem rlds_len {t : Tw} {f : Nat → Int} {st : Int} : (rlds t f st).length = t.rooms.length:=sl_len _ _ _
theorem catN_up {α : Type} {g : Nat → List α} {B : Nat} : ∀ {n : Nat},(∀ i,i < n → (g i).length ≤ B) → (catN g n).length ≤ n * B:=fun h => catN_len h
theorem c91 (t : Tw) (s : List Int) (hT : TwOk t) (hsl : s.length = t.sts.length) : Pure Try.prog 91 [t.av,.lst 1 (s.map iv)] (fun v => v = .lst 3 ((crL t (elt s)).map Cr.row)):=by
  have hrn:=hT.rn
  have hst:=hT.steps
  have ht0 : t.av = .agg t.cells:=rfl
  refine Pure.give Try.call91 fun h hall => ?_
  refine ACalls.of tab mixed Try.call91 Try.func91 rfl (fi:=⟨49,[],[2,46],none,[(9,[0,0,3,7,15,0,32,0,224,480,1023],[(0,false),(1,false),(2,false),(3,false),(4,true),(5,false),(6,true),(7,false),(8,false),(9,true),(10,false)])]⟩) rfl rfl (Nat.le_of_ble_eq_true rfl) (by decide) ?_
  unfold startA
  rw [ht0]
  unfold Tw.cells
  repeat' (first | refine st_seq_reg rfl (by first | (simp only [go_sem];rfl) | rfl) (by first | (simp only [go_sem];rfl) | rfl) ?_ | refine st_op ?_ | refine st_det rfl (by simp (disch:=omega) only [go_sem,wr_i64,if_yes,if_no,↓reduceIte,reduceAdd,reduceMul,reduceEqDiff,Nat.reduceBEq,reduceLeDiff];rfl) ?_ | refine st_nil ?_ | refine st_seq ?_ | refine st_block ?_)
  have hF1 : ∀ st q,(crF t (elt s) st q).length ≤ 1:=fun st q => by unfold crF;split <;> simp
  have hS12 : ∀ st,(crS t (elt s) st).length ≤ 12:=fun st => by
    have:=catN_up (g:=crF t (elt s) st) (B:=1) (n:=t.rooms.length) (fun q _ => hF1 st q)
    unfold crS;omega
  refine st_loopH (α:=CsS) tab mixed [] [] (by repeat (first | exact trivial | refine ⟨rfl,?_⟩)) [] [] (by repeat (first | exact trivial | refine ⟨rfl,?_⟩)) (fun a => [(6,.int .i64 (a.i : Nat)),(5,a.v)]) [(1,_),(2,_)] (fun _ => []) [] (fun a => a.g) (fun a => a.i ≤ (t.steps + 1).toNat ∧ SlA h.clk a.g a.v 3 ((catN (crS t (elt s)) a.i).map Cr.row) ∧ (∀ b' : Bid,b'.1 < h.clk → a.g.at_ b' = h.at_ b') ∧ a.g.lp = h.lp ∧ h.clk ≤ a.g.clk) (fun a => (t.steps + 1).toNat - a.i) (by decide) ⟨0,.nils,_⟩ (by refine ⟨Nat.zero_le _,.inl ⟨rfl,rfl⟩,fun _ _ => rfl,rfl,by simp only [go_sem];omega⟩) (by (try simp only [go_sem]);repeat' (first | exact trivial | refine And.intro ?_ ?_ | rfl | (simp (disch:=omega) only [go_sem,if_yes,if_no,↓reduceIte,reduceAdd,reduceMul,reduceEqDiff,Nat.reduceBEq,reduceLeDiff];rfl) | (simp (disch:=omega) only [go_sem,if_yes,if_no,↓reduceIte,reduceAdd,reduceMul,reduceEqDiff,Nat.reduceBEq,reduceLeDiff]))) (by (try simp only [go_sem]);repeat' (first | exact trivial | refine And.intro ?_ ?_ | rfl | (simp (disch:=omega) only [go_sem,if_yes,if_no,↓reduceIte,reduceAdd,reduceMul,reduceEqDiff,Nat.reduceBEq,reduceLeDiff];rfl) | (simp (disch:=omega) only [go_sem,if_yes,if_no,↓reduceIte,reduceAdd,reduceMul,reduceEqDiff,Nat.reduceBEq,reduceLeDiff]))) (HOld.refl _) ?_
  rintro ⟨st,v,G⟩ d ⟨i1,hS,i3,i4,i5⟩ hd
  dsimp only at i1 hS i3 i4 i5 hd
  simp only [go_sem]
  by_cases hi : st < (t.steps + 1).toNat
  case neg =>
    obtain rfl : st = (t.steps + 1).toNat:=by omega
    have hnc:=hS.noL
    repeat' (first | refine st_seq_reg rfl (by first | (simp only [go_sem];rfl) | rfl) (by first | (simp only [go_sem];rfl) | rfl) ?_ | refine st_op ?_ | refine st_det rfl (by simp (disch:=omega) only [go_sem,wr_i64,if_yes,if_no,↓reduceIte,reduceAdd,reduceMul,reduceEqDiff,Nat.reduceBEq,reduceLeDiff];rfl) ?_ | (refine st_condS rfl ?_ ?_ <;> intro hg <;> (try simp only [decide_eq_true_eq,decide_eq_false_iff_not,Bool.not_eq_true',Bool.not_eq_false'] at hg)) | refine st_nil ?_ | refine st_tN ?_ | refine st_seq ?_ | refine st_block ?_ | refine st_skip ?_ | refine st_exit ?_ | refine st_ret ?_ | refine st_tE ?_ | refine st_bH ?_)
    all_goals try (exfalso;omega)
    simp (disch:=omega) only [AEnd,Try.results91,aresK,fin,go_sem,↓reduceIte,reduceEqDiff,reduceAdd,reduceLeDiff,if_yes,if_no,implies_true,true_and,and_true,List.reverse_cons,List.reverse_nil]
    exact ⟨hS.noL,i3,i4,SlA.ans (h:=h) (g:=G) (R:=fun v => v = .lst 3 ((crL t (elt s)).map Cr.row)) hS rfl⟩
  have k89:=c89 t s (st : Nat) hT hsl ⟨by omega,by omega⟩
  have hlen : (catN (crS t (elt s)) st).length ≤ st * 12:=catN_up fun i _ => hS12 i
  have hnc:=hS.noL
  repeat' (first | refine st_seq_reg rfl (by first | (simp only [go_sem];rfl) | rfl) (by first | (simp only [go_sem];rfl) | rfl) ?_ | refine st_op ?_ | refine st_det rfl (by simp (disch:=omega) only [go_sem,wr_i64,if_yes,if_no,↓reduceIte,reduceAdd,reduceMul,reduceEqDiff,Nat.reduceBEq,reduceLeDiff];rfl) ?_ | (refine st_pureE (by first | (simp (disch:=omega) only [go_sem];rfl) | rfl) rfl (k89) (by first | (simp only [go_sem];rfl) | rfl) (by intro n;first | (simp (disch:=omega) only [go_sem];rfl) | rfl) ?_;intro n hn) | (refine st_condS rfl ?_ ?_ <;> intro hg <;> (try simp only [decide_eq_true_eq,decide_eq_false_iff_not,Bool.not_eq_true',Bool.not_eq_false'] at hg)) | refine st_nil ?_ | refine st_tN ?_ | refine st_seq ?_ | refine st_block ?_ | refine st_skip ?_ | refine st_exit ?_ | refine st_ret ?_ | refine st_tE ?_ | refine st_bH ?_)
  all_goals try (exfalso;omega)
  refine st_loopH (α:=CsS) tab mixed [] [] (by repeat (first | exact trivial | refine ⟨rfl,?_⟩)) [] [] (by repeat (first | exact trivial | refine ⟨rfl,?_⟩)) (fun a => [(8,.int .i64 (a.i : Nat)),(5,a.v)]) [(1,_),(2,_),(6,_),(7,_)] (fun _ => []) [] (fun a => a.g) (fun a => a.i ≤ t.rooms.length ∧ SlA h.clk a.g a.v 3 ((catN (crS t (elt s)) st ++ catN (crF t (elt s) st) a.i).map Cr.row) ∧ (∀ b' : Bid,b'.1 < h.clk → a.g.at_ b' = h.at_ b') ∧ a.g.lp = h.lp ∧ h.clk ≤ a.g.clk) (fun a => t.rooms.length - a.i) (by decide) ⟨0,v,_⟩ (by refine ⟨Nat.zero_le _,?_,fun b' hb' => i3 b' hb',i4,by simp only [go_sem];omega⟩;show SlA h.clk _ v 3 ((catN (crS t (elt s)) st ++ []).map Cr.row);rw [List.append_nil];exact hS.to (fun _ _ _ _ _ => rfl) (by simp only [go_sem];omega)) (by (try simp only [go_sem]);repeat' (first | exact trivial | refine And.intro ?_ ?_ | rfl | (simp (disch:=omega) only [go_sem,if_yes,if_no,↓reduceIte,reduceAdd,reduceMul,reduceEqDiff,Nat.reduceBEq,reduceLeDiff];rfl) | (simp (disch:=omega) only [go_sem,if_yes,if_no,↓reduceIte,reduceAdd,reduceMul,reduceEqDiff,Nat.reduceBEq,reduceLeDiff]))) (by (try simp only [go_sem]);repeat' (first | exact trivial | refine And.intro ?_ ?_ | rfl | (simp (disch:=omega) only [go_sem,if_yes,if_no,↓reduceIte,reduceAdd,reduceMul,reduceEqDiff,Nat.reduceBEq,reduceLeDiff];rfl) | (simp (disch:=omega) only [go_sem,if_yes,if_no,↓reduceIte,reduceAdd,reduceMul,reduceEqDiff,Nat.reduceBEq,reduceLeDiff]))) (HOld.refl _) ?_
  clear i3 i4 i5 hS hd hnc
  rintro ⟨q,v,G⟩ d ⟨j1,hS,i3,i4,i5⟩ hd
  dsimp only at j1 hS i3 i4 i5 hd
  simp only [go_sem]
  have hnc:=hS.noL
  have hlen2 : (catN (crF t (elt s) st) q).length ≤ q * 1:=catN_up fun i _ => hF1 st i
  by_cases hq : q < t.rooms.length
  case neg =>
    obtain rfl : q = t.rooms.length:=by omega
    repeat' (first | refine st_seq_reg rfl (by first | (simp only [go_sem,length_map];rfl) | rfl) (by first | (simp only [go_sem,length_map];rfl) | rfl) ?_ | refine st_reg rfl (by first | (simp only [go_sem,length_map];rfl) | rfl) (by first | (simp only [go_sem,length_map];rfl) | rfl) ?_ | refine st_seq_draw rfl (by first | (simp only [go_sem,length_map];rfl) | rfl) (by first | (simp only [go_sem,length_map];rfl) | rfl) ?_ | refine st_op ?_ | refine st_det rfl (by simp (disch:=omega) only [go_sem,wr_i64,if_yes,if_no,↓reduceIte,reduceAdd,reduceMul,reduceEqDiff,Nat.reduceBEq,reduceLeDiff,length_map];rfl) ?_ | refine st_dop rfl ?_ | (refine st_condS rfl ?_ ?_ <;> intro hg <;> (try simp only [decide_eq_true_eq,decide_eq_false_iff_not,Bool.not_eq_true',Bool.not_eq_false'] at hg)) | refine st_nil ?_ | refine st_tN ?_ | refine st_seq ?_ | refine st_block ?_ | refine st_skip ?_ | refine st_exit ?_ | refine st_tE ?_ | refine st_bN ?_ | refine st_bH ?_)
    all_goals try (exfalso;omega)
    refine ⟨⟨st + 1,v,_⟩,(by refine ⟨by show st + 1 ≤ _;omega,hS.to (fun _ _ _ _ _ => rfl) (by simp only [go_sem];omega),fun b' hb' => i3 b' hb',i4,by simp only [go_sem];omega⟩),by show (t.steps + 1).toNat - (st + 1) < (t.steps + 1).toNat - st;omega,(by repeat' (first | exact trivial | refine And.intro ?_ ?_ | rfl | (simp (disch:=omega) only [go_sem,if_yes,if_no,↓reduceIte,reduceAdd,reduceMul,reduceEqDiff,Nat.reduceBEq,reduceLeDiff];rfl) | (simp (disch:=omega) only [go_sem,if_yes,if_no,↓reduceIte,reduceAdd,reduceMul,reduceEqDiff,Nat.reduceBEq,reduceLeDiff]))),(by repeat' (first | exact trivial | refine And.intro ?_ ?_ | rfl | (simp (disch:=omega) only [go_sem,if_yes,if_no,↓reduceIte,reduceAdd,reduceMul,reduceEqDiff,Nat.reduceBEq,reduceLeDiff];rfl) | (simp (disch:=omega) only [go_sem,if_yes,if_no,↓reduceIte,reduceAdd,reduceMul,reduceEqDiff,Nat.reduceBEq,reduceLeDiff]))),rfl,HOld.refl _⟩
  have hgq:=rlds_get (t:=t) (f:=elt s) (st:=(st : Nat)) hq
  have hrl:=rlds_len (t:=t) (f:=elt s) (st:=(st : Nat))
  have hnx : catN (crF t (elt s) st) (q + 1) = catN (crF t (elt s) st) q ++ crF t (elt s) st q:=rfl
  by_cases hb : elt t.rooms q < ldHi t (elt s) (q : Nat) (st : Nat)
  · have hc1 : crF t (elt s) st q = [⟨(st : Nat),(q : Nat),ldHi t (elt s) (q : Nat) (st : Nat)⟩]:=by unfold crF;rw [if_pos hb]
    rw [hc1] at hnx
    repeat' (first | refine st_seq_reg rfl (by first | (simp only [go_sem,length_map,hgq,hrl,List.length_append];rfl) | rfl) (by first | (simp only [go_sem,length_map,hgq,hrl,List.length_append];rfl) | rfl) ?_ | refine st_reg rfl (by first | (simp only [go_sem,length_map,hgq,hrl,List.length_append];rfl) | rfl) (by first | (simp only [go_sem,length_map,hgq,hrl,List.length_append];rfl) | rfl) ?_ | refine st_seq_draw rfl (by first | (simp only [go_sem,length_map,hgq,hrl,List.length_append];rfl) | rfl) (by first | (simp only [go_sem,length_map,hgq,hrl,List.length_append];rfl) | rfl) ?_ | refine st_op ?_ | refine st_det rfl (by simp (disch:=omega) only [go_sem,wr_i64,if_yes,if_no,↓reduceIte,reduceAdd,reduceMul,reduceEqDiff,Nat.reduceBEq,reduceLeDiff,length_map,hgq,hrl,List.length_append];rfl) ?_ | refine st_dop rfl ?_ | (refine st_appS (by intro h id x y;simp only [go_sem];rfl) rfl (by simp only [go_sem,length_map,hgq,hrl,List.length_append];rfl) (by simp only [go_sem,length_map,hgq,hrl,List.length_append];rfl) (by decide) hS (fun _ _ _ => rfl) (by omega) (by simp only [length_map,List.length_cons,List.length_nil,big,length_map,hgq,hrl,List.length_append];omega) (by omega) (by omega) ?_;intro v' g' hA) | (refine st_condS rfl ?_ ?_ <;> intro hg <;> (try simp only [decide_eq_true_eq,decide_eq_false_iff_not,Bool.not_eq_true',Bool.not_eq_false'] at hg)) | refine st_nil ?_ | refine st_dnil ?_ | refine st_tN ?_ | refine st_seq ?_ | refine st_block ?_ | refine st_skip ?_ | refine st_exit ?_ | refine st_tE ?_ | refine st_bN ?_ | refine st_bH ?_)
    all_goals try (exfalso;omega)
    refine ⟨⟨q + 1,v',_⟩,(by refine ⟨by show q + 1 ≤ _;omega,by rw [hnx,← List.append_assoc,List.map_append];exact hA.sl.to (fun _ _ _ _ _ => rfl) (by simp only [go_sem];omega),fun b' hb' => (hA.old b' hb').trans (i3 b' hb'),hA.lp.trans i4,by simp only [go_sem];omega⟩),by show t.rooms.length - (q + 1) < t.rooms.length - q;omega,(by repeat' (first | exact trivial | refine And.intro ?_ ?_ | rfl | (simp (disch:=omega) only [go_sem,if_yes,if_no,↓reduceIte,reduceAdd,reduceMul,reduceEqDiff,Nat.reduceBEq,reduceLeDiff];rfl) | (simp (disch:=omega) only [go_sem,if_yes,if_no,↓reduceIte,reduceAdd,reduceMul,reduceEqDiff,Nat.reduceBEq,reduceLeDiff]))),(by repeat' (first | exact trivial | refine And.intro ?_ ?_ | rfl | (simp (disch:=omega) only [go_sem,if_yes,if_no,↓reduceIte,reduceAdd,reduceMul,reduceEqDiff,Nat.reduceBEq,reduceLeDiff];rfl) | (simp (disch:=omega) only [go_sem,if_yes,if_no,↓reduceIte,reduceAdd,reduceMul,reduceEqDiff,Nat.reduceBEq,reduceLeDiff]))),rfl,HOld.refl _⟩
  · have hc1 : crF t (elt s) st q = []:=by unfold crF;rw [if_neg hb]
    rw [hc1,List.append_nil] at hnx
    repeat' (first | refine st_seq_reg rfl (by first | (simp only [go_sem,length_map,hgq,hrl];rfl) | rfl) (by first | (simp only [go_sem,length_map,hgq,hrl];rfl) | rfl) ?_ | refine st_reg rfl (by first | (simp only [go_sem,length_map,hgq,hrl];rfl) | rfl) (by first | (simp only [go_sem,length_map,hgq,hrl];rfl) | rfl) ?_ | refine st_seq_draw rfl (by first | (simp only [go_sem,length_map,hgq,hrl];rfl) | rfl) (by first | (simp only [go_sem,length_map,hgq,hrl];rfl) | rfl) ?_ | refine st_op ?_ | refine st_det rfl (by simp (disch:=omega) only [go_sem,wr_i64,if_yes,if_no,↓reduceIte,reduceAdd,reduceMul,reduceEqDiff,Nat.reduceBEq,reduceLeDiff,length_map,hgq,hrl];rfl) ?_ | refine st_dop rfl ?_ | (refine st_condS rfl ?_ ?_ <;> intro hg <;> (try simp only [decide_eq_true_eq,decide_eq_false_iff_not,Bool.not_eq_true',Bool.not_eq_false'] at hg)) | refine st_nil ?_ | refine st_dnil ?_ | refine st_tN ?_ | refine st_seq ?_ | refine st_block ?_ | refine st_skip ?_ | refine st_exit ?_ | refine st_tE ?_ | refine st_bN ?_ | refine st_bH ?_)
    all_goals try (exfalso;omega)
    refine ⟨⟨q + 1,v,_⟩,(by refine ⟨by show q + 1 ≤ _;omega,by rw [hnx];exact hS.to (fun _ _ _ _ _ => rfl) (by simp only [go_sem];omega),fun b' hb' => i3 b' hb',i4,by simp only [go_sem];omega⟩),by show t.rooms.length - (q + 1) < t.rooms.length - q;omega,(by repeat' (first | exact trivial | refine And.intro ?_ ?_ | rfl | (simp (disch:=omega) only [go_sem,if_yes,if_no,↓reduceIte,reduceAdd,reduceMul,reduceEqDiff,Nat.reduceBEq,reduceLeDiff];rfl) | (simp (disch:=omega) only [go_sem,if_yes,if_no,↓reduceIte,reduceAdd,reduceMul,reduceEqDiff,Nat.reduceBEq,reduceLeDiff]))),(by repeat' (first | exact trivial | refine And.intro ?_ ?_ | rfl | (simp (disch:=omega) only [go_sem,if_yes,if_no,↓reduceIte,reduceAdd,reduceMul,reduceEqDiff,Nat.reduceBEq,reduceLeDiff];rfl) | (simp (disch:=omega) only [go_sem,if_yes,if_no,↓reduceIte,reduceAdd,reduceMul,reduceEqDiff,Nat.reduceBEq,reduceLeDiff]))),rfl,HOld.refl _⟩
theorem take_fnd {α : Type} {p : α → Bool} {l : List α} {i : Nat} (h : i < l.length) (hn : (l.take i).find? p = none) : ((l.take (i + 1)).find? p = none ∧ p l[i] = false) ∨ (l.find? p = some l[i] ∧ p l[i] = true):=by
  cases hp : p l[i] with
  | false =>
    left
    refine ⟨?_,rfl⟩
    rw [List.take_succ_eq_append_getElem h,List.find?_append,hn]
    simp [hp]
  | true =>
    right
    refine ⟨?_,rfl⟩
    have e : l = l.take i ++ l[i] :: l.drop (i + 1):=by
      rw [← List.drop_eq_getElem_cons h,List.take_append_drop]
    conv => lhs;rw [e]
    rw [List.find?_append,hn,List.find?_cons,hp];rfl
theorem lel_get {l : List (List Int)} {i : Nat} (h : i < l.length) : lel l i = l[i]:=by
  unfold lel;rw [List.getD_eq_getElem?_getD,List.getElem?_eq_getElem h];rfl
theorem closeV_some {t : Tw} (h0 : chkE t = 0) {A : List Int} (hc : clo t t.sts.length = some A) : closeV t = .tup [.lst 1 (A.map iv),.int .i64 0]:=by
  unfold closeV;rw [if_neg (fun e => e h0),hc]
theorem closeV_none {t : Tw} (h0 : chkE t = 0) (hc : clo t t.sts.length = none) : closeV t = .tup [.lst 1 [],.int .i64 7]:=by
  unfold closeV;rw [if_neg (fun e => e h0),hc]
theorem close_two {t : Tw} (h0 : chkE t = 0) : ∃ (A : List Int) (e5 : Int),Pure Try.prog 36 [t.av] (fun v => v = .tup [.lst 1 (A.map iv),.int .i64 e5]) ∧ ((e5 = 0 ∧ clo t t.sts.length = some A) ∨ (e5 = 7 ∧ A = [] ∧ clo t t.sts.length = none)):=by
  have k:=c36 t
  cases hc : clo t t.sts.length with
  | some A => rw [closeV_some h0 hc] at k;exact ⟨A,0,k,.inl ⟨rfl,rfl⟩⟩
  | none => rw [closeV_none h0 hc] at k;exact ⟨[],7,k,.inr ⟨rfl,rfl,rfl⟩⟩
end Go.Proofs.Ythjbfdfhblloiaa
