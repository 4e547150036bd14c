/- Contracts of functions that the claim reaches: what each call gives, told in our own logic. Conditions: those of each theorem. -/
import Derived.Test.YthjbfdfhblloiaaQ60
import Derived.Test.YthjbfdfhblloiaaW3
import Derived.Test.YthjbfdfhblloiaaQ31
import Derived.Test.YthjbfdfhblloiaaBaseC
import Derived.Test.YthjbfdfhblloiaaBaseD
import Derived.Test.YthjbfdfhblloiaaQ30
open Nat (reduceAdd reduceMul reduceEqDiff reduceLeDiff)
open List (length_map)
set_option linter.all false
set_option linter.unusedSimpArgs false
set_option linter.unusedVariables false
namespace Go.Proofs.Ythjbfdfhblloiaa
open Go.Av
attribute [local irreducible] thenA blockA awp awpOps awpD awp1
set_option maxHeartbeats 8000000
set_option maxRecDepth 20000
theorem c31s (a : List Int) (ha : a.length ≤ 1000000) : Pure Try.prog 31 [.lst 1 (a.map iv),.lst 1 (a.map iv)] (fun v => v = .bool true):=by
  have k:=c31 a a ha ha
  rw [decide_eq_true rfl] at k
  exact k
theorem c25 (t : Tw) (hl : t.lens) : Pure Try.prog 25 [t.av,t.av] (fun v => v = .bool true):=by
  have h1:=hl.r
  have h2:=hl.s
  have h3:=hl.g
  have k31:=c31s t.rooms (by omega)
  have ht0 : t.av = .agg t.cells:=rfl
  intro h
  refine ACalls.forget (ACalls.of tab mixed Try.call25 Try.func25 rfl (fi:=⟨115,[9],[2,3],none,[(5,[0,1,0,7,15,0,32,0,224,480,1023,2047],[(0,false),(1,true),(2,false),(3,false),(4,true),(5,false),(6,true),(7,false),(8,false),(9,true),(10,false),(11,false)]),(9,[0,1,0,7,15,0,32,0,224,480,0,0,3103,8191],[(0,false),(1,true),(2,false),(3,false),(4,true),(5,false),(6,true),(7,false),(8,false),(9,true),(10,false),(11,false),(12,true),(13,false)])]⟩) rfl rfl (Nat.le_of_ble_eq_true rfl) (by decide) ?_)
  unfold startA
  rw [ht0]
  unfold Tw.cells
  repeat' (first | refine st_seq_reg rfl (by first | (simp only [go_sem,length_map,decide_true];rfl) | rfl) (by first | (simp only [go_sem,length_map,decide_true];rfl) | rfl) ?_ | refine st_op ?_ | refine st_det rfl (by simp (disch:=omega) only [go_sem,wr_i64,if_yes,if_no,↓reduceIte,reduceAdd,reduceMul,reduceEqDiff,Nat.reduceBEq,reduceLeDiff,length_map,decide_true];rfl) ?_ | (refine st_pureE (by first | (simp (disch:=omega) only [go_sem,length_map,decide_true];rfl) | rfl) rfl (k31) (by first | (simp only [go_sem,length_map,decide_true];rfl) | rfl) (by intro n;first | (simp (disch:=omega) only [go_sem];rfl) | rfl) ?_;intro n hn) | refine st_gT rfl rfl rfl ?_ | refine st_nil ?_ | refine st_seq ?_ | refine st_block ?_)
  all_goals try (exfalso;omega)
  refine st_loopC (α:=Nat) tab mixed [] [] (by repeat (first | exact trivial | refine ⟨rfl,?_⟩)) [] [] (by repeat (first | exact trivial | refine ⟨rfl,?_⟩)) (fun i => [(6,.int .i64 (i : Nat)),(5,.bool true)]) [(2,_),(3,_)] (fun _ => []) [] (fun i => i ≤ t.sts.length) (fun i => t.sts.length - i) (by decide) 0 (Nat.zero_le _) (by (try simp only [go_sem]);repeat' (first | exact trivial | refine And.intro ?_ ?_ | rfl | (simp (disch:=omega) only [go_sem,if_yes,if_no,↓reduceIte,reduceAdd,reduceMul,reduceEqDiff,Nat.reduceBEq,reduceLeDiff];rfl) | (simp (disch:=omega) only [go_sem,if_yes,if_no,↓reduceIte,reduceAdd,reduceMul,reduceEqDiff,Nat.reduceBEq,reduceLeDiff]))) (by (try simp only [go_sem]);repeat' (first | exact trivial | refine And.intro ?_ ?_ | rfl | (simp (disch:=omega) only [go_sem,if_yes,if_no,↓reduceIte,reduceAdd,reduceMul,reduceEqDiff,Nat.reduceBEq,reduceLeDiff];rfl) | (simp (disch:=omega) only [go_sem,if_yes,if_no,↓reduceIte,reduceAdd,reduceMul,reduceEqDiff,Nat.reduceBEq,reduceLeDiff]))) (by first | (simp only [go_sem];rfl) | rfl) (by intro n;simp only [go_sem];rfl) ?_
  rintro i c hi1 hc
  simp only [go_sem]
  by_cases hi : i < t.sts.length
  case pos =>
    repeat' (first | refine st_seq_reg rfl (by first | (simp only [go_sem,length_map,decide_true];rfl) | rfl) (by first | (simp only [go_sem,length_map,decide_true];rfl) | rfl) ?_ | refine st_reg rfl (by first | (simp only [go_sem,length_map,decide_true];rfl) | rfl) (by first | (simp only [go_sem,length_map,decide_true];rfl) | rfl) ?_ | refine st_draw rfl (by first | (simp only [go_sem,length_map,decide_true];rfl) | rfl) (by first | (simp only [go_sem,length_map,decide_true];rfl) | rfl) ?_ | refine st_op ?_ | refine st_det rfl (by simp (disch:=omega) only [go_sem,wr_i64,if_yes,if_no,↓reduceIte,reduceAdd,reduceMul,reduceEqDiff,Nat.reduceBEq,reduceLeDiff,length_map,decide_true];rfl) ?_ | refine st_dop rfl ?_ | refine st_gT rfl rfl rfl ?_ | (refine st_condS rfl ?_ ?_ <;> intro hg <;> (try simp only [decide_eq_true_eq,decide_eq_false_iff_not,Bool.not_eq_true',Bool.not_eq_false'] at hg)) | refine st_nil ?_ | refine st_dnil ?_ | refine st_tN ?_ | refine st_seq ?_ | refine st_block ?_ | refine st_skip ?_ | refine st_exit ?_ | refine st_tE ?_ | refine st_bN ?_ | refine st_bH ?_)
    all_goals try (exfalso;omega)
    refine ⟨i + 1,by show i + 1 ≤ _;omega,by show t.sts.length - (i + 1) < t.sts.length - i;omega,(by repeat' (first | exact trivial | refine And.intro ?_ ?_ | rfl | (simp (disch:=omega) only [go_sem,if_yes,if_no,↓reduceIte,reduceAdd,reduceMul,reduceEqDiff,Nat.reduceBEq,reduceLeDiff];rfl) | (simp (disch:=omega) only [go_sem,if_yes,if_no,↓reduceIte,reduceAdd,reduceMul,reduceEqDiff,Nat.reduceBEq,reduceLeDiff]))),(by repeat' (first | exact trivial | refine And.intro ?_ ?_ | rfl | (simp (disch:=omega) only [go_sem,if_yes,if_no,↓reduceIte,reduceAdd,reduceMul,reduceEqDiff,Nat.reduceBEq,reduceLeDiff];rfl) | (simp (disch:=omega) only [go_sem,if_yes,if_no,↓reduceIte,reduceAdd,reduceMul,reduceEqDiff,Nat.reduceBEq,reduceLeDiff]))),rfl,(by first | exact HOld.of _ (by omega) | exact HOld.put _ _ _ (by omega))⟩
  obtain rfl : i = t.sts.length:=by omega
  repeat' (first | refine st_seq_reg rfl (by first | (simp only [go_sem,length_map];rfl) | rfl) (by first | (simp only [go_sem,length_map];rfl) | rfl) ?_ | refine st_reg rfl (by first | (simp only [go_sem,length_map];rfl) | rfl) (by first | (simp only [go_sem,length_map];rfl) | rfl) ?_ | refine st_draw rfl (by first | (simp only [go_sem,length_map];rfl) | rfl) (by first | (simp only [go_sem,length_map];rfl) | rfl) ?_ | refine st_op ?_ | refine st_det rfl (by simp (disch:=omega) only [go_sem,wr_i64,if_yes,if_no,↓reduceIte,reduceAdd,reduceMul,reduceEqDiff,Nat.reduceBEq,reduceLeDiff,length_map];rfl) ?_ | refine st_dop rfl ?_ | refine st_gT rfl rfl rfl ?_ | (refine st_condS rfl ?_ ?_ <;> intro hg <;> (try simp only [decide_eq_true_eq,decide_eq_false_iff_not,Bool.not_eq_true',Bool.not_eq_false'] at hg)) | refine st_nil ?_ | refine st_dnil ?_ | refine st_tN ?_ | refine st_seq ?_ | refine st_block ?_ | refine st_skip ?_ | refine st_exit ?_ | refine st_tE ?_ | refine st_bN ?_ | refine st_bH ?_)
  all_goals try (exfalso;omega)
  refine st_loopH (α:=Nat × AH) tab mixed [] [] (by repeat (first | exact trivial | refine ⟨rfl,?_⟩)) [] [] (by repeat (first | exact trivial | refine ⟨rfl,?_⟩)) (fun a => [(7,.int .i64 (a.1 : Nat)),(5,.bool true)]) [(2,_),(3,_)] (fun _ => []) [] (fun a => a.2) (fun a => a.1 ≤ t.gs.length ∧ (∀ b' : Bid,b'.1 < h.clk → a.2.at_ b' = h.at_ b') ∧ a.2.lp = h.lp ∧ h.clk ≤ a.2.clk) (fun a => t.gs.length - a.1) (by decide) (0,_) (by refine ⟨Nat.zero_le _,fun _ _ => rfl,rfl,by simp only [go_sem];omega⟩) (by (try simp only [go_sem]);repeat' (first | exact trivial | refine And.intro ?_ ?_ | rfl | (simp (disch:=omega) only [go_sem,if_yes,if_no,↓reduceIte,reduceAdd,reduceMul,reduceEqDiff,Nat.reduceBEq,reduceLeDiff];rfl) | (simp (disch:=omega) only [go_sem,if_yes,if_no,↓reduceIte,reduceAdd,reduceMul,reduceEqDiff,Nat.reduceBEq,reduceLeDiff]))) (by (try simp only [go_sem]);repeat' (first | exact trivial | refine And.intro ?_ ?_ | rfl | (simp (disch:=omega) only [go_sem,if_yes,if_no,↓reduceIte,reduceAdd,reduceMul,reduceEqDiff,Nat.reduceBEq,reduceLeDiff];rfl) | (simp (disch:=omega) only [go_sem,if_yes,if_no,↓reduceIte,reduceAdd,reduceMul,reduceEqDiff,Nat.reduceBEq,reduceLeDiff]))) (HOld.refl _) ?_
  rintro ⟨i,g⟩ c2 ⟨hi1,i2,i3,i4⟩ hc2
  dsimp only at hi1 i2 i3 i4 hc2
  simp only [go_sem]
  by_cases hi : i < t.gs.length
  case pos =>
    have k31g:=c31s (gp t.gs i).path (by have:=hl.p i hi;omega)
    repeat' (first | refine st_seq_reg rfl (by first | (simp only [go_sem,length_map,decide_true];rfl) | rfl) (by first | (simp only [go_sem,length_map,decide_true];rfl) | rfl) ?_ | refine st_reg rfl (by first | (simp only [go_sem,length_map,decide_true];rfl) | rfl) (by first | (simp only [go_sem,length_map,decide_true];rfl) | rfl) ?_ | refine st_seq_draw rfl (by first | (simp only [go_sem,length_map,decide_true];rfl) | rfl) (by first | (simp only [go_sem,length_map,decide_true];rfl) | rfl) ?_ | refine st_op ?_ | refine st_det rfl (by simp (disch:=omega) only [go_sem,wr_i64,if_yes,if_no,↓reduceIte,reduceAdd,reduceMul,reduceEqDiff,Nat.reduceBEq,reduceLeDiff,length_map,decide_true];rfl) ?_ | refine st_dop rfl ?_ | refine st_loc rfl (by simp (disch:=omega) only [go_sem,wr_i64,if_yes,if_no,↓reduceIte,reduceAdd,reduceMul,reduceEqDiff,Nat.reduceBEq,reduceLeDiff,length_map,decide_true];rfl) ?_ | refine st_heap rfl (by simp (disch:=omega) only [go_sem,wr_i64,if_yes,if_no,↓reduceIte,reduceAdd,reduceMul,reduceEqDiff,Nat.reduceBEq,reduceLeDiff,length_map,decide_true];rfl) ?_ | refine st_store (by simp (disch:=omega) only [go_sem,wr_i64,if_yes,if_no,↓reduceIte,reduceAdd,reduceMul,reduceEqDiff,Nat.reduceBEq,reduceLeDiff,length_map,decide_true];rfl) ?_ | (refine st_pureE (by first | (simp (disch:=omega) only [go_sem,length_map,decide_true];rfl) | rfl) rfl (k31g) (by first | (simp only [go_sem,length_map,decide_true];rfl) | rfl) (by intro n;first | (simp (disch:=omega) only [go_sem];rfl) | rfl) ?_;intro n hn) | refine st_gT rfl rfl rfl ?_ | (refine st_condS rfl ?_ ?_ <;> intro hg <;> (try simp only [decide_eq_true_eq,decide_eq_false_iff_not,Bool.not_eq_true',Bool.not_eq_false'] at hg)) | refine st_nil ?_ | refine st_dnil ?_ | refine st_tN ?_ | refine st_seq ?_ | refine st_block ?_ | refine st_skip ?_ | refine st_exit ?_ | refine st_ret ?_ | refine st_tE ?_ | refine st_bN ?_ | refine st_bH ?_)
    all_goals try (exfalso;omega)
    have nbo : ∀ b' : Bid,b'.1 < h.clk → ¬ b' = (c2 + 1,8):=fun b' hb' => ne_fst hb' (by show h.clk ≤ c2 + 1;omega)
    refine ⟨(i + 1,_),(by refine ⟨by show i + 1 ≤ _;omega,fun b' hb' => by simp only [go_sem,if_neg (nbo b' hb')];exact i2 b' hb',i3,by simp only [go_sem];omega⟩),by show t.gs.length - (i + 1) < t.gs.length - i;omega,(by repeat' (first | exact trivial | refine And.intro ?_ ?_ | rfl | (simp (disch:=omega) only [go_sem,if_yes,if_no,↓reduceIte,reduceAdd,reduceMul,reduceEqDiff,Nat.reduceBEq,reduceLeDiff];rfl) | (simp (disch:=omega) only [go_sem,if_yes,if_no,↓reduceIte,reduceAdd,reduceMul,reduceEqDiff,Nat.reduceBEq,reduceLeDiff]))),(by repeat' (first | exact trivial | refine And.intro ?_ ?_ | rfl | (simp (disch:=omega) only [go_sem,if_yes,if_no,↓reduceIte,reduceAdd,reduceMul,reduceEqDiff,Nat.reduceBEq,reduceLeDiff];rfl) | (simp (disch:=omega) only [go_sem,if_yes,if_no,↓reduceIte,reduceAdd,reduceMul,reduceEqDiff,Nat.reduceBEq,reduceLeDiff]))),rfl,HOld.refl _⟩
  obtain rfl : i = t.gs.length:=by omega
  repeat' (first | refine st_seq_reg rfl (by first | (simp only [go_sem,length_map];rfl) | rfl) (by first | (simp only [go_sem,length_map];rfl) | rfl) ?_ | refine st_reg rfl (by first | (simp only [go_sem,length_map];rfl) | rfl) (by first | (simp only [go_sem,length_map];rfl) | rfl) ?_ | refine st_seq_draw rfl (by first | (simp only [go_sem,length_map];rfl) | rfl) (by first | (simp only [go_sem,length_map];rfl) | rfl) ?_ | refine st_op ?_ | refine st_det rfl (by simp (disch:=omega) only [go_sem,wr_i64,if_yes,if_no,↓reduceIte,reduceAdd,reduceMul,reduceEqDiff,Nat.reduceBEq,reduceLeDiff,length_map];rfl) ?_ | refine st_dop rfl ?_ | refine st_loc rfl (by simp (disch:=omega) only [go_sem,wr_i64,if_yes,if_no,↓reduceIte,reduceAdd,reduceMul,reduceEqDiff,Nat.reduceBEq,reduceLeDiff,length_map];rfl) ?_ | refine st_heap rfl (by simp (disch:=omega) only [go_sem,wr_i64,if_yes,if_no,↓reduceIte,reduceAdd,reduceMul,reduceEqDiff,Nat.reduceBEq,reduceLeDiff,length_map];rfl) ?_ | refine st_store (by simp (disch:=omega) only [go_sem,wr_i64,if_yes,if_no,↓reduceIte,reduceAdd,reduceMul,reduceEqDiff,Nat.reduceBEq,reduceLeDiff,length_map];rfl) ?_ | refine st_gT rfl rfl rfl ?_ | (refine st_condS rfl ?_ ?_ <;> intro hg <;> (try simp only [decide_eq_true_eq,decide_eq_false_iff_not,Bool.not_eq_true',Bool.not_eq_false'] at hg)) | refine st_nil ?_ | refine st_dnil ?_ | refine st_tN ?_ | refine st_seq ?_ | refine st_block ?_ | refine st_skip ?_ | refine st_exit ?_ | refine st_ret ?_ | refine st_tE ?_ | refine st_bH ?_)
  all_goals try (exfalso;omega)
  simp (disch:=omega) only [AEnd,Try.results25,aresK,fin,go_sem,↓reduceIte,reduceEqDiff,reduceAdd,reduceLeDiff,if_yes,if_no,implies_true,true_and,and_true,List.reverse_cons,List.reverse_nil]
  exact ⟨i2,i3⟩
theorem TwOk.lens {t : Tw} (hT : TwOk t) : t.lens:=⟨by have:=hT.rn;omega,by have:=hT.sn;omega,by have:=hT.gn;omega,fun i hi => by have:=(hT.g i hi).many;omega⟩
def T3 (a b : Tw) : List Tw:=[a,b,b]
def K3 (p r : Int) : List Int:=[p,r,p]
def noTw : Tw:=⟨[],[],[],0⟩
theorem T3_len (a b : Tw) : (T3 a b).length = 3:=rfl
theorem T3_get {a b : Tw} {i : Nat} (h : i < 3) : ((T3 a b).map Tw.cells).getD i [] = ((T3 a b).getD i noTw).cells:=by
  match i,h with
  | 0,_ => rfl
  | 1,_ => rfl
  | 2,_ => rfl
theorem hold2 (g : AH) : HOld h00 g:=⟨fun _ _ e => (by cases e),fun _ _ e => (by cases e),Nat.zero_le _⟩
theorem closeV_two (t : Tw) : ∃ (A : List Int) (e : Int),closeV t = .tup [.lst 1 (A.map iv),.int .i64 e] ∧ A.length ≤ 1000000:=by
  by_cases h0 : chkE t = 0
  · have hsn:=(townOk h0).sn
    cases hc : clo t t.sts.length with
    | some A =>
      refine ⟨A,0,closeV_some h0 hc,?_⟩
      unfold clo chsAll at hc
      obtain ⟨m,hm,hA2⟩:=mem_catN.1 (List.mem_of_find?_eq_some hc)
      have:=(chs_ok (t:=t) m 0 A hA2).1
      rw [Nat.min_self] at hm;omega
    | none => exact ⟨[],7,closeV_none h0 hc,by decide⟩
  · exact ⟨[],chkE t,by unfold closeV;rw [if_pos h0];rfl,by decide⟩
theorem proveV_two (t : Tw) (most : Int) (h6 : chkE t = 0 → t.sts.length ≤ 6) : ∃ (L : List Rn) (e : Int),proveV t most = .tup [.lst 4 (L.map Rn.row),.int .i64 e] ∧ L.length ≤ 1000000:=by
  by_cases h0 : chkE t = 0
  · have hs6:=h6 h0
    by_cases h1 : 0 ≤ most ∧ most ≤ 12
    · have hE : proveV t most = prvV t most.toNat:=by unfold proveV;rw [if_neg (fun e => e h0),if_neg (fun e => e h1)]
      rw [hE]
      cases hc : clo t most.toNat with
      | some A => exact ⟨[],7,by unfold prvV;rw [hc];rfl,by decide⟩
      | none =>
        refine ⟨_,0,by unfold prvV;rw [hc],?_⟩
        have hpl:=prv_len t (most.toNat : Nat) (t.sts.length + 1) (List.replicate t.sts.length 0)
        have h2 : (2 : Nat) ^ (t.sts.length + 1) ≤ 2 ^ 7:=Nat.pow_le_pow_right (by decide) (by omega)
        omega
    · exact ⟨[],2,by unfold proveV;rw [if_neg (fun e => e h0),if_pos h1];rfl,by decide⟩
  · exact ⟨[],chkE t,by unfold proveV;rw [if_pos h0];rfl,by decide⟩
theorem law12 (x : Tw) (most : Int) (l : List Int) (hx : x.small) (hf : I64 most) (hl : (l.length : Int) ≤ 9223372036854775807) (h : AH) : ACalls Try.prog 12 [x.av,.int .i64 most,.lst 1 (l.map iv)] h (fun v _ => v = .bool true):=by
  have k15:=c15
  refine ACalls.of tab mixed Try.call12 Try.func12 rfl (fi:=⟨116,[8,12],[3,31,40],none,[(5,[0,0,0,7,0,0,0,64,192,448,992,0,4080,2031,16383],[(0,true),(1,true),(2,true),(3,false),(4,false),(5,false),(6,false),(7,true),(8,false),(9,false),(11,false),(10,false),(12,false),(13,false),(14,false)]),(12,[0,0,0,6,14,31,63,127,127,255,1023],[(0,true),(1,false),(2,false),(3,false),(4,true),(5,false),(6,false),(7,false),(8,false),(9,false),(10,false)]),(13,[0,0,3,7,0,0,48,112,255,511,1023,1023,2047,8191],[(0,false),(1,false),(2,false),(3,true),(4,false),(5,false),(6,false),(7,true),(8,false),(9,false),(10,false),(11,false),(12,false),(13,false)]),(14,[0,0,3,7,15,15,63,127,255,511,511,2047,4095,8191,16383,32767,32767,131071,262143,524287,1048575,2097151,2097151,2097151,14680063,31457279,67108863,134217727,268435455],[(0,false),(1,false),(2,false),(3,false),(4,false),(5,false),(6,false),(7,false),(8,false),(9,false),(10,false),(11,false),(12,false),(13,false),(14,false),(15,false),(16,false),(17,false),(18,false),(19,false),(20,false),(21,true),(22,false),(23,false),(24,false),(25,true),(26,false),(27,false),(28,false)])]⟩) rfl rfl (Nat.le_of_ble_eq_true rfl) (by decide) ?_
  unfold startA
  repeat' (first | refine st_seq_reg rfl (by first | (simp only [go_sem,length_map];rfl) | rfl) (by first | (simp only [go_sem,length_map];rfl) | rfl) ?_ | refine st_op ?_ | refine st_det rfl (by simp (disch:=omega) only [go_sem,wr_i64,if_yes,if_no,↓reduceIte,reduceAdd,reduceMul,reduceEqDiff,Nat.reduceBEq,reduceLeDiff,length_map];rfl) ?_ | (refine st_pure (by first | (simp (disch:=omega) only [go_sem,length_map];rfl) | rfl) rfl (c14 x 6 hx) (by first | (simp only [go_sem,length_map];rfl) | rfl) (by intro n;first | (simp (disch:=omega) only [go_sem];rfl) | rfl) ?_;rintro v n ⟨r,rfl,hr⟩ hn) | (refine st_pureE (by first | (simp (disch:=omega) only [go_sem,length_map];rfl) | rfl) rfl (k15) (by first | (simp only [go_sem,length_map];rfl) | rfl) (by intro n;first | (simp (disch:=omega) only [go_sem];rfl) | rfl) ?_;intro n hn) | (refine st_condS rfl ?_ ?_ <;> intro hg <;> (try simp only [decide_eq_true_eq,decide_eq_false_iff_not,Bool.not_eq_true',Bool.not_eq_false'] at hg)) | refine st_nil ?_ | refine st_tN ?_ | refine st_seq ?_ | refine st_skip ?_ | refine st_ret ?_ | refine st_tR ?_)
  all_goals try (exfalso;omega)
  · simp (disch:=omega) only [AEnd,Try.results12,aresK,fin,go_sem,↓reduceIte,reduceEqDiff,reduceAdd,reduceLeDiff,if_yes,if_no,implies_true,true_and,and_true,List.reverse_cons,List.reverse_nil]
  have hV:=hr (by assumption)
  repeat' (first | refine st_seq_reg rfl (by first | (simp only [go_sem,length_map];rfl) | rfl) (by first | (simp only [go_sem,length_map];rfl) | rfl) ?_ | refine st_seq_draw rfl (by first | (simp only [go_sem,length_map];rfl) | rfl) (by first | (simp only [go_sem,length_map];rfl) | rfl) ?_ | refine st_op ?_ | refine st_det rfl (by simp (disch:=omega) only [go_sem,wr_i64,if_yes,if_no,↓reduceIte,reduceAdd,reduceMul,reduceEqDiff,Nat.reduceBEq,reduceLeDiff,length_map];rfl) ?_ | refine st_dop rfl ?_ | refine st_loc rfl (by simp (disch:=omega) only [go_sem,wr_i64,if_yes,if_no,↓reduceIte,reduceAdd,reduceMul,reduceEqDiff,Nat.reduceBEq,reduceLeDiff,length_map];rfl) ?_ | refine st_store (by simp (disch:=omega) only [go_sem,wr_i64,if_yes,if_no,↓reduceIte,reduceAdd,reduceMul,reduceEqDiff,Nat.reduceBEq,reduceLeDiff,length_map];rfl) ?_ | (refine st_callf rfl rfl (c16 l hl _) ?_;rintro v h' ⟨b,x0,n,rfl,hb1,hb2,hu0,rfl⟩) | (refine st_drum (by first | (simp (disch:=omega) only [go_sem,length_map];rfl) | rfl) rfl (c17 b 4 6 5 (by decide) (by decide) (by decide)) (by first | (simp (disch:=omega) only [go_sem,length_map];rfl) | rfl) (by assumption) (by first | (simp only [go_sem,length_map];rfl) | rfl) (by intro x' n;first | (simp (disch:=omega) only [go_sem];rfl) | rfl) ?_;rintro v x' n hu' ⟨t,rfl,hG⟩ hn) | refine st_nil ?_)
  have hT:=hG.ok (by decide) (by decide) (by decide)
  have hsn:=hG.sn
  have hwr : wr .i64 ((t.sts.length : Int) + 1) = (t.sts.length : Int) + 1:=wr_i64 (by omega)
  repeat' (first | refine st_seq_reg rfl (by first | (simp only [go_sem,length_map,hwr];rfl) | rfl) (by first | (simp only [go_sem,length_map,hwr];rfl) | rfl) ?_ | refine st_op ?_ | refine st_det rfl (by simp (disch:=omega) only [go_sem,wr_i64,if_yes,if_no,↓reduceIte,reduceAdd,reduceMul,reduceEqDiff,Nat.reduceBEq,reduceLeDiff,length_map,hwr];rfl) ?_ | refine st_dop rfl ?_ | (refine st_drum (by first | (simp (disch:=omega) only [go_sem,length_map,hwr];rfl) | rfl) rfl (c18' b (t.sts.length + 1 : Int) (by omega)) (by first | (simp (disch:=omega) only [go_sem,length_map,hwr];rfl) | rfl) (by assumption) (by first | (simp only [go_sem,length_map,hwr];rfl) | rfl) (by intro x' n;first | (simp (disch:=omega) only [go_sem];rfl) | rfl) ?_;rintro v x' n hu' ⟨r1,rfl,hr1⟩ hn) | refine st_nil ?_ | refine st_dnil ?_ | refine st_seq ?_ | refine st_block ?_)
  all_goals try (exfalso;omega)
  refine st_loopH (α:=Nat) tab mixed [] [] (by repeat (first | exact trivial | refine ⟨rfl,?_⟩)) [] [] (by repeat (first | exact trivial | refine ⟨rfl,?_⟩)) (fun i => [(11,.int .i64 (i : Nat)),(9,.lst 4 ((T3 x t).map Tw.cells)),(10,.lst 1 ((K3 most r1).map iv))]) [(7,_)] (fun _ => []) [] (fun _ => h00) (fun i => i ≤ 3) (fun i => 3 - i) (by decide) 0 (Nat.zero_le _) (by (try simp only [go_sem]);repeat' (first | exact trivial | refine And.intro ?_ ?_ | rfl | (simp (disch:=omega) only [go_sem,if_yes,if_no,↓reduceIte,reduceAdd,reduceMul,reduceEqDiff,Nat.reduceBEq,reduceLeDiff];rfl) | (simp (disch:=omega) only [go_sem,if_yes,if_no,↓reduceIte,reduceAdd,reduceMul,reduceEqDiff,Nat.reduceBEq,reduceLeDiff]))) (by (try simp only [go_sem]);repeat' (first | exact trivial | refine And.intro ?_ ?_ | rfl | (simp (disch:=omega) only [go_sem,if_yes,if_no,↓reduceIte,reduceAdd,reduceMul,reduceEqDiff,Nat.reduceBEq,reduceLeDiff];rfl) | (simp (disch:=omega) only [go_sem,if_yes,if_no,↓reduceIte,reduceAdd,reduceMul,reduceEqDiff,Nat.reduceBEq,reduceLeDiff]))) (hold2 _) ?_
  rintro i d i1 hd
  simp only [go_sem] at hd ⊢
  by_cases hi : i < 3
  case neg =>
    repeat' (first | refine st_seq_reg rfl (by first | (simp only [go_sem,length_map,T3_len];rfl) | rfl) (by first | (simp only [go_sem,length_map,T3_len];rfl) | rfl) ?_ | refine st_op ?_ | refine st_det rfl (by simp (disch:=omega) only [go_sem,wr_i64,if_yes,if_no,↓reduceIte,reduceAdd,reduceMul,reduceEqDiff,Nat.reduceBEq,reduceLeDiff,length_map,T3_len];rfl) ?_ | (refine st_pureE (by first | (simp (disch:=omega) only [go_sem,length_map,T3_len];rfl) | rfl) rfl (k15) (by first | (simp only [go_sem,length_map,T3_len];rfl) | rfl) (by intro n;first | (simp (disch:=omega) only [go_sem];rfl) | rfl) ?_;intro n hn) | (refine st_condS rfl ?_ ?_ <;> intro hg <;> (try simp only [decide_eq_true_eq,decide_eq_false_iff_not,Bool.not_eq_true',Bool.not_eq_false'] at hg)) | refine st_nil ?_ | refine st_tN ?_ | refine st_seq ?_ | refine st_block ?_ | refine st_skip ?_ | refine st_exit ?_ | refine st_ret ?_ | refine st_tE ?_ | refine st_bH ?_)
    all_goals try (exfalso;omega)
    all_goals
      simp (disch:=omega) only [AEnd,Try.results12,aresK,fin,go_sem,↓reduceIte,reduceEqDiff,reduceAdd,reduceLeDiff,if_yes,if_no,implies_true,true_and,and_true,List.reverse_cons,List.reverse_nil]
  have hget:=T3_get (a:=x) (b:=t) hi
  have hm : ((T3 x t).getD i noTw).lens:=by
    match i,hi with
    | 0,_ => exact hV.lens
    | 1,_ => exact hT.lens
    | 2,_ => exact hT.lens
  have hm6 : chkE ((T3 x t).getD i noTw) = 0 → ((T3 x t).getD i noTw).sts.length ≤ 6:=by
    match i,hi with
    | 0,_ => exact fun e => by have:=(hV.ok e).1;show x.sts.length ≤ 6;omega
    | 1,_ => exact fun _ => by show t.sts.length ≤ 6;omega
    | 2,_ => exact fun _ => by show t.sts.length ≤ 6;omega
  have hfg:=ivs_getD (l:=K3 most r1) (i:=i) hi
  generalize (T3 x t).getD i noTw = m at *
  generalize elt (K3 most r1) i = f at *
  have hkf : (K3 most r1).length = 3:=rfl
  have hget' : ((T3 x t).map Tw.cells).getD i [] = [.lst 1 (m.rooms.map iv),.lst 2 (m.sts.map Sx.row),.lst 7 (m.gs.map Gp.row),.int .i64 m.steps]:=hget
  have k22:=c22 m hm
  have k36:=c36 m
  have k57:=c57 m
  obtain ⟨W,e1,hW,hWl⟩:=closeV_two m
  rw [hW] at k36 k57
  have k58:=c58 m f hm6
  have k19:=c19 m f hm6
  obtain ⟨L,e2,hL,hLl⟩:=proveV_two m f hm6
  rw [hL] at k58 k19
  have k31:=c31s W hWl
  have k26:=c26s L hLl
  have k25:=c25 m hm
  repeat' (first | refine st_seq_reg rfl (by first | (simp only [go_sem,length_map,T3_len,hkf,hget',hfg,not_true_eq_false,decide_false,Bool.false_eq_true,Bool.not_true];rfl) | rfl) (by first | (simp only [go_sem,length_map,T3_len,hkf,hget',hfg,not_true_eq_false,decide_false,Bool.false_eq_true,Bool.not_true];rfl) | rfl) ?_ | refine st_reg rfl (by first | (simp only [go_sem,length_map,T3_len,hkf,hget',hfg,not_true_eq_false,decide_false,Bool.false_eq_true,Bool.not_true];rfl) | rfl) (by first | (simp only [go_sem,length_map,T3_len,hkf,hget',hfg,not_true_eq_false,decide_false,Bool.false_eq_true,Bool.not_true];rfl) | rfl) ?_ | refine st_seq_draw rfl (by first | (simp only [go_sem,length_map,T3_len,hkf,hget',hfg,not_true_eq_false,decide_false,Bool.false_eq_true,Bool.not_true];rfl) | rfl) (by first | (simp only [go_sem,length_map,T3_len,hkf,hget',hfg,not_true_eq_false,decide_false,Bool.false_eq_true,Bool.not_true];rfl) | rfl) ?_ | refine st_op ?_ | refine st_det rfl (by simp (disch:=omega) only [go_sem,wr_i64,if_yes,if_no,↓reduceIte,reduceAdd,reduceMul,reduceEqDiff,Nat.reduceBEq,reduceLeDiff,length_map,T3_len,hkf,hget',hfg,not_true_eq_false,decide_false,Bool.false_eq_true,Bool.not_true];rfl) ?_ | refine st_dop rfl ?_ | refine st_loc rfl (by simp (disch:=omega) only [go_sem,wr_i64,if_yes,if_no,↓reduceIte,reduceAdd,reduceMul,reduceEqDiff,Nat.reduceBEq,reduceLeDiff,length_map,T3_len,hkf,hget',hfg,not_true_eq_false,decide_false,Bool.false_eq_true,Bool.not_true];rfl) ?_ | refine st_store (by simp (disch:=omega) only [go_sem,wr_i64,if_yes,if_no,↓reduceIte,reduceAdd,reduceMul,reduceEqDiff,Nat.reduceBEq,reduceLeDiff,length_map,T3_len,hkf,hget',hfg,not_true_eq_false,decide_false,Bool.false_eq_true,Bool.not_true];rfl) ?_ | (refine st_pureE (by first | (simp (disch:=omega) only [go_sem,length_map,T3_len,hkf,hget',hfg,not_true_eq_false,decide_false,Bool.false_eq_true,Bool.not_true];rfl) | rfl) rfl (k22) (by first | (simp only [go_sem,length_map,T3_len,hkf,hget',hfg,not_true_eq_false,decide_false,Bool.false_eq_true,Bool.not_true];rfl) | rfl) (by intro n;first | (simp (disch:=omega) only [go_sem];rfl) | rfl) ?_;intro n hn) | (refine st_pureE (by first | (simp (disch:=omega) only [go_sem,length_map,T3_len,hkf,hget',hfg,not_true_eq_false,decide_false,Bool.false_eq_true,Bool.not_true];rfl) | rfl) rfl (k36) (by first | (simp only [go_sem,length_map,T3_len,hkf,hget',hfg,not_true_eq_false,decide_false,Bool.false_eq_true,Bool.not_true];rfl) | rfl) (by intro n;first | (simp (disch:=omega) only [go_sem];rfl) | rfl) ?_;intro n hn) | (refine st_pureE (by first | (simp (disch:=omega) only [go_sem,length_map,T3_len,hkf,hget',hfg,not_true_eq_false,decide_false,Bool.false_eq_true,Bool.not_true];rfl) | rfl) rfl (k57) (by first | (simp only [go_sem,length_map,T3_len,hkf,hget',hfg,not_true_eq_false,decide_false,Bool.false_eq_true,Bool.not_true];rfl) | rfl) (by intro n;first | (simp (disch:=omega) only [go_sem];rfl) | rfl) ?_;intro n hn) | (refine st_pureE (by first | (simp (disch:=omega) only [go_sem,length_map,T3_len,hkf,hget',hfg,not_true_eq_false,decide_false,Bool.false_eq_true,Bool.not_true];rfl) | rfl) rfl (k58) (by first | (simp only [go_sem,length_map,T3_len,hkf,hget',hfg,not_true_eq_false,decide_false,Bool.false_eq_true,Bool.not_true];rfl) | rfl) (by intro n;first | (simp (disch:=omega) only [go_sem];rfl) | rfl) ?_;intro n hn) | (refine st_pureE (by first | (simp (disch:=omega) only [go_sem,length_map,T3_len,hkf,hget',hfg,not_true_eq_false,decide_false,Bool.false_eq_true,Bool.not_true];rfl) | rfl) rfl (k19) (by first | (simp only [go_sem,length_map,T3_len,hkf,hget',hfg,not_true_eq_false,decide_false,Bool.false_eq_true,Bool.not_true];rfl) | rfl) (by intro n;first | (simp (disch:=omega) only [go_sem];rfl) | rfl) ?_;intro n hn) | (refine st_pureE (by first | (simp (disch:=omega) only [go_sem,length_map,T3_len,hkf,hget',hfg,not_true_eq_false,decide_false,Bool.false_eq_true,Bool.not_true];rfl) | rfl) rfl (k31) (by first | (simp only [go_sem,length_map,T3_len,hkf,hget',hfg,not_true_eq_false,decide_false,Bool.false_eq_true,Bool.not_true];rfl) | rfl) (by intro n;first | (simp (disch:=omega) only [go_sem];rfl) | rfl) ?_;intro n hn) | (refine st_pureE (by first | (simp (disch:=omega) only [go_sem,length_map,T3_len,hkf,hget',hfg,not_true_eq_false,decide_false,Bool.false_eq_true,Bool.not_true];rfl) | rfl) rfl (k26) (by first | (simp only [go_sem,length_map,T3_len,hkf,hget',hfg,not_true_eq_false,decide_false,Bool.false_eq_true,Bool.not_true];rfl) | rfl) (by intro n;first | (simp (disch:=omega) only [go_sem];rfl) | rfl) ?_;intro n hn) | (refine st_pureE (by first | (simp (disch:=omega) only [go_sem,length_map,T3_len,hkf,hget',hfg,not_true_eq_false,decide_false,Bool.false_eq_true,Bool.not_true];rfl) | rfl) rfl (k25) (by first | (simp only [go_sem,length_map,T3_len,hkf,hget',hfg,not_true_eq_false,decide_false,Bool.false_eq_true,Bool.not_true];rfl) | rfl) (by intro n;first | (simp (disch:=omega) only [go_sem];rfl) | rfl) ?_;intro n hn) | refine st_dgT rfl rfl rfl rfl ?_ | refine st_condF rfl ?_ | (refine st_condS rfl ?_ ?_ <;> intro hg <;> (try simp only [decide_eq_true_eq,decide_eq_false_iff_not,Bool.not_eq_true',Bool.not_eq_false'] at hg)) | refine st_nil ?_ | refine st_dnil ?_ | refine st_tN ?_ | refine st_seq ?_ | refine st_block ?_ | refine st_skip ?_ | refine st_exit ?_ | refine st_tE ?_ | refine st_bN ?_ | refine st_bH ?_)
  all_goals try (exfalso;omega)
  all_goals
    refine ⟨i + 1,(by show i + 1 ≤ 3;omega),by show 3 - (i + 1) < 3 - i;omega,(by repeat' (first | exact trivial | refine And.intro ?_ ?_ | rfl | (simp (disch:=omega) only [go_sem,if_yes,if_no,↓reduceIte,reduceAdd,reduceMul,reduceEqDiff,Nat.reduceBEq,reduceLeDiff];rfl) | (simp (disch:=omega) only [go_sem,if_yes,if_no,↓reduceIte,reduceAdd,reduceMul,reduceEqDiff,Nat.reduceBEq,reduceLeDiff]))),(by repeat' (first | exact trivial | refine And.intro ?_ ?_ | rfl | (simp (disch:=omega) only [go_sem,if_yes,if_no,↓reduceIte,reduceAdd,reduceMul,reduceEqDiff,Nat.reduceBEq,reduceLeDiff];rfl) | (simp (disch:=omega) only [go_sem,if_yes,if_no,↓reduceIte,reduceAdd,reduceMul,reduceEqDiff,Nat.reduceBEq,reduceLeDiff]))),rfl,hold2 _⟩
end Go.Proofs.Ythjbfdfhblloiaa
