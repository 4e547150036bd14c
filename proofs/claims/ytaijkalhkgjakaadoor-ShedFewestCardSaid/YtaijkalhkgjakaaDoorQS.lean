/- Contracts of functions that the claim reaches: what each call gives, told in our own logic. Conditions: those of each theorem. -/
import Derived.Test.YtaijkalhkgjakaaDoorG34
import Derived.Test.YtaijkalhkgjakaaDoorG2
import Derived.Test.YtaijkalhkgjakaaDoorG28
import Derived.Test.YtaijkalhkgjakaaDoorBaseD
open Nat (reduceAdd reduceMul reduceEqDiff reduceLeDiff)
open List (length_map)
set_option linter.all false
set_option linter.unusedSimpArgs false
set_option linter.unusedVariables false
namespace Go.Proofs.YtaijkalhkgjakaaDoor
open Go.Av
attribute [local irreducible] thenA blockA awp awpOps awpD awp1
set_option maxHeartbeats 8000000
set_option maxRecDepth 20000
structure Kq (h g:AH):Prop where
  at_:∀ b:Bid,b.1 < h.clk→g.at_ b=h.at_ b
  lp:g.lp=h.lp
  clk:h.clk≤g.clk
theorem Kq.refl (h:AH):Kq h h:=⟨fun _ _=>rfl,rfl,Nat.le_refl _⟩
theorem Kq.trans {h g k:AH} (a:Kq h g) (b:Kq g k):Kq h k :=
  ⟨fun x hx=>(b.at_ x (by have:=a.clk;omega)).trans (a.at_ x hx),b.lp.trans a.lp,Nat.le_trans a.clk b.clk⟩
theorem Kq.tick {h g:AH} (a:Kq h g) {n:Nat} (hn:g.clk≤n):Kq h (g.tick n):=⟨a.at_,a.lp,Nat.le_trans a.clk hn⟩
theorem Kq.put {h g:AH} (a:Kq h g) {b:Bid} (hb:h.clk≤b.1) (k:Option Blk):Kq h (g.put b k) :=
  ⟨fun x hx=>(put_ne _ _ (fun e=>by rw [e] at hx;omega)).trans (a.at_ x hx),a.lp,a.clk⟩
theorem leaf_no {S:Sp} (hS:S.Ok) {best:List Sf} {t:Int} (hB:BestOk S best t) {q:List Sf} (h:(takV S q).2=0):q.length=best.length∧(t < (takV S q).1 ∨ t=(takV S q).1∧bef q best=false):=by
  have hs:=shop_zero hS
  have hc:chkP S q=0:=by
    apply Classical.byContradiction
    intro h2
    rw [takV_err hs h2] at h
    exact h2 h
  rw [takV_ok hs hc]
  have hV:=(chkP_vp hS).1 hc
  exact ⟨by rw [hV.len,hB.vp.len],hB.best q hV⟩
theorem sSf (l:List Sf):Still (.lst 2 (l.map Sf.row)):=Still.lst fun r hr x hx=>by
  obtain ⟨y,_,rfl⟩:=List.mem_map.1 hr
  simp only[Sf.row,List.mem_cons,List.not_mem_nil,or_false] at hx
  rcases hx with rfl|rfl <;> exact fun _ _=>rfl
theorem frz_beat (S:Sp) (p best:List Sf) (t last:Int) (b:Bid):[S.av,.lst 2 (p.map Sf.row),.lst 2 (best.map Sf.row),.int .i64 t,.int .i64 last]=frzs b ⟨2,p.map Sf.row⟩ [S.av,.slc b 2 0 p.length,.lst 2 (best.map Sf.row),.int .i64 t,.int .i64 last]:=by
  have e:=frz_lst (b:=b) (z:=2) (l:=p.map Sf.row)
  rw [length_map] at e
  have e2:=sSf best b ⟨2,p.map Sf.row⟩
  show _=[frz b _ S.av,frz b _ (.slc b 2 0 p.length),frz b _ (.lst 2 (best.map Sf.row)),.int .i64 t,.int .i64 last]
  rw [e,e2,sSp S]
theorem c52 (S:Sp) (hS:S.Ok) (best:List Sf) (t:Int) (hB:BestOk S best t) (last:Int) (hlast:last≤100000):∀ (f:Nat) (q:List Sf),q.length+f=S.js.length →
    Pure Tryd.prog 52 [S.av,.lst 2 (q.map Sf.row),.lst 2 (best.map Sf.row),.int .i64 t,.int .i64 last] (fun v=>v=.bool false):=by
  intro f
  have h7:=hS.n7
  have h4:=hS.m4
  have hbl:=hB.vp.len
  induction f with
  | zero =>
    intro q hq h
    refine ACalls.forget (ACalls.of tab mixed Tryd.call52 Tryd.func52 rfl (fi:=⟨84,[],[5,78],none,[(9,[0,0,3,7,15,31,15,127,255,15,527,15,3599,7695,15887,32767,65535],[(0,false),(1,false),(2,false),(3,false),(4,false),(5,true),(6,false),(7,false),(8,true),(9,false),(10,true),(11,false),(12,false),(13,false),(14,true),(15,false),(16,false)]),(11,[0,0,2,0,0,24,56,126,0,0,0,2047],[(0,true),(1,false),(3,false),(4,false),(5,false),(6,false),(8,false),(9,false),(10,false),(2,false),(7,false),(11,false)])]⟩) rfl rfl (Nat.le_of_ble_eq_true rfl) (by decide) ?_)
    unfold startA
    try simp only[go_sem]
    by_cases he:(takV S q).2=0
    · obtain ⟨hl,hle⟩:=leaf_no hS hB he
      rcases hle with hlt|⟨heq,hbf⟩
      · repeat' (first|refine st_seq_reg rfl (by first|(simp only[go_sem,length_map];rfl)|rfl) (by first|(simp only[go_sem,length_map];rfl)|rfl) ?_|refine st_op ?_|refine st_det rfl (by simp (disch:=omega) only[go_sem,wr_i64,if_yes,if_no,↓reduceIte,reduceAdd,reduceMul,reduceEqDiff,Nat.reduceBEq,reduceLeDiff,length_map];rfl) ?_|(refine st_pureE (by first|(simp (disch:=omega) only[go_sem,length_map];rfl)|rfl) rfl (c48 S q (by omega)) (by first|(simp only[go_sem,length_map];rfl)|rfl) (by intro n;first|(simp (disch:=omega) only[go_sem];rfl)|rfl) ?_;intro n hn)|refine st_gT rfl rfl rfl ?_|refine st_gF rfl rfl rfl ?_|(refine st_gS rfl rfl ?_ ?_ <;> intro hg <;> (try simp only[decide_eq_true_eq,decide_eq_false_iff_not,Bool.not_eq_true',Bool.not_eq_false'] at hg))|(refine st_condS rfl ?_ ?_ <;> intro hg <;> (try simp only[decide_eq_true_eq,decide_eq_false_iff_not,Bool.not_eq_true',Bool.not_eq_false'] at hg))|refine st_nil ?_|refine st_tN ?_|refine st_seq ?_|refine st_block ?_|refine st_skip ?_|refine st_ret ?_|refine st_tR ?_)
        all_goals try (exfalso;omega)
        simp (disch:=omega) only[AEnd,Tryd.results52,aresK,fin,go_sem,↓reduceIte,reduceEqDiff,reduceAdd,reduceLeDiff,if_yes,if_no,implies_true,true_and,and_true,List.reverse_cons,List.reverse_nil]
      · have k94:=c94 q best hl (by omega)
        rw [hbf] at k94
        repeat' (first|refine st_seq_reg rfl (by first|(simp only[go_sem,length_map];rfl)|rfl) (by first|(simp only[go_sem,length_map];rfl)|rfl) ?_|refine st_op ?_|refine st_det rfl (by simp (disch:=omega) only[go_sem,wr_i64,if_yes,if_no,↓reduceIte,reduceAdd,reduceMul,reduceEqDiff,Nat.reduceBEq,reduceLeDiff,length_map];rfl) ?_|(refine st_pureE (by first|(simp (disch:=omega) only[go_sem,length_map];rfl)|rfl) rfl (c48 S q (by omega)) (by first|(simp only[go_sem,length_map];rfl)|rfl) (by intro n;first|(simp (disch:=omega) only[go_sem];rfl)|rfl) ?_;intro n hn)|(refine st_pureE (by first|(simp (disch:=omega) only[go_sem,length_map];rfl)|rfl) rfl (k94) (by first|(simp only[go_sem,length_map];rfl)|rfl) (by intro n;first|(simp (disch:=omega) only[go_sem];rfl)|rfl) ?_;intro n hn)|refine st_gT rfl rfl rfl ?_|refine st_gF rfl rfl rfl ?_|(refine st_gS rfl rfl ?_ ?_ <;> intro hg <;> (try simp only[decide_eq_true_eq,decide_eq_false_iff_not,Bool.not_eq_true',Bool.not_eq_false'] at hg))|(refine st_condS rfl ?_ ?_ <;> intro hg <;> (try simp only[decide_eq_true_eq,decide_eq_false_iff_not,Bool.not_eq_true',Bool.not_eq_false'] at hg))|refine st_nil ?_|refine st_tN ?_|refine st_seq ?_|refine st_block ?_|refine st_skip ?_|refine st_ret ?_|refine st_tR ?_)
        all_goals try (exfalso;omega)
        simp (disch:=omega) only[AEnd,Tryd.results52,aresK,fin,go_sem,↓reduceIte,reduceEqDiff,reduceAdd,reduceLeDiff,if_yes,if_no,implies_true,true_and,and_true,List.reverse_cons,List.reverse_nil]
    · repeat' (first|refine st_seq_reg rfl (by first|(simp only[go_sem,length_map];rfl)|rfl) (by first|(simp only[go_sem,length_map];rfl)|rfl) ?_|refine st_op ?_|refine st_det rfl (by simp (disch:=omega) only[go_sem,wr_i64,if_yes,if_no,↓reduceIte,reduceAdd,reduceMul,reduceEqDiff,Nat.reduceBEq,reduceLeDiff,length_map];rfl) ?_|(refine st_pureE (by first|(simp (disch:=omega) only[go_sem,length_map];rfl)|rfl) rfl (c48 S q (by omega)) (by first|(simp only[go_sem,length_map];rfl)|rfl) (by intro n;first|(simp (disch:=omega) only[go_sem];rfl)|rfl) ?_;intro n hn)|refine st_gT rfl rfl rfl ?_|refine st_gF rfl rfl rfl ?_|(refine st_gS rfl rfl ?_ ?_ <;> intro hg <;> (try simp only[decide_eq_true_eq,decide_eq_false_iff_not,Bool.not_eq_true',Bool.not_eq_false'] at hg))|(refine st_condS rfl ?_ ?_ <;> intro hg <;> (try simp only[decide_eq_true_eq,decide_eq_false_iff_not,Bool.not_eq_true',Bool.not_eq_false'] at hg))|refine st_nil ?_|refine st_tN ?_|refine st_seq ?_|refine st_block ?_|refine st_skip ?_|refine st_ret ?_|refine st_tR ?_)
      all_goals try (exfalso;omega)
      simp (disch:=omega) only[AEnd,Tryd.results52,aresK,fin,go_sem,↓reduceIte,reduceEqDiff,reduceAdd,reduceLeDiff,if_yes,if_no,implies_true,true_and,and_true,List.reverse_cons,List.reverse_nil]
  | succ f ih =>
    intro q hq h
    refine ACalls.forget (ACalls.of tab mixed Tryd.call52 Tryd.func52 rfl (fi:=⟨84,[],[5,78],none,[(9,[0,0,3,7,15,31,15,127,255,15,527,15,3599,7695,15887,32767,65535],[(0,false),(1,false),(2,false),(3,false),(4,false),(5,true),(6,false),(7,false),(8,true),(9,false),(10,true),(11,false),(12,false),(13,false),(14,true),(15,false),(16,false)]),(11,[0,0,2,0,0,24,56,126,0,0,0,2047],[(0,true),(1,false),(3,false),(4,false),(5,false),(6,false),(8,false),(9,false),(10,false),(2,false),(7,false),(11,false)])]⟩) rfl rfl (Nat.le_of_ble_eq_true rfl) (by decide) ?_)
    unfold startA
    try simp only[go_sem]
    repeat' (first|refine st_seq_reg rfl (by first|(simp only[go_sem,length_map];rfl)|rfl) (by first|(simp only[go_sem,length_map];rfl)|rfl) ?_|refine st_op ?_|refine st_det rfl (by simp (disch:=omega) only[go_sem,wr_i64,if_yes,if_no,↓reduceIte,reduceAdd,reduceMul,reduceEqDiff,Nat.reduceBEq,reduceLeDiff,length_map];rfl) ?_|(refine st_condS rfl ?_ ?_ <;> intro hg <;> (try simp only[decide_eq_true_eq,decide_eq_false_iff_not,Bool.not_eq_true',Bool.not_eq_false'] at hg))|refine st_nil ?_|refine st_tN ?_|refine st_seq ?_|refine st_block ?_|refine st_skip ?_)
    all_goals try (exfalso;omega)
    refine st_loopH (α:=Nat × AH) tab mixed [] [] (by repeat (first|exact trivial|refine ⟨rfl,?_⟩)) [] [] (by repeat (first|exact trivial|refine ⟨rfl,?_⟩)) (fun a=>[(14,.int .i64 (a.1:Nat))]) [(1,_),(2,_),(3,_),(4,_),(5,_),(10,_),(11,_)] (fun _=>[]) [] (fun a=>a.2) (fun a=>a.1≤S.ws.length∧Kq h a.2) (fun a=>S.ws.length - a.1) (by decide) (0,_) (by exact ⟨Nat.zero_le _,(Kq.refl h).tick (by (try simp only[go_sem]);omega)⟩) (by (try simp only[go_sem]);repeat' (first|exact trivial|refine And.intro ?_ ?_|rfl|(simp (disch:=omega) only[go_sem,if_yes,if_no,↓reduceIte,reduceAdd,reduceMul,reduceEqDiff,Nat.reduceBEq,reduceLeDiff];rfl)|(simp (disch:=omega) only[go_sem,if_yes,if_no,↓reduceIte,reduceAdd,reduceMul,reduceEqDiff,Nat.reduceBEq,reduceLeDiff]))) (by (try simp only[go_sem]);repeat' (first|exact trivial|refine And.intro ?_ ?_|rfl|(simp (disch:=omega) only[go_sem,if_yes,if_no,↓reduceIte,reduceAdd,reduceMul,reduceEqDiff,Nat.reduceBEq,reduceLeDiff];rfl)|(simp (disch:=omega) only[go_sem,if_yes,if_no,↓reduceIte,reduceAdd,reduceMul,reduceEqDiff,Nat.reduceBEq,reduceLeDiff]))) (HOld.refl _) ?_
    rintro ⟨w,g⟩ c ⟨hwl,hk⟩ hc
    dsimp only at hwl hk hc
    have hkc:=hk.clk
    simp only[go_sem]
    by_cases hw2:w < S.ws.length
    case neg =>
      repeat' (first|refine st_seq_reg rfl (by first|(simp only[go_sem,length_map];rfl)|rfl) (by first|(simp only[go_sem,length_map];rfl)|rfl) ?_|refine st_op ?_|refine st_det rfl (by simp (disch:=omega) only[go_sem,wr_i64,if_yes,if_no,↓reduceIte,reduceAdd,reduceMul,reduceEqDiff,Nat.reduceBEq,reduceLeDiff,length_map];rfl) ?_|(refine st_condS rfl ?_ ?_ <;> intro hg <;> (try simp only[decide_eq_true_eq,decide_eq_false_iff_not,Bool.not_eq_true',Bool.not_eq_false'] at hg))|refine st_nil ?_|refine st_tN ?_|refine st_seq ?_|refine st_block ?_|refine st_skip ?_|refine st_exit ?_|refine st_ret ?_|refine st_tE ?_|refine st_bH ?_)
      all_goals try (exfalso;omega)
      simp (disch:=omega) only[AEnd,Tryd.results52,aresK,fin,go_sem,↓reduceIte,reduceEqDiff,reduceAdd,reduceLeDiff,if_yes,if_no,implies_true,true_and,and_true,List.reverse_cons,List.reverse_nil]
      exact ⟨hk.at_,hk.lp⟩
    repeat' (first|refine st_seq_reg rfl (by first|(simp only[go_sem,length_map];rfl)|rfl) (by first|(simp only[go_sem,length_map];rfl)|rfl) ?_|refine st_op ?_|refine st_det rfl (by simp (disch:=omega) only[go_sem,wr_i64,if_yes,if_no,↓reduceIte,reduceAdd,reduceMul,reduceEqDiff,Nat.reduceBEq,reduceLeDiff,length_map];rfl) ?_|(refine st_condS rfl ?_ ?_ <;> intro hg <;> (try simp only[decide_eq_true_eq,decide_eq_false_iff_not,Bool.not_eq_true',Bool.not_eq_false'] at hg))|refine st_nil ?_|refine st_tN ?_|refine st_seq ?_|refine st_block ?_|refine st_skip ?_|refine st_exit ?_|refine st_ret ?_|refine st_tE ?_|refine st_bH ?_)
    all_goals try (exfalso;omega)
    refine st_loopH (α:=Nat × AH) tab mixed [] [] (by repeat (first|exact trivial|refine ⟨rfl,?_⟩)) [] [] (by repeat (first|exact trivial|refine ⟨rfl,?_⟩)) (fun a=>[(15,.int .i64 (a.1:Nat))]) [(1,_),(2,_),(3,_),(4,_),(5,_),(10,_),(11,_),(14,_)] (fun _=>[]) [] (fun a=>a.2) (fun a=>(a.1:Int)≤100001∧Kq h a.2) (fun a=>100002 - a.1) (by decide) (0,_) (by exact ⟨(by show ((0:Nat):Int)≤100001;omega),hk.tick (by (try simp only[go_sem]);omega)⟩) (by (try simp only[go_sem]);repeat' (first|exact trivial|refine And.intro ?_ ?_|rfl|(simp (disch:=omega) only[go_sem,if_yes,if_no,↓reduceIte,reduceAdd,reduceMul,reduceEqDiff,Nat.reduceBEq,reduceLeDiff];rfl)|(simp (disch:=omega) only[go_sem,if_yes,if_no,↓reduceIte,reduceAdd,reduceMul,reduceEqDiff,Nat.reduceBEq,reduceLeDiff]))) (by (try simp only[go_sem]);repeat' (first|exact trivial|refine And.intro ?_ ?_|rfl|(simp (disch:=omega) only[go_sem,if_yes,if_no,↓reduceIte,reduceAdd,reduceMul,reduceEqDiff,Nat.reduceBEq,reduceLeDiff];rfl)|(simp (disch:=omega) only[go_sem,if_yes,if_no,↓reduceIte,reduceAdd,reduceMul,reduceEqDiff,Nat.reduceBEq,reduceLeDiff]))) (HOld.refl _) ?_
    rintro ⟨day,g3⟩ c3 ⟨hdl,hk3⟩ hc3
    dsimp only at hdl hk3 hc3
    have hkc3:=hk3.clk
    simp only[go_sem]
    by_cases hday:(day:Int)≤last
    case neg =>
      repeat' (first|refine st_reg rfl (by first|(simp only[go_sem,length_map];rfl)|rfl) (by first|(simp only[go_sem,length_map];rfl)|rfl) ?_|refine st_seq_draw rfl (by first|(simp only[go_sem,length_map];rfl)|rfl) (by first|(simp only[go_sem,length_map];rfl)|rfl) ?_|refine st_op ?_|refine st_det rfl (by simp (disch:=omega) only[go_sem,wr_i64,if_yes,if_no,↓reduceIte,reduceAdd,reduceMul,reduceEqDiff,Nat.reduceBEq,reduceLeDiff,length_map];rfl) ?_|refine st_dop rfl ?_|refine st_dgT rfl rfl rfl rfl ?_|refine st_dgF rfl rfl rfl ?_|(refine st_dgS rfl rfl ?_ ?_ <;> intro hg <;> (try simp only[decide_eq_true_eq,decide_eq_false_iff_not,Bool.not_eq_true',Bool.not_eq_false'] at hg))|refine st_condF rfl ?_|refine st_nil ?_|refine st_dnil ?_|refine st_tN ?_|refine st_seq ?_|refine st_exit ?_|refine st_tE ?_|refine st_bN ?_|refine st_bH ?_)
      all_goals try (exfalso;omega)
      refine ⟨(w+1,_),(by exact ⟨by show w+1≤S.ws.length;omega,hk3.tick (by (try simp only[go_sem]);omega)⟩),(by show S.ws.length - (w+1) < S.ws.length - w;omega),(by repeat' (first|exact trivial|refine And.intro ?_ ?_|rfl|(simp (disch:=omega) only[go_sem,if_yes,if_no,↓reduceIte,reduceAdd,reduceMul,reduceEqDiff,Nat.reduceBEq,reduceLeDiff];rfl)|(simp (disch:=omega) only[go_sem,if_yes,if_no,↓reduceIte,reduceAdd,reduceMul,reduceEqDiff,Nat.reduceBEq,reduceLeDiff]))),(by repeat' (first|exact trivial|refine And.intro ?_ ?_|rfl|(simp (disch:=omega) only[go_sem,if_yes,if_no,↓reduceIte,reduceAdd,reduceMul,reduceEqDiff,Nat.reduceBEq,reduceLeDiff];rfl)|(simp (disch:=omega) only[go_sem,if_yes,if_no,↓reduceIte,reduceAdd,reduceMul,reduceEqDiff,Nat.reduceBEq,reduceLeDiff]))),rfl,HOld.refl _⟩
    cases hcan:(wOf S.ws w).can (jOf S.js q.length).s with
    | false =>
      have k95:=c95 (wOf S.ws w) (jOf S.js q.length).s
      rw [hcan] at k95
      repeat' (first|refine st_reg rfl (by first|(simp only[go_sem,length_map];rfl)|rfl) (by first|(simp only[go_sem,length_map];rfl)|rfl) ?_|refine st_seq_draw rfl (by first|(simp only[go_sem,length_map];rfl)|rfl) (by first|(simp only[go_sem,length_map];rfl)|rfl) ?_|refine st_op ?_|refine st_det rfl (by simp (disch:=omega) only[go_sem,wr_i64,if_yes,if_no,↓reduceIte,reduceAdd,reduceMul,reduceEqDiff,Nat.reduceBEq,reduceLeDiff,length_map];rfl) ?_|refine st_dop rfl ?_|(refine st_pureE (by first|(simp (disch:=omega) only[go_sem,length_map];rfl)|rfl) rfl (k95) (by first|(simp only[go_sem,length_map];rfl)|rfl) (by intro n;first|(simp (disch:=omega) only[go_sem];rfl)|rfl) ?_;intro n hn)|refine st_dgT rfl rfl rfl rfl ?_|refine st_dgF rfl rfl rfl ?_|(refine st_dgS rfl rfl ?_ ?_ <;> intro hg <;> (try simp only[decide_eq_true_eq,decide_eq_false_iff_not,Bool.not_eq_true',Bool.not_eq_false'] at hg))|refine st_condF rfl ?_|refine st_nil ?_|refine st_dnil ?_|refine st_tN ?_|refine st_seq ?_|refine st_exit ?_|refine st_tE ?_|refine st_bN ?_|refine st_bH ?_)
      all_goals try (exfalso;omega)
      refine ⟨(w+1,_),(by exact ⟨by show w+1≤S.ws.length;omega,hk3.tick (by (try simp only[go_sem]);omega)⟩),(by show S.ws.length - (w+1) < S.ws.length - w;omega),(by repeat' (first|exact trivial|refine And.intro ?_ ?_|rfl|(simp (disch:=omega) only[go_sem,if_yes,if_no,↓reduceIte,reduceAdd,reduceMul,reduceEqDiff,Nat.reduceBEq,reduceLeDiff];rfl)|(simp (disch:=omega) only[go_sem,if_yes,if_no,↓reduceIte,reduceAdd,reduceMul,reduceEqDiff,Nat.reduceBEq,reduceLeDiff]))),(by repeat' (first|exact trivial|refine And.intro ?_ ?_|rfl|(simp (disch:=omega) only[go_sem,if_yes,if_no,↓reduceIte,reduceAdd,reduceMul,reduceEqDiff,Nat.reduceBEq,reduceLeDiff];rfl)|(simp (disch:=omega) only[go_sem,if_yes,if_no,↓reduceIte,reduceAdd,reduceMul,reduceEqDiff,Nat.reduceBEq,reduceLeDiff]))),rfl,HOld.refl _⟩
    | true =>
      have k95:=c95 (wOf S.ws w) (jOf S.js q.length).s
      rw [hcan] at k95
      repeat' (first|refine st_reg rfl (by first|(simp only[go_sem,length_map];rfl)|rfl) (by first|(simp only[go_sem,length_map];rfl)|rfl) ?_|refine st_seq_draw rfl (by first|(simp only[go_sem,length_map];rfl)|rfl) (by first|(simp only[go_sem,length_map];rfl)|rfl) ?_|refine st_op ?_|refine st_det rfl (by simp (disch:=omega) only[go_sem,wr_i64,if_yes,if_no,↓reduceIte,reduceAdd,reduceMul,reduceEqDiff,Nat.reduceBEq,reduceLeDiff,length_map];rfl) ?_|refine st_dop rfl ?_|(refine st_pureE (by first|(simp (disch:=omega) only[go_sem,length_map];rfl)|rfl) rfl (k95) (by first|(simp only[go_sem,length_map];rfl)|rfl) (by intro n;first|(simp (disch:=omega) only[go_sem];rfl)|rfl) ?_;intro n hn)|(refine st_callf rfl rfl (c46h q (by omega) _) ?_;rintro v h' ⟨hS3,hat3,hlp3,hck3⟩)|refine st_dgT rfl rfl rfl rfl ?_|refine st_dgF rfl rfl rfl ?_|(refine st_dgS rfl rfl ?_ ?_ <;> intro hg <;> (try simp only[decide_eq_true_eq,decide_eq_false_iff_not,Bool.not_eq_true',Bool.not_eq_false'] at hg))|refine st_condT rfl ?_|refine st_condF rfl ?_|refine st_nil ?_|refine st_dnil ?_|refine st_tN ?_|refine st_seq ?_|refine st_block ?_|refine st_skip ?_|refine st_exit ?_|refine st_tE ?_|refine st_bN ?_|refine st_bH ?_)
      all_goals try (exfalso;omega)
      have hS4:SlA h.clk h' v 2 (q.map Sf.row):=hS3.weak (by (try simp only[go_sem]);omega)
      have hnv:=hS4.noL
      have hck4:n+1≤h'.clk:=hck3
      repeat' (first|refine st_dop rfl ?_|(refine st_appS (by intro h id x y;simp only[go_sem];rfl) rfl (by simp only[go_sem,length_map,hnv];rfl) (by first|(simp only[go_sem,length_map,hnv];rfl)|rfl) (by decide) hS4 (fun _ _ _=>rfl) (by omega) (by simp only[length_map,List.length_cons,List.length_nil,big,length_map,hnv];omega) (by omega) (by omega) ?_;intro v' g' hA))
      all_goals try (exfalso;omega)
      rcases hA.sl with ⟨e1,e2⟩|⟨b1,e1,q1,q2,q3⟩
      · exfalso;simp at e2
      obtain ⟨q2l,hq2⟩:∃ q2l:List Sf,q2l=q ++ [⟨(w:Int),(day:Int)⟩]:=⟨_,rfl⟩
      have hq2m:q.map Sf.row ++ [[.int .i64 w,.int .i64 day]]=q2l.map Sf.row:=by rw [hq2,List.map_append];rfl
      have hq2n:q2l.length+f=S.js.length:=by rw [hq2];simp;omega
      have e1':v'=.slc b1 2 0 q2l.length:=by rw [e1];simp [hq2]
      subst e1'
      have q1':g'.at_ b1=some ⟨2,q2l.map Sf.row⟩:=by rw [← hq2m];exact q1
      have ihq:=ih q2l hq2n
      have hfz:=frz_beat S q2l best t last b1
      have hK:∀ N,h.clk≤N→Kq h ((g'.put b1 none).tick N):=fun N hN=>⟨fun b hb=>(put_ne _ _ (fun e=>by rw [e] at hb;omega)).trans ((hA.old b hb).trans ((hat3 b (by (try simp only[go_sem]);omega)).trans (hk3.at_ b hb))),hA.lp.trans (hlp3.trans hk3.lp),hN⟩
      clear hA
      repeat' (first|refine st_reg rfl (by first|(simp only[go_sem];rfl)|rfl) (by first|(simp only[go_sem];rfl)|rfl) ?_|refine st_op ?_|refine st_det rfl (by simp (disch:=omega) only[go_sem,wr_i64,if_yes,if_no,↓reduceIte,reduceAdd,reduceMul,reduceEqDiff,Nat.reduceBEq,reduceLeDiff];rfl) ?_|(refine st_callf (args:=[S.av,.slc b1 2 0 q2l.length,.lst 2 (best.map Sf.row),.int .i64 t,.int .i64 last]) rfl rfl (ACalls.frzIn (b:=b1) (k:=⟨2,q2l.map Sf.row⟩) q1' hfz (ihq _)) ?_;rintro v2 h2 ⟨⟨n5,hn5,rfl⟩,rfl⟩)|refine st_condF rfl ?_|refine st_nil ?_|refine st_dnil ?_|refine st_tN ?_|refine st_skip ?_|refine st_bN ?_)
      all_goals try (exfalso;omega)
      have hn6:h'.clk≤n5:=hn5
      refine ⟨(day+1,_),(by exact ⟨by show ((day+1:Nat):Int)≤100001;omega,hK _ (by (try simp only[go_sem]);omega)⟩),(by show 100002 - (day+1) < 100002 - day;omega),(by repeat' (first|exact trivial|refine And.intro ?_ ?_|rfl|(simp (disch:=omega) only[go_sem,if_yes,if_no,↓reduceIte,reduceAdd,reduceMul,reduceEqDiff,Nat.reduceBEq,reduceLeDiff];rfl)|(simp (disch:=omega) only[go_sem,if_yes,if_no,↓reduceIte,reduceAdd,reduceMul,reduceEqDiff,Nat.reduceBEq,reduceLeDiff]))),(by repeat' (first|exact trivial|refine And.intro ?_ ?_|rfl|(simp (disch:=omega) only[go_sem,if_yes,if_no,↓reduceIte,reduceAdd,reduceMul,reduceEqDiff,Nat.reduceBEq,reduceLeDiff];rfl)|(simp (disch:=omega) only[go_sem,if_yes,if_no,↓reduceIte,reduceAdd,reduceMul,reduceEqDiff,Nat.reduceBEq,reduceLeDiff]))),rfl,HOld.refl _⟩
end Go.Proofs.YtaijkalhkgjakaaDoor

namespace Go.Proofs.YtaijkalhkgjakaaDoor
open Go.Av
def sm (f:Nat→Int):Nat→Int
  | 0=>0
  | n+1=>sm f n+f n
theorem sm_le {f g:Nat→Int}:∀ {n:Nat},(∀ i,i < n→f i≤g i)→sm f n≤sm g n:=by
  intro n
  induction n with
  | zero=>intro _;exact Int.le_refl _
  | succ n ih =>
    intro h
    have:=ih fun i hi=>h i (by omega)
    have:=h n (by omega)
    simp only[sm];omega
theorem sm_congr {f g:Nat→Int} {n:Nat} (h:∀ i,i < n→f i=g i):sm f n=sm g n :=
  Int.le_antisymm (sm_le fun i hi=>Int.le_of_eq (h i hi)) (sm_le fun i hi=>Int.le_of_eq (h i hi).symm)
theorem sm_add (f g:Nat→Int):∀ n,sm (fun i=>f i+g i) n=sm f n+sm g n:=by
  intro n
  induction n with
  | zero=>rfl
  | succ n ih=>simp only[sm,ih];omega
theorem sm_const (c:Int):∀ n:Nat,sm (fun _=>c) n=n * c:=by
  intro n
  induction n with
  | zero=>simp [sm]
  | succ n ih =>
    simp only[sm,ih]
    have:((n+1:Nat):Int) * c=n * c+c:=by rw [show ((n+1:Nat):Int)=(n:Int)+1 by omega,Int.add_mul,Int.one_mul]
    omega
theorem sm_zero (n:Nat):sm (fun _=>0) n=0:=by rw [sm_const];simp
theorem sm_swap (F:Nat→Nat→Int) (m:Nat):∀ n,sm (fun i=>sm (F i) m) n=sm (fun j=>sm (fun i=>F i j) n) m:=by
  intro n
  induction n with
  | zero=>simp only[sm];rw [sm_zero]
  | succ n ih=>simp only[sm];rw [ih,sm_add]
theorem sm_at {w:Nat} (c:Int):∀ {n:Nat},w < n→sm (fun j=>if w=j then c else 0) n=c:=by
  intro n
  induction n with
  | zero=>intro h;omega
  | succ n ih =>
    intro h
    simp only[sm]
    by_cases e:w=n
    · subst e
      rw [sm_congr (g:=fun _=>0) fun i hi=>if_neg (by omega),sm_zero,if_pos rfl];omega
    · rw [ih (by omega),if_neg e];omega
theorem sm_one {y:Nat→Int}:∀ {n:Nat},(∀ i,i < n→y i=0 ∨ y i=1)→(∀ k i,k < i→i < n→y k=1→y i=1→False)→sm y n≤1:=by
  intro n
  induction n with
  | zero=>intro _ _;simp [sm]
  | succ n ih =>
    intro h1 h2
    simp only[sm]
    rcases h1 n (by omega) with e|e
    · have:=ih (fun i hi=>h1 i (by omega)) (fun k i hk hi=>h2 k i hk (by omega));omega
    · rw [sm_congr (g:=fun _=>0) fun i hi=>(h1 i (by omega)).resolve_right fun e2=>h2 i n hi (by omega) e2 e,sm_zero];omega
theorem sm_span {a b:Int} (h0:0≤a) (hab:a≤b):∀ n:Nat,sm (fun t=>if a≤(t:Int)∧(t:Int) < b then 1 else 0) n=if (n:Int)≤a then 0 else if (n:Int)≤b then n - a else b - a:=by
  intro n
  induction n with
  | zero=>simp only[sm];rw [if_pos (by omega)]
  | succ n ih =>
    simp only[sm,ih]
    by_cases h1:(n:Int)+1≤a
    · rw [if_pos (by omega),if_neg (by omega),if_pos (by omega)];omega
    · by_cases h2:(n:Int)+1≤b
      · rw [if_pos (c:=a≤(n:Int)∧(n:Int) < b) (by omega),if_neg (c:=((n+1:Nat):Int)≤a) (by omega),if_pos (c:=((n+1:Nat):Int)≤b) (by omega)]
        split
        · omega
        · rw [if_pos (by omega)];omega
      · rw [if_neg (c:=a≤(n:Int)∧(n:Int) < b) (by omega),if_neg (c:=((n+1:Nat):Int)≤a) (by omega),if_neg (c:=((n+1:Nat):Int)≤b) (by omega)]
        split
        · omega
        · split <;> omega
theorem wsum_sm (js:List Jb) (set:Nat):∀ n,wsum js set n=sm (fun i=>if inSet (jOf js i).s set then (jOf js i).d else 0) n:=by
  intro n
  induction n with
  | zero=>rfl
  | succ n ih=>simp only[wsum,sm,ih]
theorem hcnt_sm (ws:List Wk) (set:Nat):∀ n,hcnt ws set n=sm (fun w=>if (wOf ws w).has set then 1 else 0) n:=by
  intro n
  induction n with
  | zero=>rfl
  | succ n ih=>simp only[hcnt,sm,ih]
def act (S:Sp) (p:List Sf) (i:Nat) (t:Nat):Int:=if (pAt p i).d≤(t:Int)∧(t:Int) < (pAt p i).d+(S.j i).d then 1 else 0
theorem VP.manned {S:Sp} {p:List Sf} (h:VP S p):Manned S:=fun i hi=>by
  obtain ⟨a,b,c,_⟩:=h.w i hi
  exact ⟨(pAt p i).w.toNat,by omega,c⟩
theorem VP.act_sum {S:Sp} (hS:S.Ok) {p:List Sf} (h:VP S p) {i:Nat} (hi:i < S.js.length):sm (act S p i) (takesP S p).toNat=(S.j i).d:=by
  have hd:=hS.d i hi
  have e:S.sch.d i=(S.j i).d:=rfl
  obtain ⟨_,_,_,h0,_⟩:=h.w i hi
  have h1:=takesTo_ge (js:=S.js) (p:=p) hi
  have h2:takesTo S.js p S.js.length=takesP S p:=rfl
  have e3:jOf S.js i=S.j i:=rfl
  rw [e3,h2] at h1
  have:=sm_span (a:=(pAt p i).d) (b:=(pAt p i).d+(S.j i).d) h0 (by omega) (takesP S p).toNat
  unfold act
  rw [this,if_neg (by omega)]
  split <;> omega
theorem VP.act_le {S:Sp} (hS:S.Ok) {p:List Sf} (h:VP S p) (set t:Nat):sm (fun i=>if inSet (S.j i).s set then act S p i t else 0) S.js.length≤hcnt S.ws set S.ws.length:=by
  have e1:sm (fun i=>if inSet (S.j i).s set then act S p i t else 0) S.js.length=sm (fun i=>sm (fun w=>if (pAt p i).w.toNat=w then (if inSet (S.j i).s set then act S p i t else 0) else 0) S.ws.length) S.js.length :=
    sm_congr fun i hi=>by
      obtain ⟨a,b,_⟩:=h.w i hi
      rw [sm_at _ (by omega)]
  rw [e1,sm_swap,hcnt_sm]
  refine sm_le fun w hw=>?_
  have h01:∀ i,act S p i t=0 ∨ act S p i t=1:=fun i=>by unfold act;split <;> simp
  cases hh:(wOf S.ws w).has set with
  | false =>
    rw [sm_congr (g:=fun _=>0),sm_zero]
    · simp
    · intro i hi
      split
      · rename_i e
        split
        · rename_i hs
          obtain ⟨a,b,c,_⟩:=h.w i hi
          have hj:=hS.j hi
          have:=inSet_has ⟨hj.2.2.1,hj.2.2.2.1⟩ hs c
          have e3:S.wk (pAt p i).w.toNat=wOf S.ws w:=by rw [e];rfl
          rw [e3,hh] at this;cases this
        · rfl
      · rfl
  | true =>
    rw [if_pos rfl]
    refine sm_one (fun i hi=>?_) (fun k i hk hi e1 e2=>?_)
    · split
      · split
        · exact h01 i
        · exact .inl rfl
      · exact .inl rfl
    · split at e1
      · split at e1
        · split at e2
          · split at e2
            · rename_i w1 _ w2 _
              have hkl:=Nat.lt_trans hk hi
              have a1:=(h.w i hi).1
              have a2:=(h.w k hkl).1
              have:=h.clash k i hk hi (by omega)
              unfold act at e1 e2
              split at e1
              · split at e2
                · omega
                · omega
              · omega
            · omega
          · omega
        · omega
      · omega
theorem VP.wsum_le {S:Sp} (hS:S.Ok) {p:List Sf} (h:VP S p) (set:Nat):wsum S.js set S.js.length≤(takesP S p).toNat * hcnt S.ws set S.ws.length:=by
  rw [wsum_sm]
  have e1:sm (fun i=>if inSet (jOf S.js i).s set then (jOf S.js i).d else 0) S.js.length=sm (fun i=>sm (fun t=>if inSet (S.j i).s set then act S p i t else 0) (takesP S p).toNat) S.js.length :=
    sm_congr fun i hi=>by
      have e:jOf S.js i=S.j i:=rfl
      rw [e]
      split
      · rw [h.act_sum hS hi]
      · rw [sm_zero]
  rw [e1,sm_swap,← sm_const]
  exact sm_le fun t _=>h.act_le hS set t
theorem ceilD_le {n m:Int} {M:Nat} (hn:0≤n) (hm:1≤m) (h:n≤M * m):ceilD n m≤M:=by
  unfold ceilD
  rw [Int.tdiv_eq_ediv_of_nonneg (by omega)]
  have:(n+m - 1) / m < (M:Int)+1:=Int.ediv_lt_of_lt_mul (by omega) (by rw [Int.add_mul,Int.one_mul];omega)
  omega
theorem VP.fsum_le {S:Sp} {p:List Sf} (h:VP S p) (f:Int):∀ n,n≤S.js.length→fsum S.js f n=0 ∨ ∃ i,i < n∧(S.j i).f=f∧fsum S.js f n≤(pAt p i).d+(S.j i).d:=by
  intro n
  induction n with
  | zero=>intro _;exact .inl rfl
  | succ n ih =>
    intro hn
    simp only[fsum]
    by_cases e:(jOf S.js n).f=f
    · rw [if_pos e]
      right
      refine ⟨n,by omega,e,?_⟩
      have e3:jOf S.js n=S.j n:=rfl
      rw [e3]
      obtain ⟨_,_,_,h0,_⟩:=h.w n (by omega)
      rcases ih (by omega) with e2|⟨i,hi,hf,hle⟩
      · omega
      · have:=h.ord i n hi (by omega) (by rw [hf];exact e.symm)
        omega
    · rw [if_neg e,Int.add_zero]
      rcases ih (by omega) with e2|⟨i,hi,hf,hle⟩
      · exact .inl e2
      · exact .inr ⟨i,by omega,hf,hle⟩
theorem VP.bound {S:Sp} (hS:S.Ok) {p:List Sf} (h:VP S p):boundD S≤takesP S p:=by
  have h0:0≤takesP S p:=takesTo_nonneg _
  have hM:=h.manned
  have hb:∀ b,b≤takesP S p→∀ k,bndD S b k≤takesP S p:=by
    intro b hb k
    induction k with
    | zero=>exact hb
    | succ k ih =>
      rw [bndD]
      split
      · rename_i hw
        have h1:=hM.hands hS hw
        have:=ceilD_le (by omega) h1 (h.wsum_le hS k)
        omega
      · exact ih
  refine hb _ ?_ 8
  have hmem:=maxL_mem (l:=(List.range 7).map fun f=>fsum S.js (f:Nat) S.js.length) (by simp [List.range,List.range.loop])
  rw [List.mem_map] at hmem
  obtain ⟨f,_,hf⟩:=hmem
  rw [← hf]
  rcases h.fsum_le (f:Nat) S.js.length (Nat.le_refl _) with e|⟨i,hi,_,hle⟩
  · omega
  · have:=takesTo_ge (js:=S.js) (p:=p) hi
    have e3:jOf S.js i=S.j i:=rfl
    have h2:takesTo S.js p S.js.length=takesP S p:=rfl
    rw [e3,h2] at this
    omega
theorem seqT_le {S:Sp} (hS:S.Ok):∀ {k:Nat},k≤S.js.length→seqT S k≤30 * k:=by
  intro k
  induction k with
  | zero=>intro _;exact Int.le_refl _
  | succ k ih =>
    intro hk
    have:=ih (by omega)
    have hj:=hS.j (show k < S.js.length by omega)
    unfold Jb.Ok at hj
    simp only[seqT];omega
end Go.Proofs.YtaijkalhkgjakaaDoor

namespace Go.Proofs.YtaijkalhkgjakaaDoor
open Go.Av
attribute [local irreducible] thenA blockA awp awpOps awpD awp1
set_option maxHeartbeats 8000000
set_option maxRecDepth 20000
theorem best_seq {S:Sp} (hS:S.Ok) (hM:Manned S):(bestD S).2≤seqT S S.js.length:=by
  classical
  have h7:=hS.n7
  have hM':∀ i,i < S.js.length→∃ w,w < S.ws.length∧(S.wk w).can (S.j i).s=true:=hM
  let W:Nat→Nat:=fun i=>if hi:i < S.js.length then (hM' i hi).choose else 0
  have hW:∀ i,i < S.js.length→W i < S.ws.length∧(S.wk (W i)).can (S.j i).s=true:=by
    intro i hi
    simp only[W,dif_pos hi]
    exact (hM' i hi).choose_spec
  have hpt:∀ i,i < S.js.length→pAt (tgt W (seqT S) S.js.length) i=⟨W i,seqT S i⟩:=fun i hi=>pAt_tgt hi
  have hv:VP S (tgt W (seqT S) S.js.length):=by
    refine ⟨by simp [tgt],fun i hi=>?_,fun k i hki hi _=>?_,fun k i hki hi _=>.inl ?_⟩
    · rw [hpt i hi]
      have:=seqT_le hS (Nat.le_of_lt hi)
      have:=seqT_nonneg hS (Nat.le_of_lt hi)
      obtain ⟨a,b⟩:=hW i hi
      exact ⟨by dsimp only;omega,by dsimp only;omega,by simpa using b,by dsimp only;omega,by dsimp only;omega⟩
    all_goals
      rw [hpt i hi,hpt k (Nat.lt_trans hki hi)]
      exact seqT_mono hS (Nat.le_of_lt hi) hki
  have ht:takesP S (tgt W (seqT S) S.js.length)≤seqT S S.js.length:=by
    rcases takesTo_cases (js:=S.js) (p:=tgt W (seqT S) S.js.length) S.js.length with e|⟨i,hi,e⟩
    · unfold takesP;rw [e];exact seqT_nonneg hS (Nat.le_refl _)
    · unfold takesP;rw [e,hpt i hi]
      exact seqT_mono hS (Nat.le_refl _) hi
  have:=(bestD_ok hS hM).best _ hv
  omega
theorem seqT_two {S:Sp} {W J:Int} (hG:ShGood S W J 2):∀ {k:Nat},k≤S.js.length→seqT S k≤2 * k:=by
  intro k
  induction k with
  | zero=>intro _;exact Int.le_refl _
  | succ k ih =>
    intro hk
    have:=ih (by omega)
    have hj:=hG.job (S.j k) (by
      have hk':k < S.js.length:=by omega
      have e:S.j k=S.js[k]:=by simp [Sp.j,jOf,List.getD_eq_getElem?_getD,hk']
      rw [e];exact List.getElem_mem hk')
    simp only[seqT];omega
theorem law9 (l:List Int) (hl:(l.length:Int)≤9223372036854775807):LawG gB Tryd.prog 9 [.lst 1 (l.map iv)]:=by
  intro h hgl
  refine ACalls.of tab mixed Tryd.call9 Tryd.func9 rfl (fi:=⟨70,[3],[],none,[]⟩) rfl rfl (Nat.le_of_ble_eq_true rfl) (by decide) ?_
  unfold startA
  try simp only[go_sem]
  repeat' (first|refine st_seq_reg rfl (by first|(simp only[go_sem];rfl)|rfl) (by first|(simp only[go_sem];rfl)|rfl) ?_|refine st_op ?_|refine st_det rfl (by simp (disch:=omega) only[go_sem,wr_i64,if_yes,if_no,↓reduceIte,reduceAdd,reduceMul,reduceEqDiff,Nat.reduceBEq,reduceLeDiff];rfl) ?_|refine st_loc rfl (by simp (disch:=omega) only[go_sem,wr_i64,if_yes,if_no,↓reduceIte,reduceAdd,reduceMul,reduceEqDiff,Nat.reduceBEq,reduceLeDiff];rfl) ?_|refine st_store (by simp (disch:=omega) only[go_sem,wr_i64,if_yes,if_no,↓reduceIte,reduceAdd,reduceMul,reduceEqDiff,Nat.reduceBEq,reduceLeDiff];rfl) ?_|(refine st_callf rfl rfl (ACalls.keepGl (c15 l hl _)) ?_;rintro v h' ⟨hgl1,b,x,n,rfl,hb1,hb2,hu0,rfl⟩)|(refine st_drum (by first|(simp (disch:=omega) only[go_sem];rfl)|rfl) rfl (c14 b 2 4 2 (by decide) (by decide) (by decide)) (by first|(simp (disch:=omega) only[go_sem];rfl)|rfl) (by assumption) (by first|(simp only[go_sem];rfl)|rfl) (by intro x' n;first|(simp (disch:=omega) only[go_sem];rfl)|rfl) ?_;rintro v x' n hu' ⟨S,rfl,hG⟩ hn)|refine st_nil ?_)
  have hS:=hG.ok (by decide) (by decide) (by decide)
  have hgl2:h.gl=gB:=hgl
  have k17:=c17 S
  have k13:=c13
  have h7:=hS.n7
  cases hM:lackD S with
  | true =>
    have k49:=c49 S
    rw [bestV_no hS hM] at k17
    have e49:bndV S=(0,7):=by unfold bndV;rw [if_neg (fun q=>q (shop_zero hS)),if_pos hM]
    rw [e49] at k49
    repeat' (first|refine st_seq_reg rfl (by first|(simp only[go_sem];rfl)|rfl) (by first|(simp only[go_sem];rfl)|rfl) ?_|refine st_op ?_|refine st_det rfl (by simp (disch:=omega) only[go_sem,wr_i64,if_yes,if_no,↓reduceIte,reduceAdd,reduceMul,reduceEqDiff,Nat.reduceBEq,reduceLeDiff];rfl) ?_|(refine st_pureGE (by first|(simp (disch:=omega) only[go_sem];rfl)|rfl) rfl (k17) (by exact hgl) (by first|(simp only[go_sem];rfl)|rfl) (by intro n;first|(simp (disch:=omega) only[go_sem];rfl)|rfl) ?_;intro n hn)|(refine st_pureGE (by first|(simp (disch:=omega) only[go_sem];rfl)|rfl) rfl (k49) (by exact hgl) (by first|(simp only[go_sem];rfl)|rfl) (by intro n;first|(simp (disch:=omega) only[go_sem];rfl)|rfl) ?_;intro n hn)|(refine st_pureGE (by first|(simp (disch:=omega) only[go_sem];rfl)|rfl) rfl (k13) (by exact hgl) (by first|(simp only[go_sem];rfl)|rfl) (by intro n;first|(simp (disch:=omega) only[go_sem];rfl)|rfl) ?_;intro n hn)|refine st_gT rfl rfl rfl ?_|refine st_condT rfl ?_|refine st_nil ?_|refine st_seq ?_|refine st_ret ?_|refine st_tR ?_)
    all_goals try (exfalso;omega)
    simp (disch:=omega) only[AEnd,Tryd.results9,aresK,fin,go_sem,↓reduceIte,reduceEqDiff,reduceAdd,reduceLeDiff,if_yes,if_no,implies_true,true_and,and_true,List.reverse_cons,List.reverse_nil]
  | false =>
    have hMn:=(lack_iff hS).1 hM
    have hB:=bestD_ok hS hMn
    have hq1:=best_seq hS hMn
    have hq2:=seqT_two hG (Nat.le_refl _)
    have hq3:=hG.j
    have hq4:0≤(bestD S).2:=by rw [hB.takes];exact takesTo_nonneg _
    rw [bestV_yes hS hM] at k17
    have k47:=c47 S (bestD S).1 (by rw [hB.vp.len];omega)
    have e47:takV S (bestD S).1=((bestD S).2,0):=by rw [takV_ok (shop_zero hS) ((chkP_vp hS).2 hB.vp),hB.takes]
    rw [e47] at k47
    have k52:=c52 S hS (bestD S).1 (bestD S).2 hB (max 0 ((bestD S).2 - 1)) (by omega) S.js.length [] (by simp)
    have k52:Pure Tryd.prog 52 [S.av,.nils,.lst 2 ((bestD S).1.map Sf.row),.int .i64 (bestD S).2,.int .i64 (max 0 ((bestD S).2 - 1))] (fun v=>v=.bool false):=fun g=>(k52 g).argLe (by simp only[VLes];exact ⟨_,_,rfl,.refl _,_,_,rfl,VLe.nils 2,_,_,rfl,.refl _,_,_,rfl,.refl _,_,_,rfl,.refl _,rfl⟩)
    repeat' (first|refine st_seq_reg rfl (by first|(simp only[go_sem];rfl)|rfl) (by first|(simp only[go_sem];rfl)|rfl) ?_|refine st_op ?_|refine st_det rfl (by simp (disch:=omega) only[go_sem,wr_i64,if_yes,if_no,↓reduceIte,reduceAdd,reduceMul,reduceEqDiff,Nat.reduceBEq,reduceLeDiff];rfl) ?_|(refine st_pureGE (by first|(simp (disch:=omega) only[go_sem];rfl)|rfl) rfl (k17) (by exact hgl) (by first|(simp only[go_sem];rfl)|rfl) (by intro n;first|(simp (disch:=omega) only[go_sem];rfl)|rfl) ?_;intro n hn)|(refine st_pureGE (by first|(simp (disch:=omega) only[go_sem];rfl)|rfl) rfl (k47) (by exact hgl) (by first|(simp only[go_sem];rfl)|rfl) (by intro n;first|(simp (disch:=omega) only[go_sem];rfl)|rfl) ?_;intro n hn)|(refine st_pureE (by first|(simp (disch:=omega) only[go_sem];rfl)|rfl) rfl (k52) (by first|(simp only[go_sem];rfl)|rfl) (by intro n;first|(simp (disch:=omega) only[go_sem];rfl)|rfl) ?_;intro n hn)|(refine st_pureGE (by first|(simp (disch:=omega) only[go_sem];rfl)|rfl) rfl (k13) (by exact hgl) (by first|(simp only[go_sem];rfl)|rfl) (by intro n;first|(simp (disch:=omega) only[go_sem];rfl)|rfl) ?_;intro n hn)|refine st_gT rfl rfl rfl ?_|refine st_gF rfl rfl rfl ?_|(refine st_gS rfl rfl ?_ ?_ <;> intro hg <;> (try simp only[decide_eq_true_eq,decide_eq_false_iff_not,Bool.not_eq_true',Bool.not_eq_false'] at hg))|refine st_condF rfl ?_|refine st_nil ?_|refine st_tN ?_|refine st_seq ?_|refine st_skip ?_|refine st_ret ?_)
    all_goals try (exfalso;omega)
    simp (disch:=omega) only[AEnd,Tryd.results9,aresK,fin,go_sem,↓reduceIte,reduceEqDiff,reduceAdd,reduceLeDiff,if_yes,if_no,implies_true,true_and,and_true,List.reverse_cons,List.reverse_nil]
end Go.Proofs.YtaijkalhkgjakaaDoor

namespace Go.Proofs.YtaijkalhkgjakaaDoor
open Go.Av
attribute [local irreducible] Shp
set_option maxRecDepth 20000
def I64 (n:Int):Prop:=-9223372036854775808≤n∧n≤9223372036854775807
theorem shpInt {d:Nat} {vs:List AV} (h:Shp Tryd.prog (d+1) 3 vs):∃ n,vs=[.int .i64 n]∧I64 n:=by
  obtain ⟨n,e,hw⟩:=shp_int Tryd.underlying3 h
  exact ⟨n,e,wf_i64 hw⟩
theorem shpNums {d:Nat} {vs:List AV} (h:Shp Tryd.prog (d+2) 26 vs):∃ l:List Int,vs=[.lst 1 (l.map iv)]∧l.length≤maxLen:=by
  obtain ⟨l,e,h1,_⟩:=shp_slice (f:=iv) (q:=fun _=>True) Tryd.underlying26 (show Tryd.prog.cellsOf 3=1 by kernel_rfl) h fun r hr=>by
    obtain ⟨x,e,_⟩:=shpInt hr
    exact ⟨x,e,trivial⟩
  exact ⟨l,e,h1⟩
end Go.Proofs.YtaijkalhkgjakaaDoor
