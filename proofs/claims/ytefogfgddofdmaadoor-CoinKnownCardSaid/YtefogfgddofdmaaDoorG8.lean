/- Contracts of functions that the claim reaches: what each call gives, told in our own logic. Conditions: those of each theorem. -/
import Derived.Test.YtefogfgddofdmaaDoorP2
open List (length_map)
set_option linter.all false
set_option linter.unusedSimpArgs false
set_option linter.unusedVariables false
namespace Go.Proofs.YtefogfgddofdmaaDoor
open Go.Av
attribute [local irreducible] thenA blockA awp awpOps awpD awp1
attribute [local go_sem_proc] Nat.reduceAdd Nat.reduceMul Nat.reduceEqDiff Nat.reduceBEq Nat.reduceLeDiff
attribute [local go_sem_proc ↓] reduceIte
attribute [local go_sem] if_yes if_no
set_option maxHeartbeats 8000000
set_option maxRecDepth 20000
def rowA (r:List Int):List AV:=[.lst 1 (r.map iv)]
def trcR (l:Lg) (v:AV):Prop :=
 if chkE l ≠ 0 then v=.tup [.nils,.int .i64 (chkE l)] else
 if prf l ≠ none then v=.tup [.nils,.int .i64 4] else v=.tup [.lst 1 ((traceL l).map rowA),.int .i64 0]
structure TrS where
 i:Nat
 t:Nat
 bb:Nat × Nat
def TrS.rows (l:Lg) (a:TrS):List (List AV):=(List.range a.i).map fun j=>rowA (rowN l j)
def TrS.sl (a:TrS):AV:=if a.i=0 then .nils else .slc a.bb 1 0 a.i
def TrS.hp (l:Lg) (h:AH) (a:TrS):AH:=if a.i=0 then h.tick a.t else (h.tick a.t).put a.bb (some ⟨1,a.rows l⟩)
theorem TrS.sl_succ (i t:Nat) (bb:Nat × Nat):TrS.sl ⟨i+1,t,bb⟩=.slc bb 1 0 (i+1):=if_neg (by show ¬ i+1=0;omega)
theorem TrS.rows_succ (l:Lg) (i t t':Nat) (bb bb':Nat × Nat):TrS.rows l ⟨i+1,t,bb⟩=TrS.rows l ⟨i,t',bb'⟩ ++ [rowA (rowN l i)]:=by
 unfold TrS.rows;dsimp only;rw [List.range_succ,List.map_append];rfl
theorem hold_tr {l:Lg} {h H':AH} {i t:Nat} {bb:Nat × Nat} (ha:∀ b k,h.at_ b=some k→b.1 < h.clk) (hb:h.clk≤bb.1) (h1:H'.at_ bb=some ⟨1,TrS.rows l ⟨i+1,t,bb⟩⟩) (h2:∀ b,b.1 < h.clk→H'.at_ b=h.at_ b) (h3:H'.lp=h.lp) (h4:t≤H'.clk) (h5:h.gl=H'.gl) :
  HOld (TrS.hp l h ⟨i+1,t,bb⟩) H':=by
 have e:TrS.hp l h ⟨i+1,t,bb⟩=(h.tick t).put bb (some ⟨1,TrS.rows l ⟨i+1,t,bb⟩⟩):=if_neg (by show ¬ i+1=0;omega)
 rw [e]
 refine ⟨fun b k hz=>?_,fun x r hr=>by rw [h3];exact hr,h4,by simp only[go_sem];exact h5⟩
 simp only[go_sem] at hz
 by_cases e:b=bb
 ·rw [if_pos e] at hz;rw [e,h1];exact hz
 ·rw [if_neg e] at hz;rw [h2 b (ha b k hz)];exact hz
theorem c7 (l:Lg):Pure Tryd.prog 7 [l.av] (trcR l):=by
 refine Pure.give Tryd.call7 fun h hall=>?_
 by_cases h0:chkE l=0
 case neg =>
  have k27:=c6 l
  refine ACalls.of tab mixed Tryd.call7 Tryd.func7 rfl (fi:=⟨112,[7,10,14],[1,108,1000029,1000030],none,[]⟩) rfl rfl (Nat.le_of_ble_eq_true rfl) (by decide) ?_
  unfold startA
  simp only[go_sem]
  repeat' (first|refine st_seq_reg rfl (by first|(simp only[go_sem];rfl)|rfl) (by first|(simp only[go_sem];rfl)|rfl) ?_|refine st_reg rfl (by first|(simp only[go_sem];rfl)|rfl) (by first|(simp only[go_sem];rfl)|rfl) ?_|refine st_op ?_|refine st_det rfl (by simp (disch:=omega) only[go_sem,wr_i64];rfl) ?_|refine st_loc rfl (by simp (disch:=omega) only[go_sem,wr_i64];rfl) ?_|refine st_heap rfl (by simp (disch:=omega) only[go_sem,wr_i64];rfl) ?_|refine st_store (by simp (disch:=omega) only[go_sem,wr_i64];rfl) ?_|refine st_append (by simp (disch:=omega) only[go_sem,wr_i64];rfl) ?_|refine st_copy (by simp (disch:=omega) only[go_sem,wr_i64];rfl) ?_|(refine st_pureE (by first|(simp (disch:=omega) only[go_sem];rfl)|rfl) rfl (k27) (by first|(simp only[go_sem];rfl)|rfl) (by intro n;first|(simp (disch:=omega) only[go_sem];rfl)|rfl) ?_;intro n hn)|refine st_gT rfl rfl rfl ?_|refine st_gF rfl rfl rfl ?_|(refine st_gS rfl rfl ?_ ?_ <;> intro hg <;> (try simp only[dcT,dcF,bnT,bnF] at hg))|refine st_condT rfl ?_|refine st_condF rfl ?_|(refine st_condS rfl ?_ ?_ <;> intro hg <;> (try simp only[dcT,dcF,bnT,bnF] at hg))|refine st_nil ?_|refine st_tN ?_|refine st_seq ?_|refine st_block ?_|refine st_skip ?_|refine st_exit ?_|refine st_ret ?_|refine st_tE ?_|refine st_tR ?_|refine st_bN ?_|refine st_bR ?_|refine st_bH ?_|refine st_bM rfl ?_|refine st_noN ?_|refine st_noR ?_|refine st_noE ?_|refine st_label ?_|refine st_scope tab mixed (by decide) ?_)
  ·simp (disch:=omega) only[AEnd,Tryd.results7,aresK,fin,go_sem,implies_true,true_and,and_true,List.reverse_cons,List.reverse_nil]
   refine .inl ⟨_,.refl _,?_⟩
   unfold trcR;rw [if_pos h0]
  ·exact absurd h0 hg
 have hl:=ledgerOk h0
 have k27:Pure Tryd.prog 6 [l.av] (fun v=>v=.int .i64 0):=by have:=c6 l;rw [h0] at this;exact this
 have k56:=c22 l hl
 rcases hp:prf l with _|s
 case some =>
  rw [hp] at k56
  unfold optV at k56
  refine ACalls.of tab mixed Tryd.call7 Tryd.func7 rfl (fi:=⟨112,[7,10,14],[1,108,1000029,1000030],none,[]⟩) rfl rfl (Nat.le_of_ble_eq_true rfl) (by decide) ?_
  unfold startA
  simp only[go_sem]
  repeat' (first|refine st_seq_reg rfl (by first|(simp only[go_sem];rfl)|rfl) (by first|(simp only[go_sem];rfl)|rfl) ?_|refine st_reg rfl (by first|(simp only[go_sem];rfl)|rfl) (by first|(simp only[go_sem];rfl)|rfl) ?_|refine st_op ?_|refine st_det rfl (by simp (disch:=omega) only[go_sem,wr_i64];rfl) ?_|refine st_loc rfl (by simp (disch:=omega) only[go_sem,wr_i64];rfl) ?_|refine st_heap rfl (by simp (disch:=omega) only[go_sem,wr_i64];rfl) ?_|refine st_store (by simp (disch:=omega) only[go_sem,wr_i64];rfl) ?_|refine st_append (by simp (disch:=omega) only[go_sem,wr_i64];rfl) ?_|refine st_copy (by simp (disch:=omega) only[go_sem,wr_i64];rfl) ?_|(refine st_pureE (by first|(simp (disch:=omega) only[go_sem];rfl)|rfl) rfl (k27) (by first|(simp only[go_sem];rfl)|rfl) (by intro n;first|(simp (disch:=omega) only[go_sem];rfl)|rfl) ?_;intro n hn)|(refine st_pureE (by first|(simp (disch:=omega) only[go_sem];rfl)|rfl) rfl (k56) (by first|(simp only[go_sem];rfl)|rfl) (by intro n;first|(simp (disch:=omega) only[go_sem];rfl)|rfl) ?_;intro n hn)|refine st_gT rfl rfl rfl ?_|refine st_gF rfl rfl rfl ?_|(refine st_gS rfl rfl ?_ ?_ <;> intro hg <;> (try simp only[dcT,dcF,bnT,bnF] at hg))|refine st_condT rfl ?_|refine st_condF rfl ?_|(refine st_condS rfl ?_ ?_ <;> intro hg <;> (try simp only[dcT,dcF,bnT,bnF] at hg))|refine st_nil ?_|refine st_tN ?_|refine st_seq ?_|refine st_block ?_|refine st_skip ?_|refine st_exit ?_|refine st_ret ?_|refine st_tE ?_|refine st_tR ?_|refine st_bN ?_|refine st_bR ?_|refine st_bH ?_|refine st_bM rfl ?_|refine st_noN ?_|refine st_noR ?_|refine st_noE ?_|refine st_label ?_|refine st_scope tab mixed (by decide) ?_)
  simp (disch:=omega) only[AEnd,Tryd.results7,aresK,fin,go_sem,implies_true,true_and,and_true,List.reverse_cons,List.reverse_nil]
  refine .inl ⟨_,.refl _,?_⟩
  unfold trcR;rw [if_neg (by omega),if_pos (by rw [hp];simp)]
 rw [hp] at k56
 unfold optV at k56
 have hfn:=hl.fn
 have hbn:=hl.bn
 have k57:=c23 l hfn
 refine ACalls.of tab mixed Tryd.call7 Tryd.func7 rfl (fi:=⟨112,[7,10,14],[1,108,1000029,1000030],none,[]⟩) rfl rfl (Nat.le_of_ble_eq_true rfl) (by decide) ?_
 unfold startA
 simp only[go_sem]
 repeat' (first|refine st_seq_reg rfl (by first|(simp only[go_sem,amts_len,ravN];rfl)|rfl) (by first|(simp only[go_sem,amts_len,ravN];rfl)|rfl) ?_|refine st_reg rfl (by first|(simp only[go_sem,amts_len,ravN];rfl)|rfl) (by first|(simp only[go_sem,amts_len,ravN];rfl)|rfl) ?_|refine st_op ?_|refine st_det rfl (by simp (disch:=omega) only[go_sem,wr_i64,amts_len,ravN];rfl) ?_|refine st_loc rfl (by simp (disch:=omega) only[go_sem,wr_i64,amts_len,ravN];rfl) ?_|refine st_heap rfl (by simp (disch:=omega) only[go_sem,wr_i64,amts_len,ravN];rfl) ?_|refine st_store (by simp (disch:=omega) only[go_sem,wr_i64,amts_len,ravN];rfl) ?_|refine st_append (by simp (disch:=omega) only[go_sem,wr_i64,amts_len,ravN];rfl) ?_|refine st_copy (by simp (disch:=omega) only[go_sem,wr_i64,amts_len,ravN];rfl) ?_|(refine st_pureE (by first|(simp (disch:=omega) only[go_sem,amts_len,ravN];rfl)|rfl) rfl (k27) (by first|(simp only[go_sem,amts_len,ravN];rfl)|rfl) (by intro n;first|(simp (disch:=omega) only[go_sem];rfl)|rfl) ?_;intro n hn)|(refine st_pureE (by first|(simp (disch:=omega) only[go_sem,amts_len,ravN];rfl)|rfl) rfl (k56) (by first|(simp only[go_sem,amts_len,ravN];rfl)|rfl) (by intro n;first|(simp (disch:=omega) only[go_sem];rfl)|rfl) ?_;intro n hn)|(refine st_pureE (by first|(simp (disch:=omega) only[go_sem,amts_len,ravN];rfl)|rfl) rfl (k57) (by first|(simp only[go_sem,amts_len,ravN];rfl)|rfl) (by intro n;first|(simp (disch:=omega) only[go_sem];rfl)|rfl) ?_;intro n hn)|refine st_gT rfl rfl rfl ?_|refine st_gF rfl rfl rfl ?_|(refine st_gS rfl rfl ?_ ?_ <;> intro hg <;> (try simp only[dcT,dcF,bnT,bnF] at hg))|refine st_condT rfl ?_|refine st_condF rfl ?_|(refine st_condS rfl ?_ ?_ <;> intro hg <;> (try simp only[dcT,dcF,bnT,bnF] at hg))|refine st_nil ?_|refine st_tN ?_|refine st_seq ?_|refine st_block ?_|refine st_skip ?_|refine st_exit ?_|refine st_ret ?_|refine st_tE ?_|refine st_tR ?_|refine st_bN ?_|refine st_bR ?_|refine st_bH ?_|refine st_bM rfl ?_|refine st_noN ?_|refine st_noR ?_|refine st_noE ?_|refine st_label ?_|refine st_scope tab mixed (by decide) ?_)
 refine st_loopH (α:=TrS) tab mixed [7] [_] (by repeat (first|exact trivial|refine ⟨rfl,?_⟩)) [] [] (by repeat (first|exact trivial|refine ⟨rfl,?_⟩)) (fun a=>[(34,.int .i64 (a.i:Nat)),(8,a.sl)]) [(1,_),(7,_),(32,_),(33,_)] (fun a=>[(rsN l a.i).map iA]) [] (TrS.hp l h) (fun a=>a.i≤l.bs.length∧h.clk≤a.t∧(a.i ≠ 0→h.clk≤a.bb.1∧a.bb.1 < a.t)) (fun a=>l.bs.length - a.i) (by decide) ⟨0,n,(0,0)⟩ ⟨Nat.zero_le _,by show h.clk≤n;omega,fun e=>absurd rfl e⟩ (by (try simp only[go_sem]);repeat' (first|exact trivial|refine And.intro ?_ ?_|rfl|(simp (disch:=omega) only[go_sem,if_yes,if_no,if_no];rfl)|(simp (disch:=omega) only[go_sem,if_yes,if_no,if_no]))) (by (try simp only[go_sem]);repeat' (first|exact trivial|refine And.intro ?_ ?_|rfl|(simp (disch:=omega) only[go_sem,if_yes,if_no,if_no];rfl)|(simp (disch:=omega) only[go_sem,if_yes,if_no,if_no]))) (HOld.of _ (by show n≤_;omega)) ?_
 rintro ⟨i,t,bb⟩ c ⟨i1,i2,i3⟩ hc
 dsimp only at i1 i2 i3
 obtain ⟨hrs,hok⟩:=rsN_ok hl hp i i1
 have hts:=fun (hi:i < l.bs.length)=>tsN_ok hl hi hrs hok
 generalize hG:TrS.hp l h ⟨i,t,bb⟩=G at *
 generalize hS:TrS.sl ⟨i,t,bb⟩=S at *
 generalize hR:rsN l i=rs at *
 simp only[go_sem]
 repeat' (first|refine st_seq_reg rfl (by first|(simp only[go_sem,hrs.1];rfl)|rfl) (by first|(simp only[go_sem,hrs.1];rfl)|rfl) ?_|refine st_reg rfl (by first|(simp only[go_sem,hrs.1];rfl)|rfl) (by first|(simp only[go_sem,hrs.1];rfl)|rfl) ?_|refine st_op ?_|refine st_det rfl (by simp (disch:=omega) only[go_sem,wr_i64,hrs.1];rfl) ?_|refine st_loc rfl (by simp (disch:=omega) only[go_sem,wr_i64,hrs.1];rfl) ?_|refine st_heap rfl (by simp (disch:=omega) only[go_sem,wr_i64,hrs.1];rfl) ?_|refine st_store (by simp (disch:=omega) only[go_sem,wr_i64,hrs.1];rfl) ?_|refine st_append (by simp (disch:=omega) only[go_sem,wr_i64,hrs.1];rfl) ?_|refine st_copy (by simp (disch:=omega) only[go_sem,wr_i64,hrs.1];rfl) ?_|refine st_gT rfl rfl rfl ?_|refine st_gF rfl rfl rfl ?_|(refine st_gS rfl rfl ?_ ?_ <;> intro hg <;> (try simp only[dcT,dcF,bnT,bnF] at hg))|refine st_condT rfl ?_|refine st_condF rfl ?_|(refine st_condS rfl ?_ ?_ <;> intro hg <;> (try simp only[dcT,dcF,bnT,bnF] at hg))|refine st_nil ?_|refine st_tN ?_|refine st_seq ?_|refine st_block ?_|refine st_skip ?_|refine st_exit ?_|refine st_ret ?_|refine st_tE ?_|refine st_tR ?_|refine st_bN ?_|refine st_bR ?_|refine st_bH ?_|refine st_bM rfl ?_|refine st_noN ?_|refine st_noR ?_|refine st_noE ?_|refine st_label ?_|refine st_scope tab mixed (by decide) ?_)
 ·have hi:i < l.bs.length:=by omega
  have hts:=hts hi
  refine st_loopH (α:=Nat) tab mixed [7] [_] (by repeat (first|exact trivial|refine ⟨rfl,?_⟩)) [10] [_] (by repeat (first|exact trivial|refine ⟨rfl,?_⟩)) (fun k=>[(44,.int .i64 (k:Nat)),(12,.int .i64 (tsN l i rs k).need)]) [(1,_),(7,_),(8,_),(9,_),(10,_),(11,_),(32,_),(33,_),(34,_),(42,_),(43,_)] (fun k=>[(tsN l i rs k).rs.map iA]) [_] (fun k=>(G.tick (c+5)).put (c+2,11) (some ⟨8,[(tsN l i rs k).row.map iA]⟩)) (fun k=>k≤l.fs.length) (fun k=>l.fs.length - k) (by decide) 0 (Nat.zero_le _) (by (try simp only[go_sem]);repeat' (first|exact trivial|refine And.intro ?_ ?_|rfl|(simp (disch:=omega) only[go_sem,if_yes,if_no,if_no];rfl)|(simp (disch:=omega) only[go_sem,if_yes,if_no,if_no]))) (by (try simp only[go_sem]);repeat' (first|exact trivial|refine And.intro ?_ ?_|rfl|(simp (disch:=omega) only[go_sem,if_yes,if_no,if_no];rfl)|(simp (disch:=omega) only[go_sem,if_yes,if_no,if_no]))) (HOld.refl _) ?_
  intro k c2 k1 hc2
  have htk:=hts k k1
  have hlr:=htk.rs.1
  have hlw:=htk.len
  have htr:=fun hk=>htk.n_nn hl hi (k:=k) hk
  have hts':tsN l i rs (k+1)=(tsN l i rs k).step l i k:=rfl
  generalize htt:tsN l i rs k=ts at *
  have kp:=fun hk:k < l.fs.length=>c24o hl hk hi
  simp only[go_sem] at hc2 ⊢
  repeat' (first|refine st_seq_reg rfl (by first|(simp only[go_sem,hrs.1,htk.len,htk.rs.1,Nat.zero_add];rfl)|rfl) (by first|(simp only[go_sem,hrs.1,htk.len,htk.rs.1,Nat.zero_add];rfl)|rfl) ?_|refine st_reg rfl (by first|(simp only[go_sem,hrs.1,htk.len,htk.rs.1,Nat.zero_add];rfl)|rfl) (by first|(simp only[go_sem,hrs.1,htk.len,htk.rs.1,Nat.zero_add];rfl)|rfl) ?_|refine st_op ?_|refine st_det rfl (by simp (disch:=omega) only[go_sem,wr_i64,hrs.1,htk.len,htk.rs.1,Nat.zero_add];rfl) ?_|refine st_loc rfl (by simp (disch:=omega) only[go_sem,wr_i64,hrs.1,htk.len,htk.rs.1,Nat.zero_add];rfl) ?_|refine st_heap rfl (by simp (disch:=omega) only[go_sem,wr_i64,hrs.1,htk.len,htk.rs.1,Nat.zero_add];rfl) ?_|refine st_store (by simp (disch:=omega) only[go_sem,wr_i64,hrs.1,htk.len,htk.rs.1,Nat.zero_add];rfl) ?_|refine st_append (by simp (disch:=omega) only[go_sem,wr_i64,hrs.1,htk.len,htk.rs.1,Nat.zero_add];rfl) ?_|refine st_copy (by simp (disch:=omega) only[go_sem,wr_i64,hrs.1,htk.len,htk.rs.1,Nat.zero_add];rfl) ?_|(refine st_pureE (by first|(simp (disch:=omega) only[go_sem,hrs.1,htk.len,htk.rs.1,Nat.zero_add];rfl)|rfl) rfl (kp (by omega)) (by first|(simp only[go_sem,hrs.1,htk.len,htk.rs.1,Nat.zero_add];rfl)|rfl) (by intro n;first|(simp (disch:=omega) only[go_sem];rfl)|rfl) ?_;intro n hn)|refine st_gT rfl rfl rfl ?_|refine st_gF rfl rfl rfl ?_|(refine st_gS rfl rfl ?_ ?_ <;> intro hg <;> (try simp only[dcT,dcF,bnT,bnF] at hg))|refine st_condT rfl ?_|refine st_condF rfl ?_|(refine st_condS rfl ?_ ?_ <;> intro hg <;> (try simp only[dcT,dcF,bnT,bnF] at hg))|refine st_nil ?_|refine st_tN ?_|refine st_seq ?_|refine st_block ?_|refine st_skip ?_|refine st_exit ?_|refine st_ret ?_|refine st_tE ?_|refine st_tR ?_|refine st_bN ?_|refine st_bR ?_|refine st_bH ?_|refine st_bM rfl ?_|refine st_noN ?_|refine st_noR ?_|refine st_noE ?_|refine st_label ?_|refine st_scope tab mixed (by decide) ?_)
  ·have e:tsN l i rs (k+1)=ts:=by rw [hts'];unfold TS.step;rw [hg];rfl
   refine ⟨k+1,by show k+1≤l.fs.length;omega,by show l.fs.length - (k+1) < l.fs.length - k;omega,(by (try (simp only[e,go_sem]));repeat' (first|exact trivial|refine And.intro ?_ ?_|rfl|(simp (disch:=omega) only[go_sem,if_yes,if_no,if_no];rfl)|(simp (disch:=omega) only[go_sem,if_yes,if_no,if_no]))),(by (try (simp only[e,go_sem]));repeat' (first|exact trivial|refine And.intro ?_ ?_|rfl|(simp (disch:=omega) only[go_sem,if_yes,if_no,if_no];rfl)|(simp (disch:=omega) only[go_sem,if_yes,if_no,if_no]))),rfl,by rw [e];exact HOld.tick (by simp only[go_sem];omega)⟩
  ·have hkf:k < l.fs.length:=by omega
   have hgp:=hg
   have htr:=htr hkf
   have hpw:=pow_bd l.bs.length (by omega)
   have hsh:=shl_nat l.bs.length (by omega)
   have hsi:shl .i64 1 (((i:Nat):Int)+1)=((2 ^ (i+1):Nat):Int):=shl_nat (i+1) (by omega)
   have hpi:=pow_bd (i+1) (by omega)
   have hms:∀ s:Int,mskB i s=decide (bitop .and .i64 s (((2 ^ (i+1):Nat):Int) - 1) ≠ 0):=fun s=>rfl
   have htn:ts.n l i k=minS l ts.rs i k (min ts.need (ts.rs.getD k 0)) (2 ^ l.bs.length):=rfl
   have hmr:∀ s,minS l ts.rs i k (min ts.need (ts.rs.getD k 0)) (s+1)=if skipB l i k ((s:Nat):Int) then minS l ts.rs i k (min ts.need (ts.rs.getD k 0)) s else min (minS l ts.rs i k (min ts.need (ts.rs.getD k 0)) s) (slackB l ts.rs ((s:Nat):Int)):=fun s=>rfl
   generalize 2 ^ l.bs.length=N at *
   generalize 2 ^ (i+1)=q at *
   refine st_loopC (α:=Nat) tab mixed [] [] (by repeat (first|exact trivial|refine ⟨rfl,?_⟩)) [7,10] [_,_] (by repeat (first|exact trivial|refine ⟨rfl,?_⟩)) (fun s=>[(16,.int .i64 (s:Nat)),(15,.int .i64 (minS l ts.rs i k (min ts.need (ts.rs.getD k 0)) s))]) [(1,_),(7,_),(8,_),(9,_),(10,_),(11,_),(12,_),(13,_),(32,_),(33,_),(34,_),(42,_),(43,_),(44,_)] (fun _=>[]) [_,_] (fun s=>s≤N) (fun s=>N - s) (by decide) 0 (Nat.zero_le _) (by (try simp only[go_sem]);repeat' (first|exact trivial|refine And.intro ?_ ?_|rfl|(simp (disch:=omega) only[go_sem,if_yes,if_no,if_no];rfl)|(simp (disch:=omega) only[go_sem,if_yes,if_no,if_no]))) (by (try simp only[go_sem]);repeat' (first|exact trivial|refine And.intro ?_ ?_|rfl|(simp (disch:=omega) only[go_sem,if_yes,if_no,if_no];rfl)|(simp (disch:=omega) only[go_sem,if_yes,if_no,if_no]))) (by first|(simp only[go_sem];rfl)|rfl) (by intro n;simp only[go_sem];rfl) ?_
   intro s c3 s1 hc3
   have hm0:=htr s s1
   have hm:=hmr s
   have hle:=minS_le l ts.rs i k (min ts.need (ts.rs.getD k 0)) s
   have hnd:=htk.inv.nd
   have htop:=htk.top
   have hrk:=htk.rs.2 k (by omega)
   have hsk:skipB l i k ((s:Nat):Int)=(decide (bitop .and .i64 ((s:Nat):Int) ((q:Int) - 1) ≠ 0) || !payerB l k ((s:Nat):Int)):=by unfold skipB;rw [hms]
   simp only[go_sem] at hc3 ⊢
   have kp:=c25 l k ((s:Nat):Int) hl hkf
   have ks:=c26 l ts.rs ((s:Nat):Int) hl htk.rs
   repeat' (first|refine st_seq_reg rfl (by first|(simp only[go_sem,hsh,hsi,Nat.zero_add];rfl)|rfl) (by first|(simp only[go_sem,hsh,hsi,Nat.zero_add];rfl)|rfl) ?_|refine st_reg rfl (by first|(simp only[go_sem,hsh,hsi,Nat.zero_add];rfl)|rfl) (by first|(simp only[go_sem,hsh,hsi,Nat.zero_add];rfl)|rfl) ?_|refine st_op ?_|refine st_det rfl (by simp (disch:=omega) only[go_sem,wr_i64,hsh,hsi,Nat.zero_add];rfl) ?_|refine st_loc rfl (by simp (disch:=omega) only[go_sem,wr_i64,hsh,hsi,Nat.zero_add];rfl) ?_|refine st_heap rfl (by simp (disch:=omega) only[go_sem,wr_i64,hsh,hsi,Nat.zero_add];rfl) ?_|refine st_store (by simp (disch:=omega) only[go_sem,wr_i64,hsh,hsi,Nat.zero_add];rfl) ?_|refine st_append (by simp (disch:=omega) only[go_sem,wr_i64,hsh,hsi,Nat.zero_add];rfl) ?_|refine st_copy (by simp (disch:=omega) only[go_sem,wr_i64,hsh,hsi,Nat.zero_add];rfl) ?_|(refine st_pureE (by first|(simp (disch:=omega) only[go_sem,hsh,hsi,Nat.zero_add];rfl)|rfl) rfl (kp) (by first|(simp only[go_sem,hsh,hsi,Nat.zero_add];rfl)|rfl) (by intro n;first|(simp (disch:=omega) only[go_sem];rfl)|rfl) ?_;intro n hn)|(refine st_pureE (by first|(simp (disch:=omega) only[go_sem,hsh,hsi,Nat.zero_add];rfl)|rfl) rfl (ks) (by first|(simp only[go_sem,hsh,hsi,Nat.zero_add];rfl)|rfl) (by intro n;first|(simp (disch:=omega) only[go_sem];rfl)|rfl) ?_;intro n hn)|refine st_gT rfl rfl rfl ?_|refine st_gF rfl rfl rfl ?_|(refine st_gS rfl rfl ?_ ?_ <;> intro hg <;> (try simp only[dcT,dcF,bnT,bnF] at hg))|refine st_condT rfl ?_|refine st_condF rfl ?_|(refine st_condS rfl ?_ ?_ <;> intro hg <;> (try simp only[dcT,dcF,bnT,bnF] at hg))|refine st_nil ?_|refine st_tN ?_|refine st_seq ?_|refine st_block ?_|refine st_skip ?_|refine st_exit ?_|refine st_ret ?_|refine st_tE ?_|refine st_tR ?_|refine st_bN ?_|refine st_bR ?_|refine st_bH ?_|refine st_bM rfl ?_|refine st_noN ?_|refine st_noR ?_|refine st_noE ?_|refine st_label ?_|refine st_scope tab mixed (by decide) ?_)
   ·have e:skipB l i k ((s:Nat):Int)=true:=by rw [hsk];simp [*]
    rw [e,if_pos rfl] at hm
    refine ⟨s+1,by show s+1≤N;omega,by show N - (s+1) < N - s;omega,(by (try (simp only[hm]));repeat' (first|exact trivial|refine And.intro ?_ ?_|rfl|(simp (disch:=omega) only[go_sem,if_yes,if_no,if_no];rfl)|(simp (disch:=omega) only[go_sem,if_yes,if_no,if_no]))),(by (try (simp only[hm]));repeat' (first|exact trivial|refine And.intro ?_ ?_|rfl|(simp (disch:=omega) only[go_sem,if_yes,if_no,if_no];rfl)|(simp (disch:=omega) only[go_sem,if_yes,if_no,if_no]))),rfl,HOld.tick (by simp only[go_sem];omega)⟩
   ·have e:skipB l i k ((s:Nat):Int)=true:=by rw [hsk];simp [*]
    rw [e,if_pos rfl] at hm
    refine ⟨s+1,by show s+1≤N;omega,by show N - (s+1) < N - s;omega,(by (try (simp only[hm]));repeat' (first|exact trivial|refine And.intro ?_ ?_|rfl|(simp (disch:=omega) only[go_sem,if_yes,if_no,if_no];rfl)|(simp (disch:=omega) only[go_sem,if_yes,if_no,if_no]))),(by (try (simp only[hm]));repeat' (first|exact trivial|refine And.intro ?_ ?_|rfl|(simp (disch:=omega) only[go_sem,if_yes,if_no,if_no];rfl)|(simp (disch:=omega) only[go_sem,if_yes,if_no,if_no]))),rfl,HOld.tick (by simp only[go_sem];omega)⟩
   ·have e:skipB l i k ((s:Nat):Int)=false:=by rw [hsk];simp [*]
    rw [e,if_neg (by simp)] at hm
    refine ⟨s+1,by show s+1≤N;omega,by show N - (s+1) < N - s;omega,(by (try (simp only[hm]));repeat' (first|exact trivial|refine And.intro ?_ ?_|rfl|(simp (disch:=omega) only[go_sem,if_yes,if_no,if_no];rfl)|(simp (disch:=omega) only[go_sem,if_yes,if_no,if_no]))),(by (try (simp only[hm]));repeat' (first|exact trivial|refine And.intro ?_ ?_|rfl|(simp (disch:=omega) only[go_sem,if_yes,if_no,if_no];rfl)|(simp (disch:=omega) only[go_sem,if_yes,if_no,if_no]))),rfl,HOld.tick (by simp only[go_sem];omega)⟩
   ·obtain rfl:s=N:=by omega
    have e:tsN l i rs (k+1)=⟨ts.rs.set k (ts.rs.getD k 0 - ts.n l i k),ts.need - ts.n l i k,ts.row.set k (ts.n l i k)⟩:=by rw [hts'];unfold TS.step;rw [hgp];rfl
    rw [← htn] at hm0 hm ⊢
    have p1:=iA_put (l:=ts.rs) (j:=k) (v:=ts.rs.getD k 0 - ts.n l i k) (by omega)
    have p2:=iA_put (l:=ts.row) (j:=k) (v:=ts.n l i k) (by omega)
    refine ⟨k+1,by show k+1≤l.fs.length;omega,by show l.fs.length - (k+1) < l.fs.length - k;omega,(by (try (simp only[e,← p1,Nat.zero_add]));repeat' (first|exact trivial|refine And.intro ?_ ?_|rfl|(simp (disch:=omega) only[go_sem,if_yes,if_no,if_no];rfl)|(simp (disch:=omega) only[go_sem,if_yes,if_no,if_no]))),(by (try (simp only[e,← p1,Nat.zero_add]));repeat' (first|exact trivial|refine And.intro ?_ ?_|rfl|(simp (disch:=omega) only[go_sem,if_yes,if_no,if_no];rfl)|(simp (disch:=omega) only[go_sem,if_yes,if_no,if_no]))),rfl,by rw [e];refine ⟨fun b' k' hz=>?_,fun _ _ e=>e,by simp only[go_sem];omega,by simp only[go_sem]⟩;simp only[go_sem] at hz ⊢;rw [p2];exact hz⟩
  ·obtain rfl:k=l.fs.length:=by omega
   refine st_free ?_
   refine ASem.frzT 11 (b:=(c+2,11)) (by simp only[go_sem,↓reduceIte,Nat.reduceEqDiff,and_false] <;> rfl) (by simp only[go_sem] <;> rfl) ?_
   refine st_run tab mixed (f2:=⟨112,[7,10,14],[1,108],none,[]⟩) rfl rfl (by decide) ?_
   repeat' (first|refine st_seq_reg rfl (by first|(simp only[go_sem,Lm,List.length_replicate,hlw,Option.bind_some];rfl)|rfl) (by first|(simp only[go_sem,Lm,List.length_replicate,hlw,Option.bind_some];rfl)|rfl) ?_|refine st_reg rfl (by first|(simp only[go_sem,Lm,List.length_replicate,hlw,Option.bind_some];rfl)|rfl) (by first|(simp only[go_sem,Lm,List.length_replicate,hlw,Option.bind_some];rfl)|rfl) ?_|refine st_op ?_|refine st_det rfl (by simp (disch:=omega) only[go_sem,wr_i64,Lm,List.length_replicate,hlw,Option.bind_some];rfl) ?_|refine st_loc rfl (by simp (disch:=omega) only[go_sem,wr_i64,Lm,List.length_replicate,hlw,Option.bind_some];rfl) ?_|refine st_heap rfl (by simp (disch:=omega) only[go_sem,wr_i64,Lm,List.length_replicate,hlw,Option.bind_some];rfl) ?_|refine st_store (by simp (disch:=omega) only[go_sem,wr_i64,Lm,List.length_replicate,hlw,Option.bind_some];rfl) ?_|refine st_append (by simp (disch:=omega) only[go_sem,wr_i64,Lm,List.length_replicate,hlw,Option.bind_some];rfl) ?_|refine st_copy (by simp (disch:=omega) only[go_sem,wr_i64,Lm,List.length_replicate,hlw,Option.bind_some];rfl) ?_|refine st_gT rfl rfl rfl ?_|refine st_gF rfl rfl rfl ?_|(refine st_gS rfl rfl ?_ ?_ <;> intro hg <;> (try simp only[dcT,dcF,bnT,bnF] at hg))|refine st_condT rfl ?_|refine st_condF rfl ?_|(refine st_condS rfl ?_ ?_ <;> intro hg <;> (try simp only[dcT,dcF,bnT,bnF] at hg))|refine st_nil ?_|refine st_tN ?_|refine st_seq ?_|refine st_block ?_|refine st_skip ?_|refine st_exit ?_|refine st_ret ?_|refine st_tE ?_|refine st_tR ?_|refine st_bN ?_|refine st_bR ?_|refine st_bH ?_|refine st_bM rfl ?_|refine st_noN ?_|refine st_noR ?_|refine st_noE ?_|refine st_label ?_|refine st_scope tab mixed (by decide) ?_)
   refine st_free ?_
   have hrw:rowN l i=ts.row.take l.fs.length:=by unfold rowN;rw [hR,htt]
   have hrl:(rowN l i).length=l.fs.length:=by rw [hrw,List.length_take];omega
   refine ASem.frzS (b:=(c2+1,102)) (es:=(rowN l i).map iv) 17 1 l.fs.length (by simp only[go_sem,↓reduceIte,Nat.reduceEqDiff,and_false] <;> rfl) (by simp only[go_sem,↓reduceIte,Nat.reduceEqDiff] <;> rfl) (by rw [hrw];simp only[List.map_take,List.map_map];rfl) (by rw [Lm,hrl]) ?_
   have hrs':rsN l (i+1)=ts.rs:=by show (tsN l i (rsN l i) l.fs.length).rs=ts.rs;rw [hR,htt]
   have hq:∀ b':Nat × Nat,b'.1 < h.clk→h.clk≤c→¬ b'=(c+2,11)∧¬ b'=(c2+1,102)∧¬ b'=(c2+1+1+1,109):=fun b' hb' hcc=>⟨fun e=>by rw [e] at hb';dsimp only at hb';omega,fun e=>by rw [e] at hb';dsimp only at hb';omega,fun e=>by rw [e] at hb';dsimp only at hb';omega⟩
   rcases Nat.eq_zero_or_pos i with e0|e0
   ·have eS:S=.nils:=by rw [← hS];exact if_pos e0
    have eG:G=h.tick t:=by rw [← hG];exact if_pos e0
    subst eS eG
    have htc:t≤c:=hc
    subst e0
    refine st_run tab mixed (f2:=⟨112,[7,10,14],[1,108],none,[]⟩) rfl rfl (by decide) ?_
    repeat' (first|refine st_seq_reg rfl (by first|(simp only[go_sem,big,Lm];rfl)|rfl) (by first|(simp only[go_sem,big,Lm];rfl)|rfl) ?_|refine st_reg rfl (by first|(simp only[go_sem,big,Lm];rfl)|rfl) (by first|(simp only[go_sem,big,Lm];rfl)|rfl) ?_|refine st_op ?_|refine st_det rfl (by simp (disch:=omega) only[go_sem,wr_i64,big,Lm];rfl) ?_|refine st_loc rfl (by simp (disch:=omega) only[go_sem,wr_i64,big,Lm];rfl) ?_|refine st_heap rfl (by simp (disch:=omega) only[go_sem,wr_i64,big,Lm];rfl) ?_|refine st_store (by simp (disch:=omega) only[go_sem,wr_i64,big,Lm];rfl) ?_|refine st_append (by simp (disch:=omega) only[go_sem,wr_i64,big,Lm];rfl) ?_|refine st_copy (by simp (disch:=omega) only[go_sem,wr_i64,big,Lm];rfl) ?_|refine st_gT rfl rfl rfl ?_|refine st_gF rfl rfl rfl ?_|(refine st_gS rfl rfl ?_ ?_ <;> intro hg <;> (try simp only[dcT,dcF,bnT,bnF] at hg))|refine st_condT rfl ?_|refine st_condF rfl ?_|(refine st_condS rfl ?_ ?_ <;> intro hg <;> (try simp only[dcT,dcF,bnT,bnF] at hg))|refine st_nil ?_|refine st_tN ?_|refine st_seq ?_|refine st_block ?_|refine st_skip ?_|refine st_exit ?_|refine st_ret ?_|refine st_tE ?_|refine st_tR ?_|refine st_bN ?_|refine st_bR ?_|refine st_bH ?_|refine st_bM rfl ?_|refine st_noN ?_|refine st_noR ?_|refine st_noE ?_|refine st_label ?_|refine st_scope tab mixed (by decide) ?_)
    refine ⟨⟨0+1,c2+4,(c2+3,109)⟩,⟨by show 0+1≤_;omega,by show h.clk≤c2+4;omega,fun _=>⟨by show h.clk≤c2+3;omega,by show c2+3 < c2+4;omega⟩⟩,by show l.bs.length - (0+1) < l.bs.length - 0;omega,(by (try (simp only[hrs',TrS.sl_succ,go_sem]));repeat' (first|exact trivial|refine And.intro ?_ ?_|rfl|(simp (disch:=omega) only[go_sem,if_yes,if_no,if_no];rfl)|(simp (disch:=omega) only[go_sem,if_yes,if_no,if_no]))),(by (try (simp only[hrs',TrS.sl_succ,go_sem]));repeat' (first|exact trivial|refine And.intro ?_ ?_|rfl|(simp (disch:=omega) only[go_sem,if_yes,if_no,if_no];rfl)|(simp (disch:=omega) only[go_sem,if_yes,if_no,if_no]))),rfl,hold_tr hall (by show h.clk≤c2+3;omega) (by simp only[go_sem,↓reduceIte];rfl) (fun b' hb'=>by obtain ⟨g1,g2,g3⟩:=hq b' hb' (by omega);simp only[go_sem,g1,g2,g3,↓reduceIte]) rfl (by simp only[go_sem];omega) (by simp only[go_sem])⟩
   ·have eS:S=.slc bb 1 0 i:=by rw [← hS];exact if_neg (by show ¬ i=0;omega)
    have eG:G=(h.tick t).put bb (some ⟨1,TrS.rows l ⟨i,t,bb⟩⟩):=by rw [← hG];exact if_neg (by show ¬ i=0;omega)
    have hrn:(TrS.rows l ⟨i,t,bb⟩).length=i:=by simp [TrS.rows]
    have i3':=i3 (by omega)
    have htc:t≤c:=by rw [eG] at hc;exact hc
    have hx1:¬ bb=(c+2,11):=fun e=>by rw [e] at i3';dsimp only at i3';omega
    have hx2:¬ bb=(c2+1,102):=fun e=>by rw [e] at i3';dsimp only at i3';omega
    have hq':∀ b':Nat × Nat,b'.1 < h.clk→¬ b'=bb:=fun b' hb' e=>by rw [e] at hb';omega
    generalize hrr:TrS.rows l ⟨i,t,bb⟩=rr at *
    subst eS eG
    refine st_run tab mixed (f2:=⟨112,[7,10,14],[1,108],none,[]⟩) rfl rfl (by decide) ?_
    repeat' (first|refine st_seq_reg rfl (by first|(simp only[go_sem,big,Lm,hrn,hx1,hx2];rfl)|rfl) (by first|(simp only[go_sem,big,Lm,hrn,hx1,hx2];rfl)|rfl) ?_|refine st_reg rfl (by first|(simp only[go_sem,big,Lm,hrn,hx1,hx2];rfl)|rfl) (by first|(simp only[go_sem,big,Lm,hrn,hx1,hx2];rfl)|rfl) ?_|refine st_op ?_|refine st_det rfl (by simp (disch:=omega) only[go_sem,wr_i64,big,Lm,hrn,hx1,hx2];rfl) ?_|refine st_loc rfl (by simp (disch:=omega) only[go_sem,wr_i64,big,Lm,hrn,hx1,hx2];rfl) ?_|refine st_heap rfl (by simp (disch:=omega) only[go_sem,wr_i64,big,Lm,hrn,hx1,hx2];rfl) ?_|refine st_store (by simp (disch:=omega) only[go_sem,wr_i64,big,Lm,hrn,hx1,hx2];rfl) ?_|refine st_append (by simp (disch:=omega) only[go_sem,wr_i64,big,Lm,hrn,hx1,hx2];rfl) ?_|refine st_copy (by simp (disch:=omega) only[go_sem,wr_i64,big,Lm,hrn,hx1,hx2];rfl) ?_|refine st_gT rfl rfl rfl ?_|refine st_gF rfl rfl rfl ?_|(refine st_gS rfl rfl ?_ ?_ <;> intro hg <;> (try simp only[dcT,dcF,bnT,bnF] at hg))|refine st_condT rfl ?_|refine st_condF rfl ?_|(refine st_condS rfl ?_ ?_ <;> intro hg <;> (try simp only[dcT,dcF,bnT,bnF] at hg))|refine st_nil ?_|refine st_tN ?_|refine st_seq ?_|refine st_block ?_|refine st_skip ?_|refine st_exit ?_|refine st_ret ?_|refine st_tE ?_|refine st_tR ?_|refine st_bN ?_|refine st_bR ?_|refine st_bH ?_|refine st_bM rfl ?_|refine st_noN ?_|refine st_noR ?_|refine st_noE ?_|refine st_label ?_|refine st_scope tab mixed (by decide) ?_)
    refine ⟨⟨i+1,c2+4,(c2+3,109)⟩,⟨by show i+1≤_;omega,by show h.clk≤c2+4;omega,fun _=>⟨by show h.clk≤c2+3;omega,by show c2+3 < c2+4;omega⟩⟩,by show l.bs.length - (i+1) < l.bs.length - i;omega,(by (try (simp only[hrs',TrS.sl_succ,go_sem]));repeat' (first|exact trivial|refine And.intro ?_ ?_|rfl|(simp (disch:=omega) only[go_sem,if_yes,if_no,if_no];rfl)|(simp (disch:=omega) only[go_sem,if_yes,if_no,if_no]))),(by (try (simp only[hrs',TrS.sl_succ,go_sem]));repeat' (first|exact trivial|refine And.intro ?_ ?_|rfl|(simp (disch:=omega) only[go_sem,if_yes,if_no,if_no];rfl)|(simp (disch:=omega) only[go_sem,if_yes,if_no,if_no]))),rfl,hold_tr hall (by show h.clk≤c2+3;omega) (by simp only[go_sem,↓reduceIte];rw [TrS.rows_succ l i _ t _ bb,hrr,List.take_of_length_le (by omega)];rfl) (fun b' hb'=>by obtain ⟨g1,g2,g3⟩:=hq b' hb' (by omega);simp only[go_sem,g1,g2,g3,hq' b' hb',↓reduceIte]) rfl (by simp only[go_sem];omega) (by simp only[go_sem])⟩
 ·obtain rfl:i=l.bs.length:=by omega
  simp (disch:=omega) only[AEnd,Tryd.results7,aresK,fin,go_sem,implies_true,true_and,and_true,List.reverse_cons,List.reverse_nil]
  have hR0:∀ v,v=.tup [.lst 1 ((traceL l).map rowA),.int .i64 0]→trcR l v:=fun v hv=>by unfold trcR;rw [if_neg (by omega),if_neg (by rw [hp];simp)];exact hv
  have htl:(traceL l).map rowA=TrS.rows l ⟨l.bs.length,t,bb⟩:=by unfold traceL TrS.rows;rw [List.map_map];rfl
  rcases Nat.eq_zero_or_pos l.bs.length with e0|e0
  ·have eS:S=.nils:=by rw [← hS];exact if_pos e0
   have eG:G=h.tick t:=by rw [← hG];exact if_pos e0
   subst eS eG
   refine ⟨rfl,fun _ _=>rfl,rfl,.inl ⟨.tup [.lst 1 [],.int .i64 0],VLe.tup ⟨_,_,rfl,VLe.nils 1,_,_,rfl,.refl _,rfl⟩,hR0 _ ?_⟩⟩
   unfold traceL;rw [e0];rfl
  ·have eS:S=.slc bb 1 0 l.bs.length:=by rw [← hS];exact if_neg (by show ¬ l.bs.length=0;omega)
   have eG:G=(h.tick t).put bb (some ⟨1,TrS.rows l ⟨l.bs.length,t,bb⟩⟩):=by rw [← hG];exact if_neg (by show ¬ l.bs.length=0;omega)
   have i3':=i3 (by omega)
   have hq':∀ b':Nat × Nat,b'.1 < h.clk→¬ b'=bb:=fun b' hb' e=>by rw [e] at hb';omega
   subst eS eG
   refine ⟨rfl,fun b' hb'=>by simp only[go_sem,hq' b' hb',↓reduceIte],rfl,.inr ⟨bb,_,i3'.1,by simp only[go_sem,↓reduceIte] <;> rfl,hR0 _ ?_⟩⟩
   have hrn:(TrS.rows l ⟨l.bs.length,t,bb⟩).length=l.bs.length:=by simp [TrS.rows]
   simp only[frz,frzs]
   rw [if_pos ⟨trivial,by rw [hrn];omega⟩,List.drop_zero,List.take_of_length_le (by omega),← htl]
end Go.Proofs.YtefogfgddofdmaaDoor
