/- Contracts of functions that the claim reaches: what each call gives, told in our own logic. Conditions: those of each theorem. -/
import Derived.Test.YtoafigpikgigaaaGreatDoorQ2
set_option linter.all false
set_option linter.unusedSimpArgs false
set_option linter.unusedVariables false
namespace Go.Proofs.YtoafigpikgigaaaGreatDoor
open Go.Av Go.Txt Go.Lib
attribute [local irreducible] thenA blockA awp awpOps awpD awp1
attribute [local go_sem_proc] Nat.reduceAdd Nat.reduceMul Nat.reduceEqDiff Nat.reduceBEq Nat.reduceLeDiff
attribute [local go_sem_proc ↓] reduceIte
attribute [local go_sem] if_yes if_no
set_option maxHeartbeats 8000000
set_option maxRecDepth 20000
def parV (k:Nat) (s:List UInt8):AV:=match rowP k s with
 | some (w,l)=>.tup [.str w,.lst 1 (l.map iv),.bool true]
 | none=>.tup [.str [],.lst 1 [],.bool false]
structure PaS where
 i:Nat
 v:AV
 ns:List Int
 g:AH
theorem strs_getD {l:List (List UInt8)} {i:Nat} (h:i < l.length):(strs l).getD i []=[.str (l.getD i [])]:=by
 unfold strs
 rw [List.getD_eq_getElem?_getD,List.getElem?_map,List.getElem?_eq_getElem h,List.getD_eq_getElem?_getD,List.getElem?_eq_getElem h];rfl
theorem strs_len (l:List (List UInt8)):(strs l).length=l.length:=List.length_map _
theorem str_mem {l:List (List UInt8)} {i:Nat} (h:i < l.length):l.getD i [] ∈ l:=by
 rw [List.getD_eq_getElem?_getD,List.getElem?_eq_getElem h];exact List.getElem_mem h
theorem take_str {l:List (List UInt8)} {i:Nat} (h:i < l.length):l.take (i+1)=l.take i ++ [l.getD i []]:=by
 rw [List.take_add_one,List.getElem?_eq_getElem h,List.getD_eq_getElem?_getD,List.getElem?_eq_getElem h];rfl
theorem c40 (s:List UInt8) (hs:s.length≤1000000):PureG gT Tryz.prog 40 [.str s] (fun v=>v=parV 7 s):=by
 refine PureG.give Tryz.call40 fun h hgl hold=>?_
 obtain ⟨w,ws,hw⟩:∃ w ws,splitL 32 s=w :: ws:=by
  cases e:splitL 32 s with
  | nil=>exact absurd e (splitL_ne _ _)
  | cons w ws=>exact ⟨w,ws,rfl⟩
 have hlen:=splitL_len 32 s
 rw [hw,List.length_cons] at hlen
 have hsub:∀ x ∈ ws,x.length≤1000000:=fun x hx=>Nat.le_trans (splitL_sub (by rw [hw];exact List.mem_cons_of_mem _ hx)) hs
 have k86:=c39 s 32 (by omega)
 rw [hw] at k86
 have eD:List.take (ws.length+1 - Int.toNat 1) (List.drop (Int.toNat 1) (strs (w :: ws)))=strs ws:=by
  show List.take (ws.length+1 - 1) (strs ws)=strs ws
  rw [Nat.add_sub_cancel]
  exact List.take_of_length_le (by rw [strs_len];exact Nat.le_refl _)
 refine ACalls.of tab mixed Tryz.call40 Tryz.func40 rfl (fi:=⟨51,[],[44],none,[]⟩) rfl rfl (Nat.le_of_ble_eq_true rfl) (by decide) ?_
 unfold startA
 try simp only[go_sem]
 repeat' (first|refine st_seq_reg rfl (by first|(simp only[go_sem,strs_len,List.length_cons];rfl)|rfl) (by first|(simp only[go_sem,strs_len,List.length_cons];rfl)|rfl) ?_|refine st_reg rfl (by first|(simp only[go_sem,strs_len,List.length_cons];rfl)|rfl) (by first|(simp only[go_sem,strs_len,List.length_cons];rfl)|rfl) ?_|refine st_op ?_|refine st_det rfl (by simp (disch:=omega) only[go_sem,wr_i64,strs_len,List.length_cons];rfl) ?_|refine st_heap rfl (by simp (disch:=omega) only[go_sem,wr_i64,strs_len,List.length_cons];rfl) ?_|refine st_append (by simp (disch:=omega) only[go_sem,wr_i64,strs_len,List.length_cons];rfl) ?_|(refine st_pureGE (by first|(simp (disch:=omega) only[go_sem,strs_len,List.length_cons];rfl)|rfl) rfl (k86) (by exact hgl) (by first|(simp only[go_sem,strs_len,List.length_cons];rfl)|rfl) (by intro n;first|(simp (disch:=omega) only[go_sem];rfl)|rfl) ?_;intro n hn)|refine st_gT rfl rfl rfl ?_|refine st_gF rfl rfl rfl ?_|(refine st_gS rfl rfl ?_ ?_ <;> intro hg <;> (try simp only[dcT,dcF,bnT,bnF] at hg))|refine st_condT rfl ?_|refine st_condF rfl ?_|(refine st_condS rfl ?_ ?_ <;> intro hg <;> (try simp only[dcT,dcF,bnT,bnF] at hg))|refine st_nil ?_|refine st_tN ?_|refine st_seq ?_|refine st_block ?_|refine st_skip ?_|refine st_exit ?_|refine st_ret ?_|refine st_tE ?_|refine st_tR ?_|refine st_bN ?_|refine st_bR ?_|refine st_bH ?_|refine st_bM rfl ?_)
 simp only[eD,strs_len]
 have hbad:∀ i,i < ws.length→numP 7 (ws.getD i [])=none→numsP 7 ws=none:=by
  intro i hi hn
  have e:ws=ws.take (i+1) ++ ws.drop (i+1):=(List.take_append_drop _ _).symm
  rw [e]
  refine numsP_bad ?_
  rw [take_str hi,numsP_snoc,hn]
  cases numsP 7 (ws.take i) <;> rfl
 have hrow:∀ l,numsP 7 ws=some l→parV 7 s=.tup [.str w,.lst 1 (l.map iv),.bool true]:=by
  intro l hl
  unfold parV rowP;rw [hw];simp only[hl,Option.map_some]
 have hrow0:numsP 7 ws=none→parV 7 s=.tup [.str [],.lst 1 [],.bool false]:=by
  intro hl
  unfold parV rowP;rw [hw];simp only[hl,Option.map_none]
 refine st_loopH (α:=PaS) tab mixed [] [] (by repeat (first|exact trivial|refine ⟨rfl,?_⟩)) [] [] (by repeat (first|exact trivial|refine ⟨rfl,?_⟩)) (fun a=>[(16,.int .i64 (a.i:Nat)),(6,a.v)]) [(2,_),(3,_),(4,_),(5,_),(14,_),(15,_)] (fun _=>[]) [] (fun a=>a.g) (fun a=>a.i≤ws.length∧numsP 7 (ws.take a.i)=some a.ns∧a.ns.length=a.i∧SlA h.clk a.g a.v 1 (a.ns.map iv)∧(∀ b':Bid,b'.1 < h.clk→a.g.at_ b'=h.at_ b')∧a.g.lp=h.lp∧a.g.gl=gT∧h.clk≤a.g.clk) (fun a=>ws.length - a.i) (by decide) ⟨0,.nils,[],_⟩ (by exact ⟨Nat.zero_le _,rfl,rfl,.inl ⟨rfl,rfl⟩,fun _ _=>rfl,rfl,hgl,by (try simp only[go_sem]);omega⟩) (by (try simp only[go_sem]);repeat' (first|exact trivial|refine And.intro ?_ ?_|rfl|(simp (disch:=omega) only[go_sem,if_yes,if_no,if_no];rfl)|(simp (disch:=omega) only[go_sem,if_yes,if_no,if_no]))) (by (try simp only[go_sem]);repeat' (first|exact trivial|refine And.intro ?_ ?_|rfl|(simp (disch:=omega) only[go_sem,if_yes,if_no,if_no];rfl)|(simp (disch:=omega) only[go_sem,if_yes,if_no,if_no]))) (HOld.refl _) ?_
 rintro ⟨i,v,ns,g⟩ c ⟨hi,hns,hnl,hS,hat,hlp,hgl,hck⟩ hc
 dsimp only at hi hns hnl hS hat hlp hgl hck hc
 simp only[go_sem]
 have hnc:=hS.noL
 by_cases hil:i < ws.length
 case neg =>
  obtain rfl:i=ws.length:=by omega
  rw [List.take_length] at hns
  repeat' (first|refine st_seq_reg rfl (by first|(simp only[go_sem,strs_len,List.length_cons,hnc];rfl)|rfl) (by first|(simp only[go_sem,strs_len,List.length_cons,hnc];rfl)|rfl) ?_|refine st_reg rfl (by first|(simp only[go_sem,strs_len,List.length_cons,hnc];rfl)|rfl) (by first|(simp only[go_sem,strs_len,List.length_cons,hnc];rfl)|rfl) ?_|refine st_op ?_|refine st_det rfl (by simp (disch:=omega) only[go_sem,wr_i64,strs_len,List.length_cons,hnc];rfl) ?_|refine st_heap rfl (by simp (disch:=omega) only[go_sem,wr_i64,strs_len,List.length_cons,hnc];rfl) ?_|refine st_append (by simp (disch:=omega) only[go_sem,wr_i64,strs_len,List.length_cons,hnc];rfl) ?_|refine st_gT rfl rfl rfl ?_|refine st_gF rfl rfl rfl ?_|(refine st_gS rfl rfl ?_ ?_ <;> intro hg <;> (try simp only[dcT,dcF,bnT,bnF] at hg))|refine st_condT rfl ?_|refine st_condF rfl ?_|(refine st_condS rfl ?_ ?_ <;> intro hg <;> (try simp only[dcT,dcF,bnT,bnF] at hg))|refine st_nil ?_|refine st_tN ?_|refine st_seq ?_|refine st_block ?_|refine st_skip ?_|refine st_exit ?_|refine st_ret ?_|refine st_tE ?_|refine st_tR ?_|refine st_bN ?_|refine st_bR ?_|refine st_bH ?_|refine st_bM rfl ?_)
  all_goals try (exfalso;omega)
  simp (disch:=omega) only[AEnd,Tryz.results40,aresK,fin,go_sem,implies_true,true_and,and_true,List.reverse_cons,List.reverse_nil]
  refine ⟨hnc,hat,hlp,?_⟩
  rw [hrow ns hns]
  exact SlA.ansT (R:=fun v=>v=.tup [.str w,.lst 1 (ns.map iv),.bool true]) [.str w] [.bool true] (fun _ _=>rfl) (fun _ _=>rfl) hS rfl
 obtain ⟨x,hx⟩:∃ x,x=ws.getD i []:=⟨_,rfl⟩
 have hxl:x.length≤1000000:=hx ▸ hsub _ (str_mem hil)
 have hxg:(strs ws).getD i []=[.str x]:=by rw [strs_getD hil,hx]
 have k114:=c62 x (by omega)
 have hn3:=numP_atoi (k:=7) (by decide) x
 have hfail:numP 7 x=none→(∃ v',VLe (.tup [.str [],.nils,.bool false]) v'∧v'=parV 7 s):=fun q =>
  ⟨_,VLe.tup (VLes.mid (pre:=[.str []]) (post:=[.bool false]) (VLe.nils 1)),(hrow0 (hbad i hil (hx ▸ q))).symm⟩
 rcases ha:atoiAll x with z|_|_
 rotate_left 1
 ·
  rw [atoiV,ha] at k114
  rw [ha] at hn3
  repeat' (first|refine st_seq_reg rfl (by first|(simp only[go_sem,strs_len,List.length_cons,hnc,hxg];rfl)|rfl) (by first|(simp only[go_sem,strs_len,List.length_cons,hnc,hxg];rfl)|rfl) ?_|refine st_reg rfl (by first|(simp only[go_sem,strs_len,List.length_cons,hnc,hxg];rfl)|rfl) (by first|(simp only[go_sem,strs_len,List.length_cons,hnc,hxg];rfl)|rfl) ?_|refine st_op ?_|refine st_det rfl (by simp (disch:=omega) only[go_sem,wr_i64,strs_len,List.length_cons,hnc,hxg];rfl) ?_|refine st_heap rfl (by simp (disch:=omega) only[go_sem,wr_i64,strs_len,List.length_cons,hnc,hxg];rfl) ?_|refine st_append (by simp (disch:=omega) only[go_sem,wr_i64,strs_len,List.length_cons,hnc,hxg];rfl) ?_|(refine st_pureGE (by first|(simp (disch:=omega) only[go_sem,strs_len,List.length_cons,hnc,hxg];rfl)|rfl) rfl (k114) (by exact hgl) (by first|(simp only[go_sem,strs_len,List.length_cons,hnc,hxg];rfl)|rfl) (by intro n;first|(simp (disch:=omega) only[go_sem];rfl)|rfl) ?_;intro n hn)|refine st_gT rfl rfl rfl ?_|refine st_gF rfl rfl rfl ?_|(refine st_gS rfl rfl ?_ ?_ <;> intro hg <;> (try simp only[dcT,dcF,bnT,bnF] at hg))|refine st_condT rfl ?_|refine st_condF rfl ?_|(refine st_condS rfl ?_ ?_ <;> intro hg <;> (try simp only[dcT,dcF,bnT,bnF] at hg))|refine st_nil ?_|refine st_tN ?_|refine st_seq ?_|refine st_block ?_|refine st_skip ?_|refine st_exit ?_|refine st_ret ?_|refine st_tE ?_|refine st_tR ?_|refine st_bN ?_|refine st_bR ?_|refine st_bH ?_|refine st_bM rfl ?_)
  all_goals try (exfalso;omega)
  simp (disch:=omega) only[AEnd,Tryz.results40,aresK,fin,go_sem,implies_true,true_and,and_true,List.reverse_cons,List.reverse_nil]
  exact ⟨hat,hlp,.inl (hfail hn3)⟩
 ·
  rw [atoiV,ha] at k114
  rw [ha] at hn3
  repeat' (first|refine st_seq_reg rfl (by first|(simp only[go_sem,strs_len,List.length_cons,hnc,hxg];rfl)|rfl) (by first|(simp only[go_sem,strs_len,List.length_cons,hnc,hxg];rfl)|rfl) ?_|refine st_reg rfl (by first|(simp only[go_sem,strs_len,List.length_cons,hnc,hxg];rfl)|rfl) (by first|(simp only[go_sem,strs_len,List.length_cons,hnc,hxg];rfl)|rfl) ?_|refine st_op ?_|refine st_det rfl (by simp (disch:=omega) only[go_sem,wr_i64,strs_len,List.length_cons,hnc,hxg];rfl) ?_|refine st_heap rfl (by simp (disch:=omega) only[go_sem,wr_i64,strs_len,List.length_cons,hnc,hxg];rfl) ?_|refine st_append (by simp (disch:=omega) only[go_sem,wr_i64,strs_len,List.length_cons,hnc,hxg];rfl) ?_|(refine st_pureGE (by first|(simp (disch:=omega) only[go_sem,strs_len,List.length_cons,hnc,hxg];rfl)|rfl) rfl (k114) (by exact hgl) (by first|(simp only[go_sem,strs_len,List.length_cons,hnc,hxg];rfl)|rfl) (by intro n;first|(simp (disch:=omega) only[go_sem];rfl)|rfl) ?_;intro n hn)|refine st_gT rfl rfl rfl ?_|refine st_gF rfl rfl rfl ?_|(refine st_gS rfl rfl ?_ ?_ <;> intro hg <;> (try simp only[dcT,dcF,bnT,bnF] at hg))|refine st_condT rfl ?_|refine st_condF rfl ?_|(refine st_condS rfl ?_ ?_ <;> intro hg <;> (try simp only[dcT,dcF,bnT,bnF] at hg))|refine st_nil ?_|refine st_tN ?_|refine st_seq ?_|refine st_block ?_|refine st_skip ?_|refine st_exit ?_|refine st_ret ?_|refine st_tE ?_|refine st_tR ?_|refine st_bN ?_|refine st_bR ?_|refine st_bH ?_|refine st_bM rfl ?_)
  all_goals try (exfalso;omega)
  simp (disch:=omega) only[AEnd,Tryz.results40,aresK,fin,go_sem,implies_true,true_and,and_true,List.reverse_cons,List.reverse_nil]
  exact ⟨hat,hlp,.inl (hfail hn3)⟩
 ·
  have hbd:=atoi_bd ha
  rw [atoiV,ha] at k114
  rw [ha] at hn3
  simp only at hn3
  have k79:=c35 z hbd.1 hbd.2
  by_cases h1:z < 0
  ·rw [if_pos (.inl h1)] at hn3
   repeat' (first|refine st_seq_reg rfl (by first|(simp only[go_sem,strs_len,List.length_cons,hnc,hxg];rfl)|rfl) (by first|(simp only[go_sem,strs_len,List.length_cons,hnc,hxg];rfl)|rfl) ?_|refine st_reg rfl (by first|(simp only[go_sem,strs_len,List.length_cons,hnc,hxg];rfl)|rfl) (by first|(simp only[go_sem,strs_len,List.length_cons,hnc,hxg];rfl)|rfl) ?_|refine st_op ?_|refine st_det rfl (by simp (disch:=omega) only[go_sem,wr_i64,strs_len,List.length_cons,hnc,hxg];rfl) ?_|refine st_heap rfl (by simp (disch:=omega) only[go_sem,wr_i64,strs_len,List.length_cons,hnc,hxg];rfl) ?_|refine st_append (by simp (disch:=omega) only[go_sem,wr_i64,strs_len,List.length_cons,hnc,hxg];rfl) ?_|(refine st_pureGE (by first|(simp (disch:=omega) only[go_sem,strs_len,List.length_cons,hnc,hxg];rfl)|rfl) rfl (k114) (by exact hgl) (by first|(simp only[go_sem,strs_len,List.length_cons,hnc,hxg];rfl)|rfl) (by intro n;first|(simp (disch:=omega) only[go_sem];rfl)|rfl) ?_;intro n hn)|refine st_gT rfl rfl rfl ?_|refine st_gF rfl rfl rfl ?_|(refine st_gS rfl rfl ?_ ?_ <;> intro hg <;> (try simp only[dcT,dcF,bnT,bnF] at hg))|refine st_condT rfl ?_|refine st_condF rfl ?_|(refine st_condS rfl ?_ ?_ <;> intro hg <;> (try simp only[dcT,dcF,bnT,bnF] at hg))|refine st_nil ?_|refine st_tN ?_|refine st_seq ?_|refine st_block ?_|refine st_skip ?_|refine st_exit ?_|refine st_ret ?_|refine st_tE ?_|refine st_tR ?_|refine st_bN ?_|refine st_bR ?_|refine st_bH ?_|refine st_bM rfl ?_)
   all_goals try (exfalso;omega)
   simp (disch:=omega) only[AEnd,Tryz.results40,aresK,fin,go_sem,implies_true,true_and,and_true,List.reverse_cons,List.reverse_nil]
   exact ⟨hat,hlp,.inl (hfail hn3)⟩
  by_cases h2:7 < x.length
  ·rw [if_pos (.inr (.inl h2))] at hn3
   repeat' (first|refine st_seq_reg rfl (by first|(simp only[go_sem,strs_len,List.length_cons,hnc,hxg];rfl)|rfl) (by first|(simp only[go_sem,strs_len,List.length_cons,hnc,hxg];rfl)|rfl) ?_|refine st_reg rfl (by first|(simp only[go_sem,strs_len,List.length_cons,hnc,hxg];rfl)|rfl) (by first|(simp only[go_sem,strs_len,List.length_cons,hnc,hxg];rfl)|rfl) ?_|refine st_op ?_|refine st_det rfl (by simp (disch:=omega) only[go_sem,wr_i64,strs_len,List.length_cons,hnc,hxg];rfl) ?_|refine st_heap rfl (by simp (disch:=omega) only[go_sem,wr_i64,strs_len,List.length_cons,hnc,hxg];rfl) ?_|refine st_append (by simp (disch:=omega) only[go_sem,wr_i64,strs_len,List.length_cons,hnc,hxg];rfl) ?_|(refine st_pureGE (by first|(simp (disch:=omega) only[go_sem,strs_len,List.length_cons,hnc,hxg];rfl)|rfl) rfl (k114) (by exact hgl) (by first|(simp only[go_sem,strs_len,List.length_cons,hnc,hxg];rfl)|rfl) (by intro n;first|(simp (disch:=omega) only[go_sem];rfl)|rfl) ?_;intro n hn)|refine st_gT rfl rfl rfl ?_|refine st_gF rfl rfl rfl ?_|(refine st_gS rfl rfl ?_ ?_ <;> intro hg <;> (try simp only[dcT,dcF,bnT,bnF] at hg))|refine st_condT rfl ?_|refine st_condF rfl ?_|(refine st_condS rfl ?_ ?_ <;> intro hg <;> (try simp only[dcT,dcF,bnT,bnF] at hg))|refine st_nil ?_|refine st_tN ?_|refine st_seq ?_|refine st_block ?_|refine st_skip ?_|refine st_exit ?_|refine st_ret ?_|refine st_tE ?_|refine st_tR ?_|refine st_bN ?_|refine st_bR ?_|refine st_bH ?_|refine st_bM rfl ?_)
   all_goals try (exfalso;omega)
   simp (disch:=omega) only[AEnd,Tryz.results40,aresK,fin,go_sem,implies_true,true_and,and_true,List.reverse_cons,List.reverse_nil]
   exact ⟨hat,hlp,.inl (hfail hn3)⟩
  by_cases h3:itoa z=x
  case neg =>
   rw [if_pos (.inr (.inr h3))] at hn3
   repeat' (first|refine st_seq_reg rfl (by first|(simp only[go_sem,strs_len,List.length_cons,hnc,hxg,h3];rfl)|rfl) (by first|(simp only[go_sem,strs_len,List.length_cons,hnc,hxg,h3];rfl)|rfl) ?_|refine st_reg rfl (by first|(simp only[go_sem,strs_len,List.length_cons,hnc,hxg,h3];rfl)|rfl) (by first|(simp only[go_sem,strs_len,List.length_cons,hnc,hxg,h3];rfl)|rfl) ?_|refine st_op ?_|refine st_det rfl (by simp (disch:=omega) only[go_sem,wr_i64,strs_len,List.length_cons,hnc,hxg,h3];rfl) ?_|refine st_heap rfl (by simp (disch:=omega) only[go_sem,wr_i64,strs_len,List.length_cons,hnc,hxg,h3];rfl) ?_|refine st_append (by simp (disch:=omega) only[go_sem,wr_i64,strs_len,List.length_cons,hnc,hxg,h3];rfl) ?_|(refine st_pureGE (by first|(simp (disch:=omega) only[go_sem,strs_len,List.length_cons,hnc,hxg,h3];rfl)|rfl) rfl (k114) (by exact hgl) (by first|(simp only[go_sem,strs_len,List.length_cons,hnc,hxg,h3];rfl)|rfl) (by intro n;first|(simp (disch:=omega) only[go_sem];rfl)|rfl) ?_;intro n hn)|(refine st_pureGE (by first|(simp (disch:=omega) only[go_sem,strs_len,List.length_cons,hnc,hxg,h3];rfl)|rfl) rfl (k79) (by exact hgl) (by first|(simp only[go_sem,strs_len,List.length_cons,hnc,hxg,h3];rfl)|rfl) (by intro n;first|(simp (disch:=omega) only[go_sem];rfl)|rfl) ?_;intro n hn)|refine st_gT rfl rfl rfl ?_|refine st_gF rfl rfl rfl ?_|(refine st_gS rfl rfl ?_ ?_ <;> intro hg <;> (try simp only[dcT,dcF,bnT,bnF] at hg))|refine st_condT rfl ?_|refine st_condF rfl ?_|(refine st_condS rfl ?_ ?_ <;> intro hg <;> (try simp only[dcT,dcF,bnT,bnF] at hg))|refine st_nil ?_|refine st_tN ?_|refine st_seq ?_|refine st_block ?_|refine st_skip ?_|refine st_exit ?_|refine st_ret ?_|refine st_tE ?_|refine st_tR ?_|refine st_bN ?_|refine st_bR ?_|refine st_bH ?_|refine st_bM rfl ?_)
   all_goals try (exfalso;omega)
   simp (disch:=omega) only[AEnd,Tryz.results40,aresK,fin,go_sem,implies_true,true_and,and_true,List.reverse_cons,List.reverse_nil]
   exact ⟨hat,hlp,.inl (hfail hn3)⟩
  rw [if_neg (by rintro (q|q|q);exact h1 q;exact h2 q;exact q h3)] at hn3
  repeat' (first|refine st_seq_reg rfl (by first|(simp only[go_sem,strs_len,List.length_cons,hnc,hxg,h3];rfl)|rfl) (by first|(simp only[go_sem,strs_len,List.length_cons,hnc,hxg,h3];rfl)|rfl) ?_|refine st_reg rfl (by first|(simp only[go_sem,strs_len,List.length_cons,hnc,hxg,h3];rfl)|rfl) (by first|(simp only[go_sem,strs_len,List.length_cons,hnc,hxg,h3];rfl)|rfl) ?_|refine st_op ?_|refine st_det rfl (by simp (disch:=omega) only[go_sem,wr_i64,strs_len,List.length_cons,hnc,hxg,h3];rfl) ?_|refine st_heap rfl (by simp (disch:=omega) only[go_sem,wr_i64,strs_len,List.length_cons,hnc,hxg,h3];rfl) ?_|refine st_append (by simp (disch:=omega) only[go_sem,wr_i64,strs_len,List.length_cons,hnc,hxg,h3];rfl) ?_|(refine st_pureGE (by first|(simp (disch:=omega) only[go_sem,strs_len,List.length_cons,hnc,hxg,h3];rfl)|rfl) rfl (k114) (by exact hgl) (by first|(simp only[go_sem,strs_len,List.length_cons,hnc,hxg,h3];rfl)|rfl) (by intro n;first|(simp (disch:=omega) only[go_sem];rfl)|rfl) ?_;intro n hn)|(refine st_pureGE (by first|(simp (disch:=omega) only[go_sem,strs_len,List.length_cons,hnc,hxg,h3];rfl)|rfl) rfl (k79) (by exact hgl) (by first|(simp only[go_sem,strs_len,List.length_cons,hnc,hxg,h3];rfl)|rfl) (by intro n;first|(simp (disch:=omega) only[go_sem];rfl)|rfl) ?_;intro n hn)|(refine st_appSg (by intro h id x y;simp only[go_sem];rfl) rfl (by simp only[go_sem,strs_len,List.length_cons,hnc,hxg,h3];rfl) (by first|(simp only[go_sem,strs_len,List.length_cons,hnc,hxg,h3];rfl)|rfl) (by decide) hS (fun _ _ _=>rfl) (by omega) (by simp only[List.length_map,List.length_cons,List.length_nil,big,strs_len,List.length_cons,hnc,hxg,h3];omega) (by omega) (by omega) ?_;intro v' g' hA hAg)|refine st_gT rfl rfl rfl ?_|refine st_gF rfl rfl rfl ?_|(refine st_gS rfl rfl ?_ ?_ <;> intro hg <;> (try simp only[dcT,dcF,bnT,bnF] at hg))|refine st_condT rfl ?_|refine st_condF rfl ?_|(refine st_condS rfl ?_ ?_ <;> intro hg <;> (try simp only[dcT,dcF,bnT,bnF] at hg))|refine st_nil ?_|refine st_tN ?_|refine st_seq ?_|refine st_block ?_|refine st_skip ?_|refine st_exit ?_|refine st_ret ?_|refine st_tE ?_|refine st_tR ?_|refine st_bN ?_|refine st_bR ?_|refine st_bH ?_|refine st_bM rfl ?_)
  all_goals try (exfalso;omega)
  have hns2:numsP 7 (ws.take (i+1))=some (ns ++ [z]):=by
   rw [take_str hil,numsP_snoc,hns,← hx,hn3]
   simp only
   rw [show ((z.toNat:Nat):Int)=z by omega]
  refine ⟨⟨i+1,v',ns ++ [z],_⟩,(by exact ⟨by show i+1≤ws.length;omega,hns2,by simp [hnl],by rw [List.map_append];exact hA.sl.to (fun _ _ _ _ _=>rfl) (by (try simp only[go_sem]);omega),fun b' hb'=>(hA.old b' hb').trans (hat b' hb'),hA.lp.trans hlp,hAg.trans hgl,by (try simp only[go_sem]);omega⟩),(by show ws.length - (i+1) < ws.length - i;omega),(by repeat' (first|exact trivial|refine And.intro ?_ ?_|rfl|(simp (disch:=omega) only[go_sem,if_yes,if_no,if_no];rfl)|(simp (disch:=omega) only[go_sem,if_yes,if_no,if_no]))),(by repeat' (first|exact trivial|refine And.intro ?_ ?_|rfl|(simp (disch:=omega) only[go_sem,if_yes,if_no,if_no];rfl)|(simp (disch:=omega) only[go_sem,if_yes,if_no,if_no]))),rfl,HOld.refl _⟩
end Go.Proofs.YtoafigpikgigaaaGreatDoor

namespace Go.Proofs.YtoafigpikgigaaaGreatDoor
open Go.Av
attribute [local irreducible] thenA blockA awp awpOps awpD awp1
attribute [local go_sem_proc] Nat.reduceAdd Nat.reduceMul Nat.reduceEqDiff Nat.reduceBEq Nat.reduceLeDiff
attribute [local go_sem_proc ↓] reduceIte
attribute [local go_sem] if_yes if_no
set_option maxHeartbeats 8000000
set_option maxRecDepth 20000
theorem wr_u64 (n:Int):isU64 (wr .u64 n):=by
 unfold isU64 wr IntKind.wrap
 simp only[IntKind.signed,IntKind.bits,Bool.false_and,Bool.false_eq_true,if_false]
 omega
theorem xor_u64 (a b:Int):isU64 (bitop .xor .u64 a b):=wr_u64 _
theorem st_u64 {P:Program} {tt:Nat→TI} {fi:FI} {k0:Nat} {K:AS→Prop} {T:Nat→AV} {B:Bid→Option (List AV)} {M:List Nat} {H:AH} {d:Tmp} {op:Op} {t:TypeId} {p:String} {a:Array Edge} {g:Option (Nat × Bool)} {v:Int} (hd:isDet ⟨some d,op,t,p,a,g⟩=true) (h:dres tt fi k0 ⟨some d,op,t,p,a,g⟩ ⟨T,B,M,H⟩=some (.int .u64 v,.none)) (hv:isU64 v) (hk:∀ y,isU64 y→K ⟨upd T d (.int .u64 y),B,M,H⟩) :
  awp1 P tt fi k0 ⟨some d,op,t,p,a,g⟩ ⟨T,B,M,H⟩ K:=st_det hd h (hk v hv)
theorem c31 (b:Nat × Nat):Drum Tryz.prog 31 [.ptr b 0 0] b (fun v=>∃ y,isU64 y∧v=.int .u64 y):=by
 refine Drum.of Tryz.call31 fun h x hx hu hold=>?_
 refine ACalls.of tab mixed Tryz.call31 Tryz.func31 rfl (fi:=⟨31,[],[],none,[]⟩) rfl rfl (Nat.le_of_ble_eq_true rfl) (by decide) ?_
 unfold startA
 simp only[dr] at hx ⊢
 repeat' (first|refine st_seq_reg rfl (by first|(simp only[go_sem,hx];rfl)|rfl) (by first|(simp only[go_sem,hx];rfl)|rfl) ?_|refine st_reg rfl (by first|(simp only[go_sem,hx];rfl)|rfl) (by first|(simp only[go_sem,hx];rfl)|rfl) ?_|refine st_op ?_|(refine st_u64 rfl (by simp (disch:=omega) only[go_sem,wr_i64,hx];rfl) (by first|exact wr_u64 _|exact xor_u64 _ _) ?_;intro y hy)|refine st_det rfl (by simp (disch:=omega) only[go_sem,wr_i64,hx];rfl) ?_|refine st_store (by simp (disch:=omega) only[go_sem,wr_i64,hx];rfl) ?_|refine st_nil ?_|refine st_tN ?_|refine st_seq ?_|refine st_skip ?_|refine st_ret ?_|refine st_tE ?_|refine st_tR ?_)
 simp (disch:=omega) only[AEnd,Tryz.results31,aresK,fin,go_sem,implies_true,true_and,and_true,List.reverse_cons,List.reverse_nil]
 exact ⟨fun b' _ hn=>if_neg hn,⟨_,rfl,by assumption⟩,⟨_,by assumption,rfl⟩⟩
theorem wr_u64i {n:Int} (h:0≤n∧n < 18446744073709551616):wr .u64 n=n:=by
 unfold wr IntKind.wrap
 simp only[IntKind.signed,IntKind.bits,Bool.false_and,Bool.false_eq_true,if_false]
 omega
theorem roll_bd {y n:Int} (hy:isU64 y) (hn:2≤n):0≤(shr .u64 y 1).tmod n∧(shr .u64 y 1).tmod n < n:=by
 have h:0≤shr .u64 y 1:=by
  unfold shr
  rw [Int.fdiv_eq_ediv_of_nonneg _ (by decide)]
  have:=hy.1
  exact Int.ediv_nonneg this (by decide)
 exact ⟨Int.tmod_nonneg _ h,Int.tmod_lt_of_pos _ (by omega)⟩
def Rolls (n:Int) (v:AV):Prop:=∃ r,v=.int .i64 r∧0≤r∧(r < n ∨ r=0)
theorem c25 (b:Nat × Nat) (N:Int) (hN:N≤2000000000):Drum Tryz.prog 25 [.ptr b 0 0,.int .i64 N] b (Rolls N):=by
 refine Drum.of Tryz.call25 fun h x hx hu hold=>?_
 refine ACalls.of tab mixed Tryz.call25 Tryz.func25 rfl (fi:=⟨14,[],[],none,[]⟩) rfl rfl (Nat.le_of_ble_eq_true rfl) (by decide) ?_
 unfold startA
 repeat' (first|refine st_seq_reg rfl (by first|(simp only[go_sem,hx,wr_u64i];rfl)|rfl) (by first|(simp only[go_sem,hx,wr_u64i];rfl)|rfl) ?_|refine st_reg rfl (by first|(simp only[go_sem,hx,wr_u64i];rfl)|rfl) (by first|(simp only[go_sem,hx,wr_u64i];rfl)|rfl) ?_|refine st_op ?_|refine st_det rfl (by simp (disch:=omega) only[go_sem,wr_i64,hx,wr_u64i];rfl) ?_|(refine st_drum (by first|(simp (disch:=omega) only[go_sem];rfl)|(simp (disch:=omega) only[go_sem])) rfl (c31 b) (by simp (disch:=omega) only[go_sem];exact hx) hu (by first|(simp only[go_sem];rfl)|rfl) (by intro x' n;simp (disch:=omega) only[go_sem];rfl) ?_;rintro v x' n hu' ⟨y,hy,rfl⟩ hn;have hr:=roll_bd hy (by omega:2≤N))|refine st_condT rfl ?_|refine st_condF rfl ?_|(refine st_condS rfl ?_ ?_ <;> intro hg <;> (try simp only[dcT,dcF,bnT,bnF] at hg))|refine st_nil ?_|refine st_tN ?_|refine st_seq ?_|refine st_skip ?_|refine st_ret ?_|refine st_tE ?_|refine st_tR ?_)
 ·simp (disch:=omega) only[AEnd,Tryz.results25,aresK,fin,go_sem,implies_true,true_and,and_true,List.reverse_cons,List.reverse_nil]
  exact ⟨⟨x,hx,hu⟩,⟨0,rfl,by omega,by omega⟩⟩
 ·simp (disch:=omega) only[AEnd,Tryz.results25,aresK,fin,go_sem,implies_true,true_and,and_true,List.reverse_cons,List.reverse_nil]
  exact ⟨fun b' _ h2=>if_neg h2,⟨_,rfl,hu'⟩,⟨_,rfl,by omega,by omega⟩⟩
theorem c25' (b:Nat × Nat) (N:Int) (hN:1≤N∧N≤2000000000):Drum Tryz.prog 25 [.ptr b 0 0,.int .i64 N] b (fun v=>∃ r,v=.int .i64 r∧0≤r∧r < N):=by
 intro h x hx hu
 refine (c25 b N hN.2 h x hx hu).mono ?_
 rintro v h' ⟨x',n,h1,h2,h3,r,h4,h5,h6⟩
 exact ⟨x',n,h1,h2,h3,r,h4,h5,by omega⟩
theorem c27 (b:Nat × Nat) (lo hi:Int) (h1:-1000000000≤lo∧lo≤1000000000) (h2:lo - 1≤hi∧hi - lo≤1000000000):Drum Tryz.prog 27 [.ptr b 0 0,.int .i64 lo,.int .i64 hi] b (fun v=>∃ r,v=.int .i64 r∧lo≤r∧(r≤hi ∨ r=lo)):=by
 refine Drum.of Tryz.call27 fun h x hx hu hold=>?_
 refine ACalls.of tab mixed Tryz.call27 Tryz.func27 rfl (fi:=⟨15,[],[],none,[]⟩) rfl rfl (Nat.le_of_ble_eq_true rfl) (by decide) ?_
 unfold startA
 repeat' (first|refine st_seq_reg rfl (by first|(simp only[go_sem,hx];rfl)|rfl) (by first|(simp only[go_sem,hx];rfl)|rfl) ?_|refine st_reg rfl (by first|(simp only[go_sem,hx];rfl)|rfl) (by first|(simp only[go_sem,hx];rfl)|rfl) ?_|refine st_op ?_|refine st_det rfl (by simp (disch:=omega) only[go_sem,wr_i64,hx];rfl) ?_|(refine st_drum (by first|(simp (disch:=omega) only[go_sem,hx];rfl)|rfl) rfl (c25 b _ (by omega)) (by first|(simp (disch:=omega) only[go_sem,hx];rfl)|rfl|exact put_same _ _ _) (by assumption) (by first|(simp only[go_sem,hx];rfl)|rfl) (by intro x' n;first|(simp (disch:=omega) only[go_sem];rfl)|rfl) ?_;rintro v x' n hu' ⟨r,rfl,hr1,hr2⟩ hn)|refine st_nil ?_|refine st_tN ?_|refine st_seq ?_|refine st_skip ?_|refine st_ret ?_|refine st_tE ?_|refine st_tR ?_)
 simp (disch:=omega) only[AEnd,Tryz.results27,aresK,fin,go_sem,implies_true,true_and,and_true,List.reverse_cons,List.reverse_nil]
 exact ⟨fun b' _ h2=>if_neg h2,⟨_,rfl,hu'⟩,⟨_,rfl,by omega,by omega⟩⟩
theorem c27' (b:Nat × Nat) (lo hi:Int) (h1:-1000000000≤lo∧lo≤1000000000) (h2:lo≤hi∧hi - lo≤1000000000):Drum Tryz.prog 27 [.ptr b 0 0,.int .i64 lo,.int .i64 hi] b (fun v=>∃ r,v=.int .i64 r∧lo≤r∧r≤hi):=by
 intro h x hx hu
 refine (c27 b lo hi h1 (by omega) h x hx hu).mono ?_
 rintro v h' ⟨x',n,h1,h2,h3,r,h4,h5,h6⟩
 exact ⟨x',n,h1,h2,h3,r,h4,h5,by omega⟩
theorem c26 (b:Nat × Nat) (es:List Int) (h1:es ≠ []) (h2:(es.length:Int)≤1000):Drum Tryz.prog 26 [.ptr b 0 0,.lst 1 (es.map iv)] b (fun v=>∃ r,v=.int .i64 r∧r ∈ es):=by
 have h3:0 < es.length:=List.length_pos_iff.2 h1
 refine Drum.of Tryz.call26 fun h x hx hu hold=>?_
 refine ACalls.of tab mixed Tryz.call26 Tryz.func26 rfl (fi:=⟨15,[],[],none,[]⟩) rfl rfl (Nat.le_of_ble_eq_true rfl) (by decide) ?_
 unfold startA
 repeat' (first|refine st_seq_reg rfl (by first|(simp only[go_sem,hx];rfl)|rfl) (by first|(simp only[go_sem,hx];rfl)|rfl) ?_|refine st_reg rfl (by first|(simp only[go_sem,hx];rfl)|rfl) (by first|(simp only[go_sem,hx];rfl)|rfl) ?_|refine st_op ?_|refine st_det rfl (by simp (disch:=omega) only[go_sem,wr_i64,hx];rfl) ?_|(refine st_drum (by first|(simp (disch:=omega) only[go_sem,hx];rfl)|rfl) rfl (c25 b _ (by omega)) (by first|(simp (disch:=omega) only[go_sem,hx];rfl)|rfl|exact put_same _ _ _) (by assumption) (by first|(simp only[go_sem,hx];rfl)|rfl) (by intro x' n;first|(simp (disch:=omega) only[go_sem];rfl)|rfl) ?_;rintro v x' n hu' ⟨r,rfl,hr1,hr2⟩ hn)|refine st_condT rfl ?_|refine st_condF rfl ?_|(refine st_condS rfl ?_ ?_ <;> intro hg <;> (try simp only[dcT,dcF,bnT,bnF] at hg))|refine st_nil ?_|refine st_tN ?_|refine st_seq ?_|refine st_skip ?_|refine st_ret ?_|refine st_tE ?_|refine st_tR ?_)
 ·omega
 ·simp (disch:=omega) only[AEnd,Tryz.results26,aresK,fin,go_sem,implies_true,true_and,and_true,List.reverse_cons,List.reverse_nil]
  exact ⟨fun b' _ h2=>if_neg h2,⟨_,rfl,hu'⟩,⟨_,rfl,elt_mem (by omega)⟩⟩
theorem c26b (b:Nat × Nat) (x y:Int):Drum Tryz.prog 26 [.ptr b 0 0,.lst 1 [[.int .i64 x],[.int .i64 y]]] b (fun v=>∃ r,v=.int .i64 r∧(r=x ∨ r=y)):=by
 have h:=c26 b [x,y] (by simp) (by simp)
 simpa [iv] using h
theorem c26c (b:Nat × Nat) (x y z:Int):Drum Tryz.prog 26 [.ptr b 0 0,.lst 1 [[.int .i64 x],[.int .i64 y],[.int .i64 z]]] b (fun v=>∃ r,v=.int .i64 r∧(r=x ∨ r=y ∨ r=z)):=by
 have h:=c26 b [x,y,z] (by simp) (by simp)
 simpa [iv] using h
theorem c8 (l:List Int) (hl:(l.length:Int)≤9223372036854775807) (h:AH):ACalls Tryz.prog 8 [.lst 1 (l.map iv)] h (fun v h'=>∃ b x n,v=.ptr b 0 0∧h.clk≤b.1∧b.1 < n∧isU64 x∧h'=(h.tick n).put b (dr x)):=by
 refine ACalls.of tab mixed Tryz.call8 Tryz.func8 rfl (fi:=⟨29,[],[],none,[(5,[0,0,2,6,14,0,0,96,224,480,1022,2047,4095,8191],[(0,false),(1,false),(2,false),(3,false),(4,false),(5,false),(6,false),(7,false),(8,true),(9,false),(10,false),(11,false),(12,false),(13,false)])]⟩) rfl rfl (Nat.le_of_ble_eq_true rfl) (by decide) ?_
 unfold startA
 repeat' (first|refine st_seq_reg rfl (by first|(simp only[go_sem];rfl)|rfl) (by first|(simp only[go_sem];rfl)|rfl) ?_|refine st_reg rfl (by first|(simp only[go_sem];rfl)|rfl) (by first|(simp only[go_sem];rfl)|rfl) ?_|refine st_seq_draw rfl (by first|(simp only[go_sem];rfl)|rfl) (by first|(simp only[go_sem];rfl)|rfl) ?_|refine st_draw rfl (by first|(simp only[go_sem];rfl)|rfl) (by first|(simp only[go_sem];rfl)|rfl) ?_|refine st_op ?_|refine st_det rfl (by simp (disch:=omega) only[go_sem,wr_i64];rfl) ?_|refine st_dop rfl ?_|refine st_loc rfl (by simp (disch:=omega) only[go_sem,wr_i64];rfl) ?_|refine st_heap rfl (by simp (disch:=omega) only[go_sem,wr_i64];rfl) ?_|refine st_store (by simp (disch:=omega) only[go_sem,wr_i64];rfl) ?_|refine st_condT rfl ?_|refine st_condF rfl ?_|(refine st_condS rfl ?_ ?_ <;> intro hg <;> (try simp only[dcT,dcF,bnT,bnF] at hg))|refine st_nil ?_|refine st_dnil ?_|refine st_tN ?_|refine st_seq ?_|refine st_block ?_|refine st_skip ?_|refine st_exit ?_|refine st_ret ?_|refine st_tE ?_|refine st_tR ?_|refine st_bN ?_|refine st_bR ?_|refine st_bH ?_|refine st_bM rfl ?_)
 refine st_loopH (α:=Nat × Int) tab mixed [] [] (by repeat (first|exact trivial|refine ⟨rfl,?_⟩)) [] [] (by repeat (first|exact trivial|refine ⟨rfl,?_⟩)) (fun a=>[(4,.int .i64 a.1)]) [(0,_),(2,_),(3,_)] (fun _=>[]) [] (fun a=>(h.tick (h.clk+1+1+1)).put (h.clk+1,6) (dr a.2)) (fun a=>a.1≤l.length∧isU64 a.2) (fun a=>l.length - a.1) (by decide) (0,2685821657736338717) ⟨by omega,by unfold isU64;omega⟩ (by (try simp only[go_sem]);repeat' (first|exact trivial|refine And.intro ?_ ?_|rfl|(simp (disch:=omega) only[go_sem,if_yes,if_no,if_no];rfl)|(simp (disch:=omega) only[go_sem,if_yes,if_no,if_no]))) (by (try simp only[go_sem]);repeat' (first|exact trivial|refine And.intro ?_ ?_|rfl|(simp (disch:=omega) only[go_sem,if_yes,if_no,if_no];rfl)|(simp (disch:=omega) only[go_sem,if_yes,if_no,if_no]))) (HOld.refl _) ?_
 rintro ⟨i,x⟩ c ⟨hi',hx⟩ hc
 simp only[go_sem] at hc
 simp only[go_sem,dr]
 repeat' (first|refine st_seq_reg rfl (by first|(simp only[go_sem];rfl)|rfl) (by first|(simp only[go_sem];rfl)|rfl) ?_|refine st_reg rfl (by first|(simp only[go_sem];rfl)|rfl) (by first|(simp only[go_sem];rfl)|rfl) ?_|refine st_seq_draw rfl (by first|(simp only[go_sem];rfl)|rfl) (by first|(simp only[go_sem];rfl)|rfl) ?_|refine st_draw rfl (by first|(simp only[go_sem];rfl)|rfl) (by first|(simp only[go_sem];rfl)|rfl) ?_|refine st_op ?_|(refine st_u64 rfl (by simp (disch:=omega) only[go_sem,wr_i64];rfl) (by first|exact wr_u64 _|exact xor_u64 _ _) ?_;intro y hy)|refine st_det rfl (by simp (disch:=omega) only[go_sem,wr_i64];rfl) ?_|refine st_dop rfl ?_|refine st_loc rfl (by simp (disch:=omega) only[go_sem,wr_i64];rfl) ?_|refine st_heap rfl (by simp (disch:=omega) only[go_sem,wr_i64];rfl) ?_|refine st_store (by simp (disch:=omega) only[go_sem,wr_i64];rfl) ?_|(refine st_drum (by first|(simp (disch:=omega) only[go_sem];rfl)|rfl) rfl (c31 _) (by first|(simp (disch:=omega) only[go_sem];rfl)|rfl|exact put_same _ _ _) (by assumption) (by first|(simp only[go_sem];rfl)|rfl) (by intro x' n;first|(simp (disch:=omega) only[go_sem];rfl)|rfl) ?_;rintro v x' n hu' ⟨w,hw,rfl⟩ hn)|refine st_condT rfl ?_|refine st_condF rfl ?_|(refine st_condS rfl ?_ ?_ <;> intro hg <;> (try simp only[dcT,dcF,bnT,bnF] at hg))|refine st_nil ?_|refine st_dnil ?_|refine st_tN ?_|refine st_seq ?_|refine st_block ?_|refine st_skip ?_|refine st_exit ?_|refine st_ret ?_|refine st_tE ?_|refine st_tR ?_|refine st_bN ?_|refine st_bR ?_|refine st_bH ?_|refine st_bM rfl ?_)
 ·refine ⟨(i+1,x'),⟨by omega,by assumption⟩,by omega,(by repeat' (first|exact trivial|refine And.intro ?_ ?_|rfl|(simp (disch:=omega) only[go_sem,if_yes,if_no,if_no];rfl)|(simp (disch:=omega) only[go_sem,if_yes,if_no,if_no]))),(by repeat' (first|exact trivial|refine And.intro ?_ ?_|rfl|(simp (disch:=omega) only[go_sem,if_yes,if_no,if_no];rfl)|(simp (disch:=omega) only[go_sem,if_yes,if_no,if_no]))),rfl,HOld.put _ _ _ (by omega)⟩
 ·simp (disch:=omega) only[AEnd,Tryz.results8,aresK,fin,go_sem,implies_true,true_and,and_true,List.reverse_cons,List.reverse_nil]
  exact ⟨_,x,_,rfl,by omega,by omega,hx,rfl⟩
end Go.Proofs.YtoafigpikgigaaaGreatDoor
