/- Contracts of functions that the claim reaches: what each call gives, told in our own logic. Conditions: those of each theorem. -/
import Derived.Test.YthpkmcjiobnpgaaGreatDoorW7
open Nat (reduceAdd reduceMul reduceEqDiff reduceLeDiff)
set_option linter.all false
set_option linter.unusedSimpArgs false
set_option linter.unusedVariables false
namespace Go.Proofs.YthpkmcjiobnpgaaGreatDoor
open Go.Av Go.Txt Go.Lib
attribute [local irreducible] thenA blockA awp awpOps awpD awp1
set_option maxHeartbeats 8000000
set_option maxRecDepth 20000
theorem strs_snoc (l:List (List UInt8)) (x:List UInt8):strs (l ++ [x])=strs l ++ [[.str x]]:=by unfold strs;rw [List.map_append];rfl
theorem drop_cut {s:List UInt8} {a i:Nat} (ha:a≤i) (hi:i < s.length):s.drop a=(s.drop a).take (i - a) ++ s.getD i 0 :: s.drop (i+1):=by
  have h1:s.drop a=(s.drop a).take (i - a) ++ (s.drop a).drop (i - a):=(List.take_append_drop _ _).symm
  rw [List.drop_drop,show a+(i - a)=i by omega,List.drop_eq_getElem_cons hi] at h1
  rw [List.getD_eq_getElem?_getD,List.getElem?_eq_getElem hi]
  exact h1
theorem take_cut {s:List UInt8} {a i:Nat} (ha:a≤i) (hi:i < s.length):(s.drop a).take (i+1 - a)=(s.drop a).take (i - a) ++ [s.getD i 0]:=by
  rw [show i+1 - a=(i - a)+1 by omega,List.take_add_one,List.getElem?_drop,show a+(i - a)=i by omega,List.getElem?_eq_getElem hi,List.getD_eq_getElem?_getD,List.getElem?_eq_getElem hi]
  rfl
structure SpS where
  i:Nat
  a:Nat
  v:AV
  ds:List (List UInt8)
  g:AH
theorem c38 (s:List UInt8) (by_:UInt8) (hs:s.length≤1000000):Pure Tryz.prog 38 [.str s,.int .u8 by_.toNat] (fun v=>v=.lst 1 (strs (splitL by_ s))):=by
  refine Pure.give Tryz.call38 fun h hold=>?_
  refine ACalls.of tab mixed Tryz.call38 Tryz.func38 rfl (fi:=⟨35,[],[30],none,[]⟩) rfl rfl (Nat.le_of_ble_eq_true rfl) (by decide) ?_
  unfold startA
  try simp only[go_sem]
  repeat' (first|refine st_seq_reg rfl (by first|(simp only[go_sem];rfl)|rfl) (by first|(simp only[go_sem];rfl)|rfl) ?_|refine st_op ?_|refine st_det rfl (by simp (disch:=omega) only[go_sem,wr_i64,if_yes,if_no,↓reduceIte,reduceAdd,reduceMul,reduceEqDiff,Nat.reduceBEq,reduceLeDiff];rfl) ?_|refine st_nil ?_|refine st_seq ?_|refine st_block ?_)
  refine st_loopH (α:=SpS) tab mixed [] [] (by repeat (first|exact trivial|refine ⟨rfl,?_⟩)) [] [] (by repeat (first|exact trivial|refine ⟨rfl,?_⟩)) (fun a=>[(7,.int .i64 (a.i:Nat)),(6,.int .i64 (a.a:Nat)),(5,a.v)]) [(0,_),(1,_),(4,_)] (fun _=>[]) [] (fun a=>a.g) (fun a=>((a.i≤s.length∧a.a≤a.i∧a.ds ++ splitL by_ (s.drop a.a)=splitL by_ s∧by_ ∉ (s.drop a.a).take (a.i - a.a)) ∨ (a.i=s.length+1∧a.a≤s.length+1∧a.ds=splitL by_ s))∧a.ds.length≤a.i∧SlA h.clk a.g a.v 1 (strs a.ds)∧(∀ b':Bid,b'.1 < h.clk→a.g.at_ b'=h.at_ b')∧a.g.lp=h.lp∧h.clk≤a.g.clk) (fun a=>s.length+1 - a.i) (by decide) ⟨0,0,.nils,[],_⟩ (by exact ⟨.inl ⟨Nat.zero_le _,Nat.le_refl _,rfl,by simp⟩,Nat.zero_le _,.inl ⟨rfl,rfl⟩,fun _ _=>rfl,rfl,by (try simp only[go_sem]);omega⟩) (by (try simp only[go_sem]);repeat' (first|exact trivial|refine And.intro ?_ ?_|rfl|(simp (disch:=omega) only[go_sem,if_yes,if_no,↓reduceIte,reduceAdd,reduceMul,reduceEqDiff,Nat.reduceBEq,reduceLeDiff];rfl)|(simp (disch:=omega) only[go_sem,if_yes,if_no,↓reduceIte,reduceAdd,reduceMul,reduceEqDiff,Nat.reduceBEq,reduceLeDiff]))) (by (try simp only[go_sem]);repeat' (first|exact trivial|refine And.intro ?_ ?_|rfl|(simp (disch:=omega) only[go_sem,if_yes,if_no,↓reduceIte,reduceAdd,reduceMul,reduceEqDiff,Nat.reduceBEq,reduceLeDiff];rfl)|(simp (disch:=omega) only[go_sem,if_yes,if_no,↓reduceIte,reduceAdd,reduceMul,reduceEqDiff,Nat.reduceBEq,reduceLeDiff]))) (HOld.refl _) ?_
  rintro ⟨i,a,v,ds,g⟩ c ⟨hcase,hdl,hS,hat,hlp,hck⟩ hc
  dsimp only at hcase hdl hS hat hlp hck hc
  simp only[go_sem]
  have hnc:=hS.noL
  rcases hcase with ⟨hi,hai,hsp,hno⟩|⟨rfl,hal,rfl⟩
  case inr =>
    repeat' (first|refine st_seq_reg rfl (by first|(simp only[go_sem,hnc];rfl)|rfl) (by first|(simp only[go_sem,hnc];rfl)|rfl) ?_|refine st_op ?_|refine st_det rfl (by simp (disch:=omega) only[go_sem,wr_i64,if_yes,if_no,↓reduceIte,reduceAdd,reduceMul,reduceEqDiff,Nat.reduceBEq,reduceLeDiff,hnc];rfl) ?_|refine st_gT rfl rfl rfl ?_|refine st_gF rfl rfl rfl ?_|(refine st_gS rfl rfl ?_ ?_ <;> intro hg <;> (try simp only[decide_eq_true_eq,decide_eq_false_iff_not,Bool.not_eq_true',Bool.not_eq_false'] at hg))|refine st_condT rfl ?_|(refine st_condS rfl ?_ ?_ <;> intro hg <;> (try simp only[decide_eq_true_eq,decide_eq_false_iff_not,Bool.not_eq_true',Bool.not_eq_false'] at hg))|refine st_nil ?_|refine st_tN ?_|refine st_seq ?_|refine st_block ?_|refine st_skip ?_|refine st_exit ?_|refine st_ret ?_|refine st_tE ?_|refine st_bH ?_)
    all_goals try (exfalso;omega)
    simp (disch:=omega) only[AEnd,Tryz.results38,aresK,fin,go_sem,↓reduceIte,reduceEqDiff,reduceAdd,reduceLeDiff,if_yes,if_no,implies_true,true_and,and_true,List.reverse_cons,List.reverse_nil]
    exact ⟨hnc,hat,hlp,SlA.ans (R:=fun v=>v=.lst 1 (strs (splitL by_ s))) hS rfl⟩
  by_cases hil:i < s.length
  case neg =>
    obtain rfl:i=s.length:=by omega
    have hpc:(s.drop a).take (s.length - a)=s.drop a:=List.take_of_length_le (by rw [List.length_drop];exact Nat.le_refl _)
    rw [hpc] at hno
    rw [splitL_none hno] at hsp
    repeat' (first|refine st_seq_reg rfl (by first|(simp only[go_sem,hnc,strs_len,hpc];rfl)|rfl) (by first|(simp only[go_sem,hnc,strs_len,hpc];rfl)|rfl) ?_|refine st_reg rfl (by first|(simp only[go_sem,hnc,strs_len,hpc];rfl)|rfl) (by first|(simp only[go_sem,hnc,strs_len,hpc];rfl)|rfl) ?_|refine st_op ?_|refine st_det rfl (by simp (disch:=omega) only[go_sem,wr_i64,if_yes,if_no,↓reduceIte,reduceAdd,reduceMul,reduceEqDiff,Nat.reduceBEq,reduceLeDiff,hnc,strs_len,hpc];rfl) ?_|(refine st_appS (by intro h id x y;simp only[go_sem];rfl) rfl (by simp only[go_sem,hnc,strs_len,hpc];rfl) (by first|(simp only[go_sem,hnc,strs_len,hpc];rfl)|rfl) (by decide) hS (fun _ _ _=>rfl) (by omega) (by simp only[List.length_map,List.length_cons,List.length_nil,big,hnc,strs_len,hpc];omega) (by omega) (by omega) ?_;intro v' g' hA)|refine st_gF rfl rfl rfl ?_|refine st_condT rfl ?_|(refine st_condS rfl ?_ ?_ <;> intro hg <;> (try simp only[decide_eq_true_eq,decide_eq_false_iff_not,Bool.not_eq_true',Bool.not_eq_false'] at hg))|refine st_nil ?_|refine st_tN ?_|refine st_seq ?_|refine st_block ?_|refine st_skip ?_|refine st_exit ?_|refine st_ret ?_|refine st_tE ?_|refine st_bN ?_|refine st_bH ?_)
    all_goals try (exfalso;omega)
    refine ⟨⟨s.length+1,s.length+1,v',ds ++ [s.drop a],_⟩,(by exact ⟨.inr ⟨rfl,Nat.le_refl _,hsp⟩,by simp;omega,by rw [strs_snoc];exact hA.sl.to (fun _ _ _ _ _=>rfl) (by (try simp only[go_sem]);omega),fun b' hb'=>(hA.old b' hb').trans (hat b' hb'),hA.lp.trans hlp,by (try simp only[go_sem]);omega⟩),(by show s.length+1 - (s.length+1) < s.length+1 - s.length;omega),(by repeat' (first|exact trivial|refine And.intro ?_ ?_|rfl|(simp (disch:=omega) only[go_sem,if_yes,if_no,↓reduceIte,reduceAdd,reduceMul,reduceEqDiff,Nat.reduceBEq,reduceLeDiff];rfl)|(simp (disch:=omega) only[go_sem,if_yes,if_no,↓reduceIte,reduceAdd,reduceMul,reduceEqDiff,Nat.reduceBEq,reduceLeDiff]))),(by repeat' (first|exact trivial|refine And.intro ?_ ?_|rfl|(simp (disch:=omega) only[go_sem,if_yes,if_no,↓reduceIte,reduceAdd,reduceMul,reduceEqDiff,Nat.reduceBEq,reduceLeDiff];rfl)|(simp (disch:=omega) only[go_sem,if_yes,if_no,↓reduceIte,reduceAdd,reduceMul,reduceEqDiff,Nat.reduceBEq,reduceLeDiff]))),rfl,HOld.refl _⟩
  by_cases hb:s.getD i 0=by_
  · have hb':(s.getD i 0).toNat=by_.toNat:=by rw [hb]
    obtain ⟨q,hq⟩:∃ q,q=(s.drop a).take (i - a):=⟨_,rfl⟩
    have hcut:=drop_cut hai hil
    rw [hb,← hq] at hcut
    rw [← hq] at hno
    rw [hcut,splitL_app hno] at hsp
    repeat' (first|refine st_seq_reg rfl (by first|(simp only[go_sem,hnc,strs_len,idx9,Int.toNat_natCast,hb',← hq];rfl)|rfl) (by first|(simp only[go_sem,hnc,strs_len,idx9,Int.toNat_natCast,hb',← hq];rfl)|rfl) ?_|refine st_reg rfl (by first|(simp only[go_sem,hnc,strs_len,idx9,Int.toNat_natCast,hb',← hq];rfl)|rfl) (by first|(simp only[go_sem,hnc,strs_len,idx9,Int.toNat_natCast,hb',← hq];rfl)|rfl) ?_|refine st_op ?_|refine st_det rfl (by simp (disch:=omega) only[go_sem,wr_i64,if_yes,if_no,↓reduceIte,reduceAdd,reduceMul,reduceEqDiff,Nat.reduceBEq,reduceLeDiff,hnc,strs_len,idx9,Int.toNat_natCast,hb',← hq];rfl) ?_|(refine st_appS (by intro h id x y;simp only[go_sem];rfl) rfl (by simp only[go_sem,hnc,strs_len,idx9,Int.toNat_natCast,hb',← hq];rfl) (by first|(simp only[go_sem,hnc,strs_len,idx9,Int.toNat_natCast,hb',← hq];rfl)|rfl) (by decide) hS (fun _ _ _=>rfl) (by omega) (by simp only[List.length_map,List.length_cons,List.length_nil,big,hnc,strs_len,idx9,Int.toNat_natCast,hb',← hq];omega) (by omega) (by omega) ?_;intro v' g' hA)|refine st_gT rfl rfl rfl ?_|refine st_gF rfl rfl rfl ?_|(refine st_gS rfl rfl ?_ ?_ <;> intro hg <;> (try simp only[decide_eq_true_eq,decide_eq_false_iff_not,Bool.not_eq_true',Bool.not_eq_false'] at hg))|refine st_condT rfl ?_|(refine st_condS rfl ?_ ?_ <;> intro hg <;> (try simp only[decide_eq_true_eq,decide_eq_false_iff_not,Bool.not_eq_true',Bool.not_eq_false'] at hg))|refine st_nil ?_|refine st_tN ?_|refine st_seq ?_|refine st_block ?_|refine st_skip ?_|refine st_exit ?_|refine st_ret ?_|refine st_tE ?_|refine st_bN ?_|refine st_bH ?_)
    all_goals try (exfalso;omega)
    refine ⟨⟨i+1,i+1,v',ds ++ [q],_⟩,(by exact ⟨.inl ⟨by show i+1≤s.length;omega,Nat.le_refl _,by rw [List.append_assoc];exact hsp,by simp⟩,by simp;omega,by rw [strs_snoc];exact hA.sl.to (fun _ _ _ _ _=>rfl) (by (try simp only[go_sem]);omega),fun b' hb'=>(hA.old b' hb').trans (hat b' hb'),hA.lp.trans hlp,by (try simp only[go_sem]);omega⟩),(by show s.length+1 - (i+1) < s.length+1 - i;omega),(by repeat' (first|exact trivial|refine And.intro ?_ ?_|rfl|(simp (disch:=omega) only[go_sem,if_yes,if_no,↓reduceIte,reduceAdd,reduceMul,reduceEqDiff,Nat.reduceBEq,reduceLeDiff];rfl)|(simp (disch:=omega) only[go_sem,if_yes,if_no,↓reduceIte,reduceAdd,reduceMul,reduceEqDiff,Nat.reduceBEq,reduceLeDiff]))),(by repeat' (first|exact trivial|refine And.intro ?_ ?_|rfl|(simp (disch:=omega) only[go_sem,if_yes,if_no,↓reduceIte,reduceAdd,reduceMul,reduceEqDiff,Nat.reduceBEq,reduceLeDiff];rfl)|(simp (disch:=omega) only[go_sem,if_yes,if_no,↓reduceIte,reduceAdd,reduceMul,reduceEqDiff,Nat.reduceBEq,reduceLeDiff]))),rfl,HOld.refl _⟩
  have hb':¬ (s.getD i 0).toNat=by_.toNat:=fun q=>hb (UInt8.toNat_inj.1 q)
  have hno2:by_ ∉ (s.drop a).take (i+1 - a):=by
    rw [take_cut hai hil]
    simp only[List.mem_append,List.mem_singleton,not_or]
    exact ⟨hno,fun e=>hb e.symm⟩
  repeat' (first|refine st_seq_reg rfl (by first|(simp only[go_sem,hnc,strs_len,idx9,Int.toNat_natCast];rfl)|rfl) (by first|(simp only[go_sem,hnc,strs_len,idx9,Int.toNat_natCast];rfl)|rfl) ?_|refine st_reg rfl (by first|(simp only[go_sem,hnc,strs_len,idx9,Int.toNat_natCast];rfl)|rfl) (by first|(simp only[go_sem,hnc,strs_len,idx9,Int.toNat_natCast];rfl)|rfl) ?_|refine st_op ?_|refine st_det rfl (by simp (disch:=omega) only[go_sem,wr_i64,if_yes,if_no,↓reduceIte,reduceAdd,reduceMul,reduceEqDiff,Nat.reduceBEq,reduceLeDiff,hnc,strs_len,idx9,Int.toNat_natCast];rfl) ?_|refine st_gT rfl rfl rfl ?_|refine st_gF rfl rfl rfl ?_|(refine st_gS rfl rfl ?_ ?_ <;> intro hg <;> (try simp only[decide_eq_true_eq,decide_eq_false_iff_not,Bool.not_eq_true',Bool.not_eq_false'] at hg))|refine st_condT rfl ?_|(refine st_condS rfl ?_ ?_ <;> intro hg <;> (try simp only[decide_eq_true_eq,decide_eq_false_iff_not,Bool.not_eq_true',Bool.not_eq_false'] at hg))|refine st_nil ?_|refine st_tN ?_|refine st_seq ?_|refine st_block ?_|refine st_skip ?_|refine st_exit ?_|refine st_ret ?_|refine st_tE ?_|refine st_bN ?_|refine st_bH ?_)
  all_goals try (exfalso;omega)
  refine ⟨⟨i+1,a,v,ds,_⟩,(by exact ⟨.inl ⟨by show i+1≤s.length;omega,by show a≤i+1;omega,hsp,hno2⟩,by show ds.length≤i+1;omega,hS.to (fun _ _ _ _ _=>rfl) (by (try simp only[go_sem]);omega),hat,hlp,by (try simp only[go_sem]);omega⟩),(by show s.length+1 - (i+1) < s.length+1 - i;omega),(by repeat' (first|exact trivial|refine And.intro ?_ ?_|rfl|(simp (disch:=omega) only[go_sem,if_yes,if_no,↓reduceIte,reduceAdd,reduceMul,reduceEqDiff,Nat.reduceBEq,reduceLeDiff];rfl)|(simp (disch:=omega) only[go_sem,if_yes,if_no,↓reduceIte,reduceAdd,reduceMul,reduceEqDiff,Nat.reduceBEq,reduceLeDiff]))),(by repeat' (first|exact trivial|refine And.intro ?_ ?_|rfl|(simp (disch:=omega) only[go_sem,if_yes,if_no,↓reduceIte,reduceAdd,reduceMul,reduceEqDiff,Nat.reduceBEq,reduceLeDiff];rfl)|(simp (disch:=omega) only[go_sem,if_yes,if_no,↓reduceIte,reduceAdd,reduceMul,reduceEqDiff,Nat.reduceBEq,reduceLeDiff]))),rfl,HOld.refl _⟩
def nrV (s word:List UInt8) (many:Int):AV:=match rowP 7 s with
  | some (w,l)=>if w=word∧(l.length:Int)=many then .tup [.lst 1 (l.map iv),.bool true] else .tup [.lst 1 [],.bool false]
  | none=>.tup [.lst 1 [],.bool false]
theorem c39 (s word:List UInt8) (many:Int) (hs:s.length≤1000000) (hm:0≤many∧many≤1000):Pure Tryz.prog 39 [.str s,.str word,.int .i64 many] (fun v=>v=nrV s word many):=by
  refine Pure.give Tryz.call39 fun h hold=>?_
  obtain ⟨w,ws,hw⟩:∃ w ws,splitL 32 s=w :: ws:=by
    cases e:splitL 32 s with
    | nil=>exact absurd e (splitL_ne _ _)
    | cons w ws=>exact ⟨w,ws,rfl⟩
  have hlen:=splitL_len 32 s
  rw [hw,List.length_cons] at hlen
  have k88:Pure Tryz.prog 38 [.str s,.int .u8 32] (fun v=>v=.lst 1 (strs (w :: ws))):=by have:=c38 s 32 hs;rwa [hw] at this
  have hg0:(strs (w :: ws)).getD (Int.toNat 0) []=[.str w]:=rfl
  have hrow:∀ l,numsP 7 ws=some l→w=word→(ws.length:Int)=many→nrV s word many=.tup [.lst 1 (l.map iv),.bool true]:=by
    intro l hl h1 h2
    unfold nrV rowP;rw [hw];simp only[hl,Option.map_some]
    rw [if_pos ⟨h1,by rw [numsP_len hl];exact h2⟩]
  have hrow0:(numsP 7 ws=none ∨ w ≠ word ∨ (ws.length:Int) ≠ many)→nrV s word many=.tup [.lst 1 [],.bool false]:=by
    intro hh
    unfold nrV rowP;rw [hw]
    cases hl:numsP 7 ws with
    | none=>simp only[hl,Option.map_none]
    | some l =>
      simp only[hl,Option.map_some]
      rw [if_neg]
      rintro ⟨h1,h2⟩
      rcases hh with q|q|q
      · rw [q] at hl;cases hl
      · exact q h1
      · exact q (by rw [← numsP_len hl];exact h2)
  have hfail:(numsP 7 ws=none ∨ w ≠ word ∨ (ws.length:Int) ≠ many)→(∃ v',VLe (.tup [.nils,.bool false]) v'∧v'=nrV s word many):=fun q =>
    ⟨_,VLe.tup (VLes.mid (pre:=[]) (post:=[.bool false]) (VLe.nils 1)),(hrow0 q).symm⟩
  have hbad:∀ i,i < ws.length→numP 7 (ws.getD i [])=none→numsP 7 ws=none:=by
    intro i hi hn
    have e:ws=ws.take (i+1) ++ ws.drop (i+1):=(List.take_append_drop _ _).symm
    rw [e]
    refine numsP_bad ?_
    rw [take_str hi,numsP_snoc,hn]
    cases numsP 7 (ws.take i) <;> rfl
  by_cases h1:w=word
  case neg =>
    refine ACalls.of tab mixed Tryz.call39 Tryz.func39 rfl (fi:=⟨48,[],[45],none,[]⟩) rfl rfl (Nat.le_of_ble_eq_true rfl) (by decide) ?_
    unfold startA
    try simp only[go_sem]
    repeat' (first|refine st_seq_reg rfl (by first|(simp only[go_sem,strs_len,List.length_cons,hg0,h1];rfl)|rfl) (by first|(simp only[go_sem,strs_len,List.length_cons,hg0,h1];rfl)|rfl) ?_|refine st_reg rfl (by first|(simp only[go_sem,strs_len,List.length_cons,hg0,h1];rfl)|rfl) (by first|(simp only[go_sem,strs_len,List.length_cons,hg0,h1];rfl)|rfl) ?_|refine st_op ?_|refine st_det rfl (by simp (disch:=omega) only[go_sem,wr_i64,if_yes,if_no,↓reduceIte,reduceAdd,reduceMul,reduceEqDiff,Nat.reduceBEq,reduceLeDiff,strs_len,List.length_cons,hg0,h1];rfl) ?_|refine st_heap rfl (by simp (disch:=omega) only[go_sem,wr_i64,if_yes,if_no,↓reduceIte,reduceAdd,reduceMul,reduceEqDiff,Nat.reduceBEq,reduceLeDiff,strs_len,List.length_cons,hg0,h1];rfl) ?_|refine st_append (by simp (disch:=omega) only[go_sem,wr_i64,if_yes,if_no,↓reduceIte,reduceAdd,reduceMul,reduceEqDiff,Nat.reduceBEq,reduceLeDiff,strs_len,List.length_cons,hg0,h1];rfl) ?_|(refine st_pureE (by first|(simp (disch:=omega) only[go_sem,strs_len,List.length_cons,hg0,h1];rfl)|rfl) rfl (k88) (by first|(simp only[go_sem,strs_len,List.length_cons,hg0,h1];rfl)|rfl) (by intro n;first|(simp (disch:=omega) only[go_sem];rfl)|rfl) ?_;intro n hn)|refine st_gT rfl rfl rfl ?_|refine st_gF rfl rfl rfl ?_|(refine st_gS rfl rfl ?_ ?_ <;> intro hg <;> (try simp only[decide_eq_true_eq,decide_eq_false_iff_not,Bool.not_eq_true',Bool.not_eq_false'] at hg))|refine st_condT rfl ?_|refine st_condF rfl ?_|(refine st_condS rfl ?_ ?_ <;> intro hg <;> (try simp only[decide_eq_true_eq,decide_eq_false_iff_not,Bool.not_eq_true',Bool.not_eq_false'] at hg))|refine st_nil ?_|refine st_tN ?_|refine st_seq ?_|refine st_block ?_|refine st_skip ?_|refine st_exit ?_|refine st_ret ?_|refine st_tE ?_|refine st_tR ?_|refine st_bN ?_|refine st_bR ?_|refine st_bH ?_|refine st_bM rfl ?_)
    all_goals try (exfalso;omega)
    simp (disch:=omega) only[AEnd,Tryz.results39,aresK,fin,go_sem,↓reduceIte,reduceEqDiff,reduceAdd,reduceLeDiff,if_yes,if_no,implies_true,true_and,and_true,List.reverse_cons,List.reverse_nil]
    exact .inl (hfail (.inr (.inl h1)))
  by_cases h2:(ws.length:Int)=many
  case neg =>
    refine ACalls.of tab mixed Tryz.call39 Tryz.func39 rfl (fi:=⟨48,[],[45],none,[]⟩) rfl rfl (Nat.le_of_ble_eq_true rfl) (by decide) ?_
    unfold startA
    try simp only[go_sem]
    repeat' (first|refine st_seq_reg rfl (by first|(simp only[go_sem,strs_len,List.length_cons,hg0,h1];rfl)|rfl) (by first|(simp only[go_sem,strs_len,List.length_cons,hg0,h1];rfl)|rfl) ?_|refine st_reg rfl (by first|(simp only[go_sem,strs_len,List.length_cons,hg0,h1];rfl)|rfl) (by first|(simp only[go_sem,strs_len,List.length_cons,hg0,h1];rfl)|rfl) ?_|refine st_op ?_|refine st_det rfl (by simp (disch:=omega) only[go_sem,wr_i64,if_yes,if_no,↓reduceIte,reduceAdd,reduceMul,reduceEqDiff,Nat.reduceBEq,reduceLeDiff,strs_len,List.length_cons,hg0,h1];rfl) ?_|refine st_heap rfl (by simp (disch:=omega) only[go_sem,wr_i64,if_yes,if_no,↓reduceIte,reduceAdd,reduceMul,reduceEqDiff,Nat.reduceBEq,reduceLeDiff,strs_len,List.length_cons,hg0,h1];rfl) ?_|refine st_append (by simp (disch:=omega) only[go_sem,wr_i64,if_yes,if_no,↓reduceIte,reduceAdd,reduceMul,reduceEqDiff,Nat.reduceBEq,reduceLeDiff,strs_len,List.length_cons,hg0,h1];rfl) ?_|(refine st_pureE (by first|(simp (disch:=omega) only[go_sem,strs_len,List.length_cons,hg0,h1];rfl)|rfl) rfl (k88) (by first|(simp only[go_sem,strs_len,List.length_cons,hg0,h1];rfl)|rfl) (by intro n;first|(simp (disch:=omega) only[go_sem];rfl)|rfl) ?_;intro n hn)|refine st_gT rfl rfl rfl ?_|refine st_gF rfl rfl rfl ?_|(refine st_gS rfl rfl ?_ ?_ <;> intro hg <;> (try simp only[decide_eq_true_eq,decide_eq_false_iff_not,Bool.not_eq_true',Bool.not_eq_false'] at hg))|refine st_condT rfl ?_|refine st_condF rfl ?_|(refine st_condS rfl ?_ ?_ <;> intro hg <;> (try simp only[decide_eq_true_eq,decide_eq_false_iff_not,Bool.not_eq_true',Bool.not_eq_false'] at hg))|refine st_nil ?_|refine st_tN ?_|refine st_seq ?_|refine st_block ?_|refine st_skip ?_|refine st_exit ?_|refine st_ret ?_|refine st_tE ?_|refine st_tR ?_|refine st_bN ?_|refine st_bR ?_|refine st_bH ?_|refine st_bM rfl ?_)
    all_goals try (exfalso;omega)
    simp (disch:=omega) only[AEnd,Tryz.results39,aresK,fin,go_sem,↓reduceIte,reduceEqDiff,reduceAdd,reduceLeDiff,if_yes,if_no,implies_true,true_and,and_true,List.reverse_cons,List.reverse_nil]
    exact .inl (hfail (.inr (.inr h2)))
  refine ACalls.of tab mixed Tryz.call39 Tryz.func39 rfl (fi:=⟨48,[],[45],none,[]⟩) rfl rfl (Nat.le_of_ble_eq_true rfl) (by decide) ?_
  unfold startA
  try simp only[go_sem]
  repeat' (first|refine st_seq_reg rfl (by first|(simp only[go_sem,strs_len,List.length_cons,hg0,h1];rfl)|rfl) (by first|(simp only[go_sem,strs_len,List.length_cons,hg0,h1];rfl)|rfl) ?_|refine st_reg rfl (by first|(simp only[go_sem,strs_len,List.length_cons,hg0,h1];rfl)|rfl) (by first|(simp only[go_sem,strs_len,List.length_cons,hg0,h1];rfl)|rfl) ?_|refine st_op ?_|refine st_det rfl (by simp (disch:=omega) only[go_sem,wr_i64,if_yes,if_no,↓reduceIte,reduceAdd,reduceMul,reduceEqDiff,Nat.reduceBEq,reduceLeDiff,strs_len,List.length_cons,hg0,h1];rfl) ?_|refine st_heap rfl (by simp (disch:=omega) only[go_sem,wr_i64,if_yes,if_no,↓reduceIte,reduceAdd,reduceMul,reduceEqDiff,Nat.reduceBEq,reduceLeDiff,strs_len,List.length_cons,hg0,h1];rfl) ?_|refine st_append (by simp (disch:=omega) only[go_sem,wr_i64,if_yes,if_no,↓reduceIte,reduceAdd,reduceMul,reduceEqDiff,Nat.reduceBEq,reduceLeDiff,strs_len,List.length_cons,hg0,h1];rfl) ?_|(refine st_pureE (by first|(simp (disch:=omega) only[go_sem,strs_len,List.length_cons,hg0,h1];rfl)|rfl) rfl (k88) (by first|(simp only[go_sem,strs_len,List.length_cons,hg0,h1];rfl)|rfl) (by intro n;first|(simp (disch:=omega) only[go_sem];rfl)|rfl) ?_;intro n hn)|refine st_gT rfl rfl rfl ?_|refine st_gF rfl rfl rfl ?_|(refine st_gS rfl rfl ?_ ?_ <;> intro hg <;> (try simp only[decide_eq_true_eq,decide_eq_false_iff_not,Bool.not_eq_true',Bool.not_eq_false'] at hg))|refine st_condT rfl ?_|refine st_condF rfl ?_|(refine st_condS rfl ?_ ?_ <;> intro hg <;> (try simp only[decide_eq_true_eq,decide_eq_false_iff_not,Bool.not_eq_true',Bool.not_eq_false'] at hg))|refine st_nil ?_|refine st_tN ?_|refine st_seq ?_|refine st_block ?_|refine st_skip ?_|refine st_exit ?_|refine st_ret ?_|refine st_tE ?_|refine st_tR ?_|refine st_bN ?_|refine st_bR ?_|refine st_bH ?_|refine st_bM rfl ?_)
  all_goals try (exfalso;omega)
  refine st_loopH (α:=PaS) tab mixed [] [] (by repeat (first|exact trivial|refine ⟨rfl,?_⟩)) [] [] (by repeat (first|exact trivial|refine ⟨rfl,?_⟩)) (fun a=>[(10,.int .i64 ((a.i+1:Nat):Int)),(9,a.v)]) [(2,_),(6,_),(7,_),(8,_)] (fun _=>[]) [] (fun a=>a.g) (fun a=>a.i≤ws.length∧numsP 7 (ws.take a.i)=some a.ns∧a.ns.length=a.i∧SlA h.clk a.g a.v 1 (a.ns.map iv)∧(∀ b':Bid,b'.1 < h.clk→a.g.at_ b'=h.at_ b')∧a.g.lp=h.lp∧h.clk≤a.g.clk) (fun a=>ws.length - a.i) (by decide) ⟨0,.nils,[],_⟩ (by exact ⟨Nat.zero_le _,rfl,rfl,.inl ⟨rfl,rfl⟩,fun _ _=>rfl,rfl,by (try simp only[go_sem]);omega⟩) (by (try simp only[go_sem]);repeat' (first|exact trivial|refine And.intro ?_ ?_|rfl|(simp (disch:=omega) only[go_sem,if_yes,if_no,↓reduceIte,reduceAdd,reduceMul,reduceEqDiff,Nat.reduceBEq,reduceLeDiff];rfl)|(simp (disch:=omega) only[go_sem,if_yes,if_no,↓reduceIte,reduceAdd,reduceMul,reduceEqDiff,Nat.reduceBEq,reduceLeDiff]))) (by (try simp only[go_sem]);repeat' (first|exact trivial|refine And.intro ?_ ?_|rfl|(simp (disch:=omega) only[go_sem,if_yes,if_no,↓reduceIte,reduceAdd,reduceMul,reduceEqDiff,Nat.reduceBEq,reduceLeDiff];rfl)|(simp (disch:=omega) only[go_sem,if_yes,if_no,↓reduceIte,reduceAdd,reduceMul,reduceEqDiff,Nat.reduceBEq,reduceLeDiff]))) (HOld.refl _) ?_
  rintro ⟨i,v,ns,g⟩ c ⟨hi,hns,hnl,hS,hat,hlp,hck⟩ hc
  dsimp only at hi hns hnl hS hat hlp hck hc
  simp only[go_sem]
  have hnc:=hS.noL
  by_cases hil:i < ws.length
  case neg =>
    obtain rfl:i=ws.length:=by omega
    rw [List.take_length] at hns
    repeat' (first|refine st_seq_reg rfl (by first|(simp only[go_sem,strs_len,List.length_cons,hnc];rfl)|rfl) (by first|(simp only[go_sem,strs_len,List.length_cons,hnc];rfl)|rfl) ?_|refine st_reg rfl (by first|(simp only[go_sem,strs_len,List.length_cons,hnc];rfl)|rfl) (by first|(simp only[go_sem,strs_len,List.length_cons,hnc];rfl)|rfl) ?_|refine st_op ?_|refine st_det rfl (by simp (disch:=omega) only[go_sem,wr_i64,if_yes,if_no,↓reduceIte,reduceAdd,reduceMul,reduceEqDiff,Nat.reduceBEq,reduceLeDiff,strs_len,List.length_cons,hnc];rfl) ?_|refine st_heap rfl (by simp (disch:=omega) only[go_sem,wr_i64,if_yes,if_no,↓reduceIte,reduceAdd,reduceMul,reduceEqDiff,Nat.reduceBEq,reduceLeDiff,strs_len,List.length_cons,hnc];rfl) ?_|refine st_append (by simp (disch:=omega) only[go_sem,wr_i64,if_yes,if_no,↓reduceIte,reduceAdd,reduceMul,reduceEqDiff,Nat.reduceBEq,reduceLeDiff,strs_len,List.length_cons,hnc];rfl) ?_|refine st_gT rfl rfl rfl ?_|refine st_gF rfl rfl rfl ?_|(refine st_gS rfl rfl ?_ ?_ <;> intro hg <;> (try simp only[decide_eq_true_eq,decide_eq_false_iff_not,Bool.not_eq_true',Bool.not_eq_false'] at hg))|refine st_condT rfl ?_|refine st_condF rfl ?_|(refine st_condS rfl ?_ ?_ <;> intro hg <;> (try simp only[decide_eq_true_eq,decide_eq_false_iff_not,Bool.not_eq_true',Bool.not_eq_false'] at hg))|refine st_nil ?_|refine st_tN ?_|refine st_seq ?_|refine st_block ?_|refine st_skip ?_|refine st_exit ?_|refine st_ret ?_|refine st_tE ?_|refine st_tR ?_|refine st_bN ?_|refine st_bR ?_|refine st_bH ?_|refine st_bM rfl ?_)
    all_goals try (exfalso;omega)
    simp (disch:=omega) only[AEnd,Tryz.results39,aresK,fin,go_sem,↓reduceIte,reduceEqDiff,reduceAdd,reduceLeDiff,if_yes,if_no,implies_true,true_and,and_true,List.reverse_cons,List.reverse_nil]
    refine ⟨hnc,hat,hlp,?_⟩
    rw [hrow ns hns h1 h2]
    exact SlA.ansT (R:=fun v=>v=.tup [.lst 1 (ns.map iv),.bool true]) [] [.bool true] (fun _ _=>rfl) (fun _ _=>rfl) hS rfl
  obtain ⟨x,hx⟩:∃ x,x=ws.getD i []:=⟨_,rfl⟩
  have hxg:(strs (word :: ws)).getD (i+1) []=[.str x]:=by rw [strs_getD (by simp;omega),hx];rfl
  have k115:=c63 x
  cases hz:numP 7 x with
  | none =>
    rw [numV,hz] at k115
    repeat' (first|refine st_seq_reg rfl (by first|(simp only[go_sem,strs_len,List.length_cons,hnc,hxg,Int.toNat_natCast];rfl)|rfl) (by first|(simp only[go_sem,strs_len,List.length_cons,hnc,hxg,Int.toNat_natCast];rfl)|rfl) ?_|refine st_reg rfl (by first|(simp only[go_sem,strs_len,List.length_cons,hnc,hxg,Int.toNat_natCast];rfl)|rfl) (by first|(simp only[go_sem,strs_len,List.length_cons,hnc,hxg,Int.toNat_natCast];rfl)|rfl) ?_|refine st_op ?_|refine st_det rfl (by simp (disch:=omega) only[go_sem,wr_i64,if_yes,if_no,↓reduceIte,reduceAdd,reduceMul,reduceEqDiff,Nat.reduceBEq,reduceLeDiff,strs_len,List.length_cons,hnc,hxg,Int.toNat_natCast];rfl) ?_|refine st_heap rfl (by simp (disch:=omega) only[go_sem,wr_i64,if_yes,if_no,↓reduceIte,reduceAdd,reduceMul,reduceEqDiff,Nat.reduceBEq,reduceLeDiff,strs_len,List.length_cons,hnc,hxg,Int.toNat_natCast];rfl) ?_|refine st_append (by simp (disch:=omega) only[go_sem,wr_i64,if_yes,if_no,↓reduceIte,reduceAdd,reduceMul,reduceEqDiff,Nat.reduceBEq,reduceLeDiff,strs_len,List.length_cons,hnc,hxg,Int.toNat_natCast];rfl) ?_|(refine st_pureE (by first|(simp (disch:=omega) only[go_sem,strs_len,List.length_cons,hnc,hxg,Int.toNat_natCast];rfl)|rfl) rfl (k115) (by first|(simp only[go_sem,strs_len,List.length_cons,hnc,hxg,Int.toNat_natCast];rfl)|rfl) (by intro n;first|(simp (disch:=omega) only[go_sem];rfl)|rfl) ?_;intro n hn)|refine st_gT rfl rfl rfl ?_|refine st_gF rfl rfl rfl ?_|(refine st_gS rfl rfl ?_ ?_ <;> intro hg <;> (try simp only[decide_eq_true_eq,decide_eq_false_iff_not,Bool.not_eq_true',Bool.not_eq_false'] at hg))|refine st_condT rfl ?_|refine st_condF rfl ?_|(refine st_condS rfl ?_ ?_ <;> intro hg <;> (try simp only[decide_eq_true_eq,decide_eq_false_iff_not,Bool.not_eq_true',Bool.not_eq_false'] at hg))|refine st_nil ?_|refine st_tN ?_|refine st_seq ?_|refine st_block ?_|refine st_skip ?_|refine st_exit ?_|refine st_ret ?_|refine st_tE ?_|refine st_tR ?_|refine st_bN ?_|refine st_bR ?_|refine st_bH ?_|refine st_bM rfl ?_)
    all_goals try (exfalso;omega)
    simp (disch:=omega) only[AEnd,Tryz.results39,aresK,fin,go_sem,↓reduceIte,reduceEqDiff,reduceAdd,reduceLeDiff,if_yes,if_no,implies_true,true_and,and_true,List.reverse_cons,List.reverse_nil]
    exact ⟨hat,hlp,.inl (hfail (.inl (hbad i hil (hx ▸ hz))))⟩
  | some z =>
    rw [numV,hz] at k115
    repeat' (first|refine st_seq_reg rfl (by first|(simp only[go_sem,strs_len,List.length_cons,hnc,hxg,Int.toNat_natCast];rfl)|rfl) (by first|(simp only[go_sem,strs_len,List.length_cons,hnc,hxg,Int.toNat_natCast];rfl)|rfl) ?_|refine st_reg rfl (by first|(simp only[go_sem,strs_len,List.length_cons,hnc,hxg,Int.toNat_natCast];rfl)|rfl) (by first|(simp only[go_sem,strs_len,List.length_cons,hnc,hxg,Int.toNat_natCast];rfl)|rfl) ?_|refine st_op ?_|refine st_det rfl (by simp (disch:=omega) only[go_sem,wr_i64,if_yes,if_no,↓reduceIte,reduceAdd,reduceMul,reduceEqDiff,Nat.reduceBEq,reduceLeDiff,strs_len,List.length_cons,hnc,hxg,Int.toNat_natCast];rfl) ?_|refine st_heap rfl (by simp (disch:=omega) only[go_sem,wr_i64,if_yes,if_no,↓reduceIte,reduceAdd,reduceMul,reduceEqDiff,Nat.reduceBEq,reduceLeDiff,strs_len,List.length_cons,hnc,hxg,Int.toNat_natCast];rfl) ?_|refine st_append (by simp (disch:=omega) only[go_sem,wr_i64,if_yes,if_no,↓reduceIte,reduceAdd,reduceMul,reduceEqDiff,Nat.reduceBEq,reduceLeDiff,strs_len,List.length_cons,hnc,hxg,Int.toNat_natCast];rfl) ?_|(refine st_pureE (by first|(simp (disch:=omega) only[go_sem,strs_len,List.length_cons,hnc,hxg,Int.toNat_natCast];rfl)|rfl) rfl (k115) (by first|(simp only[go_sem,strs_len,List.length_cons,hnc,hxg,Int.toNat_natCast];rfl)|rfl) (by intro n;first|(simp (disch:=omega) only[go_sem];rfl)|rfl) ?_;intro n hn)|(refine st_appS (by intro h id x y;simp only[go_sem];rfl) rfl (by simp only[go_sem,strs_len,List.length_cons,hnc,hxg,Int.toNat_natCast];rfl) (by first|(simp only[go_sem,strs_len,List.length_cons,hnc,hxg,Int.toNat_natCast];rfl)|rfl) (by decide) hS (fun _ _ _=>rfl) (by omega) (by simp only[List.length_map,List.length_cons,List.length_nil,big,strs_len,List.length_cons,hnc,hxg,Int.toNat_natCast];omega) (by omega) (by omega) ?_;intro v' g' hA)|refine st_gT rfl rfl rfl ?_|refine st_gF rfl rfl rfl ?_|(refine st_gS rfl rfl ?_ ?_ <;> intro hg <;> (try simp only[decide_eq_true_eq,decide_eq_false_iff_not,Bool.not_eq_true',Bool.not_eq_false'] at hg))|refine st_condT rfl ?_|refine st_condF rfl ?_|(refine st_condS rfl ?_ ?_ <;> intro hg <;> (try simp only[decide_eq_true_eq,decide_eq_false_iff_not,Bool.not_eq_true',Bool.not_eq_false'] at hg))|refine st_nil ?_|refine st_tN ?_|refine st_seq ?_|refine st_block ?_|refine st_skip ?_|refine st_exit ?_|refine st_ret ?_|refine st_tE ?_|refine st_tR ?_|refine st_bN ?_|refine st_bR ?_|refine st_bH ?_|refine st_bM rfl ?_)
    all_goals try (exfalso;omega)
    have hns2:numsP 7 (ws.take (i+1))=some (ns ++ [(z:Int)]):=by
      rw [take_str hil,numsP_snoc,hns,← hx,hz]
    refine ⟨⟨i+1,v',ns ++ [(z:Int)],_⟩,(by exact ⟨by show i+1≤ws.length;omega,hns2,by simp [hnl],by rw [List.map_append];exact hA.sl.to (fun _ _ _ _ _=>rfl) (by (try simp only[go_sem]);omega),fun b' hb'=>(hA.old b' hb').trans (hat b' hb'),hA.lp.trans hlp,by (try simp only[go_sem]);omega⟩),(by show ws.length - (i+1) < ws.length - i;omega),(by repeat' (first|exact trivial|refine And.intro ?_ ?_|rfl|(simp (disch:=omega) only[go_sem,if_yes,if_no,↓reduceIte,reduceAdd,reduceMul,reduceEqDiff,Nat.reduceBEq,reduceLeDiff];rfl)|(simp (disch:=omega) only[go_sem,if_yes,if_no,↓reduceIte,reduceAdd,reduceMul,reduceEqDiff,Nat.reduceBEq,reduceLeDiff]))),(by repeat' (first|exact trivial|refine And.intro ?_ ?_|rfl|(simp (disch:=omega) only[go_sem,if_yes,if_no,↓reduceIte,reduceAdd,reduceMul,reduceEqDiff,Nat.reduceBEq,reduceLeDiff];rfl)|(simp (disch:=omega) only[go_sem,if_yes,if_no,↓reduceIte,reduceAdd,reduceMul,reduceEqDiff,Nat.reduceBEq,reduceLeDiff]))),rfl,HOld.refl _⟩
end Go.Proofs.YthpkmcjiobnpgaaGreatDoor
