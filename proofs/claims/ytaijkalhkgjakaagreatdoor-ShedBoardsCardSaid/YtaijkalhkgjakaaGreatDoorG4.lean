/- Contracts of functions that the claim reaches: what each call gives, told in our own logic. Conditions: those of each theorem. -/
import Derived.Test.YtaijkalhkgjakaaGreatDoorW7
import Derived.Test.YtaijkalhkgjakaaGreatDoorF3b
set_option linter.all false
set_option linter.unusedSimpArgs false
set_option linter.unusedVariables false
namespace Go.Proofs.YtaijkalhkgjakaaGreatDoor
open Go.Av Go.Txt Go.Lib
attribute [local irreducible] thenA blockA awp awpOps awpD awp1
attribute [local go_sem_proc] Nat.reduceAdd Nat.reduceMul Nat.reduceEqDiff Nat.reduceBEq Nat.reduceLeDiff
attribute [local go_sem_proc ↓] reduceIte
attribute [local go_sem] if_yes if_no
set_option maxHeartbeats 8000000
set_option maxRecDepth 20000
theorem strs_snoc (l:List (List UInt8)) (x:List UInt8):strs (l ++ [x])=strs l ++ [[.str x]]:=by unfold strs;rw [List.map_append];rfl
theorem drop_cut {s:List UInt8} {a i:Nat} (ha:a≤i) (hi:i < s.length):s.drop a=(s.drop a).take (i - a) ++ s.getD i 0 :: s.drop (i+1):=by
 have h1:s.drop a=(s.drop a).take (i - a) ++ (s.drop a).drop (i - a):=(List.take_append_drop _ _).symm
 rw [List.drop_drop,show a+(i - a)=i by omega,List.drop_eq_getElem_cons hi] at h1
 rw [List.getD_eq_getElem?_getD,List.getElem?_eq_getElem hi]
 exact h1
theorem take_cut {s:List UInt8} {a i:Nat} (ha:a≤i) (hi:i < s.length):(s.drop a).take (i+1 - a)=(s.drop a).take (i - a) ++ [s.getD i 0]:=by
 rw [show i+1 - a=(i - a)+1 by omega,List.take_add_one,List.getElem?_drop,show a+(i - a)=i by omega,List.getElem?_eq_getElem hi,List.getD_eq_getElem?_getD,List.getElem?_eq_getElem hi]
 rfl
structure SpS where
 i:Nat
 a:Nat
 v:AV
 ds:List (List UInt8)
 g:AH
theorem c88 (s:List UInt8) (by_:UInt8) (hs:s.length≤1000000):Pure Tryz.prog 88 [.str s,.int .u8 by_.toNat] (fun v=>v=.lst 1 (strs (splitL by_ s))):=by
 refine Pure.give Tryz.call88 fun h hold=>?_
 refine ACalls.of tab mixed Tryz.call88 Tryz.func88 rfl (fi:=⟨35,[],[30],none,[]⟩) rfl rfl (Nat.le_of_ble_eq_true rfl) (by decide) ?_
 unfold startA
 try simp only[go_sem]
 repeat' (first|refine st_seq_reg rfl (by first|(simp only[go_sem];rfl)|rfl) (by first|(simp only[go_sem];rfl)|rfl) ?_|refine st_op ?_|refine st_det rfl (by simp (disch:=omega) only[go_sem,wr_i64];rfl) ?_|refine st_nil ?_|refine st_seq ?_|refine st_block ?_)
 refine st_loopH (α:=SpS) tab mixed [] [] (by repeat (first|exact trivial|refine ⟨rfl,?_⟩)) [] [] (by repeat (first|exact trivial|refine ⟨rfl,?_⟩)) (fun a=>[(7,.int .i64 (a.i:Nat)),(6,.int .i64 (a.a:Nat)),(5,a.v)]) [(0,_),(1,_),(4,_)] (fun _=>[]) [] (fun a=>a.g) (fun a=>((a.i≤s.length∧a.a≤a.i∧a.ds ++ splitL by_ (s.drop a.a)=splitL by_ s∧by_ ∉ (s.drop a.a).take (a.i - a.a)) ∨ (a.i=s.length+1∧a.a≤s.length+1∧a.ds=splitL by_ s))∧a.ds.length≤a.i∧SlA h.clk a.g a.v 1 (strs a.ds)∧(∀ b':Bid,b'.1 < h.clk→a.g.at_ b'=h.at_ b')∧a.g.lp=h.lp∧h.clk≤a.g.clk) (fun a=>s.length+1 - a.i) (by decide) ⟨0,0,.nils,[],_⟩ (by exact ⟨.inl ⟨Nat.zero_le _,Nat.le_refl _,rfl,by simp⟩,Nat.zero_le _,.inl ⟨rfl,rfl⟩,fun _ _=>rfl,rfl,by (try simp only[go_sem]);omega⟩) (by (try simp only[go_sem]);repeat' (first|exact trivial|refine And.intro ?_ ?_|rfl|(simp (disch:=omega) only[go_sem,if_yes,if_no,if_no];rfl)|(simp (disch:=omega) only[go_sem,if_yes,if_no,if_no]))) (by (try simp only[go_sem]);repeat' (first|exact trivial|refine And.intro ?_ ?_|rfl|(simp (disch:=omega) only[go_sem,if_yes,if_no,if_no];rfl)|(simp (disch:=omega) only[go_sem,if_yes,if_no,if_no]))) (HOld.refl _) ?_
 rintro ⟨i,a,v,ds,g⟩ c ⟨hcase,hdl,hS,hat,hlp,hck⟩ hc
 dsimp only at hcase hdl hS hat hlp hck hc
 simp only[go_sem]
 have hnc:=hS.noL
 rcases hcase with ⟨hi,hai,hsp,hno⟩|⟨rfl,hal,rfl⟩
 case inr =>
  repeat' (first|refine st_seq_reg rfl (by first|(simp only[go_sem,hnc];rfl)|rfl) (by first|(simp only[go_sem,hnc];rfl)|rfl) ?_|refine st_op ?_|refine st_det rfl (by simp (disch:=omega) only[go_sem,wr_i64,hnc];rfl) ?_|refine st_gT rfl rfl rfl ?_|refine st_gF rfl rfl rfl ?_|(refine st_gS rfl rfl ?_ ?_ <;> intro hg <;> (try simp only[dcT,dcF,bnT,bnF] at hg))|refine st_condT rfl ?_|(refine st_condS rfl ?_ ?_ <;> intro hg <;> (try simp only[dcT,dcF,bnT,bnF] at hg))|refine st_nil ?_|refine st_tN ?_|refine st_seq ?_|refine st_block ?_|refine st_skip ?_|refine st_exit ?_|refine st_ret ?_|refine st_tE ?_|refine st_bH ?_)
  all_goals try (exfalso;omega)
  simp (disch:=omega) only[AEnd,Tryz.results88,aresK,fin,go_sem,implies_true,true_and,and_true,List.reverse_cons,List.reverse_nil]
  exact ⟨hnc,hat,hlp,SlA.ans (R:=fun v=>v=.lst 1 (strs (splitL by_ s))) hS rfl⟩
 by_cases hil:i < s.length
 case neg =>
  obtain rfl:i=s.length:=by omega
  have hpc:(s.drop a).take (s.length - a)=s.drop a:=List.take_of_length_le (by rw [List.length_drop];exact Nat.le_refl _)
  rw [hpc] at hno
  rw [splitL_none hno] at hsp
  repeat' (first|refine st_seq_reg rfl (by first|(simp only[go_sem,hnc,strs_len,hpc];rfl)|rfl) (by first|(simp only[go_sem,hnc,strs_len,hpc];rfl)|rfl) ?_|refine st_reg rfl (by first|(simp only[go_sem,hnc,strs_len,hpc];rfl)|rfl) (by first|(simp only[go_sem,hnc,strs_len,hpc];rfl)|rfl) ?_|refine st_op ?_|refine st_det rfl (by simp (disch:=omega) only[go_sem,wr_i64,hnc,strs_len,hpc];rfl) ?_|(refine st_appS (by intro h id x y;simp only[go_sem];rfl) rfl (by simp only[go_sem,hnc,strs_len,hpc];rfl) (by first|(simp only[go_sem,hnc,strs_len,hpc];rfl)|rfl) (by decide) hS (fun _ _ _=>rfl) (by omega) (by simp only[List.length_map,List.length_cons,List.length_nil,big,hnc,strs_len,hpc];omega) (by omega) (by omega) ?_;intro v' g' hA)|refine st_gF rfl rfl rfl ?_|refine st_condT rfl ?_|(refine st_condS rfl ?_ ?_ <;> intro hg <;> (try simp only[dcT,dcF,bnT,bnF] at hg))|refine st_nil ?_|refine st_tN ?_|refine st_seq ?_|refine st_block ?_|refine st_skip ?_|refine st_exit ?_|refine st_ret ?_|refine st_tE ?_|refine st_bN ?_|refine st_bH ?_)
  all_goals try (exfalso;omega)
  refine ⟨⟨s.length+1,s.length+1,v',ds ++ [s.drop a],_⟩,(by exact ⟨.inr ⟨rfl,Nat.le_refl _,hsp⟩,by simp;omega,by rw [strs_snoc];exact hA.sl.to (fun _ _ _ _ _=>rfl) (by (try simp only[go_sem]);omega),fun b' hb'=>(hA.old b' hb').trans (hat b' hb'),hA.lp.trans hlp,by (try simp only[go_sem]);omega⟩),(by show s.length+1 - (s.length+1) < s.length+1 - s.length;omega),(by repeat' (first|exact trivial|refine And.intro ?_ ?_|rfl|(simp (disch:=omega) only[go_sem,if_yes,if_no,if_no];rfl)|(simp (disch:=omega) only[go_sem,if_yes,if_no,if_no]))),(by repeat' (first|exact trivial|refine And.intro ?_ ?_|rfl|(simp (disch:=omega) only[go_sem,if_yes,if_no,if_no];rfl)|(simp (disch:=omega) only[go_sem,if_yes,if_no,if_no]))),rfl,HOld.refl _⟩
 by_cases hb:s.getD i 0=by_
 ·have hb':(s.getD i 0).toNat=by_.toNat:=by rw [hb]
  obtain ⟨q,hq⟩:∃ q,q=(s.drop a).take (i - a):=⟨_,rfl⟩
  have hcut:=drop_cut hai hil
  rw [hb,← hq] at hcut
  rw [← hq] at hno
  rw [hcut,splitL_app hno] at hsp
  repeat' (first|refine st_seq_reg rfl (by first|(simp only[go_sem,hnc,strs_len,idx9,Int.toNat_natCast,hb',← hq];rfl)|rfl) (by first|(simp only[go_sem,hnc,strs_len,idx9,Int.toNat_natCast,hb',← hq];rfl)|rfl) ?_|refine st_reg rfl (by first|(simp only[go_sem,hnc,strs_len,idx9,Int.toNat_natCast,hb',← hq];rfl)|rfl) (by first|(simp only[go_sem,hnc,strs_len,idx9,Int.toNat_natCast,hb',← hq];rfl)|rfl) ?_|refine st_op ?_|refine st_det rfl (by simp (disch:=omega) only[go_sem,wr_i64,hnc,strs_len,idx9,Int.toNat_natCast,hb',← hq];rfl) ?_|(refine st_appS (by intro h id x y;simp only[go_sem];rfl) rfl (by simp only[go_sem,hnc,strs_len,idx9,Int.toNat_natCast,hb',← hq];rfl) (by first|(simp only[go_sem,hnc,strs_len,idx9,Int.toNat_natCast,hb',← hq];rfl)|rfl) (by decide) hS (fun _ _ _=>rfl) (by omega) (by simp only[List.length_map,List.length_cons,List.length_nil,big,hnc,strs_len,idx9,Int.toNat_natCast,hb',← hq];omega) (by omega) (by omega) ?_;intro v' g' hA)|refine st_gT rfl rfl rfl ?_|refine st_gF rfl rfl rfl ?_|(refine st_gS rfl rfl ?_ ?_ <;> intro hg <;> (try simp only[dcT,dcF,bnT,bnF] at hg))|refine st_condT rfl ?_|(refine st_condS rfl ?_ ?_ <;> intro hg <;> (try simp only[dcT,dcF,bnT,bnF] at hg))|refine st_nil ?_|refine st_tN ?_|refine st_seq ?_|refine st_block ?_|refine st_skip ?_|refine st_exit ?_|refine st_ret ?_|refine st_tE ?_|refine st_bN ?_|refine st_bH ?_)
  all_goals try (exfalso;omega)
  refine ⟨⟨i+1,i+1,v',ds ++ [q],_⟩,(by exact ⟨.inl ⟨by show i+1≤s.length;omega,Nat.le_refl _,by rw [List.append_assoc];exact hsp,by simp⟩,by simp;omega,by rw [strs_snoc];exact hA.sl.to (fun _ _ _ _ _=>rfl) (by (try simp only[go_sem]);omega),fun b' hb'=>(hA.old b' hb').trans (hat b' hb'),hA.lp.trans hlp,by (try simp only[go_sem]);omega⟩),(by show s.length+1 - (i+1) < s.length+1 - i;omega),(by repeat' (first|exact trivial|refine And.intro ?_ ?_|rfl|(simp (disch:=omega) only[go_sem,if_yes,if_no,if_no];rfl)|(simp (disch:=omega) only[go_sem,if_yes,if_no,if_no]))),(by repeat' (first|exact trivial|refine And.intro ?_ ?_|rfl|(simp (disch:=omega) only[go_sem,if_yes,if_no,if_no];rfl)|(simp (disch:=omega) only[go_sem,if_yes,if_no,if_no]))),rfl,HOld.refl _⟩
 have hb':¬ (s.getD i 0).toNat=by_.toNat:=fun q=>hb (UInt8.toNat_inj.1 q)
 have hno2:by_ ∉ (s.drop a).take (i+1 - a):=by
  rw [take_cut hai hil]
  simp only[List.mem_append,List.mem_singleton,not_or]
  exact ⟨hno,fun e=>hb e.symm⟩
 repeat' (first|refine st_seq_reg rfl (by first|(simp only[go_sem,hnc,strs_len,idx9,Int.toNat_natCast];rfl)|rfl) (by first|(simp only[go_sem,hnc,strs_len,idx9,Int.toNat_natCast];rfl)|rfl) ?_|refine st_reg rfl (by first|(simp only[go_sem,hnc,strs_len,idx9,Int.toNat_natCast];rfl)|rfl) (by first|(simp only[go_sem,hnc,strs_len,idx9,Int.toNat_natCast];rfl)|rfl) ?_|refine st_op ?_|refine st_det rfl (by simp (disch:=omega) only[go_sem,wr_i64,hnc,strs_len,idx9,Int.toNat_natCast];rfl) ?_|refine st_gT rfl rfl rfl ?_|refine st_gF rfl rfl rfl ?_|(refine st_gS rfl rfl ?_ ?_ <;> intro hg <;> (try simp only[dcT,dcF,bnT,bnF] at hg))|refine st_condT rfl ?_|(refine st_condS rfl ?_ ?_ <;> intro hg <;> (try simp only[dcT,dcF,bnT,bnF] at hg))|refine st_nil ?_|refine st_tN ?_|refine st_seq ?_|refine st_block ?_|refine st_skip ?_|refine st_exit ?_|refine st_ret ?_|refine st_tE ?_|refine st_bN ?_|refine st_bH ?_)
 all_goals try (exfalso;omega)
 refine ⟨⟨i+1,a,v,ds,_⟩,(by exact ⟨.inl ⟨by show i+1≤s.length;omega,by show a≤i+1;omega,hsp,hno2⟩,by show ds.length≤i+1;omega,hS.to (fun _ _ _ _ _=>rfl) (by (try simp only[go_sem]);omega),hat,hlp,by (try simp only[go_sem]);omega⟩),(by show s.length+1 - (i+1) < s.length+1 - i;omega),(by repeat' (first|exact trivial|refine And.intro ?_ ?_|rfl|(simp (disch:=omega) only[go_sem,if_yes,if_no,if_no];rfl)|(simp (disch:=omega) only[go_sem,if_yes,if_no,if_no]))),(by repeat' (first|exact trivial|refine And.intro ?_ ?_|rfl|(simp (disch:=omega) only[go_sem,if_yes,if_no,if_no];rfl)|(simp (disch:=omega) only[go_sem,if_yes,if_no,if_no]))),rfl,HOld.refl _⟩
end Go.Proofs.YtaijkalhkgjakaaGreatDoor

namespace Go.Proofs.YtaijkalhkgjakaaGreatDoor
open Go.Av Go.Txt Go.Lib
attribute [local irreducible] thenA blockA awp awpOps awpD awp1
attribute [local go_sem_proc] Nat.reduceAdd Nat.reduceMul Nat.reduceEqDiff Nat.reduceBEq Nat.reduceLeDiff
attribute [local go_sem_proc ↓] reduceIte
attribute [local go_sem] if_yes if_no
set_option maxHeartbeats 8000000
set_option maxRecDepth 20000
def nrV (s word:List UInt8) (many:Int):AV:=match rowP 3 s with
 | some (w,l)=>if w=word∧(l.length:Int)=many then .tup [.lst 1 (l.map iv),.bool true] else .tup [.lst 1 [],.bool false]
 | none=>.tup [.lst 1 [],.bool false]
theorem numsP_len {k:Nat}:∀ {l:List (List UInt8)} {r:List Int},numsP k l=some r→r.length=l.length
 | [],r,h=>by simp [numsP] at h;subst h;rfl
 | x :: l,r,h=>by
  simp only[numsP] at h
  split at h
  ·rename_i n q h1 h2
   cases h
   simp [numsP_len h2]
  ·cases h
theorem c89 (s word:List UInt8) (many:Int) (hs:s.length≤1000000) (hm:0≤many∧many≤1000):Pure Tryz.prog 89 [.str s,.str word,.int .i64 many] (fun v=>v=nrV s word many):=by
 refine Pure.give Tryz.call89 fun h hold=>?_
 obtain ⟨w,ws,hw⟩:∃ w ws,splitL 32 s=w :: ws:=by
  cases e:splitL 32 s with
  | nil=>exact absurd e (splitL_ne _ _)
  | cons w ws=>exact ⟨w,ws,rfl⟩
 have hlen:=splitL_len 32 s
 rw [hw,List.length_cons] at hlen
 have k88:Pure Tryz.prog 88 [.str s,.int .u8 32] (fun v=>v=.lst 1 (strs (w :: ws))):=by have:=c88 s 32 hs;rwa [hw] at this
 have hg0:(strs (w :: ws)).getD (Int.toNat 0) []=[.str w]:=rfl
 have hrow:∀ l,numsP 3 ws=some l→w=word→(ws.length:Int)=many→nrV s word many=.tup [.lst 1 (l.map iv),.bool true]:=by
  intro l hl h1 h2
  unfold nrV rowP;rw [hw];simp only[hl,Option.map_some]
  rw [if_pos ⟨h1,by rw [numsP_len hl];exact h2⟩]
 have hrow0:(numsP 3 ws=none ∨ w ≠ word ∨ (ws.length:Int) ≠ many)→nrV s word many=.tup [.lst 1 [],.bool false]:=by
  intro hh
  unfold nrV rowP;rw [hw]
  cases hl:numsP 3 ws with
  | none=>simp only[hl,Option.map_none]
  | some l =>
   simp only[hl,Option.map_some]
   rw [if_neg]
   rintro ⟨h1,h2⟩
   rcases hh with q|q|q
   ·rw [q] at hl;cases hl
   ·exact q h1
   ·exact q (by rw [← numsP_len hl];exact h2)
 have hfail:(numsP 3 ws=none ∨ w ≠ word ∨ (ws.length:Int) ≠ many)→(∃ v',VLe (.tup [.nils,.bool false]) v'∧v'=nrV s word many):=fun q =>
  ⟨_,VLe.tup (VLes.mid (pre:=[]) (post:=[.bool false]) (VLe.nils 1)),(hrow0 q).symm⟩
 have hbad:∀ i,i < ws.length→numP 3 (ws.getD i [])=none→numsP 3 ws=none:=by
  intro i hi hn
  have e:ws=ws.take (i+1) ++ ws.drop (i+1):=(List.take_append_drop _ _).symm
  rw [e]
  refine numsP_bad ?_
  rw [take_str hi,numsP_snoc,hn]
  cases numsP 3 (ws.take i) <;> rfl
 by_cases h1:w=word
 case neg =>
  refine ACalls.of tab mixed Tryz.call89 Tryz.func89 rfl (fi:=⟨48,[],[45],none,[]⟩) rfl rfl (Nat.le_of_ble_eq_true rfl) (by decide) ?_
  unfold startA
  try simp only[go_sem]
  repeat' (first|refine st_seq_reg rfl (by first|(simp only[go_sem,strs_len,List.length_cons,hg0,h1];rfl)|rfl) (by first|(simp only[go_sem,strs_len,List.length_cons,hg0,h1];rfl)|rfl) ?_|refine st_op ?_|refine st_det rfl (by simp (disch:=omega) only[go_sem,wr_i64,strs_len,List.length_cons,hg0,h1];rfl) ?_|(refine st_pureE (by first|(simp (disch:=omega) only[go_sem,strs_len,List.length_cons,hg0,h1];rfl)|rfl) rfl (k88) (by first|(simp only[go_sem,strs_len,List.length_cons,hg0,h1];rfl)|rfl) (by intro n;first|(simp (disch:=omega) only[go_sem];rfl)|rfl) ?_;intro n hn)|refine st_gF rfl rfl rfl ?_|refine st_condT rfl ?_|refine st_nil ?_|refine st_seq ?_|refine st_ret ?_|refine st_tR ?_)
  all_goals try (exfalso;omega)
  simp (disch:=omega) only[AEnd,Tryz.results89,aresK,fin,go_sem,implies_true,true_and,and_true,List.reverse_cons,List.reverse_nil]
  exact .inl (hfail (.inr (.inl h1)))
 by_cases h2:(ws.length:Int)=many
 case neg =>
  refine ACalls.of tab mixed Tryz.call89 Tryz.func89 rfl (fi:=⟨48,[],[45],none,[]⟩) rfl rfl (Nat.le_of_ble_eq_true rfl) (by decide) ?_
  unfold startA
  try simp only[go_sem]
  repeat' (first|refine st_seq_reg rfl (by first|(simp only[go_sem,strs_len,List.length_cons,hg0,h1];rfl)|rfl) (by first|(simp only[go_sem,strs_len,List.length_cons,hg0,h1];rfl)|rfl) ?_|refine st_op ?_|refine st_det rfl (by simp (disch:=omega) only[go_sem,wr_i64,strs_len,List.length_cons,hg0,h1];rfl) ?_|(refine st_pureE (by first|(simp (disch:=omega) only[go_sem,strs_len,List.length_cons,hg0,h1];rfl)|rfl) rfl (k88) (by first|(simp only[go_sem,strs_len,List.length_cons,hg0,h1];rfl)|rfl) (by intro n;first|(simp (disch:=omega) only[go_sem];rfl)|rfl) ?_;intro n hn)|refine st_gT rfl rfl rfl ?_|(refine st_condS rfl ?_ ?_ <;> intro hg <;> (try simp only[dcT,dcF,bnT,bnF] at hg))|refine st_nil ?_|refine st_tN ?_|refine st_seq ?_|refine st_block ?_|refine st_skip ?_|refine st_ret ?_|refine st_tR ?_)
  all_goals try (exfalso;omega)
  simp (disch:=omega) only[AEnd,Tryz.results89,aresK,fin,go_sem,implies_true,true_and,and_true,List.reverse_cons,List.reverse_nil]
  exact .inl (hfail (.inr (.inr h2)))
 refine ACalls.of tab mixed Tryz.call89 Tryz.func89 rfl (fi:=⟨48,[],[45],none,[]⟩) rfl rfl (Nat.le_of_ble_eq_true rfl) (by decide) ?_
 unfold startA
 try simp only[go_sem]
 repeat' (first|refine st_seq_reg rfl (by first|(simp only[go_sem,strs_len,List.length_cons,hg0,h1];rfl)|rfl) (by first|(simp only[go_sem,strs_len,List.length_cons,hg0,h1];rfl)|rfl) ?_|refine st_op ?_|refine st_det rfl (by simp (disch:=omega) only[go_sem,wr_i64,strs_len,List.length_cons,hg0,h1];rfl) ?_|(refine st_pureE (by first|(simp (disch:=omega) only[go_sem,strs_len,List.length_cons,hg0,h1];rfl)|rfl) rfl (k88) (by first|(simp only[go_sem,strs_len,List.length_cons,hg0,h1];rfl)|rfl) (by intro n;first|(simp (disch:=omega) only[go_sem];rfl)|rfl) ?_;intro n hn)|refine st_gT rfl rfl rfl ?_|(refine st_condS rfl ?_ ?_ <;> intro hg <;> (try simp only[dcT,dcF,bnT,bnF] at hg))|refine st_nil ?_|refine st_tN ?_|refine st_seq ?_|refine st_block ?_|refine st_skip ?_|refine st_ret ?_|refine st_tR ?_)
 all_goals try (exfalso;omega)
 refine st_loopH (α:=PaS) tab mixed [] [] (by repeat (first|exact trivial|refine ⟨rfl,?_⟩)) [] [] (by repeat (first|exact trivial|refine ⟨rfl,?_⟩)) (fun a=>[(10,.int .i64 ((a.i+1:Nat):Int)),(9,a.v)]) [(2,_),(6,_),(7,_),(8,_)] (fun _=>[]) [] (fun a=>a.g) (fun a=>a.i≤ws.length∧numsP 3 (ws.take a.i)=some a.ns∧a.ns.length=a.i∧SlA h.clk a.g a.v 1 (a.ns.map iv)∧(∀ b':Bid,b'.1 < h.clk→a.g.at_ b'=h.at_ b')∧a.g.lp=h.lp∧h.clk≤a.g.clk) (fun a=>ws.length - a.i) (by decide) ⟨0,.nils,[],_⟩ (by exact ⟨Nat.zero_le _,rfl,rfl,.inl ⟨rfl,rfl⟩,fun _ _=>rfl,rfl,by (try simp only[go_sem]);omega⟩) (by (try simp only[go_sem]);repeat' (first|exact trivial|refine And.intro ?_ ?_|rfl|(simp (disch:=omega) only[go_sem,if_yes,if_no,if_no];rfl)|(simp (disch:=omega) only[go_sem,if_yes,if_no,if_no]))) (by (try simp only[go_sem]);repeat' (first|exact trivial|refine And.intro ?_ ?_|rfl|(simp (disch:=omega) only[go_sem,if_yes,if_no,if_no];rfl)|(simp (disch:=omega) only[go_sem,if_yes,if_no,if_no]))) (HOld.refl _) ?_
 rintro ⟨i,v,ns,g⟩ c ⟨hi,hns,hnl,hS,hat,hlp,hck⟩ hc
 dsimp only at hi hns hnl hS hat hlp hck hc
 simp only[go_sem]
 have hnc:=hS.noL
 by_cases hil:i < ws.length
 case neg =>
  obtain rfl:i=ws.length:=by omega
  rw [List.take_length] at hns
  repeat' (first|refine st_seq_reg rfl (by first|(simp only[go_sem,strs_len,List.length_cons,hnc];rfl)|rfl) (by first|(simp only[go_sem,strs_len,List.length_cons,hnc];rfl)|rfl) ?_|refine st_op ?_|refine st_det rfl (by simp (disch:=omega) only[go_sem,wr_i64,strs_len,List.length_cons,hnc];rfl) ?_|(refine st_condS rfl ?_ ?_ <;> intro hg <;> (try simp only[dcT,dcF,bnT,bnF] at hg))|refine st_nil ?_|refine st_tN ?_|refine st_seq ?_|refine st_block ?_|refine st_skip ?_|refine st_exit ?_|refine st_ret ?_|refine st_tE ?_|refine st_bH ?_)
  all_goals try (exfalso;omega)
  simp (disch:=omega) only[AEnd,Tryz.results89,aresK,fin,go_sem,implies_true,true_and,and_true,List.reverse_cons,List.reverse_nil]
  refine ⟨hnc,hat,hlp,?_⟩
  rw [hrow ns hns h1 h2]
  exact SlA.ansT (R:=fun v=>v=.tup [.lst 1 (ns.map iv),.bool true]) [] [.bool true] (fun _ _=>rfl) (fun _ _=>rfl) hS rfl
 obtain ⟨x,hx⟩:∃ x,x=ws.getD i []:=⟨_,rfl⟩
 have hxg:(strs (word :: ws)).getD (i+1) []=[.str x]:=by rw [strs_getD (by simp;omega),hx];rfl
 have k115:=c115 x
 cases hz:numP 3 x with
 | none =>
  rw [numV,hz] at k115
  repeat' (first|refine st_seq_reg rfl (by first|(simp only[go_sem,strs_len,List.length_cons,hnc,hxg,Int.toNat_natCast];rfl)|rfl) (by first|(simp only[go_sem,strs_len,List.length_cons,hnc,hxg,Int.toNat_natCast];rfl)|rfl) ?_|refine st_op ?_|refine st_det rfl (by simp (disch:=omega) only[go_sem,wr_i64,strs_len,List.length_cons,hnc,hxg,Int.toNat_natCast];rfl) ?_|(refine st_pureE (by first|(simp (disch:=omega) only[go_sem,strs_len,List.length_cons,hnc,hxg,Int.toNat_natCast];rfl)|rfl) rfl (k115) (by first|(simp only[go_sem,strs_len,List.length_cons,hnc,hxg,Int.toNat_natCast];rfl)|rfl) (by intro n;first|(simp (disch:=omega) only[go_sem];rfl)|rfl) ?_;intro n hn)|refine st_condT rfl ?_|(refine st_condS rfl ?_ ?_ <;> intro hg <;> (try simp only[dcT,dcF,bnT,bnF] at hg))|refine st_nil ?_|refine st_tN ?_|refine st_seq ?_|refine st_block ?_|refine st_skip ?_|refine st_exit ?_|refine st_ret ?_|refine st_tE ?_|refine st_tR ?_|refine st_bR ?_|refine st_bH ?_)
  all_goals try (exfalso;omega)
  simp (disch:=omega) only[AEnd,Tryz.results89,aresK,fin,go_sem,implies_true,true_and,and_true,List.reverse_cons,List.reverse_nil]
  exact ⟨hat,hlp,.inl (hfail (.inl (hbad i hil (hx ▸ hz))))⟩
 | some z =>
  rw [numV,hz] at k115
  repeat' (first|refine st_seq_reg rfl (by first|(simp only[go_sem,strs_len,List.length_cons,hnc,hxg,Int.toNat_natCast];rfl)|rfl) (by first|(simp only[go_sem,strs_len,List.length_cons,hnc,hxg,Int.toNat_natCast];rfl)|rfl) ?_|refine st_reg rfl (by first|(simp only[go_sem,strs_len,List.length_cons,hnc,hxg,Int.toNat_natCast];rfl)|rfl) (by first|(simp only[go_sem,strs_len,List.length_cons,hnc,hxg,Int.toNat_natCast];rfl)|rfl) ?_|refine st_op ?_|refine st_det rfl (by simp (disch:=omega) only[go_sem,wr_i64,strs_len,List.length_cons,hnc,hxg,Int.toNat_natCast];rfl) ?_|(refine st_pureE (by first|(simp (disch:=omega) only[go_sem,strs_len,List.length_cons,hnc,hxg,Int.toNat_natCast];rfl)|rfl) rfl (k115) (by first|(simp only[go_sem,strs_len,List.length_cons,hnc,hxg,Int.toNat_natCast];rfl)|rfl) (by intro n;first|(simp (disch:=omega) only[go_sem];rfl)|rfl) ?_;intro n hn)|(refine st_appS (by intro h id x y;simp only[go_sem];rfl) rfl (by simp only[go_sem,strs_len,List.length_cons,hnc,hxg,Int.toNat_natCast];rfl) (by first|(simp only[go_sem,strs_len,List.length_cons,hnc,hxg,Int.toNat_natCast];rfl)|rfl) (by decide) hS (fun _ _ _=>rfl) (by omega) (by simp only[List.length_map,List.length_cons,List.length_nil,big,strs_len,List.length_cons,hnc,hxg,Int.toNat_natCast];omega) (by omega) (by omega) ?_;intro v' g' hA)|refine st_condF rfl ?_|(refine st_condS rfl ?_ ?_ <;> intro hg <;> (try simp only[dcT,dcF,bnT,bnF] at hg))|refine st_nil ?_|refine st_tN ?_|refine st_seq ?_|refine st_block ?_|refine st_skip ?_|refine st_exit ?_|refine st_ret ?_|refine st_tE ?_|refine st_bN ?_|refine st_bH ?_)
  all_goals try (exfalso;omega)
  have hns2:numsP 3 (ws.take (i+1))=some (ns ++ [(z:Int)]):=by
   rw [take_str hil,numsP_snoc,hns,← hx,hz]
  refine ⟨⟨i+1,v',ns ++ [(z:Int)],_⟩,(by exact ⟨by show i+1≤ws.length;omega,hns2,by simp [hnl],by rw [List.map_append];exact hA.sl.to (fun _ _ _ _ _=>rfl) (by (try simp only[go_sem]);omega),fun b' hb'=>(hA.old b' hb').trans (hat b' hb'),hA.lp.trans hlp,by (try simp only[go_sem]);omega⟩),(by show ws.length - (i+1) < ws.length - i;omega),(by repeat' (first|exact trivial|refine And.intro ?_ ?_|rfl|(simp (disch:=omega) only[go_sem,if_yes,if_no,if_no];rfl)|(simp (disch:=omega) only[go_sem,if_yes,if_no,if_no]))),(by repeat' (first|exact trivial|refine And.intro ?_ ?_|rfl|(simp (disch:=omega) only[go_sem,if_yes,if_no,if_no];rfl)|(simp (disch:=omega) only[go_sem,if_yes,if_no,if_no]))),rfl,HOld.refl _⟩
end Go.Proofs.YtaijkalhkgjakaaGreatDoor

namespace Go.Proofs.YtaijkalhkgjakaaGreatDoor
open Go.Av
attribute [local irreducible] thenA blockA awp awpOps awpD awp1
attribute [local go_sem_proc] Nat.reduceAdd Nat.reduceMul Nat.reduceEqDiff Nat.reduceBEq Nat.reduceLeDiff
attribute [local go_sem_proc ↓] reduceIte
attribute [local go_sem] if_yes if_no
set_option maxHeartbeats 8000000
set_option maxRecDepth 20000
def aC (n:Nat) (d:Nat→Int):List AV:=(List.range n).map fun i=>.int .i64 (d i)
@[go_sem] theorem aC_len (n:Nat) (d:Nat→Int):(aC n d).length=n:=by simp [aC]
@[go_sem] theorem aC_all (n:Nat) (d:Nat→Int):(aC n d).all AV.cell=true:=by simp [aC,AV.cell]
@[go_sem] theorem aC_get {n:Nat} {d:Nat→Int} {i:Nat} (h:i < n):(aC n d)[i]?=some (.int .i64 (d i)):=by simp [aC,h]
theorem set_td {α:Type} {l:List α} {i:Nat} (h:i < l.length) (v:α):l.take i ++ [v] ++ l.drop (i+1)=l.set i v:=by
 rw [List.set_eq_take_append_cons_drop,if_pos h];simp
@[go_sem] theorem aC_put {n:Nat} {d:Nat→Int} {i:Nat} (h:i < n) (v:Int):(aC n d).take i ++ [.int .i64 v] ++ (aC n d).drop (i+1)=aC n (upd d i v):=by
 rw [set_td (by rw [aC_len];exact h)]
 apply List.ext_getElem?
 intro k
 rw [List.getElem?_set]
 by_cases hk:k < n
 ·rw [aC_get hk,aC_len,aC_get hk,upd_apply]
  by_cases e:i=k
  ·subst e;simp [h]
  ·rw [if_neg e,if_neg (fun e2=>e e2.symm)]
 ·rw [List.getElem?_eq_none (by rw [aC_len];omega),if_neg (by omega),List.getElem?_eq_none (by rw [aC_len];omega)]
def dC (d:Nat→Int) (p:Int) (h f:Nat→Int) (l:Int):List AV:=aC 7 d ++ ([.int .i64 p] ++ (aC 4 h ++ (aC 7 f ++ [.int .i64 l])))
section
variable (d h f:Nat→Int) (p l:Int)
@[go_sem] theorem dC_len:(dC d p h f l).length=20:=by simp [dC,aC_len]
@[go_sem] theorem dC_all:(dC d p h f l).all AV.cell=true:=by simp [dC,List.all_append,aC_all,AV.cell]
@[go_sem] theorem dC_take:(dC d p h f l).take 20=dC d p h f l:=List.take_of_length_le (by rw [dC_len];omega)
@[go_sem] theorem dC_day {i:Nat} (hi:i < 7):(dC d p h f l)[i]?=some (.int .i64 (d i)):=by
 unfold dC;rw [List.getElem?_append_left (by rw [aC_len];exact hi),aC_get hi]
@[go_sem] theorem dC_pl:(dC d p h f l)[7]?=some (.int .i64 p):=by
 unfold dC;rw [List.getElem?_append_right (by rw [aC_len];omega),aC_len];rfl
@[go_sem] theorem dC_hand {w:Nat} (hw:w < 4):(dC d p h f l)[8+w]?=some (.int .i64 (h w)):=by
 unfold dC
 rw [List.getElem?_append_right (by rw [aC_len];omega),aC_len,List.getElem?_append_right (by simp;omega),List.getElem?_append_left (by rw [aC_len];simp;omega),aC_get (by simp;omega)]
 congr 3;simp;omega
@[go_sem] theorem dC_fl {g:Nat} (hg:g < 7):(dC d p h f l)[12+g]?=some (.int .i64 (f g)):=by
 unfold dC
 rw [List.getElem?_append_right (by rw [aC_len];omega),aC_len,List.getElem?_append_right (by simp;omega),List.getElem?_append_right (by rw [aC_len];simp;omega),aC_len,List.getElem?_append_left (by rw [aC_len];simp;omega),aC_get (by simp;omega)]
 congr 3;simp;omega
@[go_sem] theorem dC_last:(dC d p h f l)[19]?=some (.int .i64 l):=by
 unfold dC
 rw [List.getElem?_append_right (by rw [aC_len];omega),aC_len,List.getElem?_append_right (by simp),List.getElem?_append_right (by rw [aC_len];simp),aC_len,List.getElem?_append_right (by rw [aC_len];simp),aC_len];rfl
theorem dC_ext {cs:List AV} (hl:cs.length=20) (h1:∀ i,i < 7→cs[i]?=some (.int .i64 (d i))) (h2:cs[7]?=some (.int .i64 p)) (h3:∀ w,w < 4→cs[8+w]?=some (.int .i64 (h w))) (h4:∀ g,g < 7→cs[12+g]?=some (.int .i64 (f g))) (h5:cs[19]?=some (.int .i64 l)):cs=dC d p h f l:=by
 apply List.ext_getElem?
 intro k
 by_cases k7:k < 7
 ·rw [h1 k k7,dC_day _ _ _ _ _ k7]
 by_cases e7:k=7
 ·rw [e7,h2,dC_pl]
 by_cases k12:k < 12
 ·have:=h3 (k - 8) (by omega)
  have g:=dC_hand d h f p l (w:=k - 8) (by omega)
  rw [show 8+(k - 8)=k by omega] at this g
  rw [this,g]
 by_cases k19:k < 19
 ·have:=h4 (k - 12) (by omega)
  have g:=dC_fl d h f p l (g:=k - 12) (by omega)
  rw [show 12+(k - 12)=k by omega] at this g
  rw [this,g]
 by_cases e19:k=19
 ·rw [e19,h5,dC_last]
 ·rw [List.getElem?_eq_none (by omega),List.getElem?_eq_none (by rw [dC_len];omega)]
@[go_sem] theorem dC_putDay {i:Nat} (hi:i < 7) (v:Int):(dC d p h f l).take i ++ [.int .i64 v] ++ (dC d p h f l).drop (i+1)=dC (upd d i v) p h f l:=by
 rw [set_td (by rw [dC_len];omega)]
 refine dC_ext _ _ _ _ _ (by rw [List.length_set,dC_len]) (fun k hk=>?_) ?_ (fun w hw=>?_) (fun g hg=>?_) ?_
 ·rw [List.getElem?_set,dC_len,upd_apply]
  by_cases e:i=k
  ·subst e;simp;omega
  ·rw [if_neg e,if_neg (fun e2=>e e2.symm),dC_day _ _ _ _ _ hk]
 ·rw [List.getElem?_set,if_neg (by omega),dC_pl]
 ·rw [List.getElem?_set,if_neg (by omega),dC_hand _ _ _ _ _ hw]
 ·rw [List.getElem?_set,if_neg (by omega),dC_fl _ _ _ _ _ hg]
 ·rw [List.getElem?_set,if_neg (by omega),dC_last]
@[go_sem] theorem dC_putPl (v:Int):(dC d p h f l).take 7 ++ [.int .i64 v] ++ (dC d p h f l).drop 8=dC d v h f l:=by
 rw [set_td (i:=7) (by rw [dC_len];omega)]
 refine dC_ext _ _ _ _ _ (by rw [List.length_set,dC_len]) (fun k hk=>?_) ?_ (fun w hw=>?_) (fun g hg=>?_) ?_
 ·rw [List.getElem?_set,if_neg (by omega),dC_day _ _ _ _ _ hk]
 ·rw [List.getElem?_set,dC_len];simp
 ·rw [List.getElem?_set,if_neg (by omega),dC_hand _ _ _ _ _ hw]
 ·rw [List.getElem?_set,if_neg (by omega),dC_fl _ _ _ _ _ hg]
 ·rw [List.getElem?_set,if_neg (by omega),dC_last]
@[go_sem] theorem dC_putHand {w:Nat} (hw:w < 4) (v:Int):(dC d p h f l).take (8+w) ++ [.int .i64 v] ++ (dC d p h f l).drop (8+w+1)=dC d p (upd h w v) f l:=by
 rw [set_td (by rw [dC_len];omega)]
 refine dC_ext _ _ _ _ _ (by rw [List.length_set,dC_len]) (fun k hk=>?_) ?_ (fun k hk=>?_) (fun g hg=>?_) ?_
 ·rw [List.getElem?_set,if_neg (by omega),dC_day _ _ _ _ _ hk]
 ·rw [List.getElem?_set,if_neg (by omega),dC_pl]
 ·rw [List.getElem?_set,dC_len,upd_apply]
  by_cases e:w=k
  ·subst e;simp;omega
  ·rw [if_neg (by omega),if_neg (fun e2=>e e2.symm),dC_hand _ _ _ _ _ hk]
 ·rw [List.getElem?_set,if_neg (by omega),dC_fl _ _ _ _ _ hg]
 ·rw [List.getElem?_set,if_neg (by omega),dC_last]
@[go_sem] theorem dC_putFl {g:Nat} (hg:g < 7) (v:Int):(dC d p h f l).take (12+g) ++ [.int .i64 v] ++ (dC d p h f l).drop (12+g+1)=dC d p h (upd f g v) l:=by
 rw [set_td (by rw [dC_len];omega)]
 refine dC_ext _ _ _ _ _ (by rw [List.length_set,dC_len]) (fun k hk=>?_) ?_ (fun w hw=>?_) (fun k hk=>?_) ?_
 ·rw [List.getElem?_set,if_neg (by omega),dC_day _ _ _ _ _ hk]
 ·rw [List.getElem?_set,if_neg (by omega),dC_pl]
 ·rw [List.getElem?_set,if_neg (by omega),dC_hand _ _ _ _ _ hw]
 ·rw [List.getElem?_set,dC_len,upd_apply]
  by_cases e:g=k
  ·subst e;simp;omega
  ·rw [if_neg (by omega),if_neg (fun e2=>e e2.symm),dC_fl _ _ _ _ _ hk]
 ·rw [List.getElem?_set,if_neg (by omega),dC_last]
@[go_sem] theorem dC_putLast (v:Int):(dC d p h f l).take 19 ++ [.int .i64 v] ++ (dC d p h f l).drop 20=dC d p h f v:=by
 rw [set_td (i:=19) (by rw [dC_len];omega)]
 refine dC_ext _ _ _ _ _ (by rw [List.length_set,dC_len]) (fun k hk=>?_) ?_ (fun w hw=>?_) (fun g hg=>?_) ?_
 ·rw [List.getElem?_set,if_neg (by omega),dC_day _ _ _ _ _ hk]
 ·rw [List.getElem?_set,if_neg (by omega),dC_pl]
 ·rw [List.getElem?_set,if_neg (by omega),dC_hand _ _ _ _ _ hw]
 ·rw [List.getElem?_set,if_neg (by omega),dC_fl _ _ _ _ _ hg]
 ·rw [List.getElem?_set,dC_len];simp
end
def ixF (l:List Int):Nat→Int:=fun i=>l.getD i 0
def Dr.av (x:Dr):AV:=.agg (dC (ixF x.day) (x.pl:Nat) (ixF x.hands) (ixF x.fls) x.last)
theorem ixF_set {l:List Int} {i:Nat} (h:i < l.length) (v:Int):ixF (l.set i v)=upd (ixF l) i v:=by
 funext k;simp only[ixF,upd_apply];exact getD_set _ _ _ _ _ h
theorem hasI {p j:Nat} (hp:p < 128) (hj:j < 7):decide (bitop .and .i64 (shr .i64 (p:Nat) (j:Nat)) 1=1)=p.testBit j:=by
 have:∀ p:Fin 128,∀ j:Fin 7,decide (bitop .and .i64 (shr .i64 (p.val:Nat) (j.val:Nat)) 1=1)=p.val.testBit j.val:=by decide +kernel
 exact this ⟨p,hp⟩ ⟨j,hj⟩
theorem putI {p j:Nat} (hp:p < 128) (hj:j < 7):bitop .or .i64 (p:Nat) (shl .i64 1 (j:Nat))=((p ||| 2 ^ j:Nat):Int):=by
 have:∀ p:Fin 128,∀ j:Fin 7,bitop .or .i64 (p.val:Nat) (shl .i64 1 (j.val:Nat))=((p.val ||| 2 ^ j.val:Nat):Int):=by decide +kernel
 exact this ⟨p,hp⟩ ⟨j,hj⟩
end Go.Proofs.YtaijkalhkgjakaaGreatDoor

namespace Go.Proofs.YtaijkalhkgjakaaGreatDoor
open Go.Av
attribute [local irreducible] thenA blockA awp awpOps awpD awp1
attribute [local go_sem_proc] Nat.reduceAdd Nat.reduceMul Nat.reduceEqDiff Nat.reduceBEq Nat.reduceLeDiff
attribute [local go_sem_proc ↓] reduceIte
attribute [local go_sem] if_yes if_no
set_option maxHeartbeats 8000000
set_option maxRecDepth 20000
theorem c100 (S:Sp) (i:Nat) (hi:i < S.js.length) (h7:S.js.length≤7):Pure Tryz.prog 100 [S.av,.int .i64 i] (fun v=>v=.int .i64 (befJ S.js (jOf S.js i).f i)):=by
 intro h
 refine ACalls.forget (ACalls.of tab mixed Tryz.call100 Tryz.func100 rfl (fi:=⟨26,[],[2],none,[(4,[0,1,0,7,15,31,0,64,0,448,960,1984,4095],[(0,false),(1,true),(2,false),(3,false),(4,false),(5,true),(6,false),(7,true),(8,false),(9,false),(10,false),(11,true),(12,false)])]⟩) rfl rfl (Nat.le_of_ble_eq_true rfl) (by decide) ?_)
 unfold startA
 try simp only[go_sem]
 repeat' (first|refine st_seq_reg rfl (by first|(simp only[go_sem];rfl)|rfl) (by first|(simp only[go_sem];rfl)|rfl) ?_|refine st_op ?_|refine st_det rfl (by simp (disch:=omega) only[go_sem,wr_i64];rfl) ?_|refine st_nil ?_|refine st_seq ?_|refine st_block ?_)
 refine st_loopC (α:=Nat) tab mixed [] [] (by repeat (first|exact trivial|refine ⟨rfl,?_⟩)) [] [] (by repeat (first|exact trivial|refine ⟨rfl,?_⟩)) (fun k=>[(5,.int .i64 ((k:Int) - 1))]) [(1,_),(2,_),(4,_)] (fun _=>[]) [] (fun k=>k≤i∧befJ S.js (jOf S.js i).f k=befJ S.js (jOf S.js i).f i) (fun k=>k) (by decide) i ⟨Nat.le_refl _,rfl⟩ (by (try simp only[go_sem]);repeat' (first|exact trivial|refine And.intro ?_ ?_|rfl|(simp (disch:=omega) only[go_sem,if_yes,if_no,if_no];rfl)|(simp (disch:=omega) only[go_sem,if_yes,if_no,if_no]))) (by (try simp only[go_sem]);repeat' (first|exact trivial|refine And.intro ?_ ?_|rfl|(simp (disch:=omega) only[go_sem,if_yes,if_no,if_no];rfl)|(simp (disch:=omega) only[go_sem,if_yes,if_no,if_no]))) (by first|(simp only[go_sem];rfl)|rfl) (by intro n;simp only[go_sem];rfl) ?_
 rintro k c ⟨hk,hall⟩ hc
 try simp only[go_sem]
 have hk1:0 < k→((k:Int) - 1).toNat=k - 1:=fun h=>by omega
 have hcs:0 < k→befJ S.js (jOf S.js i).f k=if (jOf S.js (k - 1)).f=(jOf S.js i).f then ((k - 1:Nat):Int) else befJ S.js (jOf S.js i).f (k - 1):=fun h=>by
  have:k=(k - 1)+1:=by omega
  rw [this];rfl
 repeat' (first|refine st_seq_reg rfl (by first|(simp only[go_sem,hk1];rfl)|rfl) (by first|(simp only[go_sem,hk1];rfl)|rfl) ?_|refine st_reg rfl (by first|(simp only[go_sem,hk1];rfl)|rfl) (by first|(simp only[go_sem,hk1];rfl)|rfl) ?_|refine st_seq_draw rfl (by first|(simp only[go_sem,hk1];rfl)|rfl) (by first|(simp only[go_sem,hk1];rfl)|rfl) ?_|refine st_op ?_|refine st_det rfl (by simp (disch:=omega) only[go_sem,wr_i64,hk1];rfl) ?_|refine st_dop rfl ?_|(refine st_condS rfl ?_ ?_ <;> intro hg <;> (try simp only[dcT,dcF,bnT,bnF] at hg))|refine st_nil ?_|refine st_dnil ?_|refine st_tN ?_|refine st_seq ?_|refine st_block ?_|refine st_skip ?_|refine st_exit ?_|refine st_ret ?_|refine st_tE ?_|refine st_tR ?_|refine st_bN ?_|refine st_bR ?_|refine st_bH ?_)
 ·simp (disch:=omega) only[AEnd,Tryz.results100,aresK,fin,go_sem,implies_true,true_and,and_true,List.reverse_cons,List.reverse_nil]
  rw [← hall,hcs (by omega),if_pos (by assumption)]
  congr 1;omega
 ·refine ⟨k - 1,⟨by omega,by rw [← hall,hcs (by omega),if_neg (by assumption)]⟩,by omega,(by (try (rw [show ((k - 1:Nat):Int) - 1=(k:Int) - 1 - 1 by omega]));repeat' (first|exact trivial|refine And.intro ?_ ?_|rfl|(simp (disch:=omega) only[go_sem,if_yes,if_no,if_no];rfl)|(simp (disch:=omega) only[go_sem,if_yes,if_no,if_no]))),(by (try (rw [show ((k - 1:Nat):Int) - 1=(k:Int) - 1 - 1 by omega]));repeat' (first|exact trivial|refine And.intro ?_ ?_|rfl|(simp (disch:=omega) only[go_sem,if_yes,if_no,if_no];rfl)|(simp (disch:=omega) only[go_sem,if_yes,if_no,if_no]))),rfl,(by first|exact HOld.of _ (by omega)|exact HOld.put _ _ _ (by omega))⟩
 ·simp (disch:=omega) only[AEnd,Tryz.results100,aresK,fin,go_sem,implies_true,true_and,and_true,List.reverse_cons,List.reverse_nil]
  have e:k=0:=by omega
  rw [← hall,e];rfl
theorem c132 (x:Dr) (j:Nat) (hp:x.pl < 128) (hj:j < 7):Pure Tryz.prog 132 [x.av,.int .i64 j] (fun v=>v=.bool (x.pl.testBit j)):=by
 intro h
 unfold Dr.av
 refine ACalls.forget (ACalls.of tab mixed Tryz.call132 Tryz.func132 rfl (fi:=⟨11,[],[2],none,[]⟩) rfl rfl (Nat.le_of_ble_eq_true rfl) (by decide) ?_)
 unfold startA
 try simp only[go_sem]
 repeat' (first|refine st_seq_reg rfl (by first|(simp only[go_sem];rfl)|rfl) (by first|(simp only[go_sem];rfl)|rfl) ?_|refine st_op ?_|refine st_det rfl (by simp (disch:=omega) only[go_sem,wr_i64];rfl) ?_|refine st_nil ?_|refine st_ret ?_)
 simp (disch:=omega) only[AEnd,Tryz.results132,aresK,fin,go_sem,implies_true,true_and,and_true,List.reverse_cons,List.reverse_nil]
 rw [hasI hp hj]
theorem c135 (S:Sp) (x:Dr) (j:Nat) (hp:x.pl < 128) (hj:j < S.js.length) (h7:S.js.length≤7):Pure Tryz.prog 135 [x.av,S.av,.int .i64 j] (fun v=>v=.bool (readyD S.js x j)):=by
 intro h
 have hb:=befJ_cases S.js (jOf S.js j).f j
 have hbn:0≤befJ S.js (jOf S.js j).f j→befJ S.js (jOf S.js j).f j=((befJ S.js (jOf S.js j).f j).toNat:Int):=fun h=>by omega
 have hb7:(befJ S.js (jOf S.js j).f j).toNat < 7:=by rcases hb with ⟨e,_⟩|⟨k,e,hk,_⟩ <;> omega
 unfold Dr.av
 refine ACalls.forget (ACalls.of tab mixed Tryz.call135 Tryz.func135 rfl (fi:=⟨24,[],[3,4],none,[]⟩) rfl rfl (Nat.le_of_ble_eq_true rfl) (by decide) ?_)
 unfold startA
 try simp only[go_sem]
 repeat' (first|refine st_seq_reg rfl (by first|(simp only[go_sem];rfl)|rfl) (by first|(simp only[go_sem];rfl)|rfl) ?_|refine st_op ?_|refine st_det rfl (by simp (disch:=omega) only[go_sem,wr_i64];rfl) ?_|(refine st_pureE (by first|(simp (disch:=omega) only[go_sem];rfl)|rfl) rfl (c100 S j hj h7) (by first|(simp only[go_sem];rfl)|rfl) (by intro n;first|(simp (disch:=omega) only[go_sem];rfl)|rfl) ?_;intro n hn)|(refine st_pureE (by first|(simp (disch:=omega) only[go_sem];rfl)|rfl) rfl (c132 x j hp (by omega)) (by first|(simp only[go_sem];rfl)|rfl) (by intro n;first|(simp (disch:=omega) only[go_sem];rfl)|rfl) ?_;intro n hn)|(refine st_pureE (by first|(simp (disch:=omega) only[go_sem];rfl)|rfl) rfl (by rw [hbn (by omega)];exact c132 x _ hp hb7) (by first|(simp only[go_sem];rfl)|rfl) (by intro n;first|(simp (disch:=omega) only[go_sem];rfl)|rfl) ?_;intro n hn)|refine st_gT rfl rfl rfl ?_|refine st_gF rfl rfl rfl ?_|(refine st_gS rfl rfl ?_ ?_ <;> intro hg <;> (try simp only[dcT,dcF,bnT,bnF] at hg))|refine st_nil ?_|refine st_ret ?_)
 all_goals
  simp (disch:=omega) only[AEnd,Tryz.results135,aresK,fin,go_sem,implies_true,true_and,and_true,List.reverse_cons,List.reverse_nil]
  try simp [readyD, *]
end Go.Proofs.YtaijkalhkgjakaaGreatDoor
