/- Contracts of functions that the claim reaches: what each call gives, told in our own logic. Conditions: those of each theorem. -/
import Derived.Test.YtefogfgddofdmaaGreatDoorG6
open Nat (reduceAdd reduceMul reduceEqDiff reduceLeDiff)
set_option linter.all false
set_option linter.unusedSimpArgs false
set_option linter.unusedVariables false
namespace Go.Proofs.YtefogfgddofdmaaGreatDoor
open Go.Av
attribute [local irreducible] thenA blockA awp awpOps awpD awp1
set_option maxHeartbeats 8000000
set_option maxRecDepth 20000
theorem ne_snd {a b:Nat × Nat} (h:a.2 ≠ b.2):¬ a=b:=fun e=>h (congrArg Prod.snd e)
def shortB (l:Lg) (s:Int):Bool:=decide (slackB l (amts l.fs) s < 0)
def setsL (l:Lg) (m:Nat):List Int:=walkL l.bs.length m 0 0
def prf (l:Lg):Option Int:=(wkN (setsL l) 1 l.bs.length).find? (shortB l)
def optV:Option Int→AV
  | none=>.tup [.int .i64 0,.bool false]
  | some s=>.tup [.int .i64 s,.bool true]
theorem amtsOk {l:Lg} (hl:LgOk l):RsOk (amts l.fs):=by
  refine ⟨amts_len _,fun i hi=>?_⟩
  rw [amts_get hi]
  by_cases h:i < l.fs.length
  · exact (hl.f _ (fd_mem h)).amt
  · simp [fd,List.getD_eq_getElem?_getD,List.getElem?_eq_none (Nat.le_of_not_lt h)]
theorem c40 (l:Lg) (hl:LgOk l):Pure Tryz.prog 40 [l.av] (fun v=>v=optV (prf l)):=by
  have hb:=hl.bn
  have hr:=amtsOk hl
  intro h
  refine ACalls.forget (ACalls.of tab mixed Tryz.call40 Tryz.func40 rfl (fi:=⟨28,[],[1],none,[]⟩) rfl rfl (Nat.le_of_ble_eq_true rfl) (by decide) ?_)
  unfold startA
  simp only[go_sem]
  repeat' (first|refine st_seq_reg rfl (by first|(simp only[go_sem,amts_len];rfl)|rfl) (by first|(simp only[go_sem,amts_len];rfl)|rfl) ?_|refine st_reg rfl (by first|(simp only[go_sem,amts_len];rfl)|rfl) (by first|(simp only[go_sem,amts_len];rfl)|rfl) ?_|refine st_op ?_|refine st_det rfl (by simp (disch:=omega) only[go_sem,wr_i64,if_yes,if_no,↓reduceIte,reduceAdd,reduceMul,reduceEqDiff,Nat.reduceBEq,reduceLeDiff,amts_len];rfl) ?_|refine st_loc rfl (by simp (disch:=omega) only[go_sem,wr_i64,if_yes,if_no,↓reduceIte,reduceAdd,reduceMul,reduceEqDiff,Nat.reduceBEq,reduceLeDiff,amts_len];rfl) ?_|refine st_heap rfl (by simp (disch:=omega) only[go_sem,wr_i64,if_yes,if_no,↓reduceIte,reduceAdd,reduceMul,reduceEqDiff,Nat.reduceBEq,reduceLeDiff,amts_len];rfl) ?_|refine st_store (by simp (disch:=omega) only[go_sem,wr_i64,if_yes,if_no,↓reduceIte,reduceAdd,reduceMul,reduceEqDiff,Nat.reduceBEq,reduceLeDiff,amts_len];rfl) ?_|(refine st_pureE (by first|(simp (disch:=omega) only[go_sem,amts_len];rfl)|rfl) rfl (c41 l hl.fn) (by first|(simp only[go_sem,amts_len];rfl)|rfl) (by intro n;first|(simp (disch:=omega) only[go_sem];rfl)|rfl) ?_;intro n hn)|refine st_condT rfl ?_|refine st_condF rfl ?_|(refine st_condS rfl ?_ ?_ <;> intro hg <;> (try simp only[decide_eq_true_eq,decide_eq_false_iff_not,Bool.not_eq_true',Bool.not_eq_false'] at hg))|refine st_nil ?_|refine st_tN ?_|refine st_seq ?_|refine st_block ?_|refine st_skip ?_|refine st_exit ?_|refine st_ret ?_|refine st_tE ?_|refine st_tR ?_|refine st_bN ?_|refine st_bR ?_|refine st_bH ?_|refine st_bM rfl ?_|refine st_noN ?_|refine st_noR ?_|refine st_noE ?_|refine st_label ?_|refine st_scope tab mixed (by decide) ?_)
  have hne2:∀ b':Nat × Nat,b'.1 < h.clk→¬ b'=(h.clk,2):=fun b' hb' e=>by rw [e] at hb';exact absurd hb' (Nat.lt_irrefl _)
  have hne3:∀ b':Nat × Nat,b'.1 < h.clk→¬ b'=(h.clk,3):=fun b' hb' e=>by rw [e] at hb';exact absurd hb' (Nat.lt_irrefl _)
  have hne4:∀ b':Nat × Nat,b'.1 < h.clk→¬ b'=(h.clk+1,4):=fun b' hb' e=>by rw [e] at hb';exact absurd hb' (by show ¬ (h.clk+1 < h.clk);omega)
  have hn42:¬ ((h.clk+1,4):Nat × Nat)=(h.clk,2):=ne_snd (by simp)
  have hn43:¬ ((h.clk+1,4):Nat × Nat)=(h.clk,3):=ne_snd (by simp)
  have hn24:¬ ((h.clk,2):Nat × Nat)=(h.clk+1,4):=ne_snd (by simp)
  have hn34:¬ ((h.clk,3):Nat × Nat)=(h.clk+1,4):=ne_snd (by simp)
  have hn23:¬ ((h.clk,2):Nat × Nat)=(h.clk,3):=ne_snd (by simp)
  have hn32:¬ ((h.clk,3):Nat × Nat)=(h.clk,2):=ne_snd (by simp)
  let A:AH→Prop:=fun g=>(∀ b':Bid,b'.1 < h.clk→g.at_ b'=h.at_ b')∧h.clk+2≤g.clk
  let Z:AH→Prop:=fun g=>g.at_ (h.clk,2)=some ⟨1,[[.int .i64 0]]⟩∧g.at_ (h.clk,3)=some ⟨1,[[.bool false]]⟩∧g.at_ (h.clk+1,4)=some ⟨8,[(amts l.fs).map iA]⟩
  refine st_loopM (α:=Nat × AH) tab mixed [] [] (by repeat (first|exact trivial|refine ⟨rfl,?_⟩)) [] [] (by repeat (first|exact trivial|refine ⟨rfl,?_⟩)) (fun a=>[(5,.int .i64 ((a.1+1:Nat):Int))]) [(1,_),(2,_),(3,_),(4,_)] (fun _=>[]) [] (fun a=>a.2) (fun a=>a.1≤l.bs.length∧(wkN (setsL l) 1 a.1).find? (shortB l)=none∧A a.2∧Z a.2∧a.2.lp=h.lp) (fun a=>l.bs.length - a.1) (by decide) (0,((((h.tick (n+1)).put (h.clk,2) (some ⟨1,[[.int .i64 0]]⟩)).put (h.clk,3) (some ⟨1,[[.bool false]]⟩)).put (h.clk+1,4) (some ⟨8,[(amts l.fs).map iA ++ []]⟩))) ⟨Nat.zero_le _,rfl,⟨fun b' hb'=>by simp only[go_sem];rw [if_neg (hne4 b' hb'),if_neg (hne3 b' hb'),if_neg (hne2 b' hb')],by show h.clk+2≤n+1;omega⟩,⟨by simp only[go_sem,hn24,hn23,↓reduceIte],by simp only[go_sem,hn34,hn32,↓reduceIte],by simp only[go_sem,List.append_nil]⟩,rfl⟩ (by (try simp only[go_sem]);repeat' (first|exact trivial|refine And.intro ?_ ?_|rfl|(simp (disch:=omega) only[go_sem,if_yes,if_no,↓reduceIte,reduceAdd,reduceMul,reduceEqDiff,Nat.reduceBEq,reduceLeDiff];rfl)|(simp (disch:=omega) only[go_sem,if_yes,if_no,↓reduceIte,reduceAdd,reduceMul,reduceEqDiff,Nat.reduceBEq,reduceLeDiff]))) (by (try simp only[go_sem]);repeat' (first|exact trivial|refine And.intro ?_ ?_|rfl|(simp (disch:=omega) only[go_sem,if_yes,if_no,↓reduceIte,reduceAdd,reduceMul,reduceEqDiff,Nat.reduceBEq,reduceLeDiff];rfl)|(simp (disch:=omega) only[go_sem,if_yes,if_no,↓reduceIte,reduceAdd,reduceMul,reduceEqDiff,Nat.reduceBEq,reduceLeDiff]))) (HOld.refl _) ?_
  rintro ⟨m,g⟩ c M2 ⟨i1,i2,i3,⟨i4,i5,i6⟩,i7⟩ hc
  dsimp only at i1 i2 i3 i4 i5 i6 i7 hc
  simp only[go_sem]
  repeat' (first|refine st_seq_reg rfl (by first|(simp only[go_sem,i4,i5,hn32];rfl)|rfl) (by first|(simp only[go_sem,i4,i5,hn32];rfl)|rfl) ?_|refine st_reg rfl (by first|(simp only[go_sem,i4,i5,hn32];rfl)|rfl) (by first|(simp only[go_sem,i4,i5,hn32];rfl)|rfl) ?_|refine st_op ?_|refine st_det rfl (by simp (disch:=omega) only[go_sem,wr_i64,if_yes,if_no,↓reduceIte,reduceAdd,reduceMul,reduceEqDiff,Nat.reduceBEq,reduceLeDiff,i4,i5,hn32];rfl) ?_|refine st_loc rfl (by simp (disch:=omega) only[go_sem,wr_i64,if_yes,if_no,↓reduceIte,reduceAdd,reduceMul,reduceEqDiff,Nat.reduceBEq,reduceLeDiff,i4,i5,hn32];rfl) ?_|refine st_heap rfl (by simp (disch:=omega) only[go_sem,wr_i64,if_yes,if_no,↓reduceIte,reduceAdd,reduceMul,reduceEqDiff,Nat.reduceBEq,reduceLeDiff,i4,i5,hn32];rfl) ?_|refine st_store (by simp (disch:=omega) only[go_sem,wr_i64,if_yes,if_no,↓reduceIte,reduceAdd,reduceMul,reduceEqDiff,Nat.reduceBEq,reduceLeDiff,i4,i5,hn32];rfl) ?_|(refine st_pureE (by first|(simp (disch:=omega) only[go_sem,i4,i5,hn32];rfl)|rfl) rfl (c61 _ _) (by first|(simp only[go_sem,i4,i5,hn32];rfl)|rfl) (by intro n;first|(simp (disch:=omega) only[go_sem];rfl)|rfl) ?_;intro n hn)|refine st_condT rfl ?_|refine st_condF rfl ?_|(refine st_condS rfl ?_ ?_ <;> intro hg <;> (try simp only[decide_eq_true_eq,decide_eq_false_iff_not,Bool.not_eq_true',Bool.not_eq_false'] at hg))|refine st_nil ?_|refine st_tN ?_|refine st_seq ?_|refine st_block ?_|refine st_skip ?_|refine st_exit ?_|refine st_ret ?_|refine st_tE ?_|refine st_tR ?_|refine st_bN ?_|refine st_bR ?_|refine st_bH ?_|refine st_bM rfl ?_|refine st_noN ?_|refine st_noR ?_|refine st_noE ?_|refine st_label ?_|refine st_scope tab mixed (by decide) ?_)
  · refine st_rangeFunc rfl (by simp only[go_sem];rfl) (fun lp D R hR hlp=>?_)
    simp only[go_sem] at hlp
    let L:AH→Prop:=fun g'=>∀ l',l' ≠ lp→g'.lp l'=h.lp l'
    let I:AH→Prop:=fun g'=>g'.lp lp=some R∧L g'∧A g'∧Z g'
    let E:Int→AH→Prop:=fun x g'=>g'.lp lp=some (R.stop .ret)∧L g'∧A g'∧g'.at_ (h.clk,2)=some ⟨1,[[.int .i64 x]]⟩∧g'.at_ (h.clk,3)=some ⟨1,[[.bool true]]⟩
    have hlp2:∀ h':AH,L h'→(h'.lpSet lp none).lp=h.lp:=by
      intro h' h3
      funext l'
      by_cases e:l'=lp
      · rw [e,lpSet_same,← i7,hlp]
      · rw [lpSet_ne _ _ e];exact h3 l' e
    refine (c75 lp l.bs.length (m+1) hb (by omega) I E (shortB l) ?_ ?_ ?_ _ ?_ ?_).mono ?_
    · rintro g' k ⟨h1,h2,⟨h3,h3'⟩,h4⟩ hk
      exact ⟨h1,h2,⟨h3,by show h.clk+2≤k;omega⟩,h4⟩
    · rintro x g' k ⟨h1,h2,⟨h3,h3'⟩,h4⟩ hk
      exact ⟨h1,h2,⟨h3,by show h.clk+2≤k;omega⟩,h4⟩
    · rintro s g' ⟨h1,h2,⟨h3,h3'⟩,h4,h5,h6⟩
      refine AYields.canon tab mixed [] [] [] hR h1 rfl (by intro p hp;simp at hp;rcases hp with rfl;decide) [(21,.int .i64 s),(1,.iptr [.lst 4 (l.fs.map Fd.row),.lst 3 (l.bs.map Bl.row)] 0),(2,.ptr (h.clk,2) 0 0),(3,.ptr (h.clk,3) 0 0),(4,.ptr (h.clk+1,4) 0 0)] ⟨rfl,rfl,rfl,rfl,rfl,trivial⟩ rfl rfl ?_
      simp only[go_sem]
      repeat' (first|refine st_seq_reg rfl (by first|(simp only[go_sem];rfl)|rfl) (by first|(simp only[go_sem];rfl)|rfl) ?_|refine st_reg rfl (by first|(simp only[go_sem];rfl)|rfl) (by first|(simp only[go_sem];rfl)|rfl) ?_|refine st_op ?_|refine st_det rfl (by simp (disch:=omega) only[go_sem,wr_i64,if_yes,if_no,↓reduceIte,reduceAdd,reduceMul,reduceEqDiff,Nat.reduceBEq,reduceLeDiff];rfl) ?_|refine st_loc rfl (by simp (disch:=omega) only[go_sem,wr_i64,if_yes,if_no,↓reduceIte,reduceAdd,reduceMul,reduceEqDiff,Nat.reduceBEq,reduceLeDiff];rfl) ?_|refine st_heap rfl (by simp (disch:=omega) only[go_sem,wr_i64,if_yes,if_no,↓reduceIte,reduceAdd,reduceMul,reduceEqDiff,Nat.reduceBEq,reduceLeDiff];rfl) ?_|refine st_store (by simp (disch:=omega) only[go_sem,wr_i64,if_yes,if_no,↓reduceIte,reduceAdd,reduceMul,reduceEqDiff,Nat.reduceBEq,reduceLeDiff];rfl) ?_|refine st_condT rfl ?_|refine st_condF rfl ?_|(refine st_condS rfl ?_ ?_ <;> intro hg <;> (try simp only[decide_eq_true_eq,decide_eq_false_iff_not,Bool.not_eq_true',Bool.not_eq_false'] at hg))|refine st_nil ?_|refine st_tN ?_|refine st_seq ?_|refine st_block ?_|refine st_skip ?_|refine st_exit ?_|refine st_ret ?_|refine st_tE ?_|refine st_tR ?_|refine st_bN ?_|refine st_bR ?_|refine st_bH ?_|refine st_bM rfl ?_|refine st_noN ?_|refine st_noR ?_|refine st_noE ?_|refine st_label ?_|refine st_scope tab mixed (by decide) ?_)
      refine ⟨h1,?_⟩
      dsimp only
      repeat' (first|refine st_seq_reg rfl (by first|(simp only[go_sem,h4,h5,h6,hn32];rfl)|rfl) (by first|(simp only[go_sem,h4,h5,h6,hn32];rfl)|rfl) ?_|refine st_reg rfl (by first|(simp only[go_sem,h4,h5,h6,hn32];rfl)|rfl) (by first|(simp only[go_sem,h4,h5,h6,hn32];rfl)|rfl) ?_|refine st_op ?_|refine st_det rfl (by simp (disch:=omega) only[go_sem,wr_i64,if_yes,if_no,↓reduceIte,reduceAdd,reduceMul,reduceEqDiff,Nat.reduceBEq,reduceLeDiff,h4,h5,h6,hn32];rfl) ?_|refine st_loc rfl (by simp (disch:=omega) only[go_sem,wr_i64,if_yes,if_no,↓reduceIte,reduceAdd,reduceMul,reduceEqDiff,Nat.reduceBEq,reduceLeDiff,h4,h5,h6,hn32];rfl) ?_|refine st_heap rfl (by simp (disch:=omega) only[go_sem,wr_i64,if_yes,if_no,↓reduceIte,reduceAdd,reduceMul,reduceEqDiff,Nat.reduceBEq,reduceLeDiff,h4,h5,h6,hn32];rfl) ?_|refine st_store (by simp (disch:=omega) only[go_sem,wr_i64,if_yes,if_no,↓reduceIte,reduceAdd,reduceMul,reduceEqDiff,Nat.reduceBEq,reduceLeDiff,h4,h5,h6,hn32];rfl) ?_|(refine st_pureE (by first|(simp (disch:=omega) only[go_sem,h4,h5,h6,hn32];rfl)|rfl) rfl (c44 l (amts l.fs) s hl hr) (by first|(simp only[go_sem,h4,h5,h6,hn32];rfl)|rfl) (by intro n;first|(simp (disch:=omega) only[go_sem];rfl)|rfl) ?_;intro n hn)|refine st_condT rfl ?_|refine st_condF rfl ?_|(refine st_condS rfl ?_ ?_ <;> intro hg <;> (try simp only[decide_eq_true_eq,decide_eq_false_iff_not,Bool.not_eq_true',Bool.not_eq_false'] at hg))|refine st_nil ?_|refine st_tN ?_|refine st_seq ?_|refine st_block ?_|refine st_skip ?_|refine st_exit ?_|refine st_ret ?_|refine st_tE ?_|refine st_tR ?_|refine st_bN ?_|refine st_bR ?_|refine st_bH ?_|refine st_bM rfl ?_|refine st_noN ?_|refine st_noR ?_|refine st_noE ?_|refine st_label ?_|refine st_scope tab mixed (by decide) ?_)
      · refine ⟨by simp only[go_sem],.inr ⟨by simp [shortB, *],rfl,lpSet_same _ _ _,fun l' hl'=>?_,⟨fun b' hb'=>?_,?_⟩,?_,?_⟩⟩
        · rw [lpSet_ne _ _ hl'];simp only[go_sem];rw [lpSet_ne _ _ hl'];exact h2 l' hl'
        · simp only[go_sem];rw [if_neg (hne3 b' hb'),if_neg (hne2 b' hb')];exact h3 b' hb'
        · simp only[go_sem];omega
        · simp (disch:=omega) only[go_sem,hn23,↓reduceIte,reduceEqDiff,reduceLeDiff] <;> rfl
        · simp (disch:=omega) only[go_sem,↓reduceIte,reduceEqDiff,reduceLeDiff] <;> rfl
      · refine ⟨by simp only[go_sem],.inl ⟨by simp [shortB];omega,rfl,lpSet_same _ _ _,fun l' hl'=>?_,⟨fun b' hb'=>h3 b' hb',?_⟩,h4,h5,h6⟩⟩
        · rw [lpSet_ne _ _ hl'];simp only[go_sem];rw [lpSet_ne _ _ hl'];exact h2 l' hl'
        · simp only[go_sem];omega
    · exact ⟨lpSet_same _ _ _,fun l' hl'=>by rw [lpSet_ne _ _ hl'];simp only[go_sem];rw [i7],⟨fun b' hb'=>i3.1 b' hb',by simp only[go_sem];have:=i3.2;omega⟩,i4,i5,i6⟩
    · intro k b hk hkb
      simp only[go_sem] at hkb hk
      have h2b:=i3.2
      have q2:¬ ((h.clk,2):Nat × Nat)=b:=fun e=>by rw [← e] at hkb;dsimp only at hkb;omega
      have q3:¬ ((h.clk,3):Nat × Nat)=b:=fun e=>by rw [← e] at hkb;dsimp only at hkb;omega
      have q4:¬ ((h.clk+1,4):Nat × Nat)=b:=fun e=>by rw [← e] at hkb;dsimp only at hkb;omega
      have hob:∀ b':Bid,b'.1 < h.clk→¬ b'=b:=fun b' hb' e=>by rw [e] at hb';omega
      exact ⟨lpSet_same _ _ _,fun l' hl'=>by show (AH.lpSet _ _ _).lp l'=_;rw [lpSet_ne _ _ hl'];simp only[go_sem];rw [i7],⟨fun b' hb'=>by simp only[go_sem];rw [if_neg (hob b' hb')];exact i3.1 b' hb',by show h.clk+2≤k;omega⟩,by simp only[go_sem,q2,↓reduceIte];exact i4,by simp only[go_sem,q3,↓reduceIte];exact i5,by simp only[go_sem,q4,↓reduceIte];exact i6⟩
    · rintro v h' (⟨hf,h1,h2,⟨h3,h3'⟩,h4,h5,h6⟩|⟨x,hf,h1,h2,⟨h3,h3'⟩,h4,h5⟩)
      · refine .inl ⟨h1,st_bN (st_bN (st_tN ?_))⟩
        repeat' (first|refine st_seq_reg rfl (by first|(simp only[go_sem];rfl)|rfl) (by first|(simp only[go_sem];rfl)|rfl) ?_|refine st_reg rfl (by first|(simp only[go_sem];rfl)|rfl) (by first|(simp only[go_sem];rfl)|rfl) ?_|refine st_op ?_|refine st_det rfl (by simp (disch:=omega) only[go_sem,wr_i64,if_yes,if_no,↓reduceIte,reduceAdd,reduceMul,reduceEqDiff,Nat.reduceBEq,reduceLeDiff];rfl) ?_|refine st_loc rfl (by simp (disch:=omega) only[go_sem,wr_i64,if_yes,if_no,↓reduceIte,reduceAdd,reduceMul,reduceEqDiff,Nat.reduceBEq,reduceLeDiff];rfl) ?_|refine st_heap rfl (by simp (disch:=omega) only[go_sem,wr_i64,if_yes,if_no,↓reduceIte,reduceAdd,reduceMul,reduceEqDiff,Nat.reduceBEq,reduceLeDiff];rfl) ?_|refine st_store (by simp (disch:=omega) only[go_sem,wr_i64,if_yes,if_no,↓reduceIte,reduceAdd,reduceMul,reduceEqDiff,Nat.reduceBEq,reduceLeDiff];rfl) ?_|refine st_condT rfl ?_|refine st_condF rfl ?_|(refine st_condS rfl ?_ ?_ <;> intro hg <;> (try simp only[decide_eq_true_eq,decide_eq_false_iff_not,Bool.not_eq_true',Bool.not_eq_false'] at hg))|refine st_nil ?_|refine st_tN ?_|refine st_seq ?_|refine st_block ?_|refine st_skip ?_|refine st_exit ?_|refine st_ret ?_|refine st_tE ?_|refine st_tR ?_|refine st_bN ?_|refine st_bR ?_|refine st_bH ?_|refine st_bM rfl ?_|refine st_noN ?_|refine st_noR ?_|refine st_noE ?_|refine st_label ?_|refine st_scope tab mixed (by decide) ?_)
        refine ⟨(m+1,h'.lpSet lp none),⟨by show m+1≤l.bs.length;omega,fnd_none i2 (by rw [Nat.add_comm 1 m];exact hf),⟨fun b' hb'=>h3 b' hb',h3'⟩,⟨h4,h5,h6⟩,hlp2 h' h2⟩,by show l.bs.length - (m+1) < l.bs.length - m;omega,(by repeat' (first|exact trivial|refine And.intro ?_ ?_|rfl|(simp (disch:=omega) only[go_sem,if_yes,if_no,↓reduceIte,reduceAdd,reduceMul,reduceEqDiff,Nat.reduceBEq,reduceLeDiff];rfl)|(simp (disch:=omega) only[go_sem,if_yes,if_no,↓reduceIte,reduceAdd,reduceMul,reduceEqDiff,Nat.reduceBEq,reduceLeDiff]))),(by repeat' (first|exact trivial|refine And.intro ?_ ?_|rfl|(simp (disch:=omega) only[go_sem,if_yes,if_no,↓reduceIte,reduceAdd,reduceMul,reduceEqDiff,Nat.reduceBEq,reduceLeDiff];rfl)|(simp (disch:=omega) only[go_sem,if_yes,if_no,↓reduceIte,reduceAdd,reduceMul,reduceEqDiff,Nat.reduceBEq,reduceLeDiff]))),HOld.tick (Nat.le_succ _)⟩
      · refine .inr ⟨.ret,h1,ASem.ret (st_bR (st_bR (st_tR ?_)))⟩
        repeat' (first|refine st_seq_reg rfl (by first|(simp only[go_sem];rfl)|rfl) (by first|(simp only[go_sem];rfl)|rfl) ?_|refine st_reg rfl (by first|(simp only[go_sem];rfl)|rfl) (by first|(simp only[go_sem];rfl)|rfl) ?_|refine st_op ?_|refine st_det rfl (by simp (disch:=omega) only[go_sem,wr_i64,if_yes,if_no,↓reduceIte,reduceAdd,reduceMul,reduceEqDiff,Nat.reduceBEq,reduceLeDiff];rfl) ?_|refine st_loc rfl (by simp (disch:=omega) only[go_sem,wr_i64,if_yes,if_no,↓reduceIte,reduceAdd,reduceMul,reduceEqDiff,Nat.reduceBEq,reduceLeDiff];rfl) ?_|refine st_heap rfl (by simp (disch:=omega) only[go_sem,wr_i64,if_yes,if_no,↓reduceIte,reduceAdd,reduceMul,reduceEqDiff,Nat.reduceBEq,reduceLeDiff];rfl) ?_|refine st_store (by simp (disch:=omega) only[go_sem,wr_i64,if_yes,if_no,↓reduceIte,reduceAdd,reduceMul,reduceEqDiff,Nat.reduceBEq,reduceLeDiff];rfl) ?_|refine st_condT rfl ?_|refine st_condF rfl ?_|(refine st_condS rfl ?_ ?_ <;> intro hg <;> (try simp only[decide_eq_true_eq,decide_eq_false_iff_not,Bool.not_eq_true',Bool.not_eq_false'] at hg))|refine st_nil ?_|refine st_tN ?_|refine st_seq ?_|refine st_block ?_|refine st_skip ?_|refine st_exit ?_|refine st_ret ?_|refine st_tE ?_|refine st_tR ?_|refine st_bN ?_|refine st_bR ?_|refine st_bH ?_|refine st_bM rfl ?_|refine st_noN ?_|refine st_noR ?_|refine st_noE ?_|refine st_label ?_|refine st_scope tab mixed (by decide) ?_)
        simp (disch:=omega) only[AEnd,Tryz.results40,aresK,fin,go_sem,↓reduceIte,reduceEqDiff,reduceAdd,reduceLeDiff,if_yes,if_no,implies_true,true_and,and_true,List.reverse_cons,List.reverse_nil,hlp2 h' h2,h4,h5]
        refine ⟨h3,?_⟩
        have e:prf l=some x:=wkN_pre (k:=m+1) (fnd_some i2 (by rw [Nat.add_comm 1 m];exact hf)) (by omega)
        rw [e];rfl
  · obtain rfl:m=l.bs.length:=by omega
    simp (disch:=omega) only[AEnd,Tryz.results40,aresK,fin,go_sem,↓reduceIte,reduceEqDiff,reduceAdd,reduceLeDiff,if_yes,if_no,implies_true,true_and,and_true,List.reverse_cons,List.reverse_nil,hn23]
    refine ⟨fun b' hb'=>by rw [if_neg (hne3 b' hb'),if_neg (hne2 b' hb')];exact i3.1 b' hb',i7,?_⟩
    have e:prf l=none:=i2
    rw [e];rfl
end Go.Proofs.YtefogfgddofdmaaGreatDoor

namespace Go.Proofs.YtefogfgddofdmaaGreatDoor
open Go.Av
set_option maxHeartbeats 8000000
set_option maxRecDepth 20000
def Lg.pr (l:Lg):Pr:=⟨l.fs.length,l.bs.length,fun k i=>payB (fd l.fs k) (bl l.bs i),fun i=>(bl l.bs i).amt⟩
def bitS (s:Int):Nat→Bool:=fun j=>hasB s (j:Nat)
def rF (rs:List Int):Nat→Int:=fun k=>rs.getD k 0
theorem slack_pr (l:Lg) (rs:List Int) (s:Int):slackB l rs s=l.pr.slack (rF rs) (bitS s):=rfl
theorem payer_pr (l:Lg) (k:Nat) (s:Int):payerB l k s=l.pr.pay k (bitS s):=rfl
theorem Pr.pay_congr {p:Pr} {k:Nat} {S U:Nat→Bool} (h:∀ j,j < p.nB→S j=U j):p.pay k S=p.pay k U:=by
  rw [Bool.eq_iff_iff,Pr.pay_iff,Pr.pay_iff]
  exact ⟨fun ⟨i,h1,h2,h3⟩=>⟨i,h1,by rw [← h i h1];exact h2,h3⟩,fun ⟨i,h1,h2,h3⟩=>⟨i,h1,by rw [h i h1];exact h2,h3⟩⟩
theorem Pr.slack_congr {p:Pr} {r:Nat→Int} {S U:Nat→Bool} (h:∀ j,j < p.nB→S j=U j):p.slack r S=p.slack r U:=by
  unfold Pr.slack Pr.has Pr.due
  rw [sumF_congr (F:=fun k=>if p.pay k S then r k else 0) (G:=fun k=>if p.pay k U then r k else 0) (fun k _=>by rw [Pr.pay_congr h]),
    sumF_congr (F:=fun i=>if S i then p.a i else 0) (G:=fun i=>if U i then p.a i else 0) (fun i hi=>by rw [h i hi])]
def enc (U:Nat→Bool):Nat→Nat
  | 0=>0
  | n+1=>2 ^ n * (if U n then 1 else 0)+enc U n
theorem enc_lt (U:Nat→Bool):∀ n,enc U n < 2 ^ n
  | 0=>by show 0 < 1;decide
  | n+1=>by
    have:=enc_lt U n
    have e:2 ^ (n+1)=2 * 2 ^ n:=by rw [Nat.pow_succ,Nat.mul_comm]
    rw [e]
    unfold enc
    split <;> omega
theorem enc_bit (U:Nat→Bool):∀ n j,j < n→(enc U n).testBit j=U j
  | 0,j,h=>by omega
  | n+1,j,h=>by
    unfold enc
    by_cases e:j=n
    · subst e
      have h0:=Nat.testBit_lt_two_pow (enc_lt U j)
      cases hu:U j
      · simp [h0]
      · simp [Nat.testBit_two_pow_add_eq,h0]
    · have ih:=enc_bit U n j (by omega)
      cases hu:U n
      · simp [ih]
      · simp only[if_true,Nat.mul_one]
        rw [Nat.testBit_two_pow_add_gt (by omega),ih]
theorem has_nat:∀ s,s < 256→∀ j,j < 8→hasB ((s:Nat):Int) ((j:Nat):Int)=s.testBit j:=by decide +kernel
def mskB (i:Nat) (s:Int):Bool:=decide (bitop .and .i64 s (((2 ^ (i+1):Nat):Int) - 1) ≠ 0)
theorem msk_nat:∀ s,s < 256→∀ i,i < 8→mskB i ((s:Nat):Int)=(List.range (i+1)).any fun j=>s.testBit j:=by decide +kernel
theorem shl_nat:∀ n,n < 9→shl .i64 1 ((n:Nat):Int)=((2 ^ n:Nat):Int):=by decide +kernel
theorem pow_bd:∀ n,n < 9→1≤2 ^ n∧2 ^ n≤256:=by decide
theorem walk_all:∀ B,B < 9→∀ s,s < 2 ^ B→s=0 ∨ (wkN (fun m=>walkL B m 0 0) 1 B).contains ((s:Nat):Int)=true:=by decide +kernel
theorem enc_set (U:Nat→Bool) {B:Nat} (hB:B≤8):∀ j,j < B→bitS ((enc U B:Nat):Int) j=U j:=by
  intro j hj
  unfold bitS
  have:=enc_lt U B
  have h2:=pow_bd B (by omega)
  rw [has_nat _ (by omega) j (by omega),enc_bit U B j hj]
theorem slack_nn {l:Lg} (hl:LgOk l) (hp:prf l=none) (U:Nat→Bool):0≤l.pr.slack (rF (amts l.fs)) U:=by
  have hb:=hl.bn
  have e:l.pr.slack (rF (amts l.fs)) U=slackB l (amts l.fs) ((enc U l.bs.length:Nat):Int):=by
    rw [slack_pr]
    exact Pr.slack_congr fun j hj=>(enc_set U hb j hj).symm
  rw [e]
  rcases walk_all l.bs.length (by omega) _ (enc_lt U l.bs.length) with h|h
  · rw [h,slack_pr]
    have hz:∀ j,j < l.pr.nB→bitS ((0:Nat):Int) j=false:=fun j hj=>by
      have hj':j < l.bs.length:=hj
      unfold bitS;rw [has_nat 0 (by omega) j (by omega)];simp
    rw [Pr.slack_congr (U:=fun _=>false) hz]
    unfold Pr.slack Pr.has Pr.due
    rw [sumF_zero,sumF_zero]
    · decide
    · intro i _;simp
    · intro k _
      have:l.pr.pay k (fun _=>false)=false:=by simp [Pr.pay]
      rw [this];simp
  · have hm:((enc U l.bs.length:Nat):Int) ∈ wkN (setsL l) 1 l.bs.length:=by
      show ((enc U l.bs.length:Nat):Int) ∈ wkN (fun m=>walkL l.bs.length m 0 0) 1 l.bs.length
      simpa using h
    have:=List.find?_eq_none.1 hp _ hm
    simpa [shortB] using this
def skipB (l:Lg) (i k:Nat) (s:Int):Bool:=mskB i s || !payerB l k s
def minS (l:Lg) (rs:List Int) (i k:Nat) (n0:Int):Nat→Int
  | 0=>n0
  | s+1=>if skipB l i k ((s:Nat):Int) then minS l rs i k n0 s else min (minS l rs i k n0 s) (slackB l rs ((s:Nat):Int))
theorem minS_le (l:Lg) (rs:List Int) (i k:Nat) (n0:Int):∀ N,minS l rs i k n0 N≤n0
  | 0=>Int.le_refl _
  | N+1=>by
    have:=minS_le l rs i k n0 N
    unfold minS
    split <;> omega
theorem minS_sl (l:Lg) (rs:List Int) (i k:Nat) (n0:Int):∀ N s,s < N→skipB l i k ((s:Nat):Int)=false→minS l rs i k n0 N≤slackB l rs ((s:Nat):Int)
  | 0,s,h,_=>by omega
  | N+1,s,h,hs=>by
    unfold minS
    by_cases e:s=N
    · subst e;rw [hs];simp;omega
    · have:=minS_sl l rs i k n0 N s (by omega) hs
      split <;> omega
theorem minS_or (l:Lg) (rs:List Int) (i k:Nat) (n0:Int):∀ N,minS l rs i k n0 N=n0 ∨ ∃ s,s < N∧skipB l i k ((s:Nat):Int)=false∧minS l rs i k n0 N=slackB l rs ((s:Nat):Int)
  | 0=>.inl rfl
  | N+1=>by
    have ih:=minS_or l rs i k n0 N
    unfold minS
    split
    · rcases ih with h|⟨s,h1,h2,h3⟩
      · exact .inl h
      · exact .inr ⟨s,by omega,h2,h3⟩
    · rename_i hs
      by_cases c:minS l rs i k n0 N≤slackB l rs ((N:Nat):Int)
      · rw [Int.min_eq_left c]
        rcases ih with h|⟨s,h1,h2,h3⟩
        · exact .inl h
        · exact .inr ⟨s,by omega,h2,h3⟩
      · rw [Int.min_eq_right (by omega)]
        exact .inr ⟨N,by omega,by simpa using hs,rfl⟩
structure TS where
  rs:List Int
  need:Int
  row:List Int
def TS.n (l:Lg) (i k:Nat) (t:TS):Int:=minS l t.rs i k (min t.need (t.rs.getD k 0)) (2 ^ l.bs.length)
def TS.step (l:Lg) (i k:Nat) (t:TS):TS :=
  if payB (fd l.fs k) (bl l.bs i) then ⟨t.rs.set k (t.rs.getD k 0 - t.n l i k),t.need - t.n l i k,t.row.set k (t.n l i k)⟩ else t
def z8:List Int:=[0,0,0,0,0,0,0,0]
def tsN (l:Lg) (i:Nat) (rs:List Int):Nat→TS
  | 0=>⟨rs,(bl l.bs i).amt,z8⟩
  | k+1=>(tsN l i rs k).step l i k
def rsN (l:Lg):Nat→List Int
  | 0=>amts l.fs
  | i+1=>(tsN l i (rsN l i) l.fs.length).rs
def rowN (l:Lg) (i:Nat):List Int:=(tsN l i (rsN l i) l.fs.length).row.take l.fs.length
def traceL (l:Lg):List (List Int):=(List.range l.bs.length).map (rowN l)
structure TsOk (l:Lg) (i k:Nat) (t:TS):Prop where
  rs:RsOk t.rs
  len:t.row.length=8
  inv:l.pr.Inv i k t.need (rF t.rs)
  top:t.need≤1000000000
theorem rF_set {rs:List Int} {k:Nat} {v:Int} (hk:k < rs.length):rF (rs.set k v)=put (rF rs) k v:=by
  funext f
  unfold rF put
  simp only[List.getD_eq_getElem?_getD]
  by_cases e:f=k
  · subst e;simp [hk]
  · rw [if_neg e,List.getElem?_set_ne (fun h=>e h.symm)]
theorem msk_false {i s:Nat} (hs:s < 256) (hi:i < 8):mskB i ((s:Nat):Int)=false ↔ ∀ j,bitS ((s:Nat):Int) j=true→j < 8→i < j:=by
  rw [msk_nat s hs i hi,List.any_eq_false]
  constructor
  · intro h j hj h8
    by_cases c:j≤i
    · have:=h j (List.mem_range.2 (by omega))
      unfold bitS at hj
      rw [has_nat s hs j h8] at hj
      exact absurd hj this
    · omega
  · intro h j hj
    have hj':=List.mem_range.1 hj
    intro hb
    have:=h j (by unfold bitS;rw [has_nat s hs j (by omega)];exact hb) (by omega)
    omega
theorem TsOk.n_nn {l:Lg} (hl:LgOk l) {i k:Nat} {t:TS} (hi:i < l.bs.length) (hk:k < l.fs.length) (h:TsOk l i k t) (s:Nat) (hs:s≤2 ^ l.bs.length) :
    0≤minS l t.rs i k (min t.need (t.rs.getD k 0)) s∧minS l t.rs i k (min t.need (t.rs.getD k 0)) s≤1000000000:=by
  have hfn:=hl.fn
  have hbn:=hl.bn
  have h1:=h.rs.2 k (by omega)
  have h2:=h.inv.nd
  have h3:=h.top
  have hp:=pow_bd l.bs.length (by omega)
  refine ⟨?_,Int.le_trans (minS_le ..) (by omega)⟩
  rcases minS_or l t.rs i k (min t.need (t.rs.getD k 0)) s with e|⟨u,u1,u2,u3⟩
  · omega
  · rw [u3]
    have u2':mskB i ((u:Nat):Int)=false:=by
      unfold skipB at u2
      cases hm:mskB i ((u:Nat):Int)
      · rfl
      · rw [hm] at u2;simp at u2
    have hu:=(msk_false (by omega) (by omega)).1 u2'
    let U:Nat→Bool:=fun j=>bitS ((u:Nat):Int) j && decide (j < 8)
    have hU:∀ j,U j=true→i < j:=fun j hj=>by
      have:=and_true.1 hj
      exact hu j this.1 (of_decide_eq_true this.2)
    have hUi:U i=false:=by
      cases hx:U i
      · rfl
      · have:=hU i hx;omega
    have:=h.inv.ok U (fun j hj=>by have:=hU j hj;omega)
    rw [Pr.slack_at hUi] at this
    rw [slack_pr,Pr.slack_congr (U:=U) (fun j hj=>by
      have hj':j < l.bs.length:=hj
      have:decide (j < 8)=true:=decide_eq_true (by omega)
      simp [U,this])]
    exact this
theorem TsOk.next {l:Lg} (hl:LgOk l) {i k:Nat} {t:TS} (hi:i < l.bs.length) (hk:k < l.fs.length) (h:TsOk l i k t):TsOk l i (k+1) (t.step l i k):=by
  have hfn:=hl.fn
  have hbn:=hl.bn
  unfold TS.step
  cases hc:payB (fd l.fs k) (bl l.bs i)
  · simp only[Bool.false_eq_true,if_false]
    exact ⟨h.rs,h.len,h.inv.skip hc,h.top⟩
  · simp only[if_true]
    have hp:=pow_bd l.bs.length (by omega)
    have h0:=h.n_nn hl hi hk (2 ^ l.bs.length) (Nat.le_refl _)
    have e0:t.n l i k=minS l t.rs i k (min t.need (t.rs.getD k 0)) (2 ^ l.bs.length):=rfl
    have hle:=minS_le l t.rs i k (min t.need (t.rs.getD k 0)) (2 ^ l.bs.length)
    have hor:=minS_or l t.rs i k (min t.need (t.rs.getD k 0)) (2 ^ l.bs.length)
    have hsl:=minS_sl l t.rs i k (min t.need (t.rs.getD k 0)) (2 ^ l.bs.length)
    rw [← e0] at h0 hle hor hsl
    generalize t.n l i k=n at *
    have hr:=h.rs.2 k (by omega)
    have hlen:=h.rs.1
    refine ⟨⟨by rw [List.length_set];exact hlen,fun j hj=>?_⟩,by rw [List.length_set];exact h.len,?_,by have:=h.top;dsimp only;omega⟩
    · have:=congrFun (rF_set (rs:=t.rs) (k:=k) (v:=t.rs.getD k 0 - n) (by omega)) j
      unfold rF put at this
      dsimp only
      rw [this]
      have:=h.rs.2 j hj
      split
      · omega
      · exact this
    · dsimp only
      rw [rF_set (by omega)]
      refine h.inv.give hi hk hc h0.1 (by omega) (by show n≤t.rs.getD k 0;omega) (fun U hU hpay=>?_) ?_
      · have hlt:=enc_lt U l.bs.length
        have hes:=enc_set U hbn
        have e1:l.pr.slack (rF t.rs) U=slackB l t.rs ((enc U l.bs.length:Nat):Int):=by
          rw [slack_pr];exact Pr.slack_congr fun j hj=>(hes j hj).symm
        rw [e1]
        refine hsl _ hlt ?_
        unfold skipB
        have m:mskB i ((enc U l.bs.length:Nat):Int)=false:=(msk_false (by omega) (by omega)).2 fun j hj h8=>by
          by_cases c:j < l.bs.length
          · rw [hes j c] at hj;exact hU j hj
          · omega
        have p:payerB l k ((enc U l.bs.length:Nat):Int)=true:=by
          rw [payer_pr,Pr.pay_congr (U:=U) (fun j hj=>hes j hj)];exact hpay
        rw [m,p];rfl
      · rcases hor with e|⟨u,u1,u2,u3⟩
        · by_cases c:t.need≤t.rs.getD k 0
          · left;omega
          · right;left;show n=t.rs.getD k 0;omega
        · right;right
          have u2a:mskB i ((u:Nat):Int)=false∧payerB l k ((u:Nat):Int)=true:=by
            unfold skipB at u2
            cases hm:mskB i ((u:Nat):Int) <;> cases hq:payerB l k ((u:Nat):Int) <;> rw [hm,hq] at u2 <;> simp at u2 ⊢
          have hu:=(msk_false (by omega) (by omega)).1 u2a.1
          have hUe:∀ j,j < l.pr.nB→bitS ((u:Nat):Int) j=(bitS ((u:Nat):Int) j && decide (j < 8)):=fun j hj=>by
            have hj':j < l.bs.length:=hj
            have:decide (j < 8)=true:=decide_eq_true (by omega)
            simp [this]
          refine ⟨fun j=>bitS ((u:Nat):Int) j && decide (j < 8),fun j hj=>?_,?_,?_⟩
          · have:=and_true.1 hj
            exact hu j this.1 (of_decide_eq_true this.2)
          · rw [← Pr.pay_congr hUe];exact u2a.2
          · rw [← Pr.slack_congr hUe,← slack_pr];exact u3
theorem tsN_ok {l:Lg} (hl:LgOk l) {i:Nat} (hi:i < l.bs.length) {rs:List Int} (hr:RsOk rs) (ho:l.pr.ok i (rF rs)):∀ k,k≤l.fs.length→TsOk l i k (tsN l i rs k)
  | 0,_=>by
    have:=(hl.b _ (bl_mem hi)).amt
    have hfn:=hl.fn
    refine ⟨hr,rfl,Pr.Inv.start (p:=l.pr) (i:=i) (fun f hf=>?_) (by show 0≤(bl l.bs i).amt;omega) ho,by show (bl l.bs i).amt≤1000000000;omega⟩
    have hf':f < l.fs.length:=hf
    exact (hr.2 f (by omega)).1
  | k+1,h=>(tsN_ok hl hi hr ho k (by omega)).next hl hi (by omega)
theorem rsN_ok {l:Lg} (hl:LgOk l) (hp:prf l=none):∀ i,i≤l.bs.length→RsOk (rsN l i)∧l.pr.ok i (rF (rsN l i))
  | 0,_=>⟨amtsOk hl,fun S _=>slack_nn hl hp S⟩
  | i+1,h=>by
    obtain ⟨h1,h2⟩:=rsN_ok hl hp i (by omega)
    have:=tsN_ok hl (by omega) h1 h2 l.fs.length (Nat.le_refl _)
    exact ⟨this.rs,this.inv.next⟩
end Go.Proofs.YtefogfgddofdmaaGreatDoor
