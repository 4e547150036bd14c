/- Contracts of functions that the claim reaches: what each call gives, told in our own logic. Conditions: those of each theorem. -/
import Derived.Test.YtefogfgddofdmaaDoorG8
open List (length_map)
set_option linter.all false
set_option linter.unusedSimpArgs false
set_option linter.unusedVariables false
namespace Go.Proofs.YtefogfgddofdmaaDoor
open Go.Av
attribute [local irreducible] thenA blockA awp awpOps awpD awp1
attribute [local go_sem_proc] Nat.reduceAdd Nat.reduceMul Nat.reduceEqDiff Nat.reduceBEq Nat.reduceLeDiff
attribute [local go_sem_proc ↓] reduceIte
attribute [local go_sem] if_yes if_no
set_option maxHeartbeats 8000000
set_option maxRecDepth 20000
theorem st_anyU {P:Program} {tt:Nat→TI} {fi:FI} {k0:Nat} {K:AS→Prop} {T:Nat→AV} {B:Bid→Option (List AV)} {M:List Nat} {H:AH} {d:Tmp} {op:Op} {t:TypeId} {p:String} {a:Array Edge} {g:Option (Nat × Bool)} {v:Int} (hd:isDet ⟨some d,op,t,p,a,g⟩=true) (h:dres tt fi k0 ⟨some d,op,t,p,a,g⟩ ⟨T,B,M,H⟩=some (.int .u64 v,.none)) (hk:∀ y,K ⟨upd T d (.int .u64 y),B,M,H⟩) :
  awp1 P tt fi k0 ⟨some d,op,t,p,a,g⟩ ⟨T,B,M,H⟩ K:=st_det hd h (hk v)
theorem and_127 (x:Int):0≤bitop .and .i64 x 127∧bitop .and .i64 x 127≤127:=by
 unfold bitop
 dsimp only
 have h:((BitVec.ofInt IntKind.i64.bits x) &&& (BitVec.ofInt IntKind.i64.bits 127)).toNat≤127:=by
  rw [BitVec.toNat_and]
  have:(BitVec.ofInt IntKind.i64.bits 127).toNat=127:=by decide
  rw [this]
  exact Nat.and_le_right
 rw [wr_i64 (by omega)]
 omega
theorem c44 (x:Int):Pure Tryd.prog 44 [.int .u64 x] (fun v=>∃ r,v=.int .i64 r∧0≤r∧r≤127):=by
 intro h
 refine ACalls.forget (ACalls.of tab mixed Tryd.call44 Tryd.func44 rfl (fi:=⟨35,[],[],none,[]⟩) rfl rfl (Nat.le_of_ble_eq_true rfl) (by decide) ?_)
 unfold startA
 repeat' (first|refine st_seq_reg rfl (by first|(simp only[go_sem];rfl)|rfl) (by first|(simp only[go_sem];rfl)|rfl) ?_|refine st_reg rfl (by first|(simp only[go_sem];rfl)|rfl) (by first|(simp only[go_sem];rfl)|rfl) ?_|refine st_op ?_|(refine st_anyU rfl (by simp (disch:=omega) only[go_sem,wr_i64];rfl) ?_;intro y)|refine st_det rfl (by simp (disch:=omega) only[go_sem,wr_i64];rfl) ?_|refine st_nil ?_|refine st_tN ?_|refine st_seq ?_|refine st_skip ?_|refine st_ret ?_|refine st_tE ?_|refine st_tR ?_)
 simp (disch:=omega) only[AEnd,Tryd.results44,aresK,fin,go_sem,implies_true,true_and,and_true,List.reverse_cons,List.reverse_nil]
 exact ⟨_,rfl,and_127 _⟩
theorem c27 (x:Int):Pure Tryd.prog 27 [.int .u64 x] (fun v=>∃ r,v=.int .i64 r∧0≤r∧r≤127):=by
 intro h
 refine ACalls.forget (ACalls.of tab mixed Tryd.call27 Tryd.func27 rfl (fi:=⟨8,[],[],none,[]⟩) rfl rfl (Nat.le_of_ble_eq_true rfl) (by decide) ?_)
 unfold startA
 repeat' (first|refine st_seq_reg rfl (by first|(simp only[go_sem];rfl)|rfl) (by first|(simp only[go_sem];rfl)|rfl) ?_|refine st_reg rfl (by first|(simp only[go_sem];rfl)|rfl) (by first|(simp only[go_sem];rfl)|rfl) ?_|refine st_op ?_|refine st_det rfl (by simp (disch:=omega) only[go_sem,wr_i64];rfl) ?_|(refine st_pure (by first|(simp (disch:=omega) only[go_sem];rfl)|rfl) rfl (c44 _) (by first|(simp only[go_sem];rfl)|rfl) (by intro n;first|(simp (disch:=omega) only[go_sem];rfl)|rfl) ?_;rintro v n ⟨r,rfl,hr⟩ hn)|refine st_condT rfl ?_|refine st_condF rfl ?_|(refine st_condS rfl ?_ ?_ <;> intro hg <;> (try simp only[dcT,dcF,bnT,bnF] at hg))|refine st_nil ?_|refine st_tN ?_|refine st_seq ?_|refine st_skip ?_|refine st_ret ?_|refine st_tE ?_|refine st_tR ?_)
 simp (disch:=omega) only[AEnd,Tryd.results27,aresK,fin,go_sem,implies_true,true_and,and_true,List.reverse_cons,List.reverse_nil]
 exact ⟨_,rfl,hr⟩
def bitsL (l:Lg) (s:Int):Nat→List Int
 | 0=>[]
 | i+1=>bitsL l s i ++ if hasB s (i:Nat) then [((i:Nat):Int)] else []
theorem bitsL_len (l:Lg) (s:Int):∀ i,(bitsL l s i).length≤i
 | 0=>Nat.le_refl _
 | i+1=>by
  have:=bitsL_len l s i
  unfold bitsL
  rw [List.length_append]
  split <;> simp <;> omega
def shoR (l:Lg) (v:AV):Prop :=
 if chkE l ≠ 0 then v=.tup [.nils,.int .i64 (chkE l)] else
 match prf l with
 | none=>v=.tup [.nils,.int .i64 7]
 | some s=>v=.tup [.lst 1 ((bitsL l s l.bs.length).map iv),.int .i64 0]
structure ShS where
 i:Nat
 t:Nat
 bb:Nat × Nat
def ShS.hp (l:Lg) (s:Int) (h:AH) (a:ShS):AH:=(h.tick a.t).put a.bb (some ⟨1,(bitsL l s a.i).map iv⟩)
theorem hold_ap {h H':AH} {t:Nat} {bb:Nat × Nat} {k:Option Blk} (ha:∀ b k,h.at_ b=some k→b.1 < h.clk) (h1:H'.at_ bb=k) (h2:∀ b,b.1 < h.clk→H'.at_ b=h.at_ b) (h3:H'.lp=h.lp) (h4:t≤H'.clk) (h5:h.gl=H'.gl):HOld ((h.tick t).put bb k) H':=by
 refine ⟨fun b k hz=>?_,fun x r hr=>by rw [h3];exact hr,h4,by simp only[go_sem];exact h5⟩
 simp only[go_sem] at hz
 by_cases e:b=bb
 ·rw [if_pos e] at hz;rw [e,h1];exact hz
 ·rw [if_neg e] at hz;rw [h2 b (ha b k hz)];exact hz
theorem c9 (l:Lg):Pure Tryd.prog 9 [l.av] (shoR l):=by
 refine Pure.give Tryd.call9 fun h hall=>?_
 by_cases h0:chkE l=0
 case neg =>
  have k27:=c6 l
  refine ACalls.of tab mixed Tryd.call9 Tryd.func9 rfl (fi:=⟨40,[],[1,36],none,[]⟩) rfl rfl (Nat.le_of_ble_eq_true rfl) (by decide) ?_
  unfold startA
  simp only[go_sem]
  repeat' (first|refine st_seq_reg rfl (by first|(simp only[go_sem];rfl)|rfl) (by first|(simp only[go_sem];rfl)|rfl) ?_|refine st_reg rfl (by first|(simp only[go_sem];rfl)|rfl) (by first|(simp only[go_sem];rfl)|rfl) ?_|refine st_op ?_|refine st_det rfl (by simp (disch:=omega) only[go_sem,wr_i64];rfl) ?_|refine st_loc rfl (by simp (disch:=omega) only[go_sem,wr_i64];rfl) ?_|refine st_heap rfl (by simp (disch:=omega) only[go_sem,wr_i64];rfl) ?_|refine st_append (by simp (disch:=omega) only[go_sem,wr_i64];rfl) ?_|(refine st_pureE (by first|(simp (disch:=omega) only[go_sem];rfl)|rfl) rfl (k27) (by first|(simp only[go_sem];rfl)|rfl) (by intro n;first|(simp (disch:=omega) only[go_sem];rfl)|rfl) ?_;intro n hn)|refine st_condT rfl ?_|refine st_condF rfl ?_|(refine st_condS rfl ?_ ?_ <;> intro hg <;> (try simp only[dcT,dcF,bnT,bnF] at hg))|refine st_nil ?_|refine st_tN ?_|refine st_seq ?_|refine st_block ?_|refine st_skip ?_|refine st_exit ?_|refine st_ret ?_|refine st_tE ?_|refine st_tR ?_|refine st_bN ?_|refine st_bR ?_|refine st_bH ?_|refine st_bM rfl ?_)
  ·simp (disch:=omega) only[AEnd,Tryd.results9,aresK,fin,go_sem,implies_true,true_and,and_true,List.reverse_cons,List.reverse_nil]
   refine .inl ⟨_,.refl _,?_⟩
   unfold shoR;rw [if_pos h0]
  ·exact absurd h0 hg
 have hl:=ledgerOk h0
 have k27:Pure Tryd.prog 6 [l.av] (fun v=>v=.int .i64 0):=by have:=c6 l;rw [h0] at this;exact this
 have k56:=c22 l hl
 rcases hp:prf l with _|s
 ·rw [hp] at k56
  unfold optV at k56
  refine ACalls.of tab mixed Tryd.call9 Tryd.func9 rfl (fi:=⟨40,[],[1,36],none,[]⟩) rfl rfl (Nat.le_of_ble_eq_true rfl) (by decide) ?_
  unfold startA
  simp only[go_sem]
  repeat' (first|refine st_seq_reg rfl (by first|(simp only[go_sem];rfl)|rfl) (by first|(simp only[go_sem];rfl)|rfl) ?_|refine st_reg rfl (by first|(simp only[go_sem];rfl)|rfl) (by first|(simp only[go_sem];rfl)|rfl) ?_|refine st_op ?_|refine st_det rfl (by simp (disch:=omega) only[go_sem,wr_i64];rfl) ?_|refine st_loc rfl (by simp (disch:=omega) only[go_sem,wr_i64];rfl) ?_|refine st_heap rfl (by simp (disch:=omega) only[go_sem,wr_i64];rfl) ?_|refine st_append (by simp (disch:=omega) only[go_sem,wr_i64];rfl) ?_|(refine st_pureE (by first|(simp (disch:=omega) only[go_sem];rfl)|rfl) rfl (k27) (by first|(simp only[go_sem];rfl)|rfl) (by intro n;first|(simp (disch:=omega) only[go_sem];rfl)|rfl) ?_;intro n hn)|(refine st_pureE (by first|(simp (disch:=omega) only[go_sem];rfl)|rfl) rfl (k56) (by first|(simp only[go_sem];rfl)|rfl) (by intro n;first|(simp (disch:=omega) only[go_sem];rfl)|rfl) ?_;intro n hn)|refine st_condT rfl ?_|refine st_condF rfl ?_|(refine st_condS rfl ?_ ?_ <;> intro hg <;> (try simp only[dcT,dcF,bnT,bnF] at hg))|refine st_nil ?_|refine st_tN ?_|refine st_seq ?_|refine st_block ?_|refine st_skip ?_|refine st_exit ?_|refine st_ret ?_|refine st_tE ?_|refine st_tR ?_|refine st_bN ?_|refine st_bR ?_|refine st_bH ?_|refine st_bM rfl ?_)
  simp (disch:=omega) only[AEnd,Tryd.results9,aresK,fin,go_sem,implies_true,true_and,and_true,List.reverse_cons,List.reverse_nil]
  refine .inl ⟨_,.refl _,?_⟩
  unfold shoR;rw [if_neg (by omega),hp]
 rw [hp] at k56
 unfold optV at k56
 have hbn:=hl.bn
 refine ACalls.of tab mixed Tryd.call9 Tryd.func9 rfl (fi:=⟨40,[],[1,36],none,[]⟩) rfl rfl (Nat.le_of_ble_eq_true rfl) (by decide) ?_
 unfold startA
 simp only[go_sem]
 repeat' (first|refine st_seq_reg rfl (by first|(simp only[go_sem];rfl)|rfl) (by first|(simp only[go_sem];rfl)|rfl) ?_|refine st_reg rfl (by first|(simp only[go_sem];rfl)|rfl) (by first|(simp only[go_sem];rfl)|rfl) ?_|refine st_op ?_|(refine st_anyU rfl (by simp (disch:=omega) only[go_sem,wr_i64];rfl) ?_;intro y)|refine st_det rfl (by simp (disch:=omega) only[go_sem,wr_i64];rfl) ?_|refine st_loc rfl (by simp (disch:=omega) only[go_sem,wr_i64];rfl) ?_|refine st_heap rfl (by simp (disch:=omega) only[go_sem,wr_i64];rfl) ?_|refine st_append (by simp (disch:=omega) only[go_sem,wr_i64];rfl) ?_|(refine st_pureE (by first|(simp (disch:=omega) only[go_sem];rfl)|rfl) rfl (k27) (by first|(simp only[go_sem];rfl)|rfl) (by intro n;first|(simp (disch:=omega) only[go_sem];rfl)|rfl) ?_;intro n hn)|(refine st_pureE (by first|(simp (disch:=omega) only[go_sem];rfl)|rfl) rfl (k56) (by first|(simp only[go_sem];rfl)|rfl) (by intro n;first|(simp (disch:=omega) only[go_sem];rfl)|rfl) ?_;intro n hn)|(refine st_pure (by first|(simp (disch:=omega) only[go_sem];rfl)|rfl) rfl (c27 _) (by first|(simp only[go_sem];rfl)|rfl) (by intro n;first|(simp (disch:=omega) only[go_sem];rfl)|rfl) ?_;rintro v n ⟨r,rfl,hr⟩ hn)|refine st_condT rfl ?_|refine st_condF rfl ?_|(refine st_condS rfl ?_ ?_ <;> intro hg <;> (try simp only[dcT,dcF,bnT,bnF] at hg))|refine st_nil ?_|refine st_tN ?_|refine st_seq ?_|refine st_block ?_|refine st_skip ?_|refine st_exit ?_|refine st_ret ?_|refine st_tE ?_|refine st_tR ?_|refine st_bN ?_|refine st_bR ?_|refine st_bH ?_|refine st_bM rfl ?_)
 rename_i n1 hn1
 refine st_loopH (α:=ShS) tab mixed [] [] (by repeat (first|exact trivial|refine ⟨rfl,?_⟩)) [] [] (by repeat (first|exact trivial|refine ⟨rfl,?_⟩)) (fun a=>[(28,.int .i64 (a.i:Nat)),(7,.slc a.bb 1 0 (bitsL l s a.i).length)]) [(1,_),(5,_),(27,_)] (fun _=>[]) [] (ShS.hp l s h) (fun a=>a.i≤l.bs.length∧h.clk≤a.bb.1∧a.bb.1 < a.t) (fun a=>l.bs.length - a.i) (by decide) ⟨0,n,(n1+1,24)⟩ ⟨Nat.zero_le _,by show h.clk≤n1+1;omega,by show n1+1 < n;omega⟩ (by (try simp only[go_sem]);repeat' (first|exact trivial|refine And.intro ?_ ?_|rfl|(simp (disch:=omega) only[go_sem,if_yes,if_no,if_no];rfl)|(simp (disch:=omega) only[go_sem,if_yes,if_no,if_no]))) (by (try simp only[go_sem]);repeat' (first|exact trivial|refine And.intro ?_ ?_|rfl|(simp (disch:=omega) only[go_sem,if_yes,if_no,if_no];rfl)|(simp (disch:=omega) only[go_sem,if_yes,if_no,if_no]))) (hold_ap hall (by simp only[go_sem,↓reduceIte];rfl) (fun b' hb'=>by simp only[go_sem];rw [if_neg (fun e=>by rw [e] at hb';dsimp only at hb';omega)]) rfl (by simp only[go_sem];omega) (by simp only[go_sem])) ?_
 rintro ⟨i,t,bb⟩ c ⟨i1,i2,i3⟩ hc
 dsimp only at i1 i2 i3
 unfold ShS.hp at hc ⊢
 have hbl:=bitsL_len l s i
 have htc:t≤c:=hc
 have hst:bitsL l s (i+1)=bitsL l s i ++ if hasB s (i:Nat) then [((i:Nat):Int)] else []:=rfl
 have hq:∀ b':Nat × Nat,b'.1 < h.clk→¬ b'=bb:=fun b' hb' e=>by rw [e] at hb';omega
 simp only[go_sem]
 repeat' (first|refine st_seq_reg rfl (by first|(simp only[go_sem,Lm,big];rfl)|rfl) (by first|(simp only[go_sem,Lm,big];rfl)|rfl) ?_|refine st_reg rfl (by first|(simp only[go_sem,Lm,big];rfl)|rfl) (by first|(simp only[go_sem,Lm,big];rfl)|rfl) ?_|refine st_op ?_|refine st_det rfl (by simp (disch:=omega) only[go_sem,wr_i64,Lm,big];rfl) ?_|refine st_loc rfl (by simp (disch:=omega) only[go_sem,wr_i64,Lm,big];rfl) ?_|refine st_heap rfl (by simp (disch:=omega) only[go_sem,wr_i64,Lm,big];rfl) ?_|refine st_append (by simp (disch:=omega) only[go_sem,wr_i64,Lm,big];rfl) ?_|(refine st_pureE (by first|(simp (disch:=omega) only[go_sem,Lm,big];rfl)|rfl) rfl (c28 s (i:Nat) (by omega)) (by first|(simp only[go_sem,Lm,big];rfl)|rfl) (by intro n;first|(simp (disch:=omega) only[go_sem];rfl)|rfl) ?_;intro n hn)|refine st_condT rfl ?_|refine st_condF rfl ?_|(refine st_condS rfl ?_ ?_ <;> intro hg <;> (try simp only[dcT,dcF,bnT,bnF] at hg))|refine st_nil ?_|refine st_tN ?_|refine st_seq ?_|refine st_block ?_|refine st_skip ?_|refine st_exit ?_|refine st_ret ?_|refine st_tE ?_|refine st_tR ?_|refine st_bN ?_|refine st_bR ?_|refine st_bH ?_|refine st_bM rfl ?_)
 ·rw [hg,if_pos rfl] at hst
  have hsl:(bitsL l s (i+1)).length=(bitsL l s i).length+1:=by rw [hst];simp
  refine ⟨⟨i+1,n+1,(n,37)⟩,⟨by show i+1≤_;omega,by show h.clk≤n;omega,by show n < n+1;omega⟩,by show l.bs.length - (i+1) < l.bs.length - i;omega,(by (try (simp only[hsl,go_sem]));repeat' (first|exact trivial|refine And.intro ?_ ?_|rfl|(simp (disch:=omega) only[go_sem,if_yes,if_no,if_no];rfl)|(simp (disch:=omega) only[go_sem,if_yes,if_no,if_no]))),(by (try (simp only[hsl,go_sem]));repeat' (first|exact trivial|refine And.intro ?_ ?_|rfl|(simp (disch:=omega) only[go_sem,if_yes,if_no,if_no];rfl)|(simp (disch:=omega) only[go_sem,if_yes,if_no,if_no]))),rfl,hold_ap hall (by simp only[go_sem,↓reduceIte];rw [hst,List.map_append,List.take_of_length_le (by simp)];rfl) (fun b' hb'=>by simp only[go_sem,hq b' hb',↓reduceIte];rw [if_neg (fun e=>by rw [e] at hb';dsimp only at hb';omega)]) rfl (by simp only[go_sem];omega) (by simp only[go_sem])⟩
 ·rw [hg,if_neg (by simp),List.append_nil] at hst
  refine ⟨⟨i+1,t,bb⟩,⟨by show i+1≤_;omega,i2,i3⟩,by show l.bs.length - (i+1) < l.bs.length - i;omega,(by (try (simp only[hst,go_sem]));repeat' (first|exact trivial|refine And.intro ?_ ?_|rfl|(simp (disch:=omega) only[go_sem,if_yes,if_no,if_no];rfl)|(simp (disch:=omega) only[go_sem,if_yes,if_no,if_no]))),(by (try (simp only[hst,go_sem]));repeat' (first|exact trivial|refine And.intro ?_ ?_|rfl|(simp (disch:=omega) only[go_sem,if_yes,if_no,if_no];rfl)|(simp (disch:=omega) only[go_sem,if_yes,if_no,if_no]))),rfl,by dsimp only;rw [hst];exact HOld.tick (by simp only[go_sem];omega)⟩
 ·obtain rfl:i=l.bs.length:=by omega
  simp (disch:=omega) only[AEnd,Tryd.results9,aresK,fin,go_sem,implies_true,true_and,and_true,List.reverse_cons,List.reverse_nil]
  refine ⟨fun b' hb'=>if_neg (hq b' hb'),.inr ⟨bb,_,i2,if_pos rfl,?_⟩⟩
  unfold shoR
  rw [if_neg (by omega),hp]
  simp only[frz,frzs]
  rw [if_pos ⟨trivial,by simp⟩,List.drop_zero,List.take_of_length_le (by simp)]
def spF (l:Lg) (k i:Nat):Int:=if payB (fd l.fs k) (bl l.bs i)=true then (bl l.bs i).amt else 0
def othR (l:Lg) (k:Nat):List Int:=(amts l.fs).set k 0
def loN (l:Lg) (k:Nat):Nat→Int
 | 0=>0
 | s+1=>max (loN l k s) (0 - slackB l (othR l k) ((s:Nat):Int))
def spnR (l:Lg) (k:Int) (v:AV):Prop :=
 if chkE l ≠ 0 then v=.tup [.agg [.int .i64 0,.int .i64 0],.int .i64 (chkE l)] else
 if ¬ (0≤k∧k < l.fs.length) then v=.tup [.agg [.int .i64 0,.int .i64 0],.int .i64 7] else
 if prf l ≠ none then v=.tup [.agg [.int .i64 0,.int .i64 0],.int .i64 4] else
 v=.tup [.agg [.int .i64 (loN l k.toNat (2 ^ l.bs.length)),.int .i64 (min (fd l.fs k.toNat).amt (sumF (spF l k.toNat) l.bs.length))],.int .i64 0]
theorem c32 (l:Lg) (hl:LgOk l) (k:Nat) (hk:k < l.fs.length) (i:Nat) (hi:i < l.bs.length):Pure Tryd.prog 32 ([.int .i64 (i:Nat),.agg (bl l.bs i).row] ++ [.iptr [.lst 4 (l.fs.map Fd.row),.lst 3 (l.bs.map Bl.row)] 0,.iptr [.int .i64 (k:Nat)] 0]) (fun v=>v=.int .i64 (spF l k i)):=by
 have hfn:=hl.fn
 have k58:=c24o hl hk hi
 intro h
 refine ACalls.forget (ACalls.of tab mixed Tryd.call32 Tryd.func32 rfl (fi:=⟨16,[],[5],none,[(1,[0,1,0,7,15,0,63],[(0,false),(1,true),(2,true),(3,false),(4,true),(5,true),(6,false)])]⟩) rfl rfl (Nat.le_of_ble_eq_true rfl) (by decide) ?_)
 unfold startA
 simp only[go_sem]
 repeat' (first|refine st_seq_reg rfl (by first|(simp only[go_sem];rfl)|rfl) (by first|(simp only[go_sem];rfl)|rfl) ?_|refine st_reg rfl (by first|(simp only[go_sem];rfl)|rfl) (by first|(simp only[go_sem];rfl)|rfl) ?_|refine st_seq_draw rfl (by first|(simp only[go_sem];rfl)|rfl) (by first|(simp only[go_sem];rfl)|rfl) ?_|refine st_draw rfl (by first|(simp only[go_sem];rfl)|rfl) (by first|(simp only[go_sem];rfl)|rfl) ?_|refine st_op ?_|refine st_det rfl (by simp (disch:=omega) only[go_sem,wr_i64];rfl) ?_|refine st_dop rfl ?_|refine st_loc rfl (by simp (disch:=omega) only[go_sem,wr_i64];rfl) ?_|refine st_heap rfl (by simp (disch:=omega) only[go_sem,wr_i64];rfl) ?_|(refine st_pureE (by first|(simp (disch:=omega) only[go_sem];rfl)|rfl) rfl (k58) (by first|(simp only[go_sem];rfl)|rfl) (by intro n;first|(simp (disch:=omega) only[go_sem];rfl)|rfl) ?_;intro n hn)|refine st_condT rfl ?_|refine st_condF rfl ?_|(refine st_condS rfl ?_ ?_ <;> intro hg <;> (try simp only[dcT,dcF,bnT,bnF] at hg))|refine st_nil ?_|refine st_dnil ?_|refine st_tN ?_|refine st_seq ?_|refine st_skip ?_|refine st_ret ?_|refine st_tE ?_|refine st_tR ?_)
 all_goals
  simp (disch:=omega) only[AEnd,Tryd.results32,aresK,fin,go_sem,implies_true,true_and,and_true,List.reverse_cons,List.reverse_nil]
  simp [spF, *]
theorem othOk {l:Lg} (hl:LgOk l) (k:Nat):RsOk (othR l k):=by
 have:=amtsOk hl
 refine ⟨by unfold othR;rw [List.length_set];exact this.1,fun i hi=>?_⟩
 unfold othR
 rw [List.getD_eq_getElem?_getD]
 by_cases e:k=i
 ·subst e;simp [this.1,hi]
 ·rw [List.getElem?_set_ne e,← List.getD_eq_getElem?_getD];exact this.2 i hi
theorem slack_bd {l:Lg} {rs:List Int} (hl:LgOk l) (hr:RsOk rs) (s:Int):-8000000000≤slackB l rs s∧slackB l rs s≤8000000000:=by
 have hfn:=hl.fn
 have hbn:=hl.bn
 have h1:=sumF_bd (F:=givF l rs s) (B:=1000000000) l.fs.length (fun i hi=>by have:=givF_bd hl hr s i hi;omega)
 have h2:=sumF_nn (F:=givF l rs s) (n:=l.fs.length) (fun i hi=>(givF_bd hl hr s i hi).1)
 have h3:=sumF_bd (F:=dueF l s) (B:=1000000000) l.bs.length (fun i hi=>by have:=dueF_bd hl s i hi;omega)
 have h4:=sumF_nn (F:=dueF l s) (n:=l.bs.length) (fun i hi=>(dueF_bd hl s i hi).1)
 unfold slackB dueB
 omega
theorem loN_bd {l:Lg} (hl:LgOk l) (k:Nat):∀ s,0≤loN l k s∧loN l k s≤8000000000
 | 0=>by unfold loN;omega
 | s+1=>by
  have h1:=loN_bd hl k s
  have h2:=slack_bd hl (othOk hl k) ((s:Nat):Int)
  unfold loN
  omega
theorem c14 (l:Lg) (k:Int) (hkb:-9223372036854775808≤k∧k≤9223372036854775807):Pure Tryd.prog 14 [l.av,.int .i64 k] (spnR l k):=by
 by_cases h0:chkE l=0
 case neg =>
  have k27:=c6 l
  intro h
  refine ACalls.forget (ACalls.of tab mixed Tryd.call14 Tryd.func14 rfl (fi:=⟨68,[4,9,10],[2,3,23],none,[(15,[0,1,0,0,0,28,60,127,255,511],[(0,false),(1,true),(2,true),(3,true),(4,false),(5,false),(6,false),(7,false),(8,false),(9,false)]),(16,[0,1,0,7,15,31,0,64,0,448,1023,2047,4095],[(0,false),(1,true),(2,true),(3,false),(4,false),(5,true),(6,false),(7,true),(8,false),(9,false),(10,false),(11,false),(12,false)])]⟩) rfl rfl (Nat.le_of_ble_eq_true rfl) (by decide) ?_)
  unfold startA
  simp only[go_sem]
  repeat' (first|refine st_seq_reg rfl (by first|(simp only[go_sem];rfl)|rfl) (by first|(simp only[go_sem];rfl)|rfl) ?_|refine st_reg rfl (by first|(simp only[go_sem];rfl)|rfl) (by first|(simp only[go_sem];rfl)|rfl) ?_|refine st_seq_draw rfl (by first|(simp only[go_sem];rfl)|rfl) (by first|(simp only[go_sem];rfl)|rfl) ?_|refine st_draw rfl (by first|(simp only[go_sem];rfl)|rfl) (by first|(simp only[go_sem];rfl)|rfl) ?_|refine st_op ?_|refine st_det rfl (by simp (disch:=omega) only[go_sem,wr_i64];rfl) ?_|refine st_dop rfl ?_|refine st_loc rfl (by simp (disch:=omega) only[go_sem,wr_i64];rfl) ?_|refine st_heap rfl (by simp (disch:=omega) only[go_sem,wr_i64];rfl) ?_|refine st_store (by simp (disch:=omega) only[go_sem,wr_i64];rfl) ?_|(refine st_pureE (by first|(simp (disch:=omega) only[go_sem];rfl)|rfl) rfl (k27) (by first|(simp only[go_sem];rfl)|rfl) (by intro n;first|(simp (disch:=omega) only[go_sem];rfl)|rfl) ?_;intro n hn)|refine st_condT rfl ?_|refine st_condF rfl ?_|(refine st_condS rfl ?_ ?_ <;> intro hg <;> (try simp only[dcT,dcF,bnT,bnF] at hg))|refine st_nil ?_|refine st_dnil ?_|refine st_tN ?_|refine st_seq ?_|refine st_block ?_|refine st_skip ?_|refine st_exit ?_|refine st_ret ?_|refine st_tE ?_|refine st_tR ?_|refine st_bN ?_|refine st_bR ?_|refine st_bH ?_|refine st_bM rfl ?_)
  ·simp (disch:=omega) only[AEnd,Tryd.results14,aresK,fin,go_sem,implies_true,true_and,and_true,List.reverse_cons,List.reverse_nil]
   unfold spnR;rw [if_pos h0]
  ·exact absurd h0 hg
 have hl:=ledgerOk h0
 have hfn:=hl.fn
 have hbn:=hl.bn
 have k27:Pure Tryd.prog 6 [l.av] (fun v=>v=.int .i64 0):=by have:=c6 l;rw [h0] at this;exact this
 have k65:=c21a 0 ((l.fs.length:Int) - 1) k
 by_cases hk:0≤k∧k < l.fs.length
 case neg =>
  intro h
  refine ACalls.forget (ACalls.of tab mixed Tryd.call14 Tryd.func14 rfl (fi:=⟨68,[4,9,10],[2,3,23],none,[(15,[0,1,0,0,0,28,60,127,255,511],[(0,false),(1,true),(2,true),(3,true),(4,false),(5,false),(6,false),(7,false),(8,false),(9,false)]),(16,[0,1,0,7,15,31,0,64,0,448,1023,2047,4095],[(0,false),(1,true),(2,true),(3,false),(4,false),(5,true),(6,false),(7,true),(8,false),(9,false),(10,false),(11,false),(12,false)])]⟩) rfl rfl (Nat.le_of_ble_eq_true rfl) (by decide) ?_)
  unfold startA
  simp only[go_sem]
  repeat' (first|refine st_seq_reg rfl (by first|(simp only[go_sem,Lm];rfl)|rfl) (by first|(simp only[go_sem,Lm];rfl)|rfl) ?_|refine st_reg rfl (by first|(simp only[go_sem,Lm];rfl)|rfl) (by first|(simp only[go_sem,Lm];rfl)|rfl) ?_|refine st_seq_draw rfl (by first|(simp only[go_sem,Lm];rfl)|rfl) (by first|(simp only[go_sem,Lm];rfl)|rfl) ?_|refine st_draw rfl (by first|(simp only[go_sem,Lm];rfl)|rfl) (by first|(simp only[go_sem,Lm];rfl)|rfl) ?_|refine st_op ?_|refine st_det rfl (by simp (disch:=omega) only[go_sem,wr_i64,Lm];rfl) ?_|refine st_dop rfl ?_|refine st_loc rfl (by simp (disch:=omega) only[go_sem,wr_i64,Lm];rfl) ?_|refine st_heap rfl (by simp (disch:=omega) only[go_sem,wr_i64,Lm];rfl) ?_|refine st_store (by simp (disch:=omega) only[go_sem,wr_i64,Lm];rfl) ?_|(refine st_pureE (by first|(simp (disch:=omega) only[go_sem,Lm];rfl)|rfl) rfl (k27) (by first|(simp only[go_sem,Lm];rfl)|rfl) (by intro n;first|(simp (disch:=omega) only[go_sem];rfl)|rfl) ?_;intro n hn)|(refine st_pureE (by first|(simp (disch:=omega) only[go_sem,Lm];rfl)|rfl) rfl (k65) (by first|(simp only[go_sem,Lm];rfl)|rfl) (by intro n;first|(simp (disch:=omega) only[go_sem];rfl)|rfl) ?_;intro n hn)|refine st_condT rfl ?_|refine st_condF rfl ?_|(refine st_condS rfl ?_ ?_ <;> intro hg <;> (try simp only[dcT,dcF,bnT,bnF] at hg))|refine st_nil ?_|refine st_dnil ?_|refine st_tN ?_|refine st_seq ?_|refine st_block ?_|refine st_skip ?_|refine st_exit ?_|refine st_ret ?_|refine st_tE ?_|refine st_tR ?_|refine st_bN ?_|refine st_bR ?_|refine st_bH ?_|refine st_bM rfl ?_)
  ·simp (disch:=omega) only[AEnd,Tryd.results14,aresK,fin,go_sem,implies_true,true_and,and_true,List.reverse_cons,List.reverse_nil]
   unfold spnR;rw [if_neg (by omega),if_pos hk]
  ·exfalso;omega
 obtain ⟨kn,rfl⟩:∃ n:Nat,k=n:=⟨k.toNat,by omega⟩
 have hkn:kn < l.fs.length:=by omega
 have k56:=c22 l hl
 rcases hp:prf l with _|s
 case some =>
  rw [hp] at k56
  unfold optV at k56
  intro h
  refine ACalls.forget (ACalls.of tab mixed Tryd.call14 Tryd.func14 rfl (fi:=⟨68,[4,9,10],[2,3,23],none,[(15,[0,1,0,0,0,28,60,127,255,511],[(0,false),(1,true),(2,true),(3,true),(4,false),(5,false),(6,false),(7,false),(8,false),(9,false)]),(16,[0,1,0,7,15,31,0,64,0,448,1023,2047,4095],[(0,false),(1,true),(2,true),(3,false),(4,false),(5,true),(6,false),(7,true),(8,false),(9,false),(10,false),(11,false),(12,false)])]⟩) rfl rfl (Nat.le_of_ble_eq_true rfl) (by decide) ?_)
  unfold startA
  simp only[go_sem]
  repeat' (first|refine st_seq_reg rfl (by first|(simp only[go_sem,Lm];rfl)|rfl) (by first|(simp only[go_sem,Lm];rfl)|rfl) ?_|refine st_reg rfl (by first|(simp only[go_sem,Lm];rfl)|rfl) (by first|(simp only[go_sem,Lm];rfl)|rfl) ?_|refine st_seq_draw rfl (by first|(simp only[go_sem,Lm];rfl)|rfl) (by first|(simp only[go_sem,Lm];rfl)|rfl) ?_|refine st_draw rfl (by first|(simp only[go_sem,Lm];rfl)|rfl) (by first|(simp only[go_sem,Lm];rfl)|rfl) ?_|refine st_op ?_|refine st_det rfl (by simp (disch:=omega) only[go_sem,wr_i64,Lm];rfl) ?_|refine st_dop rfl ?_|refine st_loc rfl (by simp (disch:=omega) only[go_sem,wr_i64,Lm];rfl) ?_|refine st_heap rfl (by simp (disch:=omega) only[go_sem,wr_i64,Lm];rfl) ?_|refine st_store (by simp (disch:=omega) only[go_sem,wr_i64,Lm];rfl) ?_|(refine st_pureE (by first|(simp (disch:=omega) only[go_sem,Lm];rfl)|rfl) rfl (k27) (by first|(simp only[go_sem,Lm];rfl)|rfl) (by intro n;first|(simp (disch:=omega) only[go_sem];rfl)|rfl) ?_;intro n hn)|(refine st_pureE (by first|(simp (disch:=omega) only[go_sem,Lm];rfl)|rfl) rfl (k65) (by first|(simp only[go_sem,Lm];rfl)|rfl) (by intro n;first|(simp (disch:=omega) only[go_sem];rfl)|rfl) ?_;intro n hn)|(refine st_pureE (by first|(simp (disch:=omega) only[go_sem,Lm];rfl)|rfl) rfl (k56) (by first|(simp only[go_sem,Lm];rfl)|rfl) (by intro n;first|(simp (disch:=omega) only[go_sem];rfl)|rfl) ?_;intro n hn)|refine st_condT rfl ?_|refine st_condF rfl ?_|(refine st_condS rfl ?_ ?_ <;> intro hg <;> (try simp only[dcT,dcF,bnT,bnF] at hg))|refine st_nil ?_|refine st_dnil ?_|refine st_tN ?_|refine st_seq ?_|refine st_block ?_|refine st_skip ?_|refine st_exit ?_|refine st_ret ?_|refine st_tE ?_|refine st_tR ?_|refine st_bN ?_|refine st_bR ?_|refine st_bH ?_|refine st_bM rfl ?_)
  ·exfalso;omega
  ·simp (disch:=omega) only[AEnd,Tryd.results14,aresK,fin,go_sem,implies_true,true_and,and_true,List.reverse_cons,List.reverse_nil]
   unfold spnR;rw [if_neg (by omega),if_neg (by omega),if_pos (by rw [hp];simp)]
 rw [hp] at k56
 unfold optV at k56
 have k57:=c23 l hfn
 have h8:=amts_len l.fs
 intro h
 refine ACalls.forget (ACalls.of tab mixed Tryd.call14 Tryd.func14 rfl (fi:=⟨68,[4,9,10],[2,3,23],none,[(15,[0,1,0,0,0,28,60,127,255,511],[(0,false),(1,true),(2,true),(3,true),(4,false),(5,false),(6,false),(7,false),(8,false),(9,false)]),(16,[0,1,0,7,15,31,0,64,0,448,1023,2047,4095],[(0,false),(1,true),(2,true),(3,false),(4,false),(5,true),(6,false),(7,true),(8,false),(9,false),(10,false),(11,false),(12,false)])]⟩) rfl rfl (Nat.le_of_ble_eq_true rfl) (by decide) ?_)
 unfold startA
 simp only[go_sem]
 repeat' (first|refine st_seq_reg rfl (by first|(simp only[go_sem,Lm,ravN,amts_len,Nat.zero_add,List.append_nil];rfl)|rfl) (by first|(simp only[go_sem,Lm,ravN,amts_len,Nat.zero_add,List.append_nil];rfl)|rfl) ?_|refine st_reg rfl (by first|(simp only[go_sem,Lm,ravN,amts_len,Nat.zero_add,List.append_nil];rfl)|rfl) (by first|(simp only[go_sem,Lm,ravN,amts_len,Nat.zero_add,List.append_nil];rfl)|rfl) ?_|refine st_seq_draw rfl (by first|(simp only[go_sem,Lm,ravN,amts_len,Nat.zero_add,List.append_nil];rfl)|rfl) (by first|(simp only[go_sem,Lm,ravN,amts_len,Nat.zero_add,List.append_nil];rfl)|rfl) ?_|refine st_draw rfl (by first|(simp only[go_sem,Lm,ravN,amts_len,Nat.zero_add,List.append_nil];rfl)|rfl) (by first|(simp only[go_sem,Lm,ravN,amts_len,Nat.zero_add,List.append_nil];rfl)|rfl) ?_|refine st_op ?_|refine st_det rfl (by simp (disch:=omega) only[go_sem,wr_i64,Lm,ravN,amts_len,Nat.zero_add,List.append_nil];rfl) ?_|refine st_dop rfl ?_|refine st_loc rfl (by simp (disch:=omega) only[go_sem,wr_i64,Lm,ravN,amts_len,Nat.zero_add,List.append_nil];rfl) ?_|refine st_heap rfl (by simp (disch:=omega) only[go_sem,wr_i64,Lm,ravN,amts_len,Nat.zero_add,List.append_nil];rfl) ?_|refine st_store (by simp (disch:=omega) only[go_sem,wr_i64,Lm,ravN,amts_len,Nat.zero_add,List.append_nil];rfl) ?_|(refine st_pureE (by first|(simp (disch:=omega) only[go_sem,Lm,ravN,amts_len,Nat.zero_add,List.append_nil];rfl)|rfl) rfl (k27) (by first|(simp only[go_sem,Lm,ravN,amts_len,Nat.zero_add,List.append_nil];rfl)|rfl) (by intro n;first|(simp (disch:=omega) only[go_sem];rfl)|rfl) ?_;intro n hn)|(refine st_pureE (by first|(simp (disch:=omega) only[go_sem,Lm,ravN,amts_len,Nat.zero_add,List.append_nil];rfl)|rfl) rfl (k65) (by first|(simp only[go_sem,Lm,ravN,amts_len,Nat.zero_add,List.append_nil];rfl)|rfl) (by intro n;first|(simp (disch:=omega) only[go_sem];rfl)|rfl) ?_;intro n hn)|(refine st_pureE (by first|(simp (disch:=omega) only[go_sem,Lm,ravN,amts_len,Nat.zero_add,List.append_nil];rfl)|rfl) rfl (k56) (by first|(simp only[go_sem,Lm,ravN,amts_len,Nat.zero_add,List.append_nil];rfl)|rfl) (by intro n;first|(simp (disch:=omega) only[go_sem];rfl)|rfl) ?_;intro n hn)|(refine st_pureE (by first|(simp (disch:=omega) only[go_sem,Lm,ravN,amts_len,Nat.zero_add,List.append_nil];rfl)|rfl) rfl (k57) (by first|(simp only[go_sem,Lm,ravN,amts_len,Nat.zero_add,List.append_nil];rfl)|rfl) (by intro n;first|(simp (disch:=omega) only[go_sem];rfl)|rfl) ?_;intro n hn)|refine st_condT rfl ?_|refine st_condF rfl ?_|(refine st_condS rfl ?_ ?_ <;> intro hg <;> (try simp only[dcT,dcF,bnT,bnF] at hg))|refine st_nil ?_|refine st_dnil ?_|refine st_tN ?_|refine st_seq ?_|refine st_block ?_|refine st_skip ?_|refine st_exit ?_|refine st_ret ?_|refine st_tE ?_|refine st_tR ?_|refine st_bN ?_|refine st_bR ?_|refine st_bH ?_|refine st_bM rfl ?_)
 ·exfalso;omega
 have ho:=othOk hl kn
 have hol:=ho.1
 have hip:=iA_put (l:=amts l.fs) (j:=kn) (v:=0) (by omega)
 have hoe:(amts l.fs).set kn 0=othR l kn:=rfl
 have hpw:=pow_bd l.bs.length (by omega)
 have hsh:=shl_nat l.bs.length (by omega)
 generalize hN:2 ^ l.bs.length=N at *
 rw [hip,hoe]
 refine st_loopC (α:=Nat) tab mixed [10] [_] (by repeat (first|exact trivial|refine ⟨rfl,?_⟩)) [4,9] [_,_] (by repeat (first|exact trivial|refine ⟨rfl,?_⟩)) (fun s=>[(11,.int .i64 (s:Nat))]) [(2,_),(3,_),(4,_),(9,_),(10,_)] (fun s=>[[.int .i64 (loN l kn s),.int .i64 0]]) [_,_] (fun s=>s≤N) (fun s=>N - s) (by decide) 0 (Nat.zero_le _) (by (try simp only[go_sem]);repeat' (first|exact trivial|refine And.intro ?_ ?_|rfl|(simp (disch:=omega) only[go_sem,if_yes,if_no,if_no];rfl)|(simp (disch:=omega) only[go_sem,if_yes,if_no,if_no]))) (by (try simp only[go_sem]);repeat' (first|exact trivial|refine And.intro ?_ ?_|rfl|(simp (disch:=omega) only[go_sem,if_yes,if_no,if_no];rfl)|(simp (disch:=omega) only[go_sem,if_yes,if_no,if_no]))) (by first|(simp only[go_sem];rfl)|rfl) (by intro n;simp only[go_sem];rfl) ?_
 intro s c s1 hc
 have hlb:=loN_bd hl kn s
 have hsb:=slack_bd hl ho ((s:Nat):Int)
 have hls:loN l kn (s+1)=max (loN l kn s) (0 - slackB l (othR l kn) ((s:Nat):Int)):=rfl
 have k60:=c26 l (othR l kn) ((s:Nat):Int) hl ho
 have kt:=c31 l.bs 32 [.iptr [.lst 4 (l.fs.map Fd.row),.lst 3 (l.bs.map Bl.row)] 0,.iptr [.int .i64 (kn:Nat)] 0] (spF l kn) rfl (by omega) (fun i hi=>by have:=(hl.b _ (bl_mem hi)).amt;unfold spF;split <;> omega) (fun i hi=>c32 l hl kn hkn i hi)
 simp only[go_sem]
 repeat' (first|refine st_seq_reg rfl (by first|(simp only[go_sem,hsh,Nat.zero_add];rfl)|rfl) (by first|(simp only[go_sem,hsh,Nat.zero_add];rfl)|rfl) ?_|refine st_reg rfl (by first|(simp only[go_sem,hsh,Nat.zero_add];rfl)|rfl) (by first|(simp only[go_sem,hsh,Nat.zero_add];rfl)|rfl) ?_|refine st_seq_draw rfl (by first|(simp only[go_sem,hsh,Nat.zero_add];rfl)|rfl) (by first|(simp only[go_sem,hsh,Nat.zero_add];rfl)|rfl) ?_|refine st_draw rfl (by first|(simp only[go_sem,hsh,Nat.zero_add];rfl)|rfl) (by first|(simp only[go_sem,hsh,Nat.zero_add];rfl)|rfl) ?_|refine st_op ?_|refine st_det rfl (by simp (disch:=omega) only[go_sem,wr_i64,hsh,Nat.zero_add];rfl) ?_|refine st_dop rfl ?_|refine st_loc rfl (by simp (disch:=omega) only[go_sem,wr_i64,hsh,Nat.zero_add];rfl) ?_|refine st_heap rfl (by simp (disch:=omega) only[go_sem,wr_i64,hsh,Nat.zero_add];rfl) ?_|refine st_store (by simp (disch:=omega) only[go_sem,wr_i64,hsh,Nat.zero_add];rfl) ?_|(refine st_pureE (by first|(simp (disch:=omega) only[go_sem,hsh,Nat.zero_add];rfl)|rfl) rfl (k60) (by first|(simp only[go_sem,hsh,Nat.zero_add];rfl)|rfl) (by intro n;first|(simp (disch:=omega) only[go_sem];rfl)|rfl) ?_;intro n hn)|(refine st_pureE (by first|(simp (disch:=omega) only[go_sem,hsh,Nat.zero_add];rfl)|rfl) rfl (kt) (by first|(simp only[go_sem,hsh,Nat.zero_add];rfl)|rfl) (by intro n;first|(simp (disch:=omega) only[go_sem];rfl)|rfl) ?_;intro n hn)|refine st_condT rfl ?_|refine st_condF rfl ?_|(refine st_condS rfl ?_ ?_ <;> intro hg <;> (try simp only[dcT,dcF,bnT,bnF] at hg))|refine st_nil ?_|refine st_dnil ?_|refine st_tN ?_|refine st_seq ?_|refine st_block ?_|refine st_skip ?_|refine st_exit ?_|refine st_ret ?_|refine st_tE ?_|refine st_tR ?_|refine st_bN ?_|refine st_bR ?_|refine st_bH ?_|refine st_bM rfl ?_)
 ·refine ⟨s+1,by show s+1≤N;omega,by show N - (s+1) < N - s;omega,(by (try (simp only[hls,go_sem]));repeat' (first|exact trivial|refine And.intro ?_ ?_|rfl|(simp (disch:=omega) only[go_sem,if_yes,if_no,if_no];rfl)|(simp (disch:=omega) only[go_sem,if_yes,if_no,if_no]))),(by (try (simp only[hls,go_sem]));repeat' (first|exact trivial|refine And.intro ?_ ?_|rfl|(simp (disch:=omega) only[go_sem,if_yes,if_no,if_no];rfl)|(simp (disch:=omega) only[go_sem,if_yes,if_no,if_no]))),rfl,HOld.of _ (by omega)⟩
 ·obtain rfl:s=N:=by omega
  simp (disch:=omega) only[AEnd,Tryd.results14,aresK,fin,go_sem,implies_true,true_and,and_true,List.reverse_cons,List.reverse_nil]
  unfold spnR;rw [if_neg (by omega),if_neg (by omega),if_neg (by rw [hp];simp),hN]
  rfl
end Go.Proofs.YtefogfgddofdmaaDoor
