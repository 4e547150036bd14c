/- Contracts of functions that the claim reaches: what each call gives, told in our own logic. Conditions: those of each theorem. -/
import Derived.Test.YtoafigpikgigaaaGreatDoorQ27
import Derived.Test.YtoafigpikgigaaaGreatDoorQ24
import Derived.Test.YtoafigpikgigaaaGreatDoorV3
open List (length_map)
set_option linter.all false
set_option linter.unusedSimpArgs false
set_option linter.unusedVariables false
namespace Go.Proofs.YtoafigpikgigaaaGreatDoor
open Go.Av
attribute [local irreducible] thenA blockA awp awpOps awpD awp1 noGA
attribute [local go_sem_proc] Nat.reduceAdd Nat.reduceMul Nat.reduceEqDiff Nat.reduceBEq Nat.reduceLeDiff
attribute [local go_sem_proc ↓] reduceIte
attribute [local go_sem] if_yes if_no
set_option maxHeartbeats 1000000
set_option maxRecDepth 20000
structure WbS where
 M:List (Int × Int)
 k:Nat
 g:AH
structure WyS where
 d:Nat
 at_:Int
 W:List Int
 vb:Nat × Nat
 b18:Nat × Nat
 g:AH
theorem c21 (t:Tw) (c:List Int) (frm to:Int) (hcl:c.length≤1000000):Pure Tryz.prog 21 [t.av,.lst 1 (c.map iv),.int .i64 frm,.int .i64 to] (fun v=>v=wayV t c frm to):=by
 have k74:=c45 t c hcl
 have k68:=c46b 0 (t.rooms.length - 1:Int) frm to
 refine Pure.giveM Tryz.call21 fun h hall=>?_
 refine ACalls.ofS tab Tryz.call21 Tryz.func21 rfl (fi:=⟨84,[],[4,5,32,80],none,[]⟩) rfl rfl (Nat.le_of_ble_eq_true rfl) ?_
 unfold startA
 simp only[go_sem]
 refine asem_seq (fi:=⟨84,[],[4,5,32,80],none,[]⟩) tab mixed (by decide) ?_
 repeat' (first|refine st_reg rfl (by first|(simp only[go_sem];rfl)|rfl) (by first|(simp only[go_sem];rfl)|rfl) ?_|refine st_op ?_|refine st_det rfl (by simp (disch:=omega) only[go_sem,wr_i64];rfl) ?_|refine st_nil ?_|refine st_tN ?_)
 refine ASem.scope ?_
 by_cases h0:cloE t c=0
 case neg =>
  refine asem_seq (fi:=⟨84,[],[4,5,32,80],none,[]⟩) tab mixed (by decide) ?_
  repeat' (first|refine st_seq_reg rfl (by first|(simp only[go_sem];rfl)|rfl) (by first|(simp only[go_sem];rfl)|rfl) ?_|refine st_op ?_|refine st_det rfl (by simp (disch:=omega) only[go_sem,wr_i64];rfl) ?_|(refine st_pureE (by first|(simp (disch:=omega) only[go_sem];rfl)|rfl) rfl (k74) (by first|(simp only[go_sem];rfl)|rfl) (by intro n;first|(simp (disch:=omega) only[go_sem];rfl)|rfl) ?_;intro n hn)|(refine st_condS rfl ?_ ?_ <;> intro hg <;> (try simp only[dcT,dcF,bnT,bnF] at hg))|refine st_nil ?_|refine st_tN ?_|refine st_skip ?_|refine st_ret ?_|refine st_tR ?_|refine st_noR ?_)
  all_goals try (exfalso;omega)
  simp (disch:=omega) only[AEnd,Tryz.results21,aresK,fin,go_sem,implies_true,true_and,and_true,List.reverse_cons,List.reverse_nil,implies_true]
  exact ⟨fun _ _ e=>e,.inl ⟨_,le_nil2 _ 1,by unfold wayV;rw [if_pos h0]⟩⟩
 rw [h0] at k74
 obtain ⟨hT,hc⟩:=cloOk h0
 have hrn:=hT.rn
 have hsn:=hT.sn
 refine asem_seq (fi:=⟨84,[],[4,5,32,80],none,[]⟩) tab mixed (by decide) ?_
 repeat' (first|refine st_seq_reg rfl (by first|(simp only[go_sem];rfl)|rfl) (by first|(simp only[go_sem];rfl)|rfl) ?_|refine st_op ?_|refine st_det rfl (by simp (disch:=omega) only[go_sem,wr_i64];rfl) ?_|(refine st_pureE (by first|(simp (disch:=omega) only[go_sem];rfl)|rfl) rfl (k74) (by first|(simp only[go_sem];rfl)|rfl) (by intro n;first|(simp (disch:=omega) only[go_sem];rfl)|rfl) ?_;intro n hn)|refine st_condF rfl ?_|refine st_nil ?_|refine st_tN ?_|refine st_skip ?_)
 all_goals try (exfalso;omega)
 by_cases h1:0≤frm∧frm≤t.rooms.length - 1∧0≤to∧to≤t.rooms.length - 1
 case neg =>
  rw [decide_eq_false h1] at k68
  refine asem_seq (fi:=⟨84,[],[4,5,32,80],none,[]⟩) tab mixed (by decide) ?_
  repeat' (first|refine st_seq_reg rfl (by first|(simp only[go_sem,Lm];rfl)|rfl) (by first|(simp only[go_sem,Lm];rfl)|rfl) ?_|refine st_op ?_|refine st_det rfl (by simp (disch:=omega) only[go_sem,wr_i64,Lm];rfl) ?_|(refine st_pureE (by first|(simp (disch:=omega) only[go_sem,Lm];rfl)|rfl) rfl (k68) (by first|(simp only[go_sem,Lm];rfl)|rfl) (by intro n;first|(simp (disch:=omega) only[go_sem];rfl)|rfl) ?_;intro n hn)|refine st_condT rfl ?_|refine st_nil ?_|refine st_ret ?_|refine st_tR ?_|refine st_noR ?_)
  simp (disch:=omega) only[AEnd,Tryz.results21,aresK,fin,go_sem,implies_true,true_and,and_true,List.reverse_cons,List.reverse_nil,implies_true]
  exact ⟨fun _ _ e=>e,.inl ⟨_,le_nil2 _ 1,by unfold wayV;rw [if_neg (fun e=>e h0),if_pos h1]⟩⟩
 rw [decide_eq_true h1] at k68
 have hE:wayV t c frm to=wayO t c frm to (dst t c to frm):=by
  unfold wayV;rw [if_neg (fun e=>e h0),if_neg (fun e=>e h1)]
 have hto:0≤to∧to < t.rooms.length:=by omega
 refine asem_seq (fi:=⟨84,[],[4,5,32,80],none,[]⟩) tab mixed (by decide) ?_
 repeat' (first|refine st_seq_reg rfl (by first|(simp only[go_sem,Lm];rfl)|rfl) (by first|(simp only[go_sem,Lm];rfl)|rfl) ?_|refine st_op ?_|refine st_det rfl (by simp (disch:=omega) only[go_sem,wr_i64,Lm];rfl) ?_|(refine st_pureE (by first|(simp (disch:=omega) only[go_sem,Lm];rfl)|rfl) rfl (k68) (by first|(simp only[go_sem,Lm];rfl)|rfl) (by intro n;first|(simp (disch:=omega) only[go_sem];rfl)|rfl) ?_;intro n hn)|refine st_condF rfl ?_|refine st_nil ?_|refine st_tN ?_|refine st_skip ?_)
 simp only[go_sem]
 refine asem_seq (fi:=⟨84,[],[4,5,32,80],none,[]⟩) tab mixed (by decide) ?_
 repeat' (first|refine st_reg rfl (by first|(simp only[go_sem];rfl)|rfl) (by first|(simp only[go_sem];rfl)|rfl) ?_|refine st_op ?_|refine st_det rfl (by simp (disch:=omega) only[go_sem,wr_i64];rfl) ?_|refine st_heap rfl (by simp (disch:=omega) only[go_sem,wr_i64];rfl) ?_|refine st_store (by simp (disch:=omega) only[go_sem,wr_i64];rfl) ?_|(refine st_mkMap ?_;intro l hl)|(refine st_mapIns (l:=l) (L:=[]) (n:=to) Tryz.underlying104 Tryz.underlying3 (by first|(simp only[go_sem];rfl)|rfl) (by first|(simp only[go_sem];rfl)|rfl) rfl rfl (by first|(simp only[go_sem];done)|(simp only[go_sem];rfl)) ?_)|refine st_nil ?_|refine st_tN ?_)
 refine asem_seq (fi:=⟨84,[],[4,5,32,80],none,[]⟩) tab mixed (by decide) ?_
 repeat' (first|refine st_reg rfl (by first|(simp only[go_sem];rfl)|rfl) (by first|(simp only[go_sem];rfl)|rfl) ?_|refine st_op ?_|refine st_det rfl (by simp (disch:=omega) only[go_sem,wr_i64];rfl) ?_|refine st_heap rfl (by simp (disch:=omega) only[go_sem,wr_i64];rfl) ?_|refine st_store (by simp (disch:=omega) only[go_sem,wr_i64];rfl) ?_|refine st_nil ?_|refine st_tN ?_)
 refine asem_seq (fi:=⟨84,[],[4,5,32,80],none,[]⟩) tab mixed (by decide) ?_
 repeat' (first|refine st_reg rfl (by first|(simp only[go_sem];rfl)|rfl) (by first|(simp only[go_sem];rfl)|rfl) ?_|refine st_op ?_|refine st_det rfl (by simp (disch:=omega) only[go_sem,wr_i64];rfl) ?_|refine st_nil ?_|refine st_tN ?_)
 refine asem_seq (fi:=⟨84,[],[4,5,32,80],none,[]⟩) tab mixed (by decide) ?_
 repeat' (first|refine st_tN ?_|refine st_label ?_)
 simp only[go_sem] at hl ⊢
 have hini:avm [(to,0)]=aset [] to (.int .i64 0):=rfl
 refine asem_cutL (α:=List (Int × Int) × AH) (fi:=⟨84,[],[4,5,32,80],none,[]⟩) tab mixed (fun _=>[(2,.int .i64 frm),(3,.int .i64 to),(4,.iptr t.cells 0),(11,.ptr (n,11) 0 0),(13,.fn (.func 53) [] [.iptr t.cells 0,.iptr [.lst 1 (c.map iv)] 0])]) (fun _=>[]) (fun a=>a.2) (fun a=>SFin t c to frm a.1∧(∃ qs,Sch h.clk l (n,11) (n+1,12) a.1 qs a.2)∧(∀ b:Bid,b.1 < h.clk→a.2.at_ b=h.at_ b)∧(∀ l',l' ≠ l→a.2.lp l'=h.lp l')∧n+2≤a.2.clk) (by decide) ?_ ?_
 ·repeat' (first|refine st_block ?_)
  generalize hg0:(((((h.tick (n+1)).lpSet l (some (mrec (aset [] to (AV.int IntKind.i64 0))))).tick (n+1+1+1)).put (n,11) (some { esz:=1,es:=[[AV.mp l]] })).put (n+1,39) (some { esz:=1,es:=[[AV.int IntKind.i64 to]] })).put (n+1,12) (some { esz:=1,es:=[[AV.slc (n+1,39) 1 0 1]] })=g0
  have hg0c:g0.clk=n+3:=by rw [← hg0];rfl
  have hg0o:∀ b:Bid,b.1 < h.clk→g0.at_ b=h.at_ b:=fun b hb=>by
   rw [← hg0]
   simp only[go_sem,if_neg (ne_fst hb (by show h.clk≤n;omega):¬ b=(n,11)),if_neg (ne_fst hb (by show h.clk≤n+1;omega):¬ b=(n+1,39)),if_neg (ne_fst hb (by show h.clk≤n+1;omega):¬ b=(n+1,12))]
  have hg0l:∀ l',l' ≠ l→g0.lp l'=h.lp l':=fun l' hl'=>by
   rw [← hg0];simp only[go_sem];rw [lpSet_ne _ _ hl'];rfl
  have hg0s:Sch h.clk l (n,11) (n+1,12) [(to,0)] ((keysM [(to,0)]).drop 0) g0:=by
   rw [← hg0]
   exact ⟨by simp (disch:=omega) only[go_sem] <;> rfl,by simp only[go_sem];rfl,.slc (n+1,39) 1 0 1,by simp (disch:=omega) only[go_sem],(n+1,39),0,[[.int .i64 to]],rfl,by simp (disch:=omega) only[go_sem],by simp [keysM],rfl,by show h.clk≤n+1;omega,by show n+1 < n+1+1+1;omega,.inl rfl⟩
  clear hg0
  refine st_loopH (α:=WbS) tab mixed [] [] (by repeat (first|exact trivial|refine ⟨rfl,?_⟩)) [] [] (by repeat (first|exact trivial|refine ⟨rfl,?_⟩)) (fun _=>[]) [(2,_),(3,_),(4,_),(11,_),(12,_),(13,_)] (fun _=>[]) [] (fun a=>a.g) (fun a=>Bfs t c to a.M a.k∧Sch h.clk l (n,11) (n+1,12) a.M ((keysM a.M).drop a.k) a.g∧(∀ b:Bid,b.1 < h.clk→a.g.at_ b=h.at_ b)∧(∀ l',l' ≠ l→a.g.lp l'=h.lp l')∧n+2≤a.g.clk) (fun a=>t.rooms.length - a.k) (by decide) ⟨[(to,0)],0,g0⟩ ⟨bfs_init hto,hg0s,hg0o,hg0l,by show n+2≤g0.clk;omega⟩ (by (try simp only[go_sem]);repeat' (first|exact trivial|refine And.intro ?_ ?_|rfl|(simp (disch:=omega) only[go_sem,if_yes,if_no,if_no];rfl)|(simp (disch:=omega) only[go_sem,if_yes,if_no,if_no]))) (by (try simp only[go_sem]);repeat' (first|exact trivial|refine And.intro ?_ ?_|rfl|(simp (disch:=omega) only[go_sem,if_yes,if_no,if_no];rfl)|(simp (disch:=omega) only[go_sem,if_yes,if_no,if_no]))) (HOld.refl _) ?_
  rintro ⟨M,k,g⟩ cc ⟨hB,hS,i3,i4,i5⟩ hcc
  dsimp only at hB hS i3 i4 i5 hcc
  simp only[go_sem]
  obtain ⟨v,hv,b,oo,es,rfl,q1,q2,q3,q4,q5,q6⟩:=hS.q
  have hkl:(keysM M).length=M.length:=by simp [keysM]
  by_cases hk:k < M.length
  case neg =>
   have hk2:k=M.length:=by have:=hB.kl;omega
   have hdl:((keysM M).drop k).length=0:=by rw [List.length_drop];omega
   repeat' (first|refine st_seq_reg rfl (by first|(simp only[go_sem,hv,hdl];rfl)|rfl) (by first|(simp only[go_sem,hv,hdl];rfl)|rfl) ?_|refine st_op ?_|refine st_det rfl (by simp (disch:=omega) only[go_sem,wr_i64,hv,hdl];rfl) ?_|refine st_condF rfl ?_|refine st_nil ?_|refine st_tN ?_|refine st_seq ?_|refine st_exit ?_|refine st_tE ?_|refine st_bH ?_)
   all_goals try (exfalso;omega)
   refine ⟨(M,g),⟨hB.fin hT hto h1.1 (.inl hk2),⟨_,hS⟩,i3,i4,i5⟩,(by repeat' (first|exact trivial|refine And.intro ?_ ?_|rfl|(simp (disch:=omega) only[go_sem,if_yes,if_no,if_no];rfl)|(simp (disch:=omega) only[go_sem,if_yes,if_no,if_no]))),(by repeat' (first|exact trivial|refine And.intro ?_ ?_|rfl|(simp (disch:=omega) only[go_sem,if_yes,if_no,if_no];rfl)|(simp (disch:=omega) only[go_sem,if_yes,if_no,if_no]))),rfl,HOld.tick (by simp only[go_sem];omega)⟩
  have it1:Int.toNat 1=1:=rfl
  have hdr:=keysM_drop hk
  have hdl:((keysM M).drop k).length=((keysM M).drop (k+1)).length+1:=by rw [hdr];rfl
  have hq0:es.getD oo []=[.int .i64 (ky M k)]:=by
   have:((es.drop oo).take ((keysM M).drop k).length)[0]?=some [.int .i64 (ky M k)]:=by rw [q3,hdr];rfl
   rw [hdl,List.getElem?_take,if_pos (by omega),List.getElem?_drop,Nat.add_zero] at this
   rw [List.getD_eq_getElem?_getD,this];rfl
  have n3:¬ b=(n+1,12):=fun e=>by rw [e] at q6;simp at q6
  rw [hdl] at hv q2 q3
  repeat' (first|refine st_seq_reg rfl (by first|(simp only[go_sem,hv,q1,hq0,Nat.add_zero,Nat.add_sub_cancel,Int.toNat_zero,it1];rfl)|rfl) (by first|(simp only[go_sem,hv,q1,hq0,Nat.add_zero,Nat.add_sub_cancel,Int.toNat_zero,it1];rfl)|rfl) ?_|refine st_reg rfl (by first|(simp only[go_sem,hv,q1,hq0,Nat.add_zero,Nat.add_sub_cancel,Int.toNat_zero,it1];rfl)|rfl) (by first|(simp only[go_sem,hv,q1,hq0,Nat.add_zero,Nat.add_sub_cancel,Int.toNat_zero,it1];rfl)|rfl) ?_|refine st_op ?_|refine st_det rfl (by simp (disch:=omega) only[go_sem,wr_i64,hv,q1,hq0,Nat.add_zero,Nat.add_sub_cancel,Int.toNat_zero,it1];rfl) ?_|refine st_heap rfl (by simp (disch:=omega) only[go_sem,wr_i64,hv,q1,hq0,Nat.add_zero,Nat.add_sub_cancel,Int.toNat_zero,it1];rfl) ?_|refine st_store (by simp (disch:=omega) only[go_sem,wr_i64,hv,q1,hq0,Nat.add_zero,Nat.add_sub_cancel,Int.toNat_zero,it1];rfl) ?_|(refine st_condS rfl ?_ ?_ <;> intro hg <;> (try simp only[dcT,dcF,bnT,bnF] at hg))|refine st_nil ?_|refine st_tN ?_|refine st_seq ?_|refine st_block ?_|refine st_skip ?_|refine st_exit ?_|refine st_tE ?_|refine st_bH ?_|refine st_bM rfl ?_)
  all_goals try (exfalso;omega)
  all_goals
   have n14:¬ b=(cc+1,14):=fun e=>by rw [e] at q6;simp at q6
   have hes:(es.drop (oo+1)).take ((keysM M).drop (k+1)).length=((keysM M).drop (k+1)).map iv:=by
    have q3':=q3
    rw [List.drop_eq_getElem_cons (by omega:oo < es.length),hdr,List.take_succ_cons,List.map_cons] at q3'
    exact (List.cons.inj q3').2
   let G:Nat→AH:=fun N=>((g.tick N).put (cc+1,14) (some { esz:=1,es:=[[AV.int IntKind.i64 (ky M k)]] })).put (n+1,12) (some { esz:=1,es:=[[AV.slc b 1 (oo+1) (List.drop (k+1) (keysM M)).length]] })
   have hSG:∀ N,g.clk≤N→Sch h.clk l (n,11) (n+1,12) M ((keysM M).drop (k+1)) (G N):=fun N hN=>by
    refine ⟨?_,hS.lp,.slc b 1 (oo+1) (List.drop (k+1) (keysM M)).length,put_same _ _ _,b,oo+1,es,rfl,?_,by omega,hes,q4,Nat.lt_of_lt_of_le q5 hN,q6⟩
    ·show (AH.put _ _ _).at_ _=_
     rw [put_ne _ _ (ne_snd (by decide)),put_ne _ _ (ne_snd (by decide))];exact hS.m
    ·show (AH.put _ _ _).at_ _=_
     rw [put_ne _ _ n3,put_ne _ _ n14];exact q1
   have hGo:∀ N,∀ b':Bid,b'.1 < h.clk→(G N).at_ b'=h.at_ b':=fun N b' hb'=>by
    show (AH.put _ _ _).at_ _=_
    rw [put_ne _ _ (ne_fst hb' (by show h.clk≤n+1;omega)),put_ne _ _ (ne_fst hb' (by show h.clk≤cc+1;omega))];exact i3 b' hb'
   have hGl:∀ N,∀ l',l' ≠ l→(G N).lp l'=h.lp l':=fun N l' hl'=>i4 l' hl'
   have hGa:∀ N,(G N).at_ (cc+1,14)=some ⟨1,[[.int .i64 (ky M k)]]⟩:=fun N=>by
    show (AH.put _ _ _).at_ _=_
    rw [put_ne _ _ (ne_snd (by decide)),put_same]
  ·refine ⟨(M,G (cc+1+1+1+1)),⟨hB.fin hT hto h1.1 (.inr ⟨hk,by assumption⟩),⟨_,hSG _ (by omega)⟩,hGo _,hGl _,by show n+2≤cc+1+1+1+1;omega⟩,(by repeat' (first|exact trivial|refine And.intro ?_ ?_|rfl|(simp (disch:=omega) only[go_sem,if_yes,if_no,if_no];rfl)|(simp (disch:=omega) only[go_sem,if_yes,if_no,if_no]))),(by repeat' (first|exact trivial|refine And.intro ?_ ?_|rfl|(simp (disch:=omega) only[go_sem,if_yes,if_no,if_no];rfl)|(simp (disch:=omega) only[go_sem,if_yes,if_no,if_no]))),rfl,HOld.refl _⟩
  ·refine st_call (args:=[.int .i64 (ky M k),.fn (.func 56) [] [.ptr (n,11) 0 0,.ptr (cc+1,14) 0 0,.ptr (n+1,12) 0 0]]) rfl (by first|(simp (disch:=omega) only[go_sem];rfl)|(simp (disch:=omega) only[go_sem])) rfl (c53a t c to hT hcl hto h.clk l (n,11) (n+1,12) (cc+1,14) M k hB hk (G _) (hSG _ (by omega)) (hGa _) rfl rfl rfl (by show h.clk≤n+1;omega) (by show h.clk≤cc+1+1+1+1+1;omega)) ?_
   rintro _ g2 ⟨o1,M',m1,m2⟩
   have hlen:=hB.len
   have hc2:cc+1+1+1+1+1≤g2.clk:=o1.clk
   repeat' (first|refine st_nil ?_|refine st_tN ?_|refine st_bN ?_)
   refine ⟨⟨M',k+1,g2⟩,⟨m1,m2,fun b' hb'=>(o1.at_ b' hb').trans (hGo _ b' hb'),fun l' hl'=>(o1.lp l' hl').trans (hGl _ l' hl'),by show n+2≤g2.clk;omega⟩,by show t.rooms.length - (k+1) < t.rooms.length - k;omega,(by repeat' (first|exact trivial|refine And.intro ?_ ?_|rfl|(simp (disch:=omega) only[go_sem,if_yes,if_no,if_no];rfl)|(simp (disch:=omega) only[go_sem,if_yes,if_no,if_no]))),(by repeat' (first|exact trivial|refine And.intro ?_ ?_|rfl|(simp (disch:=omega) only[go_sem,if_yes,if_no,if_no];rfl)|(simp (disch:=omega) only[go_sem,if_yes,if_no,if_no]))),rfl,HOld.refl _⟩
 rintro ⟨M,g⟩ cc ⟨hF,⟨qs,hS⟩,i3,i4,i5⟩ hcc
 dsimp only at hF hS i3 i4 i5 hcc
 simp only[go_sem]
 refine asem_awp (fi:=⟨84,[],[4,5,32,80],none,[]⟩) tab mixed (by decide) ?_
 have hm:=hS.m
 have hlp:=hS.lp
 cases hf:fndM M frm with
 | none =>
  repeat' (first|refine st_seq_reg rfl (by first|(simp only[go_sem,hm];rfl)|rfl) (by first|(simp only[go_sem,hm];rfl)|rfl) ?_|refine st_op ?_|refine st_det rfl (by simp (disch:=omega) only[go_sem,wr_i64,hm];rfl) ?_|(refine st_mapGet (l:=l) (L:=avm M) Tryz.underlying104 Tryz.underlying3 inf3 rfl (by first|(simp only[go_sem,hm];rfl)|rfl) (by first|(simp only[go_sem];rfl)|rfl) (by first|(simp only[go_sem];exact hlp)|exact hlp) ?_;simp only[aget_avm,hf,Option.map_some,Option.map_none,Option.getD_some,Option.getD_none,Option.isSome_some,Option.isSome_none,↓reduceIte,Bool.false_eq_true])|refine st_condT rfl ?_|refine st_nil ?_|refine st_seq ?_|refine st_ret ?_|refine st_tR ?_|refine st_noR ?_)
  all_goals try (exfalso;omega)
  simp (disch:=omega) only[AEnd,Tryz.results21,aresK,fin,go_sem,implies_true,true_and,and_true,List.reverse_cons,List.reverse_nil]
  refine ⟨i3,fun l' r hr=>by rw [i4 l' (fun e=>by rw [e,hl] at hr;cases hr)];exact hr,.inl ⟨_,le_nil2 _ 1,?_⟩⟩
  rw [hE,hF.none_ hf];rfl
 | some v =>
  obtain ⟨D,rfl,hD⟩:=hF.ok _ _ hf
  have hDR:=dist_lt hT hto h1.1 hD
  repeat' (first|refine st_seq_reg rfl (by first|(simp only[go_sem,hm];rfl)|rfl) (by first|(simp only[go_sem,hm];rfl)|rfl) ?_|refine st_op ?_|refine st_det rfl (by simp (disch:=omega) only[go_sem,wr_i64,hm];rfl) ?_|refine st_heap rfl (by simp (disch:=omega) only[go_sem,wr_i64,hm];rfl) ?_|refine st_store (by simp (disch:=omega) only[go_sem,wr_i64,hm];rfl) ?_|(refine st_mapGet (l:=l) (L:=avm M) Tryz.underlying104 Tryz.underlying3 inf3 rfl (by first|(simp only[go_sem,hm];rfl)|rfl) (by first|(simp only[go_sem];rfl)|rfl) (by first|(simp only[go_sem];exact hlp)|exact hlp) ?_;simp only[aget_avm,hf,Option.map_some,Option.map_none,Option.getD_some,Option.getD_none,Option.isSome_some,Option.isSome_none,↓reduceIte,Bool.false_eq_true])|refine st_condF rfl ?_|refine st_nil ?_|refine st_tN ?_|refine st_seq ?_|refine st_block ?_|refine st_skip ?_)
  all_goals try (exfalso;omega)
  have hdst:dst t c to frm=some D:=(dst_iff hT hto h1.1).2 hD
  rw [hdst] at hE
  generalize hg1:((g.tick (cc+1+1+1+1)).put (cc+1+1,65) (some { esz:=1,es:=[[AV.int IntKind.i64 frm]] })).put (cc+1+1+1,18) (some { esz:=1,es:=[[AV.int IntKind.i64 frm]] })=g1
  have hg1o:∀ b:Bid,b.1 < cc+2→g1.at_ b=g.at_ b:=fun b hb=>by
   rw [← hg1,put_ne _ _ (ne_fst hb (by show cc+2≤cc+1+1+1;omega)),put_ne _ _ (ne_fst hb (by show cc+2≤cc+1+1;omega))];rfl
  have hg1l:g1.lp=g.lp:=by rw [← hg1];rfl
  have hg1c:g1.clk=cc+4:=by rw [← hg1];rfl
  have hg1a:g1.at_ (cc+1+1,65)=some ⟨1,[[.int .i64 frm]]⟩:=by rw [← hg1,put_ne _ _ (ne_snd (by decide)),put_same]
  have hg1b:g1.at_ (cc+1+1+1,18)=some ⟨1,[[.int .i64 frm]]⟩:=by rw [← hg1,put_same]
  clear hg1
  refine st_loopH (α:=WyS) tab mixed [] [] (by repeat (first|exact trivial|refine ⟨rfl,?_⟩)) [] [] (by repeat (first|exact trivial|refine ⟨rfl,?_⟩)) (fun a=>[(17,.slc a.vb 1 0 a.W.length),(18,.ptr a.b18 0 0)]) [(3,_),(4,_),(11,_),(13,_)] (fun _=>[]) [] (fun a=>a.g) (fun a=>(dst t c to a.at_=some a.d∧a.d≤D∧0≤a.at_∧a.W ++ (wayL t c to a.d a.at_).drop 1=wayL t c to D frm∧a.W.length+a.d=D+1)∧(a.g.at_ a.b18=some ⟨1,[[.int .i64 a.at_]]⟩∧a.b18.2=18∧cc+2≤a.b18.1∧a.b18.1 < a.g.clk)∧(a.g.at_ a.vb=some ⟨1,a.W.map iv⟩∧(a.vb.2=65 ∨ a.vb.2=81)∧cc+2≤a.vb.1∧a.vb.1 < a.g.clk)∧(∀ b:Bid,b.1 < cc+2→a.g.at_ b=g.at_ b)∧a.g.lp=g.lp∧cc+2≤a.g.clk) (fun a=>a.d) (by decide) ⟨D,frm,[frm],(cc+1+1,65),(cc+1+1+1,18),g1⟩ ⟨⟨hdst,Nat.le_refl _,h1.1,by cases D <;> rfl,by show 1+D=D+1;omega⟩,⟨hg1b,rfl,by show cc+2≤cc+1+1+1;omega,by show cc+1+1+1 < g1.clk;omega⟩,⟨hg1a,.inl rfl,by show cc+2≤cc+1+1;omega,by show cc+1+1 < g1.clk;omega⟩,hg1o,hg1l,by show cc+2≤g1.clk;omega⟩ (by (try simp only[go_sem]);repeat' (first|exact trivial|refine And.intro ?_ ?_|rfl|(simp (disch:=omega) only[go_sem,if_yes,if_no,if_no];rfl)|(simp (disch:=omega) only[go_sem,if_yes,if_no,if_no]))) (by (try simp only[go_sem]);repeat' (first|exact trivial|refine And.intro ?_ ?_|rfl|(simp (disch:=omega) only[go_sem,if_yes,if_no,if_no];rfl)|(simp (disch:=omega) only[go_sem,if_yes,if_no,if_no]))) (HOld.refl _) ?_
  rintro ⟨d,at_,W,vb,b18,G⟩ c3 ⟨⟨w1,w2,w3,w4,w5⟩,⟨x1,x2,x3,x4⟩,⟨y1,y2,y3,y4⟩,z1,z2,z3⟩ hc3
  dsimp only at w1 w2 w3 w4 w5 x1 x2 x3 x4 y1 y2 y3 y4 z1 z2 z3 hc3
  simp only[go_sem]
  cases d with
  | zero =>
   have ht:at_=to:=(dst_zero hT hto w3).1 w1
   have hW:W=wayL t c to D frm:=by
    rw [← w4];show W=W ++ [];rw [List.append_nil]
   repeat' (first|refine st_seq_reg rfl (by first|(simp only[go_sem,x1,ht];rfl)|rfl) (by first|(simp only[go_sem,x1,ht];rfl)|rfl) ?_|refine st_op ?_|refine st_det rfl (by simp (disch:=omega) only[go_sem,wr_i64,x1,ht];rfl) ?_|refine st_condF rfl ?_|refine st_nil ?_|refine st_tN ?_|refine st_seq ?_|refine st_exit ?_|refine st_ret ?_|refine st_tE ?_|refine st_bH ?_|refine st_noR ?_)
   all_goals try (exfalso;omega)
   simp (disch:=omega) only[AEnd,Tryz.results21,aresK,fin,go_sem,implies_true,true_and,and_true,List.reverse_cons,List.reverse_nil]
   refine ⟨fun b' hb'=>(z1 b' (by omega)).trans (i3 b' hb'),fun l' r hr=>by rw [z2,i4 l' (fun e=>by rw [e,hl] at hr;cases hr)];exact hr,.inr ⟨vb,_,by omega,y1,?_⟩⟩
   rw [hE]
   show frz vb ⟨1,W.map iv⟩ (.tup [.slc vb 1 0 W.length,.int .i64 0])=.tup [.lst 1 ((wayL t c to D frm).map iv),.int .i64 0]
   rw [← hW]
   simp only[frz,frzs]
   rw [if_pos ⟨trivial,by simp⟩,List.drop_zero,List.take_of_length_le (by simp)]
  | succ d =>
   have ht:¬ at_=to:=fun e=>by
    have:=(dst_zero (c:=c) hT hto w3).2 e
    rw [w1] at this;cases this
   obtain ⟨v1,v2,v3,v4⟩:=nx_ok hT hto w3 w1
   have hDat:=(dst_iff hT hto w3).1 w1
   have hfat:=hF.full D hD at_ w3 (d+1) w2 hDat
   have hdr:=wayL_drop t c to d at_
   have n1:¬ vb=b18:=fun e=>by rw [e,x2] at y2;omega
   have n2:¬ b18=vb:=fun e=>n1 e.symm
   have hSc:∀ N x,c3≤N→Sch h.clk l (n,11) (n+1,12) M qs ((G.tick N).put (c3+1,19) x):=fun N x hN=>hS.old (N:=cc+2) (by show n < cc+2;omega) (by show n+1 < cc+2;omega) (by omega) (fun b hb=>by rw [put_ne _ _ (ne_fst hb (by show cc+2≤c3+1;omega))];exact z1 b hb) (by show G.lp l=_;rw [z2]) (by show g.clk≤N;omega)
   have hX1:∀ N x,((G.tick N).put (c3+1,19) x).at_ b18=some ⟨1,[[.int .i64 at_]]⟩:=fun N x=>by rw [put_ne _ _ (ne_fst x4 (by show G.clk≤c3+1;omega))];exact x1
   have k75:=fun N (hN:c3≤N)=>c53b t c to frm at_ hT hcl hto h.clk l (n,11) (n+1,12) b18 (c3+1,19) M qs D d hF hD w2 (by omega) hfat ((G.tick N).put (c3+1,19) (some ⟨1,[[.int .i64 (t.rooms.length:Nat)]]⟩)) (hSc N _ hN) (hX1 _ _) (put_same _ _ _) rfl rfl x2 rfl
   repeat' (first|refine st_seq_reg rfl (by first|(simp only[go_sem,x1,ht,Lm];rfl)|rfl) (by first|(simp only[go_sem,x1,ht,Lm];rfl)|rfl) ?_|refine st_op ?_|refine st_det rfl (by simp (disch:=omega) only[go_sem,wr_i64,x1,ht,Lm];rfl) ?_|refine st_heap rfl (by simp (disch:=omega) only[go_sem,wr_i64,x1,ht,Lm];rfl) ?_|refine st_store (by simp (disch:=omega) only[go_sem,wr_i64,x1,ht,Lm];rfl) ?_|refine st_condT rfl ?_|refine st_nil ?_|refine st_tN ?_|refine st_seq ?_|refine st_block ?_|refine st_skip ?_)
   all_goals try (exfalso;omega)
   refine st_call (args:=[.int .i64 at_,.fn (.func 57) [] [.ptr (n,11) 0 0,.ptr b18 0 0,.ptr (c3+1,19) 0 0]]) rfl (by first|(simp (disch:=omega) only[go_sem];rfl)|(simp (disch:=omega) only[go_sem])) rfl (k75 (c3+1+1+1) (by omega)) ?_
   rintro _ g2 ⟨m,hm2,rfl⟩
   simp only[go_sem] at hm2
   simp only[go_sem]
   have hW1:(W ++ [nxN t c to d at_ t.sts.length]).length=W.length+1:=by simp
   have hWm:(W ++ [nxN t c to d at_ t.sts.length]).map iv=W.map iv ++ [[.int .i64 (nxN t c to d at_ t.sts.length)]]:=by rw [List.map_append];rfl
   have hlW:(W.map iv).length=W.length:=Lm _
   have n19:¬ vb=(c3+1,19):=fun e=>by rw [e] at y2;simp at y2
   have n81:¬ b18=(m+1,81):=fun e=>by rw [e] at x2;simp at x2
   have n18:¬ b18=(c3+1,19):=fun e=>by rw [e] at x2;simp at x2
   repeat' (first|refine st_seq_reg rfl (by first|(simp only[go_sem,x1,ht,Lm,n1,n2,n19,n81,n18,y1,big,hlW];rfl)|rfl) (by first|(simp only[go_sem,x1,ht,Lm,n1,n2,n19,n81,n18,y1,big,hlW];rfl)|rfl) ?_|refine st_reg rfl (by first|(simp only[go_sem,x1,ht,Lm,n1,n2,n19,n81,n18,y1,big,hlW];rfl)|rfl) (by first|(simp only[go_sem,x1,ht,Lm,n1,n2,n19,n81,n18,y1,big,hlW];rfl)|rfl) ?_|refine st_op ?_|refine st_det rfl (by simp (disch:=omega) only[go_sem,wr_i64,x1,ht,Lm,n1,n2,n19,n81,n18,y1,big,hlW];rfl) ?_|refine st_heap rfl (by simp (disch:=omega) only[go_sem,wr_i64,x1,ht,Lm,n1,n2,n19,n81,n18,y1,big,hlW];rfl) ?_|refine st_store (by simp (disch:=omega) only[go_sem,wr_i64,x1,ht,Lm,n1,n2,n19,n81,n18,y1,big,hlW];rfl) ?_|refine st_append (by simp (disch:=omega) only[go_sem,wr_i64,x1,ht,Lm,n1,n2,n19,n81,n18,y1,big,hlW];rfl) ?_|refine st_nil ?_|refine st_tN ?_|refine st_bN ?_)
   all_goals try (exfalso;omega)
   have htk:List.take W.length (W.map iv)=W.map iv:=List.take_of_length_le (by simp)
   have hold2:∀ (b':Bid) x y N,b'.1 < cc+2→((((((G.tick N).put (c3+1,19) x).put b18 x).put vb none).put (m+1,81) y).put (m+1+1+1,18) x).at_ b'=g.at_ b':=fun b' x y N hb'=>by
    rw [put_ne _ _ (ne_fst hb' (by show cc+2≤m+1+1+1;omega)),put_ne _ _ (ne_fst hb' (by show cc+2≤m+1;omega)),put_ne _ _ (ne_fst hb' y3),put_ne _ _ (ne_fst hb' x3),put_ne _ _ (ne_fst hb' (by show cc+2≤c3+1;omega))]
    exact z1 b' hb'
   refine ⟨⟨d,nxN t c to d at_ t.sts.length,W ++ [nxN t c to d at_ t.sts.length],(m+1,81),(m+1+1+1,18),_⟩,⟨⟨v3,by show d≤D;omega,v1,by rw [List.append_assoc,List.singleton_append,← hdr];exact w4,by show (W ++ [nxN t c to d at_ t.sts.length]).length+d=D+1;rw [hW1];omega⟩,⟨by exact put_same _ _ _,rfl,by show cc+2≤m+1+1+1;omega,by show m+1+1+1 < m+1+1+1+1;omega⟩,⟨by dsimp only;rw [put_ne _ _ (ne_snd (by decide)),put_same,hWm,htk],.inr rfl,by show cc+2≤m+1;omega,by show m+1 < m+1+1+1+1;omega⟩,by exact fun b' hb'=>hold2 b' _ _ _ hb',by exact z2,by show cc+2≤m+1+1+1+1;omega⟩,by show d < d+1;omega,(by (try (simp only[hW1,go_sem]));repeat' (first|exact trivial|refine And.intro ?_ ?_|rfl|(simp (disch:=omega) only[go_sem,if_yes,if_no,if_no];rfl)|(simp (disch:=omega) only[go_sem,if_yes,if_no,if_no]))),(by (try (simp only[hW1,go_sem]));repeat' (first|exact trivial|refine And.intro ?_ ?_|rfl|(simp (disch:=omega) only[go_sem,if_yes,if_no,if_no];rfl)|(simp (disch:=omega) only[go_sem,if_yes,if_no,if_no]))),rfl,HOld.refl _⟩
end Go.Proofs.YtoafigpikgigaaaGreatDoor

namespace Go.Proofs.YtoafigpikgigaaaGreatDoor
open Go.Av
attribute [local irreducible] thenA blockA awp awpOps awpD awp1
attribute [local go_sem_proc] Nat.reduceAdd Nat.reduceMul Nat.reduceEqDiff Nat.reduceBEq Nat.reduceLeDiff
attribute [local go_sem_proc ↓] reduceIte
attribute [local go_sem] if_yes if_no
set_option maxHeartbeats 8000000
set_option maxRecDepth 20000
theorem catN_pre {α:Type} (g:Nat→List α) {i:Nat}:∀ {n:Nat},i≤n→∃ r,catN g n=catN g i ++ r
 | 0,h=>by
  obtain rfl:i=0:=by omega
  exact ⟨[],by simp⟩
 | n+1,h=>by
  by_cases e:i=n+1
  ·exact ⟨[],by rw [e,List.append_nil]⟩
  ·obtain ⟨r,hr⟩:=catN_pre g (i:=i) (n:=n) (by omega)
   exact ⟨r ++ g n,by show catN g n ++ g n=_;rw [hr,List.append_assoc]⟩
theorem crL_at (t:Tw) (s:Nat→Int) {st q:Nat} (h1:st < (t.steps+1).toNat) (h2:q < t.rooms.length):∃ r,crL t s=(catN (crS t s) st ++ catN (crF t s st) q) ++ (crF t s st q ++ r):=by
 obtain ⟨r1,e1⟩:=catN_pre (crS t s) (i:=st+1) (n:=(t.steps+1).toNat) h1
 obtain ⟨r2,e2⟩:=catN_pre (crF t s st) (i:=q+1) (n:=t.rooms.length) h2
 refine ⟨r2 ++ r1,?_⟩
 unfold crL
 rw [e1]
 show (catN (crS t s) st ++ crS t s st) ++ r1=_
 have e3:crS t s st=(catN (crF t s st) q ++ crF t s st q) ++ r2:=e2
 rw [e3]
 simp only[List.append_assoc]
theorem c85 (t:Tw) (f:Nat→Int):Pure Tryz.prog 85 [.agg (stR f),t.av] (fun v=>v=.fn (.func 99) [] [.iptr t.cells 0,.iptr (stR f) 0]):=by
 intro h
 refine ACalls.forget (ACalls.of tab mixed Tryz.call85 Tryz.func85 rfl (fi:=⟨6,[],[2,3],none,[]⟩) rfl rfl (Nat.le_of_ble_eq_true rfl) (by decide) ?_)
 unfold startA
 simp only[go_sem]
 repeat' (first|refine st_seq_reg rfl (by first|(simp only[go_sem];rfl)|rfl) (by first|(simp only[go_sem];rfl)|rfl) ?_|refine st_op ?_|refine st_det rfl (by simp (disch:=omega) only[go_sem,wr_i64];rfl) ?_|refine st_nil ?_|refine st_ret ?_)
 simp (disch:=omega) only[AEnd,Tryz.results85,aresK,fin,go_sem,implies_true,true_and,and_true,List.reverse_cons,List.reverse_nil]
 try rfl
theorem c99 (t:Tw) (f:Nat→Int) (l:Nat) (hT:TwOk t) (I:List Cr→AH→Prop) (D:List Cr→Cr→AH→Prop) (hI:∀ p g' n,I p g'→g'.clk≤n→I p (g'.tick n)) (hD:∀ p x g' n,D p x g'→g'.clk≤n→D p x (g'.tick n))
  (hy:∀ p x g',(∃ r,crL t f=p ++ x :: r)→I p g'→AYields Tryz.prog l [.agg x.row] g' (fun v h'=>(v=.bool true∧I (p ++ [x]) h') ∨ (v=.bool false∧D p x h'))) (h:AH) (h0:I [] h) :
  ACalls Tryz.prog 99 [.fn (.yield l) [] [],.iptr t.cells 0,.iptr (stR f) 0] h (fun _ h'=>I (crL t f) h' ∨ ∃ p x r,crL t f=p ++ x :: r∧D p x h'):=by
 have hst:=hT.steps
 have hrn:=hT.rn
 have hsN:((t.steps+1).toNat:Int)=t.steps+1:=by omega
 refine ACalls.of tab mixed Tryz.call99 Tryz.func99 rfl (fi:=⟨42,[],[],none,[]⟩) rfl rfl (Nat.le_of_ble_eq_true rfl) (by decide) ?_
 unfold startA
 unfold Tw.cells
 repeat' (first|refine st_seq_reg rfl (by first|(simp only[go_sem];rfl)|rfl) (by first|(simp only[go_sem];rfl)|rfl) ?_|refine st_op ?_|refine st_det rfl (by simp (disch:=omega) only[go_sem,wr_i64];rfl) ?_|refine st_nil ?_|refine st_block ?_)
 refine st_loopH (α:=Nat × AH) tab mixed [] [] (by repeat (first|exact trivial|refine ⟨rfl,?_⟩)) [] [] (by repeat (first|exact trivial|refine ⟨rfl,?_⟩)) (fun a=>[(11,.int .i64 (a.1:Nat))]) [(0,_),(1,_),(2,_),(10,_)] (fun _=>[]) [] (fun a=>a.2) (fun a=>a.1≤(t.steps+1).toNat∧I (catN (crS t f) a.1) a.2) (fun a=>(t.steps+1).toNat - a.1) (by decide) (0,h) ⟨Nat.zero_le _,h0⟩ (by (try simp only[go_sem]);repeat' (first|exact trivial|refine And.intro ?_ ?_|rfl|(simp (disch:=omega) only[go_sem,if_yes,if_no,if_no];rfl)|(simp (disch:=omega) only[go_sem,if_yes,if_no,if_no]))) (by (try simp only[go_sem]);repeat' (first|exact trivial|refine And.intro ?_ ?_|rfl|(simp (disch:=omega) only[go_sem,if_yes,if_no,if_no];rfl)|(simp (disch:=omega) only[go_sem,if_yes,if_no,if_no]))) (HOld.tick (by simp only[go_sem];omega)) ?_
 rintro ⟨st,g⟩ c ⟨i1,i2⟩ hc
 dsimp only at i1 i2 hc
 simp only[go_sem]
 by_cases hlt:st < (t.steps+1).toNat
 case neg =>
  have e:st=(t.steps+1).toNat:=by omega
  subst e
  repeat' (first|refine st_seq_reg rfl (by first|(simp only[go_sem];rfl)|rfl) (by first|(simp only[go_sem];rfl)|rfl) ?_|refine st_op ?_|refine st_det rfl (by simp (disch:=omega) only[go_sem,wr_i64];rfl) ?_|(refine st_condS rfl ?_ ?_ <;> intro hg <;> (try simp only[dcT,dcF,bnT,bnF] at hg))|refine st_nil ?_|refine st_tN ?_|refine st_seq ?_|refine st_block ?_|refine st_skip ?_|refine st_exit ?_|refine st_tE ?_|refine st_bH ?_)
  all_goals try (exfalso;omega)
  simp (disch:=omega) only[AEnd,Tryz.results99,aresK,fin,go_sem,implies_true,true_and,and_true,List.reverse_cons,List.reverse_nil]
  exact .inl (hI _ _ _ i2 (by omega))
 repeat' (first|refine st_seq_reg rfl (by first|(simp only[go_sem,Lm];rfl)|rfl) (by first|(simp only[go_sem,Lm];rfl)|rfl) ?_|refine st_op ?_|refine st_det rfl (by simp (disch:=omega) only[go_sem,wr_i64,Lm];rfl) ?_|(refine st_condS rfl ?_ ?_ <;> intro hg <;> (try simp only[dcT,dcF,bnT,bnF] at hg))|refine st_nil ?_|refine st_tN ?_|refine st_seq ?_|refine st_block ?_|refine st_skip ?_|refine st_exit ?_|refine st_tE ?_|refine st_bH ?_)
 all_goals try (exfalso;omega)
 refine st_loopH (α:=Nat × AH) tab mixed [] [] (by repeat (first|exact trivial|refine ⟨rfl,?_⟩)) [] [] (by repeat (first|exact trivial|refine ⟨rfl,?_⟩)) (fun a=>[(17,.int .i64 (a.1:Nat))]) [(0,_),(1,_),(2,_),(10,_),(11,_),(4,_),(15,_),(16,_)] (fun _=>[]) [] (fun a=>a.2) (fun a=>a.1≤t.rooms.length∧I (catN (crS t f) st ++ catN (crF t f st) a.1) a.2) (fun a=>t.rooms.length - a.1) (by decide) (0,g) ⟨Nat.zero_le _,by show I (_ ++ []) _;rw [List.append_nil];exact i2⟩ (by (try simp only[go_sem]);repeat' (first|exact trivial|refine And.intro ?_ ?_|rfl|(simp (disch:=omega) only[go_sem,if_yes,if_no,if_no];rfl)|(simp (disch:=omega) only[go_sem,if_yes,if_no,if_no]))) (by (try simp only[go_sem]);repeat' (first|exact trivial|refine And.intro ?_ ?_|rfl|(simp (disch:=omega) only[go_sem,if_yes,if_no,if_no];rfl)|(simp (disch:=omega) only[go_sem,if_yes,if_no,if_no]))) (HOld.tick (by simp only[go_sem];omega)) ?_
 rintro ⟨q,g2⟩ c2 ⟨j1,j2⟩ hc2
 dsimp only at j1 j2 hc2
 simp only[go_sem]
 by_cases hq:q < t.rooms.length
 case neg =>
  have e:q=t.rooms.length:=by omega
  subst e
  repeat' (first|refine st_seq_reg rfl (by first|(simp only[go_sem,Lm];rfl)|rfl) (by first|(simp only[go_sem,Lm];rfl)|rfl) ?_|refine st_reg rfl (by first|(simp only[go_sem,Lm];rfl)|rfl) (by first|(simp only[go_sem,Lm];rfl)|rfl) ?_|refine st_op ?_|refine st_det rfl (by simp (disch:=omega) only[go_sem,wr_i64,Lm];rfl) ?_|(refine st_condS rfl ?_ ?_ <;> intro hg <;> (try simp only[dcT,dcF,bnT,bnF] at hg))|refine st_nil ?_|refine st_tN ?_|refine st_seq ?_|refine st_block ?_|refine st_skip ?_|refine st_exit ?_|refine st_tE ?_|refine st_bN ?_|refine st_bH ?_)
  all_goals try (exfalso;omega)
  refine ⟨(st+1,g2),⟨by show st+1≤_;omega,j2⟩,by show (t.steps+1).toNat - (st+1) < (t.steps+1).toNat - st;omega,(by repeat' (first|exact trivial|refine And.intro ?_ ?_|rfl|(simp (disch:=omega) only[go_sem,if_yes,if_no,if_no];rfl)|(simp (disch:=omega) only[go_sem,if_yes,if_no,if_no]))),(by repeat' (first|exact trivial|refine And.intro ?_ ?_|rfl|(simp (disch:=omega) only[go_sem,if_yes,if_no,if_no];rfl)|(simp (disch:=omega) only[go_sem,if_yes,if_no,if_no]))),rfl,HOld.tick (by simp only[go_sem];omega)⟩
 have k71:=c48 t f (q:Nat) (st:Nat) hT ⟨by omega,by omega⟩
 have hF:crF t f st q=if elt t.rooms q < ldHi t f (q:Nat) (st:Nat) then [⟨(st:Nat),(q:Nat),ldHi t f (q:Nat) (st:Nat)⟩] else []:=rfl
 obtain ⟨r,hr⟩:=crL_at t f hlt hq
 have hS:catN (crF t f st) (q+1)=catN (crF t f st) q ++ crF t f st q:=rfl
 by_cases hb:elt t.rooms q < ldHi t f (q:Nat) (st:Nat)
 ·rw [if_pos hb] at hF
  rw [hF] at hr hS
  repeat' (first|refine st_seq_reg rfl (by first|(simp only[go_sem,Lm,Nat.zero_add];rfl)|rfl) (by first|(simp only[go_sem,Lm,Nat.zero_add];rfl)|rfl) ?_|refine st_reg rfl (by first|(simp only[go_sem,Lm,Nat.zero_add];rfl)|rfl) (by first|(simp only[go_sem,Lm,Nat.zero_add];rfl)|rfl) ?_|refine st_op ?_|refine st_det rfl (by simp (disch:=omega) only[go_sem,wr_i64,Lm,Nat.zero_add];rfl) ?_|(refine st_pureE (by first|(simp (disch:=omega) only[go_sem,Lm,Nat.zero_add];rfl)|rfl) rfl (k71) (by first|(simp only[go_sem,Lm,Nat.zero_add];rfl)|rfl) (by intro n;first|(simp (disch:=omega) only[go_sem];rfl)|rfl) ?_;intro n hn)|(refine st_yield rfl (by first|(simp (disch:=omega) only[go_sem];rfl)|(simp (disch:=omega) only[go_sem])) rfl (hy _ ⟨(st:Nat),(q:Nat),ldHi t f (q:Nat) (st:Nat)⟩ _ ⟨r,hr⟩ (hI _ _ _ j2 (by omega))) ?_;rintro v h' (⟨rfl,hi2⟩|⟨rfl,hd2⟩))|refine st_gT rfl rfl rfl ?_|refine st_gF rfl rfl rfl ?_|(refine st_gS rfl rfl ?_ ?_ <;> intro hg <;> (try simp only[dcT,dcF,bnT,bnF] at hg))|refine st_condT rfl ?_|refine st_condF rfl ?_|(refine st_condS rfl ?_ ?_ <;> intro hg <;> (try simp only[dcT,dcF,bnT,bnF] at hg))|refine st_nil ?_|refine st_tN ?_|refine st_seq ?_|refine st_block ?_|refine st_skip ?_|refine st_exit ?_|refine st_ret ?_|refine st_tE ?_|refine st_tR ?_|refine st_bN ?_|refine st_bR ?_|refine st_bH ?_)
  all_goals try (exfalso;omega)
  ·refine ⟨(q+1,h'),⟨by show q+1≤_;omega,by show I (_ ++ catN (crF t f st) (q+1)) _;rw [hS,← List.append_assoc];exact hi2⟩,by show t.rooms.length - (q+1) < t.rooms.length - q;omega,(by repeat' (first|exact trivial|refine And.intro ?_ ?_|rfl|(simp (disch:=omega) only[go_sem,if_yes,if_no,if_no];rfl)|(simp (disch:=omega) only[go_sem,if_yes,if_no,if_no]))),(by repeat' (first|exact trivial|refine And.intro ?_ ?_|rfl|(simp (disch:=omega) only[go_sem,if_yes,if_no,if_no];rfl)|(simp (disch:=omega) only[go_sem,if_yes,if_no,if_no]))),rfl,HOld.tick (by simp only[go_sem];omega)⟩
  ·simp (disch:=omega) only[AEnd,Tryz.results99,aresK,fin,go_sem,implies_true,true_and,and_true,List.reverse_cons,List.reverse_nil]
   exact .inr ⟨_,_,r,hr,by first|exact hd2|exact hD _ _ _ _ hd2 (by omega)⟩
 ·rw [if_neg hb] at hF
  rw [hF,List.append_nil] at hS
  repeat' (first|refine st_seq_reg rfl (by first|(simp only[go_sem,Lm,Nat.zero_add];rfl)|rfl) (by first|(simp only[go_sem,Lm,Nat.zero_add];rfl)|rfl) ?_|refine st_reg rfl (by first|(simp only[go_sem,Lm,Nat.zero_add];rfl)|rfl) (by first|(simp only[go_sem,Lm,Nat.zero_add];rfl)|rfl) ?_|refine st_op ?_|refine st_det rfl (by simp (disch:=omega) only[go_sem,wr_i64,Lm,Nat.zero_add];rfl) ?_|(refine st_pureE (by first|(simp (disch:=omega) only[go_sem,Lm,Nat.zero_add];rfl)|rfl) rfl (k71) (by first|(simp only[go_sem,Lm,Nat.zero_add];rfl)|rfl) (by intro n;first|(simp (disch:=omega) only[go_sem];rfl)|rfl) ?_;intro n hn)|refine st_gT rfl rfl rfl ?_|refine st_gF rfl rfl rfl ?_|(refine st_gS rfl rfl ?_ ?_ <;> intro hg <;> (try simp only[dcT,dcF,bnT,bnF] at hg))|refine st_condF rfl ?_|(refine st_condS rfl ?_ ?_ <;> intro hg <;> (try simp only[dcT,dcF,bnT,bnF] at hg))|refine st_nil ?_|refine st_tN ?_|refine st_seq ?_|refine st_block ?_|refine st_skip ?_|refine st_exit ?_|refine st_tE ?_|refine st_bN ?_|refine st_bH ?_)
  all_goals try (exfalso;omega)
  refine ⟨(q+1,g2),⟨by show q+1≤_;omega,by show I (_ ++ catN (crF t f st) (q+1)) _;rw [hS];exact j2⟩,by show t.rooms.length - (q+1) < t.rooms.length - q;omega,(by repeat' (first|exact trivial|refine And.intro ?_ ?_|rfl|(simp (disch:=omega) only[go_sem,if_yes,if_no,if_no];rfl)|(simp (disch:=omega) only[go_sem,if_yes,if_no,if_no]))),(by repeat' (first|exact trivial|refine And.intro ?_ ?_|rfl|(simp (disch:=omega) only[go_sem,if_yes,if_no,if_no];rfl)|(simp (disch:=omega) only[go_sem,if_yes,if_no,if_no]))),rfl,HOld.tick (by simp only[go_sem];omega)⟩
end Go.Proofs.YtoafigpikgigaaaGreatDoor
