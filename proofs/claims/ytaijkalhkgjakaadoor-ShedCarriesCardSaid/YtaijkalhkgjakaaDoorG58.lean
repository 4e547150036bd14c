/- Contracts of functions that the claim reaches: what each call gives, told in our own logic. Conditions: those of each theorem. -/
import Derived.Test.YtaijkalhkgjakaaDoorG56
import Derived.Test.YtaijkalhkgjakaaDoorG31
import Derived.Test.YtaijkalhkgjakaaDoorF30
import Derived.Test.YtaijkalhkgjakaaDoorP8
open Nat (reduceAdd reduceMul reduceEqDiff reduceLeDiff)
open List (length_map)
set_option linter.all false
set_option linter.unusedSimpArgs false
set_option linter.unusedVariables false
namespace Go.Proofs.YtaijkalhkgjakaaDoor
open Go.Av
attribute [local irreducible] thenA blockA awp awpOps awpD awp1
set_option maxHeartbeats 8000000
set_option maxRecDepth 20000
structure TrIn (l:List Ld) (ks ts:List Int):Prop where
  kl:ks.length=l.length
  tl:ts.length=l.length
  k:∀ i,i < l.length→(ld l i).lo≤ks.getD i 0∧ks.getD i 0≤(ld l i).hi
  t:∀ i,i < l.length→(ld l i).tlo≤ts.getD i 0∧ts.getD i 0≤(ld l i).thi
structure LdIn (f:Fl) (x:Ld):Prop where
  at_:f.front≤x.at_∧x.at_≤f.rear
  kilos:0≤x.lo∧x.lo≤x.hi∧x.hi≤100000
  top:0≤x.tlo∧x.tlo≤x.thi∧x.thi≤2000
theorem spanE_ok {lo hi top:Int} (h:spanE lo hi top=0):0≤lo∧lo≤hi∧hi≤top:=by
  unfold spanE at h
  split at h
  · omega
  · split at h
    · omega
    · omega
theorem loadE_ok {f:Fl} {x:Ld} (h:loadE f x=0):LdIn f x:=by
  unfold loadE at h
  split at h
  · omega
  · split at h
    · rename_i h1;exact absurd h h1
    · split at h
      · rename_i h1;exact absurd h h1
      · rename_i a b c
        exact ⟨by omega,spanE_ok (Decidable.not_not.1 b),spanE_ok (Decidable.not_not.1 c)⟩
theorem loadsE_ok {f:Fl}:∀ (l:List Ld),loadsE f l=0→∀ x ∈ l,loadE f x=0:=by
  intro l
  induction l with
  | nil=>intro _ x hx;cases hx
  | cons y l ih =>
    intro h x hx
    simp only[loadsE] at h
    by_cases e:loadE f y=0
    · rw [if_neg (fun q=>q e)] at h
      rcases List.mem_cons.1 hx with rfl|hx
      · exact e
      · exact ih h x hx
    · rw [if_pos e] at h;exact absurd h e
theorem chkE_loads {f:Fl} (h:chkE f=0):f.loads.length≤20∧∀ x ∈ f.loads,LdIn f x:=by
  unfold chkE at h
  repeat' split at h
  all_goals try (exfalso;omega)
  exact ⟨by omega,fun x hx=>loadE_ok (loadsE_ok _ h x hx)⟩
theorem c40n (b:Nat × Nat) (lo hi:Int) (h1:-1000000000≤lo∧lo≤1000000000) (h2:-1000000000≤hi - lo∧hi - lo < 1000000000):Drum Tryd.prog 40 [.ptr b 0 0,.int .i64 lo,.int .i64 hi] b (fun v=>∃ r,v=.int .i64 r∧(r=lo ∨ lo≤r∧r≤hi)):=by
  refine Drum.of Tryd.call40 fun h x hx hu hold=>?_
  refine ACalls.of tab mixed Tryd.call40 Tryd.func40 rfl (fi:=⟨15,[],[],none,[]⟩) rfl rfl (Nat.le_of_ble_eq_true rfl) (by decide) ?_
  unfold startA
  repeat' (first|refine st_seq_reg rfl (by first|(simp only[go_sem,hx];rfl)|rfl) (by first|(simp only[go_sem,hx];rfl)|rfl) ?_|refine st_op ?_|refine st_det rfl (by simp (disch:=omega) only[go_sem,wr_i64,if_yes,if_no,↓reduceIte,reduceAdd,reduceMul,reduceEqDiff,Nat.reduceBEq,reduceLeDiff,hx];rfl) ?_|(refine st_drum (by first|(simp (disch:=omega) only[go_sem,hx];rfl)|rfl) rfl (c39 b _ (by omega)) (by first|(simp (disch:=omega) only[go_sem,hx];rfl)|rfl|exact put_same _ _ _) (by assumption) (by first|(simp only[go_sem,hx];rfl)|rfl) (by intro x' n;first|(simp (disch:=omega) only[go_sem];rfl)|rfl) ?_;rintro v x' n hu' ⟨r,rfl,hr1,hr2⟩ hn)|refine st_nil ?_|refine st_ret ?_)
  simp (disch:=omega) only[AEnd,Tryd.results40,aresK,fin,go_sem,↓reduceIte,reduceEqDiff,reduceAdd,reduceLeDiff,if_yes,if_no,implies_true,true_and,and_true,List.reverse_cons,List.reverse_nil]
  exact ⟨fun b' _ h2=>if_neg h2,⟨_,rfl,by assumption⟩,⟨_,rfl,by omega⟩⟩
theorem c73 (b:Nat × Nat) (lo hi:Int) (h1:-100000000≤lo∧lo≤100000000) (h2:-100000000≤hi∧hi≤100000000):Drum Tryd.prog 73 [.ptr b 0 0,.agg [.int .i64 lo,.int .i64 hi]] b (fun v=>∃ r,v=.int .i64 r∧(r=lo ∨ r=hi ∨ (lo≤r∧r≤hi))):=by
  refine Drum.of Tryd.call73 fun h x hx hu hold=>?_
  refine ACalls.of tab mixed Tryd.call73 Tryd.func73 rfl (fi:=⟨21,[],[3],none,[]⟩) rfl rfl (Nat.le_of_ble_eq_true rfl) (by decide) ?_
  unfold startA
  repeat' (first|refine st_seq_reg rfl (by first|(simp only[go_sem,hx];rfl)|rfl) (by first|(simp only[go_sem,hx];rfl)|rfl) ?_|refine st_op ?_|refine st_det rfl (by simp (disch:=omega) only[go_sem,wr_i64,if_yes,if_no,↓reduceIte,reduceAdd,reduceMul,reduceEqDiff,Nat.reduceBEq,reduceLeDiff,hx];rfl) ?_|(refine st_drum (by first|(simp (disch:=omega) only[go_sem,hx];rfl)|rfl) rfl (c39 b _ (by omega)) (by first|(simp (disch:=omega) only[go_sem,hx];rfl)|rfl|exact put_same _ _ _) (by assumption) (by first|(simp only[go_sem,hx];rfl)|rfl) (by intro x' n;first|(simp (disch:=omega) only[go_sem];rfl)|rfl) ?_;rintro v x' n hu' ⟨r,rfl,hr1,hr2⟩ hn)|(refine st_drum (by first|(simp (disch:=omega) only[go_sem,hx];rfl)|rfl) rfl (c40n b _ _ (by omega) (by omega)) (by first|(simp (disch:=omega) only[go_sem,hx];rfl)|rfl|exact put_same _ _ _) (by assumption) (by first|(simp only[go_sem,hx];rfl)|rfl) (by intro x' n;first|(simp (disch:=omega) only[go_sem];rfl)|rfl) ?_;rintro v x' n hu' ⟨r,rfl,hr⟩ hn)|(refine st_condS rfl ?_ ?_ <;> intro hg <;> (try simp only[decide_eq_true_eq,decide_eq_false_iff_not,Bool.not_eq_true',Bool.not_eq_false'] at hg))|refine st_nil ?_|refine st_tN ?_|refine st_seq ?_|refine st_block ?_|refine st_skip ?_|refine st_ret ?_|refine st_tR ?_|refine st_bN ?_|refine st_bR ?_)
  all_goals
    simp (disch:=omega) only[AEnd,Tryd.results73,aresK,fin,go_sem,↓reduceIte,reduceEqDiff,reduceAdd,reduceLeDiff,if_yes,if_no,implies_true,true_and,and_true,List.reverse_cons,List.reverse_nil]
    exact ⟨fun b' _ h2=>if_neg h2,⟨_,rfl,by assumption⟩,⟨_,rfl,by omega⟩⟩
theorem Drum.give2 {P:Program} {f:FuncId} {args:List AV} {b:Nat × Nat} {R:AV→Prop} (he:Enters P f)
    (H:∀ h x,h.at_ b=dr x→isU64 x→b.1 < h.clk→(∀ b' k,h.at_ b'=some k→b'.1 < h.clk)→ACalls P f args h (fun v h'=>(∀ b',b'.1 < h.clk→b' ≠ b→h'.at_ b'=h.at_ b')∧(∃ x',h'.at_ b=dr x'∧isU64 x')∧h'.lp=h.lp ∧
      ((∃ v',VLe v v'∧R v') ∨ ∃ b1 k1 b2 k2,h.clk≤b1.1∧h.clk≤b2.1∧b2 ≠ b1∧h'.at_ b1=some k1∧h'.at_ b2=some k2∧R (frz b2 k2 (frz b1 k1 v))))):Drum P f args b R:=by
  refine Drum.give he fun h x hx hu hb=>ACalls.old he fun hold=>?_
  refine ((H h x hx hu hb hold).mono (Q':=fun v h'=>(∃ v',VLe v v'∧((∀ b',b'.1 < h.clk→b' ≠ b→h'.at_ b'=h.at_ b')∧(∃ x',h'.at_ b=dr x'∧isU64 x')∧h'.lp=h.lp∧((∃ v'',VLe v' v''∧R v'') ∨ ∃ b2 k,h.clk≤b2.1∧h'.at_ b2=some k∧R (frz b2 k v')))) ∨ ∃ b1 k1,h'.at_ b1=some k1∧h.at_ b1=none ∧
    ((∀ b',b'.1 < h.clk→b' ≠ b→(h'.put b1 none).at_ b'=h.at_ b')∧(∃ x',(h'.put b1 none).at_ b=dr x'∧isU64 x')∧(h'.put b1 none).lp=h.lp∧((∃ v'',VLe (frz b1 k1 v) v''∧R v'') ∨ ∃ b2 k,h.clk≤b2.1∧(h'.put b1 none).at_ b2=some k∧R (frz b2 k (frz b1 k1 v))))) ?_).give
  rintro v h' ⟨h1,⟨x',h5,h6⟩,h2,h3|⟨b1,k1,b2,k2,g1,g2,g3,g4,g5,g6⟩⟩
  · obtain ⟨v',hv,hr⟩:=h3
    exact .inl ⟨v,VLe.refl v,h1,⟨x',h5,h6⟩,h2,.inl ⟨v',hv,hr⟩⟩
  · refine .inr ⟨b1,k1,g4,?_,fun b' hb' hne=>?_,⟨x',?_,h6⟩,h2,.inr ⟨b2,k2,g2,?_,g6⟩⟩
    · cases e:h.at_ b1 with
      | none=>rfl
      | some k'=>exact absurd (hold b1 k' e) (by omega)
    · rw [put_ne _ _ (fun e=>by rw [e] at hb';omega)];exact h1 b' hb' hne
    · rw [put_ne _ _ (fun e=>by rw [e] at hb;omega)];exact h5
    · rw [put_ne _ _ g3];exact g5
theorem hold_same {h:AH} {m:Nat} {b:Nat × Nat} {x:Int} (hx:h.at_ b=dr x):HOld ((h.tick m).put b (dr x)) (h.tick m):=by
  refine ⟨fun z k hz=>?_,fun _ _ e=>e,Nat.le_refl _,rfl⟩
  simp only[AH.put,upd_apply,AH.tick] at hz ⊢
  by_cases e:z=b
  · subst e
    rw [hx]
    simpa using hz
  · simpa [e] using hz
def TrUp (l:List Ld) (i:Nat) (ks ts:List Int):Prop:=ks.length=i∧ts.length=i∧∀ j,j < i→((ld l j).lo≤ks.getD j 0∧ks.getD j 0≤(ld l j).hi)∧((ld l j).tlo≤ts.getD j 0∧ts.getD j 0≤(ld l j).thi)
theorem TrUp.step {l:List Ld} {i:Nat} {ks ts:List Int} {r q:Int} (h:TrUp l i ks ts) (hr:(ld l i).lo≤r∧r≤(ld l i).hi) (hq:(ld l i).tlo≤q∧q≤(ld l i).thi):TrUp l (i+1) (ks ++ [r]) (ts ++ [q]):=by
  obtain ⟨h1,h2,h3⟩:=h
  refine ⟨by simp [h1],by simp [h2],fun j hj=>?_⟩
  by_cases e:j=i
  · subst e
    have e1:(ks ++ [r]).getD j 0=r:=by simp [List.getD_eq_getElem?_getD,← h1]
    have e2:(ts ++ [q]).getD j 0=q:=by simp [List.getD_eq_getElem?_getD,← h2]
    rw [e1,e2];exact ⟨hr,hq⟩
  · have e1:(ks ++ [r]).getD j 0=ks.getD j 0:=by simp only[List.getD_eq_getElem?_getD];rw [List.getElem?_append_left (by omega)]
    have e2:(ts ++ [q]).getD j 0=ts.getD j 0:=by simp only[List.getD_eq_getElem?_getD];rw [List.getElem?_append_left (by omega)]
    rw [e1,e2];exact h3 j (by omega)
theorem TrUp.done {l:List Ld} {ks ts:List Int} (h:TrUp l l.length ks ts):TrIn l ks ts:=⟨h.1,h.2.1,fun j hj=>(h.2.2 j hj).1,fun j hj=>(h.2.2 j hj).2⟩
theorem hold7 {h:AH} {m m':Nat} {b j1 j2:Nat × Nat} {d d':Option Blk} {y1 y2 z1 z2:List (List AV)} (hn:m≤m') (n1:¬ j1=b) (n2:¬ j2=b) (n3:¬ j1=j2) (hy:y1=z1) (hy2:y2=z2) :
    HOld ((((h.tick m).put j1 (some ⟨1,y1⟩)).put j2 (some ⟨1,y2⟩)).put b d') (((((h.tick m').put b d).put j1 (some ⟨1,z1⟩)).put b d').put j2 (some ⟨1,z2⟩)):=by
  subst hy hy2
  refine ⟨fun z k' hz=>?_,fun _ _ e=>e,hn,rfl⟩
  simp only[AH.put,upd_apply,AH.tick] at hz ⊢
  have n1':¬ b=j1:=fun e=>n1 e.symm
  have n2':¬ b=j2:=fun e=>n2 e.symm
  by_cases e:z=j2
  · subst e;simpa [n2] using hz
  · by_cases e2:z=b
    · subst e2;simpa [e,n1'] using hz
    · by_cases e3:z=j1
      · subst e3;simpa [e,e2] using hz
      · simpa [e,e2,e3] using hz
theorem hold8 {h:AH} {m m':Nat} {b b1 b2 j1 j2:Nat × Nat} {d d' x1 x2:Option Blk} {y1 y2 z1 z2:List (List AV)} (hn:m≤m') (n1:¬ j1=b) (n2:¬ j2=b) (n3:¬ j1=j2) (n4:¬ j1=b2) (n6:¬ b2=b) (hb1:h.at_ b1=none) (hb2:h.at_ b2=none) (hy:y1=z1) (hy2:y2=z2) :
    HOld ((((h.tick m).put j1 (some ⟨1,y1⟩)).put j2 (some ⟨1,y2⟩)).put b d') (((((((((h.tick m').put b1 x1).put b2 x2).put b d).put b1 none).put j1 (some ⟨1,z1⟩)).put b d').put b2 none).put j2 (some ⟨1,z2⟩)):=by
  subst hy hy2
  refine ⟨fun z k' hz=>?_,fun _ _ e=>e,hn,rfl⟩
  simp only[AH.put,upd_apply,AH.tick] at hz ⊢
  have n6':¬ b=b2:=fun e=>n6 e.symm
  by_cases e:z=j2
  · subst e;simpa [n2] using hz
  · by_cases e2:z=b
    · subst e2;simpa [e,n6'] using hz
    · by_cases e3:z=j1
      · subst e3;simpa [e,e2,n4] using hz
      · by_cases e4:z=b1
        · subst e4;simp [e,e2,e3,hb1] at hz
        · by_cases e5:z=b2
          · subst e5;simp [e,e2,e3,hb2] at hz
          · simpa [e,e2,e3,e4,e5] using hz
structure TrS where
  i:Nat
  x:Int
  t:Nat
  b1:Nat × Nat
  b2:Nat × Nat
  ks:List Int
  ts:List Int
def TrS.s1 (a:TrS):AV:=if a.i=0 then .nils else .slc a.b1 1 0 a.i
def TrS.s2 (a:TrS):AV:=if a.i=0 then .nils else .slc a.b2 1 0 a.i
def TrS.hp (h:AH) (b:Nat × Nat) (a:TrS):AH:=if a.i=0 then (h.tick a.t).put b (dr a.x) else (((h.tick a.t).put a.b1 (some ⟨1,a.ks.map iv⟩)).put a.b2 (some ⟨1,a.ts.map iv⟩)).put b (dr a.x)
@[go_sem] theorem TrS.s1_z (x:Int) (t:Nat) (b1 b2:Nat × Nat) (ks ts:List Int):TrS.s1 ⟨0,x,t,b1,b2,ks,ts⟩=.nils:=rfl
@[go_sem] theorem TrS.s2_z (x:Int) (t:Nat) (b1 b2:Nat × Nat) (ks ts:List Int):TrS.s2 ⟨0,x,t,b1,b2,ks,ts⟩=.nils:=rfl
@[go_sem] theorem TrS.s1_s (i:Nat) (x:Int) (t:Nat) (b1 b2:Nat × Nat) (ks ts:List Int):TrS.s1 ⟨i+1,x,t,b1,b2,ks,ts⟩=.slc b1 1 0 (i+1):=by simp [TrS.s1]
@[go_sem] theorem TrS.s2_s (i:Nat) (x:Int) (t:Nat) (b1 b2:Nat × Nat) (ks ts:List Int):TrS.s2 ⟨i+1,x,t,b1,b2,ks,ts⟩=.slc b2 1 0 (i+1):=by simp [TrS.s2]
theorem c28 (b:Nat × Nat) (f:Fl) (hf:chkE f=0):Drum Tryd.prog 28 [.ptr b 0 0,f.av] b (fun v=>∃ ks ts,v=.agg [.lst 1 (ks.map iv),.lst 1 (ts.map iv)]∧TrIn f.loads ks ts):=by
  obtain ⟨hfl,hfx⟩:=chkE_loads hf
  refine Drum.give2 Tryd.call28 fun h x hx hu hb hold=>?_
  refine ACalls.of tab mixed Tryd.call28 Tryd.func28 rfl (fi:=⟨41,[4,5],[3,24,36],none,[(5,[0,1,0,0,8,0,56,120,248,508,1020,2047,0,4096,0,0,32768,0,229376,491520,1015808,2084863,4182015,8388607,16383,33554431,67108863,134217727],[(0,false),(1,true),(2,false),(3,false),(4,true),(5,false),(6,false),(7,false),(8,true),(12,false),(13,true),(14,false),(15,false),(16,true),(17,false),(18,false),(19,false),(20,true),(9,false),(10,false),(11,false),(24,false),(21,false),(22,false),(23,false),(25,false),(26,false),(27,false)])]⟩) rfl rfl (Nat.le_of_ble_eq_true rfl) (by decide) ?_
  unfold startA
  simp only[go_sem]
  repeat' (first|refine st_seq_reg rfl (by first|(simp only[go_sem];rfl)|rfl) (by first|(simp only[go_sem];rfl)|rfl) ?_|refine st_op ?_|refine st_det rfl (by simp (disch:=omega) only[go_sem,wr_i64,if_yes,if_no,↓reduceIte,reduceAdd,reduceMul,reduceEqDiff,Nat.reduceBEq,reduceLeDiff];rfl) ?_|refine st_loc rfl (by simp (disch:=omega) only[go_sem,wr_i64,if_yes,if_no,↓reduceIte,reduceAdd,reduceMul,reduceEqDiff,Nat.reduceBEq,reduceLeDiff];rfl) ?_|refine st_nil ?_|refine st_seq ?_|refine st_block ?_)
  refine st_loopH (α:=TrS) tab mixed [5] [_] (by repeat (first|exact trivial|refine ⟨rfl,?_⟩)) [4] [_] (by repeat (first|exact trivial|refine ⟨rfl,?_⟩)) (fun a=>[(6,.int .i64 (a.i:Nat))]) [(0,_),(3,_),(4,_),(5,_)] (fun a=>[[a.s1,a.s2]]) [_] (TrS.hp h b) (fun a=>a.i≤f.loads.length∧h.clk+1+1+1≤a.t∧isU64 a.x∧TrUp f.loads a.i a.ks a.ts∧(0 < a.i→h.clk≤a.b1.1∧a.b1.1 < a.t∧h.clk≤a.b2.1∧a.b2.1 < a.t∧¬ a.b1=a.b2)) (fun a=>f.loads.length - a.i) (by decide) ⟨0,x,h.clk+1+1+1,(0,0),(0,0),[],[]⟩ ⟨Nat.zero_le _,Nat.le_refl _,hu,⟨rfl,rfl,fun i hi=>absurd hi (Nat.not_lt_zero _)⟩,fun h=>absurd h (Nat.lt_irrefl _)⟩ (by (try simp only[go_sem]);repeat' (first|exact trivial|refine And.intro ?_ ?_|rfl|(simp (disch:=omega) only[go_sem,if_yes,if_no,↓reduceIte,reduceAdd,reduceMul,reduceEqDiff,Nat.reduceBEq,reduceLeDiff];rfl)|(simp (disch:=omega) only[go_sem,if_yes,if_no,↓reduceIte,reduceAdd,reduceMul,reduceEqDiff,Nat.reduceBEq,reduceLeDiff]))) (by (try simp only[go_sem]);repeat' (first|exact trivial|refine And.intro ?_ ?_|rfl|(simp (disch:=omega) only[go_sem,if_yes,if_no,↓reduceIte,reduceAdd,reduceMul,reduceEqDiff,Nat.reduceBEq,reduceLeDiff];rfl)|(simp (disch:=omega) only[go_sem,if_yes,if_no,↓reduceIte,reduceAdd,reduceMul,reduceEqDiff,Nat.reduceBEq,reduceLeDiff]))) (hold_same hx) ?_
  rintro ⟨i,x0,t,b1,b2,ks,ts⟩ c ⟨i1,i2,i3,i4,i5⟩ hc
  dsimp only at i1 i2 i3 i4 i5
  have hno:∀ b:Nat × Nat,h.clk≤b.1→h.at_ b=none:=by
    intro b hb
    cases e':h.at_ b with
    | none=>rfl
    | some k=>exact absurd (hold b k e') (by omega)
  have hld:i < f.loads.length→LdIn f (ld f.loads i):=fun h=>hfx _ (ld_mem h)
  have hlo:i < f.loads.length→0≤(ld f.loads i).lo∧(ld f.loads i).lo≤(ld f.loads i).hi∧(ld f.loads i).hi≤100000:=fun h=>(hld h).kilos
  have htlo:i < f.loads.length→0≤(ld f.loads i).tlo∧(ld f.loads i).tlo≤(ld f.loads i).thi∧(ld f.loads i).thi≤2000:=fun h=>(hld h).top
  by_cases e:i=0
  · subst e
    obtain rfl:ks=[]:=List.length_eq_zero_iff.1 i4.1
    obtain rfl:ts=[]:=List.length_eq_zero_iff.1 i4.2.1
    have e2:TrS.hp h b ⟨0,x0,t,b1,b2,[],[]⟩=(h.tick t).put b (dr x0):=rfl
    rw [e2] at hc
    simp only[go_sem] at hc
    simp only[e2,go_sem]
    repeat' (first|refine st_seq_reg rfl (by first|(simp only[go_sem,big];rfl)|rfl) (by first|(simp only[go_sem,big];rfl)|rfl) ?_|refine st_reg rfl (by first|(simp only[go_sem,big];rfl)|rfl) (by first|(simp only[go_sem,big];rfl)|rfl) ?_|refine st_draw rfl (by first|(simp only[go_sem,big];rfl)|rfl) (by first|(simp only[go_sem,big];rfl)|rfl) ?_|refine st_op ?_|refine st_det rfl (by simp (disch:=omega) only[go_sem,wr_i64,if_yes,if_no,↓reduceIte,reduceAdd,reduceMul,reduceEqDiff,Nat.reduceBEq,reduceLeDiff,big];rfl) ?_|refine st_dop rfl ?_|refine st_store (by simp (disch:=omega) only[go_sem,wr_i64,if_yes,if_no,↓reduceIte,reduceAdd,reduceMul,reduceEqDiff,Nat.reduceBEq,reduceLeDiff,big];rfl) ?_|refine st_append (by simp (disch:=omega) only[go_sem,wr_i64,if_yes,if_no,↓reduceIte,reduceAdd,reduceMul,reduceEqDiff,Nat.reduceBEq,reduceLeDiff,big];rfl) ?_|(refine st_drum (by first|(simp (disch:=omega) only[go_sem,big];rfl)|rfl) rfl (c73 b (ld f.loads 0).lo (ld f.loads 0).hi (by have:=hlo (by omega);omega) (by have:=hlo (by omega);omega)) (by first|(simp (disch:=omega) only[go_sem,big];rfl)|rfl|exact put_same _ _ _) (by assumption) (by first|(simp only[go_sem,big];rfl)|rfl) (by intro x' n;first|(simp (disch:=omega) only[go_sem];rfl)|rfl) ?_;rintro v x' n hu' ⟨r,rfl,hr⟩ hn)|(refine st_drum (by first|(simp (disch:=omega) only[go_sem,big];rfl)|rfl) rfl (c73 b (ld f.loads 0).tlo (ld f.loads 0).thi (by have:=htlo (by omega);omega) (by have:=htlo (by omega);omega)) (by first|(simp (disch:=omega) only[go_sem,big];rfl)|rfl|exact put_same _ _ _) (by assumption) (by first|(simp only[go_sem,big];rfl)|rfl) (by intro x' n;first|(simp (disch:=omega) only[go_sem];rfl)|rfl) ?_;rintro v x' n hu' ⟨q,rfl,hq⟩ hn)|(refine st_condS rfl ?_ ?_ <;> intro hg <;> (try simp only[decide_eq_true_eq,decide_eq_false_iff_not,Bool.not_eq_true',Bool.not_eq_false'] at hg))|refine st_nil ?_|refine st_dnil ?_|refine st_tN ?_|refine st_seq ?_|refine st_block ?_|refine st_skip ?_|refine st_exit ?_|refine st_ret ?_|refine st_tE ?_|refine st_bN ?_|refine st_bH ?_)
    · refine ⟨⟨0+1,x',n+1,(c+1,25),(c+1,37),[r],[q]⟩,⟨by show 0+1≤_;omega,by show _≤n+1;omega,hu',i4.step (by have:=hlo (by omega);omega) (by have:=htlo (by omega);omega),fun _=>⟨by show h.clk≤c+1;omega,by show c+1 < n+1;omega,by show h.clk≤c+1;omega,by show c+1 < n+1;omega,fun e=>by cases e⟩⟩,by show f.loads.length - (0+1) < f.loads.length - 0;omega,(by repeat' (first|exact trivial|refine And.intro ?_ ?_|rfl|(simp (disch:=omega) only[go_sem,if_yes,if_no,↓reduceIte,reduceAdd,reduceMul,reduceEqDiff,Nat.reduceBEq,reduceLeDiff];rfl)|(simp (disch:=omega) only[go_sem,if_yes,if_no,↓reduceIte,reduceAdd,reduceMul,reduceEqDiff,Nat.reduceBEq,reduceLeDiff]))),(by repeat' (first|exact trivial|refine And.intro ?_ ?_|rfl|(simp (disch:=omega) only[go_sem,if_yes,if_no,↓reduceIte,reduceAdd,reduceMul,reduceEqDiff,Nat.reduceBEq,reduceLeDiff];rfl)|(simp (disch:=omega) only[go_sem,if_yes,if_no,↓reduceIte,reduceAdd,reduceMul,reduceEqDiff,Nat.reduceBEq,reduceLeDiff]))),rfl,by rw [TrS.hp,if_neg (Nat.succ_ne_zero _)];exact hold7 (Nat.le_refl _) (fun e=>by rw [← e] at hb;exact absurd hb (by show ¬ c+1 < h.clk;omega)) (fun e=>by rw [← e] at hb;exact absurd hb (by show ¬ c+1 < h.clk;omega)) (fun e=>by cases e) rfl rfl⟩
    · simp (disch:=omega) only[AEnd,Tryd.results28,aresK,fin,go_sem,↓reduceIte,reduceEqDiff,reduceAdd,reduceLeDiff,if_yes,if_no,implies_true,true_and,and_true,List.reverse_cons,List.reverse_nil]
      have e0:f.loads=[]:=List.length_eq_zero_iff.1 (by omega)
      refine ⟨fun b' _ h2=>if_neg h2,⟨_,rfl,i3⟩,.inl ⟨tr [] [],VLe.agg (by simp only[VLes];exact ⟨_,_,rfl,VLe.nils 1,_,_,rfl,VLe.nils 1,rfl⟩) rfl,[],[],rfl,?_⟩⟩
      rw [e0];exact TrUp.done ⟨rfl,rfl,fun j hj=>absurd hj (Nat.not_lt_zero _)⟩
  · obtain ⟨g1,g2,g3,g4,g5⟩:=i5 (by omega)
    have e1:TrS.s1 ⟨i,x0,t,b1,b2,ks,ts⟩=.slc b1 1 0 i:=if_neg e
    have e1':TrS.s2 ⟨i,x0,t,b1,b2,ks,ts⟩=.slc b2 1 0 i:=if_neg e
    have e2:TrS.hp h b ⟨i,x0,t,b1,b2,ks,ts⟩=(((h.tick t).put b1 (some ⟨1,ks.map iv⟩)).put b2 (some ⟨1,ts.map iv⟩)).put b (dr x0):=if_neg e
    rw [e2] at hc
    simp only[go_sem] at hc
    have n1:¬ b1=b:=fun e=>by rw [e] at g1;omega
    have n1':¬ b=b1:=fun e=>n1 e.symm
    have n2:¬ b2=b:=fun e=>by rw [e] at g3;omega
    have n2':¬ b=b2:=fun e=>n2 e.symm
    have n3:¬ b2=b1:=fun e=>g5 e.symm
    have n5:¬ b1=(c+1,25):=fun e=>by rw [e] at g2;exact absurd g2 (by show ¬ c+1 < t;omega)
    have n7:¬ b2=(c+1,25):=fun e=>by rw [e] at g4;exact absurd g4 (by show ¬ c+1 < t;omega)
    have l1:=i4.1
    have l2:=i4.2.1
    simp only[e1,e1',e2,go_sem]
    repeat' (first|refine st_seq_reg rfl (by first|(simp only[go_sem,big,g5,n1,n1',n2,n2',n3,n5,n7,length_map,l1,l2];rfl)|rfl) (by first|(simp only[go_sem,big,g5,n1,n1',n2,n2',n3,n5,n7,length_map,l1,l2];rfl)|rfl) ?_|refine st_reg rfl (by first|(simp only[go_sem,big,g5,n1,n1',n2,n2',n3,n5,n7,length_map,l1,l2];rfl)|rfl) (by first|(simp only[go_sem,big,g5,n1,n1',n2,n2',n3,n5,n7,length_map,l1,l2];rfl)|rfl) ?_|refine st_draw rfl (by first|(simp only[go_sem,big,g5,n1,n1',n2,n2',n3,n5,n7,length_map,l1,l2];rfl)|rfl) (by first|(simp only[go_sem,big,g5,n1,n1',n2,n2',n3,n5,n7,length_map,l1,l2];rfl)|rfl) ?_|refine st_op ?_|refine st_det rfl (by simp (disch:=omega) only[go_sem,wr_i64,if_yes,if_no,↓reduceIte,reduceAdd,reduceMul,reduceEqDiff,Nat.reduceBEq,reduceLeDiff,big,g5,n1,n1',n2,n2',n3,n5,n7,length_map,l1,l2];rfl) ?_|refine st_dop rfl ?_|refine st_store (by simp (disch:=omega) only[go_sem,wr_i64,if_yes,if_no,↓reduceIte,reduceAdd,reduceMul,reduceEqDiff,Nat.reduceBEq,reduceLeDiff,big,g5,n1,n1',n2,n2',n3,n5,n7,length_map,l1,l2];rfl) ?_|refine st_append (by simp (disch:=omega) only[go_sem,wr_i64,if_yes,if_no,↓reduceIte,reduceAdd,reduceMul,reduceEqDiff,Nat.reduceBEq,reduceLeDiff,big,g5,n1,n1',n2,n2',n3,n5,n7,length_map,l1,l2];rfl) ?_|(refine st_drum (by first|(simp (disch:=omega) only[go_sem,big,g5,n1,n1',n2,n2',n3,n5,n7,length_map,l1,l2];rfl)|rfl) rfl (c73 b (ld f.loads i).lo (ld f.loads i).hi (by have:=hlo (by omega);omega) (by have:=hlo (by omega);omega)) (by first|(simp (disch:=omega) only[go_sem,big,g5,n1,n1',n2,n2',n3,n5,n7,length_map,l1,l2];rfl)|rfl|exact put_same _ _ _) (by assumption) (by first|(simp only[go_sem,big,g5,n1,n1',n2,n2',n3,n5,n7,length_map,l1,l2];rfl)|rfl) (by intro x' n;first|(simp (disch:=omega) only[go_sem];rfl)|rfl) ?_;rintro v x' n hu' ⟨r,rfl,hr⟩ hn)|(refine st_drum (by first|(simp (disch:=omega) only[go_sem,big,g5,n1,n1',n2,n2',n3,n5,n7,length_map,l1,l2];rfl)|rfl) rfl (c73 b (ld f.loads i).tlo (ld f.loads i).thi (by have:=htlo (by omega);omega) (by have:=htlo (by omega);omega)) (by first|(simp (disch:=omega) only[go_sem,big,g5,n1,n1',n2,n2',n3,n5,n7,length_map,l1,l2];rfl)|rfl|exact put_same _ _ _) (by assumption) (by first|(simp only[go_sem,big,g5,n1,n1',n2,n2',n3,n5,n7,length_map,l1,l2];rfl)|rfl) (by intro x' n;first|(simp (disch:=omega) only[go_sem];rfl)|rfl) ?_;rintro v x' n hu' ⟨q,rfl,hq⟩ hn)|(refine st_condS rfl ?_ ?_ <;> intro hg <;> (try simp only[decide_eq_true_eq,decide_eq_false_iff_not,Bool.not_eq_true',Bool.not_eq_false'] at hg))|refine st_nil ?_|refine st_dnil ?_|refine st_tN ?_|refine st_seq ?_|refine st_block ?_|refine st_skip ?_|refine st_exit ?_|refine st_ret ?_|refine st_tE ?_|refine st_bN ?_|refine st_bH ?_)
    · refine ⟨⟨i+1,x',n+1,(c+1,25),(c+1,37),ks ++ [r],ts ++ [q]⟩,⟨by show i+1≤_;omega,by show _≤n+1;omega,hu',i4.step (by have:=hlo (by omega);omega) (by have:=htlo (by omega);omega),fun _=>⟨by show h.clk≤c+1;omega,by show c+1 < n+1;omega,by show h.clk≤c+1;omega,by show c+1 < n+1;omega,fun e=>by cases e⟩⟩,by show f.loads.length - (i+1) < f.loads.length - i;omega,(by repeat' (first|exact trivial|refine And.intro ?_ ?_|rfl|(simp (disch:=omega) only[go_sem,if_yes,if_no,↓reduceIte,reduceAdd,reduceMul,reduceEqDiff,Nat.reduceBEq,reduceLeDiff];rfl)|(simp (disch:=omega) only[go_sem,if_yes,if_no,↓reduceIte,reduceAdd,reduceMul,reduceEqDiff,Nat.reduceBEq,reduceLeDiff]))),(by repeat' (first|exact trivial|refine And.intro ?_ ?_|rfl|(simp (disch:=omega) only[go_sem,if_yes,if_no,↓reduceIte,reduceAdd,reduceMul,reduceEqDiff,Nat.reduceBEq,reduceLeDiff];rfl)|(simp (disch:=omega) only[go_sem,if_yes,if_no,↓reduceIte,reduceAdd,reduceMul,reduceEqDiff,Nat.reduceBEq,reduceLeDiff]))),rfl,by rw [TrS.hp,if_neg (Nat.succ_ne_zero _)];exact hold8 (Nat.le_refl _) (fun e=>by rw [← e] at hb;exact absurd hb (by show ¬ c+1 < h.clk;omega)) (fun e=>by rw [← e] at hb;exact absurd hb (by show ¬ c+1 < h.clk;omega)) (fun e=>by cases e) (fun e=>by rw [← e] at g4;exact absurd g4 (by show ¬ c+1 < t;omega)) n2 (hno _ g1) (hno _ g3) (by rw [List.map_append,List.take_of_length_le (by simp [l1])];rfl) (by rw [List.map_append,List.take_of_length_le (by simp [l2])];rfl)⟩
    · simp (disch:=omega) only[AEnd,Tryd.results28,aresK,fin,go_sem,↓reduceIte,reduceEqDiff,reduceAdd,reduceLeDiff,if_yes,if_no,implies_true,true_and,and_true,List.reverse_cons,List.reverse_nil]
      obtain rfl:i=f.loads.length:=by omega
      refine ⟨fun b' hb' hne=>?_,⟨_,rfl,i3⟩,.inr ⟨b1,⟨1,ks.map iv⟩,b2,⟨1,ts.map iv⟩,g1,g3,n3,?_,?_,ks,ts,?_,i4.done⟩⟩
      · rw [if_neg hne,if_neg (fun e=>by rw [e] at hb';omega),if_neg (fun e=>by rw [e] at hb';omega)]
      · rw [if_neg n1,if_neg g5,if_pos rfl]
      · rw [if_neg n2,if_pos rfl]
      · simp [frz,frzs,n3,frz_iv,List.take_of_length_le,l1,l2]
end Go.Proofs.YtaijkalhkgjakaaDoor

namespace Go.Proofs.YtaijkalhkgjakaaDoor
open Go.Av
set_option maxHeartbeats 8000000
theorem getD_map {l:List Ld} {i:Nat} (g:Ld→Int) (h:i < l.length):(l.map g).getD i 0=g (ld l i):=by
  rw [List.getD_eq_getElem?_getD,List.getElem?_map,List.getElem?_eq_getElem h];unfold ld;rw [List.getD_eq_getElem?_getD,List.getElem?_eq_getElem h];rfl
theorem carLo {arm:Int→Int} {s:Int} {l:List Ld}:∀ i,i≤l.length→carN arm s l (l.map (·.lo)) i=wl arm s (l.take i):=by
  intro i
  induction i with
  | zero=>intro _;simp [carN,wl]
  | succ i ih =>
    intro h
    unfold carN
    rw [ih (by omega),wl_step (by omega),getD_map _ (by omega)]
theorem carHi {arm:Int→Int} {s:Int} {l:List Ld}:∀ i,i≤l.length→carN arm s l (l.map (·.hi)) i=wh arm s (l.take i):=by
  intro i
  induction i with
  | zero=>intro _;simp [carN,wh]
  | succ i ih =>
    intro h
    unfold carN
    rw [ih (by omega),wh_step (by omega),getD_map _ (by omega)]
theorem sumHi {s:Int} {l:List Ld}:∀ i,i≤l.length→sumN s (l.map (·.hi)) i=wh oneA s (l.take i):=by
  intro i
  induction i with
  | zero=>intro _;simp [sumN,wh]
  | succ i ih =>
    intro h
    unfold sumN
    rw [ih (by omega),wh_step (by omega),getD_map _ (by omega)]
    unfold oneA;omega
theorem tallHi {s:Int} {l:List Ld}:∀ i,i≤l.length→tallN (l.map (·.thi)) s i=th s (l.take i):=by
  intro i
  induction i with
  | zero=>intro _;simp [tallN,th]
  | succ i ih =>
    intro h
    unfold tallN
    rw [ih (by omega),th_step (by omega),getD_map _ (by omega)]
theorem down_spec (n d:Int) (hd:1≤d):dnI n d * d≤n∧n < dnI n d * d+d:=by
  have h1:=Int.tmod_add_mul_tdiv n d
  have e1:d * n.tdiv d=n.tdiv d * d:=Int.mul_comm _ _
  have h2:n.tmod d < d:=Int.tmod_lt_of_pos n (by omega)
  have h3:-d < n.tmod d:=Int.lt_tmod_of_pos n (by omega)
  unfold dnI
  split
  · rename_i e
    have:(n.tdiv d - 1) * d=n.tdiv d * d - d:=by rw [Int.sub_mul,Int.one_mul]
    omega
  · omega
theorem tr_car {arm:Int→Int} {s:Int} {l:List Ld} {ks ts:List Int} (h:TrIn l ks ts) (ha:∀ x ∈ l,0≤arm x.at_):∀ i,i≤l.length→wl arm s (l.take i)≤carN arm s l ks i∧carN arm s l ks i≤wh arm s (l.take i):=by
  intro i
  induction i with
  | zero=>intro _;simp [carN,wl,wh]
  | succ i ih =>
    intro hi
    have h1:=ih (by omega)
    have hk:=h.k i (by omega)
    have hx:=ha _ (ld_mem (l:=l) (i:=i) (by omega))
    have m1:=Int.mul_le_mul_of_nonneg_right hk.1 hx
    have m2:=Int.mul_le_mul_of_nonneg_right hk.2 hx
    rw [wl_step (by omega),wh_step (by omega)]
    show _≤carN arm s l ks i+ks.getD i 0 * arm (ld l i).at_∧carN arm s l ks i+ks.getD i 0 * arm (ld l i).at_≤_
    omega
theorem sum_car (s:Int) (l:List Ld) (ks:List Int):∀ i,sumN s ks i=carN oneA s l ks i:=by
  intro i
  induction i with
  | zero=>rfl
  | succ i ih =>
    show sumN s ks i+ks.getD i 0=carN oneA s l ks i+ks.getD i 0 * 1
    rw [ih,Int.mul_one]
theorem tr_tall {s:Int} {l:List Ld} {ks ts:List Int} (h:TrIn l ks ts):∀ i,i≤l.length→tl s (l.take i)≤tallN ts s i∧tallN ts s i≤th s (l.take i):=by
  intro i
  induction i with
  | zero=>intro _;simp [tallN,Go.Proofs.YtaijkalhkgjakaaDoor.tl,th]
  | succ i ih =>
    intro hi
    have h1:=ih (by omega)
    have hk:=h.t i (by omega)
    rw [tl_step (by omega),th_step (by omega)]
    show _≤max (tallN ts s i) (ts.getD i 0)∧max (tallN ts s i) (ts.getD i 0)≤_
    omega
def frT (f:Fl) (ks:List Int):Int:=carN (frontA f) (f.kilos * (f.rear - f.mid)) f.loads ks ks.length
def reT (f:Fl) (ks:List Int):Int:=carN (rearA f) (f.kilos * (f.mid - f.front)) f.loads ks ks.length
def toT (f:Fl) (ks:List Int):Int:=sumN f.kilos ks ks.length
def taT (f:Fl) (ts:List Int):Int:=tallN ts f.high ts.length
structure TrF (f:Fl) (ks ts:List Int):Prop where
  tot:wL oneA f 0 0≤toT f ks∧toT f ks≤wH oneA f 0 0
  fr:wL (frontA f) f 0 0≤frT f ks∧frT f ks≤wH (frontA f) f 0 0
  re:wL (rearA f) f 0 0≤reT f ks∧reT f ks≤wH (rearA f) f 0 0
  ta:Go.Proofs.YtaijkalhkgjakaaDoor.tl f.high f.loads≤taT f ts∧taT f ts≤th f.high f.loads
theorem wL_eq (arm:Int→Int) (f:Fl):wL arm f 0 0=wl arm (f.kilos * arm f.mid) f.loads:=by
  show wl arm (f.kilos * arm f.mid+0 * arm 0) f.loads=_
  rw [Int.zero_mul,Int.add_zero]
theorem wH_eq (arm:Int→Int) (f:Fl):wH arm f 0 0=wh arm (f.kilos * arm f.mid) f.loads:=by
  show wh arm (f.kilos * arm f.mid+0 * arm 0) f.loads=_
  rw [Int.zero_mul,Int.add_zero]
theorem trF {f:Fl} {ks ts:List Int} (hf:FlOk f) (hx:∀ x ∈ f.loads,LdIn f x) (h:TrIn f.loads ks ts):TrF f ks ts:=by
  have w:=fun arm s ha=>tr_car (arm:=arm) (s:=s) h ha f.loads.length (Nat.le_refl _)
  have t:=tr_tall (s:=f.high) h f.loads.length (Nat.le_refl _)
  simp only[List.take_length] at w t
  have hax:=hf.axles
  refine ⟨?_,?_,?_,?_⟩
  · rw [wL_eq,wH_eq]
    unfold toT
    rw [sum_car _ f.loads,h.kl]
    have:=w oneA f.kilos (fun x _=>by unfold oneA;omega)
    rw [show f.kilos * oneA f.mid=f.kilos from Int.mul_one _]
    exact this
  · rw [wL_eq,wH_eq]
    unfold frT
    rw [h.kl]
    exact w (frontA f) _ (fun x hq=>by have:=(hx x hq).at_;unfold frontA;omega)
  · rw [wL_eq,wH_eq]
    unfold reT
    rw [h.kl]
    exact w (rearA f) _ (fun x hq=>by have:=(hx x hq).at_;unfold rearA;omega)
  · unfold taT
    rw [h.tl]
    exact t
def Agr (v:Int) (p:Prop):Prop:=v=3 ∨ v=1∧p ∨ v=2∧¬ p
def goesT (f:Fl) (x:Hu) (ks ts:List Int):Prop :=
  if x.kind=1 then turnsP f x (max f.turn (uI (2 * x.a+f.wid) 2)) else if x.kind=2 then taT f ts≤x.a
  else toT f ks≤x.a∧frT f ks≤x.b * (f.rear - f.front)∧reT f ks≤x.b * (f.rear - f.front)
instance (f:Fl) (x:Hu) (ks ts:List Int):Decidable (goesT f x ks ts):=by unfold goesT;infer_instance
theorem upTwo {n:Int}:uI n 2=(n+1) / 2:=by
  have h:dnI (-n) 2 * 2≤-n∧-n < dnI (-n) 2 * 2+2:=down_spec (-n) 2 (by omega)
  show -(dnI (-n) 2)=_
  omega
theorem turns_bend {f:Fl} {x:Hu} (hf:FlOk f):turnsP f x (max f.turn (uI (2 * x.a+f.wid) 2)) ↔ bendP f x:=by
  rw [upTwo]
  unfold turnsP bendP bR
  constructor
  · exact fun h=>h.2.2
  · exact fun h=>⟨by omega,by omega,h⟩
theorem trStands {f:Fl} {ks ts:List Int} (h:TrF f ks ts):Agr (sV f 0 0) (0≤frT f ks∧0≤reT f ks):=by
  have h1:=h.fr;have h2:=h.re
  have e3:sP wL f 0 0 ↔ (0≤wL (frontA f) f 0 0∧0≤wL (rearA f) f 0 0):=Iff.rfl
  have e4:sP wH f 0 0 ↔ (0≤wH (frontA f) f 0 0∧0≤wH (rearA f) f 0 0):=Iff.rfl
  unfold Agr sV
  simp only[e3,e4]
  split
  · right;left;exact ⟨rfl,by omega⟩
  · split
    · left;rfl
    · right;right;exact ⟨rfl,by omega⟩
theorem trGoes {f:Fl} {ks ts:List Int} (h:TrF f ks ts) (hf:FlOk f) (x:Hu):Agr (pV f 0 0 x) (goesT f x ks ts):=by
  have h1:=h.fr;have h2:=h.re;have h3:=h.tot;have h4:=h.ta
  have e3:brP wL f 0 0 x ↔ (wL oneA f 0 0≤x.a∧max (wL (frontA f) f 0 0) (wL (rearA f) f 0 0)≤x.b * (f.rear - f.front)):=Iff.rfl
  have e4:brP wH f 0 0 x ↔ (wH oneA f 0 0≤x.a∧max (wH (frontA f) f 0 0) (wH (rearA f) f 0 0)≤x.b * (f.rear - f.front)):=Iff.rfl
  have e5:=turns_bend (x:=x) hf
  unfold Agr pV goesT
  simp only[e3,e4,e5]
  generalize x.b * (f.rear - f.front)=q at *
  by_cases k1:x.kind=1
  · simp only[k1,if_true]
    split
    · right;left;exact ⟨rfl,by assumption⟩
    · right;right;exact ⟨rfl,by assumption⟩
  · simp only[if_neg k1]
    by_cases k2:x.kind=2
    · simp only[k2,if_true]
      split
      · right;left;exact ⟨rfl,by omega⟩
      · split
        · left;rfl
        · right;right;exact ⟨rfl,by omega⟩
    · simp only[if_neg k2]
      split
      · right;left;exact ⟨rfl,by omega⟩
      · split
        · left;rfl
        · right;right;exact ⟨rfl,by omega⟩
theorem lo_in {f:Fl} (hx:∀ x ∈ f.loads,LdIn f x):TrIn f.loads (f.loads.map (·.lo)) (f.loads.map (·.tlo)) :=
  ⟨by simp,by simp,fun i hi=>by rw [getD_map _ hi];have:=(hx _ (ld_mem hi)).kilos;omega,fun i hi=>by rw [getD_map _ hi];have:=(hx _ (ld_mem hi)).top;omega⟩
theorem hi_in {f:Fl} (hx:∀ x ∈ f.loads,LdIn f x):TrIn f.loads (f.loads.map (·.hi)) (f.loads.map (·.thi)) :=
  ⟨by simp,by simp,fun i hi=>by rw [getD_map _ hi];have:=(hx _ (ld_mem hi)).kilos;omega,fun i hi=>by rw [getD_map _ hi];have:=(hx _ (ld_mem hi)).top;omega⟩
theorem lo_fr (f:Fl):frT f (f.loads.map (·.lo))=wL (frontA f) f 0 0:=by
  rw [wL_eq];unfold frT;rw [carLo _ (by simp),length_map,List.take_length];rfl
theorem lo_re (f:Fl):reT f (f.loads.map (·.lo))=wL (rearA f) f 0 0:=by
  rw [wL_eq];unfold reT;rw [carLo _ (by simp),length_map,List.take_length];rfl
theorem hi_fr (f:Fl):frT f (f.loads.map (·.hi))=wH (frontA f) f 0 0:=by
  rw [wH_eq];unfold frT;rw [carHi _ (by simp),length_map,List.take_length];rfl
theorem hi_re (f:Fl):reT f (f.loads.map (·.hi))=wH (rearA f) f 0 0:=by
  rw [wH_eq];unfold reT;rw [carHi _ (by simp),length_map,List.take_length];rfl
theorem hi_to (f:Fl):toT f (f.loads.map (·.hi))=wH oneA f 0 0:=by
  rw [wH_eq];unfold toT;rw [sumHi _ (by simp),length_map,List.take_length];rw [show f.kilos * oneA f.mid=f.kilos from Int.mul_one _]
theorem hi_ta (f:Fl):taT f (f.loads.map (·.thi))=th f.high f.loads:=by
  unfold taT;rw [tallHi _ (by simp),length_map,List.take_length]
def okT (f:Fl) (r:List Hu) (ks ts:List Int):Bool:=decide (0≤frT f ks∧0≤reT f ks) && (List.range r.length).all fun j=>decide (goesT f (hu r j) ks ts)
theorem fit_in {f:Fl} {r:List Hu} {ks ts:List Int} (hc:chkE f=0) (h:TrIn f.loads ks ts) (h1:staI f=1) (h2:allP f r=true):okT f r ks ts=true:=by
  obtain ⟨_,hx⟩:=chkE_loads hc
  have hf:=chkOk hc
  have hF:=trF hf hx h
  have k1:=trStands hF
  have e1:sV f 0 0=1:=by unfold staI at h1;rw [if_pos hc] at h1;exact h1
  unfold okT
  rw [Bool.and_eq_true]
  refine ⟨decide_eq_true ?_,List.all_eq_true.2 fun j hj=>decide_eq_true ?_⟩
  · rcases k1 with k|k|k
    · omega
    · exact k.2
    · omega
  · have k2:=trGoes hF hf (hu r j)
    have e2:pV f 0 0 (hu r j)=1:=by
      unfold allP at h2
      exact of_decide_eq_true (List.all_eq_true.1 h2 j hj)
    rcases k2 with k|k|k
    · omega
    · exact k.2
    · omega
theorem fit_of {f:Fl} {r:List Hu} (hc:chkE f=0) (h1:okT f r (f.loads.map (·.lo)) (f.loads.map (·.tlo))=true) (h2:okT f r (f.loads.map (·.hi)) (f.loads.map (·.thi))=true):staI f=1∧allP f r=true:=by
  have hf:=chkOk hc
  unfold okT at h1 h2
  rw [Bool.and_eq_true] at h1 h2
  have a1:=of_decide_eq_true h1.1
  rw [lo_fr,lo_re] at a1
  refine ⟨?_,?_⟩
  · unfold staI sV;rw [if_pos hc,if_pos (show sP wL f 0 0 from a1)]
  · unfold allP
    refine List.all_eq_true.2 fun j hj=>decide_eq_true ?_
    have a2:=of_decide_eq_true (List.all_eq_true.1 h2.2 j hj)
    have e3:brP wH f 0 0 (hu r j) ↔ (wH oneA f 0 0≤(hu r j).a∧max (wH (frontA f) f 0 0) (wH (rearA f) f 0 0)≤(hu r j).b * (f.rear - f.front)):=Iff.rfl
    have e5:=turns_bend (x:=hu r j) hf
    unfold goesT at a2
    rw [hi_fr,hi_re,hi_to,hi_ta] at a2
    unfold pV
    simp only[e3]
    rw [e5] at a2
    generalize (hu r j).b * (f.rear - f.front)=q at *
    by_cases k1:(hu r j).kind=1
    · simp only[k1,if_true] at a2 ⊢
      rw [if_pos a2]
    · simp only[if_neg k1] at a2 ⊢
      by_cases k2:(hu r j).kind=2
      · simp only[k2,if_true] at a2 ⊢
        rw [if_pos a2]
      · simp only[if_neg k2] at a2 ⊢
        rw [if_pos (by omega)]
end Go.Proofs.YtaijkalhkgjakaaDoor
