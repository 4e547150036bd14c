/- Contracts of functions that the claim reaches: what each call gives, told in our own logic. Conditions: those of each theorem. -/
import Derived.Test.YtaijkalhkgjakaaDoorG28
import Derived.Test.YtaijkalhkgjakaaDoorP6
import Derived.Test.YtaijkalhkgjakaaDoorBaseD
open Nat (reduceAdd reduceMul reduceEqDiff reduceLeDiff)
open List (length_map)
set_option linter.all false
set_option linter.unusedSimpArgs false
set_option linter.unusedVariables false
namespace Go.Proofs.YtaijkalhkgjakaaDoor
open Go.Av
attribute [local irreducible] thenA blockA awp awpOps awpD awp1
set_option maxHeartbeats 8000000
set_option maxRecDepth 20000
theorem cells_one' {v:AV} (h:v.cell=true):v.cells=[v]:=by cases v <;> first|rfl|simp [AV.cell] at h
theorem sWk (l:List Wk):Still (.lst 3 (l.map Wk.row)):=Still.lst fun r hr x hx=>by
  obtain ⟨y,_,rfl⟩:=List.mem_map.1 hr
  simp only[Wk.row,List.mem_cons,List.not_mem_nil,or_false] at hx
  rcases hx with rfl|rfl|rfl <;> exact fun _ _=>rfl
theorem c14 (b:Nat × Nat) (W J D:Int) (hW:1≤W∧W≤4) (hJ:0≤J∧J≤7) (hD:1≤D∧D≤30):Drum Tryd.prog 14 [.ptr b 0 0,.int .i64 W,.int .i64 J,.int .i64 D] b (fun v=>∃ S,v=S.av∧ShGood S W J D):=by
  refine Drum.of Tryd.call14 fun h x hx hu hold=>?_
  have nbb:∀ {b1:Nat × Nat},h.clk≤b1.1→¬ b1=b:=fun hb e=>by rw [e] at hb;omega
  refine ACalls.ofS tab Tryd.call14 Tryd.func14 rfl (fi:=⟨56,[8,9],[31,52,1000010],none,[(5,[0,1,0,4,12,0,44,108,0,364,876,2044,4092,8191,16383,32767],[(0,false),(1,true),(2,false),(5,false),(8,false),(3,false),(4,false),(6,false),(7,false),(9,false),(10,false),(11,false),(12,false),(13,false),(14,false),(15,false)]),(9,[0,1,0,4,0,28,0,0,252,508,1020,2047,4095,8191],[(0,false),(1,true),(2,false),(4,false),(6,false),(7,false),(3,false),(5,false),(8,false),(9,false),(10,false),(11,false),(12,false),(13,false)])]⟩) rfl rfl (Nat.le_of_ble_eq_true rfl) ?_
  unfold startA
  refine asem_seq (fi:=⟨56,[8,9],[31,52,1000010],none,[(5,[0,1,0,4,12,0,44,108,0,364,876,2044,4092,8191,16383,32767],[(0,false),(1,true),(2,false),(5,false),(8,false),(3,false),(4,false),(6,false),(7,false),(9,false),(10,false),(11,false),(12,false),(13,false),(14,false),(15,false)]),(9,[0,1,0,4,0,28,0,0,252,508,1020,2047,4095,8191],[(0,false),(1,true),(2,false),(4,false),(6,false),(7,false),(3,false),(5,false),(8,false),(9,false),(10,false),(11,false),(12,false),(13,false)])]⟩) tab mixed (by decide) ?_
  repeat' (first|refine st_reg rfl (by first|(simp only[go_sem];rfl)|rfl) (by first|(simp only[go_sem];rfl)|rfl) ?_|refine st_op ?_|refine st_loc rfl (by simp (disch:=omega) only[go_sem,wr_i64,if_yes,if_no,↓reduceIte,reduceAdd,reduceMul,reduceEqDiff,Nat.reduceBEq,reduceLeDiff];rfl) ?_|refine st_nil ?_|refine st_tN ?_)
  refine asem_seq (fi:=⟨56,[8,9],[31,52,1000010],none,[(5,[0,1,0,4,12,0,44,108,0,364,876,2044,4092,8191,16383,32767],[(0,false),(1,true),(2,false),(5,false),(8,false),(3,false),(4,false),(6,false),(7,false),(9,false),(10,false),(11,false),(12,false),(13,false),(14,false),(15,false)]),(9,[0,1,0,4,0,28,0,0,252,508,1020,2047,4095,8191],[(0,false),(1,true),(2,false),(4,false),(6,false),(7,false),(3,false),(5,false),(8,false),(9,false),(10,false),(11,false),(12,false),(13,false)])]⟩) tab mixed (by decide) ?_
  repeat' (first|refine st_reg rfl (by first|(simp only[go_sem];rfl)|rfl) (by first|(simp only[go_sem];rfl)|rfl) ?_|refine st_op ?_|refine st_loc rfl (by simp (disch:=omega) only[go_sem,wr_i64,if_yes,if_no,↓reduceIte,reduceAdd,reduceMul,reduceEqDiff,Nat.reduceBEq,reduceLeDiff];rfl) ?_|refine st_nil ?_|refine st_tN ?_)
  refine asem_seq (fi:=⟨56,[8,9],[31,52,1000010],none,[(5,[0,1,0,4,12,0,44,108,0,364,876,2044,4092,8191,16383,32767],[(0,false),(1,true),(2,false),(5,false),(8,false),(3,false),(4,false),(6,false),(7,false),(9,false),(10,false),(11,false),(12,false),(13,false),(14,false),(15,false)]),(9,[0,1,0,4,0,28,0,0,252,508,1020,2047,4095,8191],[(0,false),(1,true),(2,false),(4,false),(6,false),(7,false),(3,false),(5,false),(8,false),(9,false),(10,false),(11,false),(12,false),(13,false)])]⟩) tab mixed (by decide) ?_
  repeat' (first|refine st_seq_reg rfl (by first|(simp only[go_sem,hx];rfl)|rfl) (by first|(simp only[go_sem,hx];rfl)|rfl) ?_|refine st_op ?_|refine st_det rfl (by simp (disch:=omega) only[go_sem,wr_i64,if_yes,if_no,↓reduceIte,reduceAdd,reduceMul,reduceEqDiff,Nat.reduceBEq,reduceLeDiff,hx];rfl) ?_|(refine st_drum (by first|(simp (disch:=omega) only[go_sem,hx];rfl)|rfl) rfl (c40' b 1 W (by omega) (by omega)) (by first|(simp (disch:=omega) only[go_sem,hx];rfl)|rfl|exact put_same _ _ _) (by assumption) (by first|(simp only[go_sem,hx];rfl)|rfl) (by intro x' n;first|(simp (disch:=omega) only[go_sem];rfl)|rfl) ?_;rintro v x' n hu' ⟨n,rfl,hn⟩ hn)|refine st_nil ?_|refine st_block ?_)
  rename_i N1 hN1
  obtain ⟨n0,rfl⟩:∃ n0:Nat,n=n0:=⟨n.toNat,by omega⟩
  refine st_loopH (α:=ShS) tab mixed [9] [_] (by repeat (first|exact trivial|refine ⟨rfl,?_⟩)) [8] [_] (by repeat (first|exact trivial|refine ⟨rfl,?_⟩)) (fun a=>[(10,.int .i64 (a.i:Int))]) [(0,_),(1,_),(2,_),(3,_),(8,_),(9,_)] (fun a=>[[a.v,.nils]]) [_] (fun a=>a.g) (fun a=>Gd h b a.x a.g∧h.clk+2≤a.g.clk∧0≤a.i∧(a.ws.length:Int)+a.i=n0∧SlA h.clk a.g a.v 3 (a.ws.map Wk.row)) (fun a=>a.i.toNat) (by decide) ⟨n0,x',.nils,[],_⟩ (by refine ⟨⟨by assumption,by simp only[go_sem,↓reduceIte],fun b' _ h2=>by simp only[go_sem,h2,↓reduceIte],rfl,by simp only[go_sem];omega⟩,by simp only[go_sem];omega,by show (0:Int)≤n0;omega,by simp,.inl ⟨rfl,rfl⟩⟩) (by (try simp only[go_sem]);repeat' (first|exact trivial|refine And.intro ?_ ?_|rfl|(simp (disch:=omega) only[go_sem,if_yes,if_no,↓reduceIte,reduceAdd,reduceMul,reduceEqDiff,Nat.reduceBEq,reduceLeDiff];rfl)|(simp (disch:=omega) only[go_sem,if_yes,if_no,↓reduceIte,reduceAdd,reduceMul,reduceEqDiff,Nat.reduceBEq,reduceLeDiff]))) (by (try simp only[go_sem]);repeat' (first|exact trivial|refine And.intro ?_ ?_|rfl|(simp (disch:=omega) only[go_sem,if_yes,if_no,↓reduceIte,reduceAdd,reduceMul,reduceEqDiff,Nat.reduceBEq,reduceLeDiff];rfl)|(simp (disch:=omega) only[go_sem,if_yes,if_no,↓reduceIte,reduceAdd,reduceMul,reduceEqDiff,Nat.reduceBEq,reduceLeDiff]))) (HOld.refl _) ?_
  rintro ⟨i,x1,v,ws,g⟩ c ⟨hG,hgc,i0,hwl,hS⟩ hc
  dsimp only at hG hgc i0 hwl hS hc
  have hu1:=hG.u
  have hd1:=hG.d
  simp only[go_sem]
  have hnc:=hS.noL
  by_cases hi:0 < i
  case pos =>
    repeat' (first|refine st_seq_reg rfl (by first|(simp only[go_sem,hd1,hnc];rfl)|rfl) (by first|(simp only[go_sem,hd1,hnc];rfl)|rfl) ?_|refine st_draw rfl (by first|(simp only[go_sem,hd1,hnc];rfl)|rfl) (by first|(simp only[go_sem,hd1,hnc];rfl)|rfl) ?_|refine st_op ?_|refine st_det rfl (by simp (disch:=omega) only[go_sem,wr_i64,if_yes,if_no,↓reduceIte,reduceAdd,reduceMul,reduceEqDiff,Nat.reduceBEq,reduceLeDiff,hd1,hnc];rfl) ?_|refine st_dop rfl ?_|(refine st_drum (by first|(simp (disch:=omega) only[go_sem,hd1,hnc];rfl)|rfl) rfl (c38 b 3 (by decide)) (by first|(simp (disch:=omega) only[go_sem,hd1,hnc];rfl)|rfl|exact put_same _ _ _) (by assumption) (by first|(simp only[go_sem,hd1,hnc];rfl)|rfl) (by intro x' n;first|(simp (disch:=omega) only[go_sem];rfl)|rfl) ?_;rintro v x' n hu' ⟨r1,rfl⟩ hn)|(refine st_appS (by intro h id x y;simp only[go_sem];rfl) rfl (by simp only[go_sem,hd1,hnc];rfl) (by first|(simp only[go_sem,hd1,hnc];rfl)|rfl) (by decide) hS (fun b1 m e=>by simp only[go_sem,nbb (hS.lt e).1,↓reduceIte]) (by omega) (by simp only[length_map,List.length_cons,List.length_nil,big,hd1,hnc];omega) (by omega) (by omega) ?_;intro v' g' hA)|(refine st_condS rfl ?_ ?_ <;> intro hg <;> (try simp only[decide_eq_true_eq,decide_eq_false_iff_not,Bool.not_eq_true',Bool.not_eq_false'] at hg))|refine st_nil ?_|refine st_tN ?_|refine st_seq ?_|refine st_block ?_|refine st_skip ?_|refine st_exit ?_|refine st_tE ?_|refine st_bH ?_)
    all_goals try (exfalso;omega)
    have hnv:=hA.nol
    have hcl:=hA.sl.cell
    have hcv:=cells_one' hcl
    repeat' (first|refine st_reg rfl (by first|(simp only[go_sem,hnv,hcl,hcv];rfl)|rfl) (by first|(simp only[go_sem,hnv,hcl,hcv];rfl)|rfl) ?_|refine st_op ?_|refine st_det rfl (by simp (disch:=omega) only[go_sem,wr_i64,if_yes,if_no,↓reduceIte,reduceAdd,reduceMul,reduceEqDiff,Nat.reduceBEq,reduceLeDiff,hnv,hcl,hcv];rfl) ?_|refine st_store (by simp (disch:=omega) only[go_sem,wr_i64,if_yes,if_no,↓reduceIte,reduceAdd,reduceMul,reduceEqDiff,Nat.reduceBEq,reduceLeDiff,hnv,hcl,hcv];rfl) ?_|refine st_nil ?_|refine st_dnil ?_|refine st_tN ?_|refine st_bN ?_)
    refine ⟨⟨i - 1,x',v',ws ++ [⟨_,_,_⟩],_⟩,(by refine ⟨(hG.put (by assumption) (n:=n) (by omega)).app hold (Nat.le_refl _) hA (by simp only[go_sem];omega),by simp only[go_sem];omega,by show 0≤i - 1;omega,by simp;omega,by rw [List.map_append];exact hA.sl.to (fun _ _ _ _ _=>rfl) (by simp only[go_sem];omega)⟩),by show (i - 1).toNat < i.toNat;omega,(by repeat' (first|exact trivial|refine And.intro ?_ ?_|rfl|(simp (disch:=omega) only[go_sem,if_yes,if_no,↓reduceIte,reduceAdd,reduceMul,reduceEqDiff,Nat.reduceBEq,reduceLeDiff];rfl)|(simp (disch:=omega) only[go_sem,if_yes,if_no,↓reduceIte,reduceAdd,reduceMul,reduceEqDiff,Nat.reduceBEq,reduceLeDiff]))),(by repeat' (first|exact trivial|refine And.intro ?_ ?_|rfl|(simp (disch:=omega) only[go_sem,if_yes,if_no,↓reduceIte,reduceAdd,reduceMul,reduceEqDiff,Nat.reduceBEq,reduceLeDiff];rfl)|(simp (disch:=omega) only[go_sem,if_yes,if_no,↓reduceIte,reduceAdd,reduceMul,reduceEqDiff,Nat.reduceBEq,reduceLeDiff]))),rfl,HOld.refl _⟩
  obtain rfl:i=0:=by omega
  repeat' (first|refine st_seq_reg rfl (by first|(simp only[go_sem];rfl)|rfl) (by first|(simp only[go_sem];rfl)|rfl) ?_|refine st_op ?_|refine st_det rfl (by simp (disch:=omega) only[go_sem,wr_i64,if_yes,if_no,↓reduceIte,reduceAdd,reduceMul,reduceEqDiff,Nat.reduceBEq,reduceLeDiff];rfl) ?_|refine st_condF rfl ?_|refine st_nil ?_|refine st_tN ?_|refine st_seq ?_|refine st_exit ?_|refine st_tE ?_|refine st_bH ?_)
  all_goals try (exfalso;omega)
  refine ASem.cutA (h.clk+1,9) [] [.nils] v 3 (ws.map Wk.row) (by simp only[go_sem,↓reduceIte] <;> rfl) (hS.to (fun _ _ _ _ _=>rfl) (by simp only[go_sem];omega)) (by intro y hy;simp at hy;rcases hy with rfl;exact Still.nils) fun H1 h1a h1b h1c=>?_
  have hG1:Gd h b x1 H1:=hG.to hu1 (by rw [h1a b (fun m e=>by have:=(hS.lt e).1;omega)];exact hd1) (fun b' h1 _=>h1a b' (fun m e=>by have:=(hS.lt e).1;omega)) h1c (by rw [h1b];simp only[go_sem];omega)
  have hH1c:c+1≤H1.clk:=by rw [h1b];simp only[go_sem];omega
  have hd2:=hG1.d
  have hu2:=hG1.u
  refine asem_seq (fi:=⟨56,[8,9],[31,52,1000010],none,[(5,[0,1,0,4,12,0,44,108,0,364,876,2044,4092,8191,16383,32767],[(0,false),(1,true),(2,false),(5,false),(8,false),(3,false),(4,false),(6,false),(7,false),(9,false),(10,false),(11,false),(12,false),(13,false),(14,false),(15,false)]),(9,[0,1,0,4,0,28,0,0,252,508,1020,2047,4095,8191],[(0,false),(1,true),(2,false),(4,false),(6,false),(7,false),(3,false),(5,false),(8,false),(9,false),(10,false),(11,false),(12,false),(13,false)])]⟩) tab mixed (by decide) ?_
  repeat' (first|refine st_seq_reg rfl (by first|(simp only[go_sem,hd2];rfl)|rfl) (by first|(simp only[go_sem,hd2];rfl)|rfl) ?_|refine st_op ?_|refine st_det rfl (by simp (disch:=omega) only[go_sem,wr_i64,if_yes,if_no,↓reduceIte,reduceAdd,reduceMul,reduceEqDiff,Nat.reduceBEq,reduceLeDiff,hd2];rfl) ?_|(refine st_drum (by first|(simp (disch:=omega) only[go_sem,hd2];rfl)|rfl) rfl (c39' b (J+1) (by omega)) (by first|(simp (disch:=omega) only[go_sem,hd2];rfl)|rfl|exact put_same _ _ _) (by assumption) (by first|(simp only[go_sem,hd2];rfl)|rfl) (by intro x' n;first|(simp (disch:=omega) only[go_sem];rfl)|rfl) ?_;rintro v x' n hu' ⟨m,rfl,hm⟩ hn)|refine st_nil ?_|refine st_block ?_)
  rename_i N2
  obtain ⟨m0,rfl⟩:∃ m0:Nat,m=m0:=⟨m.toNat,by omega⟩
  have hH1g:h.clk≤H1.clk:=hG1.cl
  have hwn:1≤ws.length∧(ws.length:Int)≤W:=by omega
  refine st_loopH (α:=SjS) tab mixed [9] [_] (by repeat (first|exact trivial|refine ⟨rfl,?_⟩)) [8] [_] (by repeat (first|exact trivial|refine ⟨rfl,?_⟩)) (fun a=>[(11,.int .i64 (a.i:Int))]) [(0,_),(1,_),(2,_),(3,_),(8,_),(9,_)] (fun a=>[[.lst 3 (ws.map Wk.row),a.v]]) [_] (fun a=>a.g) (fun a=>Gd h b a.x a.g∧h.clk+2≤a.g.clk∧0≤a.i∧(a.js.length:Int)+a.i=m0∧SlA h.clk a.g a.v 3 (a.js.map Jb.row)∧∀ y ∈ a.js,0≤y.f∧y.f≤2∧1≤y.s∧y.s≤3∧1≤y.d∧y.d≤D) (fun a=>a.i.toNat) (by decide) ⟨m0,x',.nils,[],_⟩ (by refine ⟨hG1.put (by assumption) (n:=n) (by omega),by simp only[go_sem];omega,by show (0:Int)≤m0;omega,by simp,.inl ⟨rfl,rfl⟩,fun y hy=>by cases hy⟩) (by (try simp only[go_sem]);repeat' (first|exact trivial|refine And.intro ?_ ?_|rfl|(simp (disch:=omega) only[go_sem,if_yes,if_no,↓reduceIte,reduceAdd,reduceMul,reduceEqDiff,Nat.reduceBEq,reduceLeDiff];rfl)|(simp (disch:=omega) only[go_sem,if_yes,if_no,↓reduceIte,reduceAdd,reduceMul,reduceEqDiff,Nat.reduceBEq,reduceLeDiff]))) (by (try simp only[go_sem]);repeat' (first|exact trivial|refine And.intro ?_ ?_|rfl|(simp (disch:=omega) only[go_sem,if_yes,if_no,↓reduceIte,reduceAdd,reduceMul,reduceEqDiff,Nat.reduceBEq,reduceLeDiff];rfl)|(simp (disch:=omega) only[go_sem,if_yes,if_no,↓reduceIte,reduceAdd,reduceMul,reduceEqDiff,Nat.reduceBEq,reduceLeDiff]))) (HOld.refl _) ?_
  rintro ⟨i,x2,v2,js,g2⟩ c2 ⟨hG2,hgc2,i2,hjl,hS2,hjs⟩ hc2
  dsimp only at hG2 hgc2 i2 hjl hS2 hjs hc2
  have hu3:=hG2.u
  have hd3:=hG2.d
  simp only[go_sem]
  have hnc2:=hS2.noL
  by_cases hi2:0 < i
  case pos =>
    repeat' (first|refine st_seq_reg rfl (by first|(simp only[go_sem,hd3,hnc2];rfl)|rfl) (by first|(simp only[go_sem,hd3,hnc2];rfl)|rfl) ?_|refine st_draw rfl (by first|(simp only[go_sem,hd3,hnc2];rfl)|rfl) (by first|(simp only[go_sem,hd3,hnc2];rfl)|rfl) ?_|refine st_op ?_|refine st_det rfl (by simp (disch:=omega) only[go_sem,wr_i64,if_yes,if_no,↓reduceIte,reduceAdd,reduceMul,reduceEqDiff,Nat.reduceBEq,reduceLeDiff,hd3,hnc2];rfl) ?_|refine st_dop rfl ?_|(refine st_drum (by first|(simp (disch:=omega) only[go_sem,hd3,hnc2];rfl)|rfl) rfl (c39' b 3 (by decide)) (by first|(simp (disch:=omega) only[go_sem,hd3,hnc2];rfl)|rfl|exact put_same _ _ _) (by assumption) (by first|(simp only[go_sem,hd3,hnc2];rfl)|rfl) (by intro x' n;first|(simp (disch:=omega) only[go_sem];rfl)|rfl) ?_;rintro v x' n hu' ⟨r1,rfl,hr1⟩ hn)|(refine st_drum (by first|(simp (disch:=omega) only[go_sem,hd3,hnc2];rfl)|rfl) rfl (c40' b 1 3 (by decide) (by decide)) (by first|(simp (disch:=omega) only[go_sem,hd3,hnc2];rfl)|rfl|exact put_same _ _ _) (by assumption) (by first|(simp only[go_sem,hd3,hnc2];rfl)|rfl) (by intro x' n;first|(simp (disch:=omega) only[go_sem];rfl)|rfl) ?_;rintro v x' n hu' ⟨r2,rfl,hr2⟩ hn)|(refine st_drum (by first|(simp (disch:=omega) only[go_sem,hd3,hnc2];rfl)|rfl) rfl (c40' b 1 D (by decide) (by omega)) (by first|(simp (disch:=omega) only[go_sem,hd3,hnc2];rfl)|rfl|exact put_same _ _ _) (by assumption) (by first|(simp only[go_sem,hd3,hnc2];rfl)|rfl) (by intro x' n;first|(simp (disch:=omega) only[go_sem];rfl)|rfl) ?_;rintro v x' n hu' ⟨r3,rfl,hr3⟩ hn)|(refine st_appS (by intro h id x y;simp only[go_sem];rfl) rfl (by simp only[go_sem,hd3,hnc2];rfl) (by first|(simp only[go_sem,hd3,hnc2];rfl)|rfl) (by decide) hS2 (fun b1 m e=>by simp only[go_sem,nbb (hS2.lt e).1,↓reduceIte]) (by omega) (by simp only[length_map,List.length_cons,List.length_nil,big,hd3,hnc2];omega) (by omega) (by omega) ?_;intro v' g' hA)|(refine st_condS rfl ?_ ?_ <;> intro hg <;> (try simp only[decide_eq_true_eq,decide_eq_false_iff_not,Bool.not_eq_true',Bool.not_eq_false'] at hg))|refine st_nil ?_|refine st_tN ?_|refine st_seq ?_|refine st_block ?_|refine st_skip ?_|refine st_exit ?_|refine st_tE ?_|refine st_bH ?_)
    all_goals try (exfalso;omega)
    have hnv:=hA.nol
    have hcl:=hA.sl.cell
    have hcv:=cells_one' hcl
    repeat' (first|refine st_reg rfl (by first|(simp only[go_sem,hnv,hcl,hcv];rfl)|rfl) (by first|(simp only[go_sem,hnv,hcl,hcv];rfl)|rfl) ?_|refine st_op ?_|refine st_det rfl (by simp (disch:=omega) only[go_sem,wr_i64,if_yes,if_no,↓reduceIte,reduceAdd,reduceMul,reduceEqDiff,Nat.reduceBEq,reduceLeDiff,hnv,hcl,hcv];rfl) ?_|refine st_store (by simp (disch:=omega) only[go_sem,wr_i64,if_yes,if_no,↓reduceIte,reduceAdd,reduceMul,reduceEqDiff,Nat.reduceBEq,reduceLeDiff,hnv,hcl,hcv];rfl) ?_|refine st_nil ?_|refine st_dnil ?_|refine st_tN ?_|refine st_bN ?_)
    refine ⟨⟨i - 1,x',v',js ++ [⟨r1,r2,r3⟩],_⟩,(by refine ⟨(hG2.put (by assumption) (n:=n) (by omega)).app hold (Nat.le_refl _) hA (by simp only[go_sem];omega),by simp only[go_sem];omega,by show 0≤i - 1;omega,by simp;omega,by rw [List.map_append];exact hA.sl.to (fun _ _ _ _ _=>rfl) (by simp only[go_sem];omega),fun y hy=>(List.mem_append.1 hy).elim (hjs y) (fun hy=>by rw [List.mem_singleton.1 hy];dsimp only;omega)⟩),by show (i - 1).toNat < i.toNat;omega,(by repeat' (first|exact trivial|refine And.intro ?_ ?_|rfl|(simp (disch:=omega) only[go_sem,if_yes,if_no,↓reduceIte,reduceAdd,reduceMul,reduceEqDiff,Nat.reduceBEq,reduceLeDiff];rfl)|(simp (disch:=omega) only[go_sem,if_yes,if_no,↓reduceIte,reduceAdd,reduceMul,reduceEqDiff,Nat.reduceBEq,reduceLeDiff]))),(by repeat' (first|exact trivial|refine And.intro ?_ ?_|rfl|(simp (disch:=omega) only[go_sem,if_yes,if_no,↓reduceIte,reduceAdd,reduceMul,reduceEqDiff,Nat.reduceBEq,reduceLeDiff];rfl)|(simp (disch:=omega) only[go_sem,if_yes,if_no,↓reduceIte,reduceAdd,reduceMul,reduceEqDiff,Nat.reduceBEq,reduceLeDiff]))),rfl,HOld.refl _⟩
  obtain rfl:i=0:=by omega
  repeat' (first|refine st_seq_reg rfl (by first|(simp only[go_sem];rfl)|rfl) (by first|(simp only[go_sem];rfl)|rfl) ?_|refine st_op ?_|refine st_det rfl (by simp (disch:=omega) only[go_sem,wr_i64,if_yes,if_no,↓reduceIte,reduceAdd,reduceMul,reduceEqDiff,Nat.reduceBEq,reduceLeDiff];rfl) ?_|refine st_condF rfl ?_|refine st_nil ?_|refine st_tN ?_|refine st_seq ?_|refine st_exit ?_|refine st_tE ?_|refine st_bH ?_)
  all_goals try (exfalso;omega)
  refine ASem.cutA (h.clk+1,9) [.lst 3 (ws.map Wk.row)] [] v2 3 (js.map Jb.row) (by simp only[go_sem,↓reduceIte] <;> rfl) (hS2.to (fun _ _ _ _ _=>rfl) (by simp only[go_sem];omega)) (by intro y hy;simp at hy;subst hy;exact sWk _) fun H2 h2a h2b h2c=>?_
  have hG3:Gd h b x2 H2:=hG2.to hu3 (by rw [h2a b (fun m e=>by have:=(hS2.lt e).1;omega)];exact hd3) (fun b' h1 _=>h2a b' (fun m e=>by have:=(hS2.lt e).1;omega)) h2c (by rw [h2b];simp only[go_sem];omega)
  refine st_run tab mixed (f2:=⟨56,[8,9],[31,52],none,[(5,[0,1,0,4,12,0,44,108,0,364,876,2044,4092,8191,16383,32767],[(0,false),(1,true),(2,false),(5,false),(8,false),(3,false),(4,false),(6,false),(7,false),(9,false),(10,false),(11,false),(12,false),(13,false),(14,false),(15,false)]),(9,[0,1,0,4,0,28,0,0,252,508,1020,2047,4095,8191],[(0,false),(1,true),(2,false),(4,false),(6,false),(7,false),(3,false),(5,false),(8,false),(9,false),(10,false),(11,false),(12,false),(13,false)])]⟩) rfl rfl (by decide) ?_
  repeat' (first|refine st_seq_reg rfl (by first|(simp only[go_sem];rfl)|rfl) (by first|(simp only[go_sem];rfl)|rfl) ?_|refine st_op ?_|refine st_det rfl (by simp (disch:=omega) only[go_sem,wr_i64,if_yes,if_no,↓reduceIte,reduceAdd,reduceMul,reduceEqDiff,Nat.reduceBEq,reduceLeDiff];rfl) ?_|refine st_store (by simp (disch:=omega) only[go_sem,wr_i64,if_yes,if_no,↓reduceIte,reduceAdd,reduceMul,reduceEqDiff,Nat.reduceBEq,reduceLeDiff];rfl) ?_|refine st_nil ?_|refine st_ret ?_)
  simp (disch:=omega) only[AEnd,Tryd.results14,aresK,fin,go_sem,↓reduceIte,reduceEqDiff,reduceAdd,reduceLeDiff,if_yes,if_no,implies_true,true_and,and_true,List.reverse_cons,List.reverse_nil]
  refine ⟨hG3.old,⟨x2,hG3.d,hG3.u⟩,hG3.lp,⟨ws,js⟩,rfl,⟨hwn,by show (js.length:Int)≤J;omega,hjs⟩⟩
end Go.Proofs.YtaijkalhkgjakaaDoor

namespace Go.Proofs.YtaijkalhkgjakaaDoor
open Go.Av
structure Less (S S':Sp) (φ:Nat→Nat):Prop where
  lt:∀ i,i < S'.js.length→φ i < S.js.length
  mono:∀ i k,i < k→k < S'.js.length→φ i < φ k
  f:∀ i,i < S'.js.length→(S'.j i).f=(S.j (φ i)).f
  s:∀ i,i < S'.js.length→(S'.j i).s=(S.j (φ i)).s
  d:∀ i,i < S'.js.length→(S'.j i).d≤(S.j (φ i)).d
  w:∀ w,w < S.ws.length→w < S'.ws.length∧∀ s,(S.wk w).can s=true→(S'.wk w).can s=true
def subP (p:List Sf) (φ:Nat→Nat) (n:Nat):List Sf:=(List.range n).map fun i=>pAt p (φ i)
theorem pAt_subP {p:List Sf} {φ:Nat→Nat} {n i:Nat} (h:i < n):pAt (subP p φ n) i=pAt p (φ i):=by
  have:pAt (subP p φ n) i=((subP p φ n)[i]?).getD ⟨0,0⟩:=by simp [pAt,List.getD_eq_getElem?_getD]
  rw [this];simp [subP,h]
theorem Less.vp {S S':Sp} {φ:Nat→Nat} (L:Less S S' φ) {p:List Sf} (h:VP S p):VP S' (subP p φ S'.js.length):=by
  refine ⟨by simp [subP],fun i hi=>?_,fun k i hki hi hf=>?_,fun k i hki hi hw=>?_⟩
  · rw [pAt_subP hi]
    obtain ⟨a,b,c,d,e⟩:=h.w _ (L.lt i hi)
    obtain ⟨w1,w2⟩:=L.w (pAt p (φ i)).w.toNat (by omega)
    exact ⟨a,by omega,by rw [L.s i hi];exact w2 _ c,d,e⟩
  · have hk:=Nat.lt_trans hki hi
    rw [pAt_subP hi,pAt_subP hk]
    have:=h.ord _ _ (L.mono k i hki hi) (L.lt i hi) (by rw [← L.f k hk,← L.f i hi];exact hf)
    have:=L.d k hk
    omega
  · have hk:=Nat.lt_trans hki hi
    rw [pAt_subP hi,pAt_subP hk] at *
    have:=h.clash _ _ (L.mono k i hki hi) (L.lt i hi) hw
    have:=L.d k hk
    have:=L.d i hi
    omega
theorem Less.takes {S S':Sp} {φ:Nat→Nat} (L:Less S S' φ) (p:List Sf):takesP S' (subP p φ S'.js.length)≤takesP S p:=by
  rcases takesTo_cases (js:=S'.js) (p:=subP p φ S'.js.length) S'.js.length with e|⟨i,hi,e⟩
  · unfold takesP;rw [e];exact takesTo_nonneg _
  · unfold takesP;rw [e,pAt_subP hi]
    have h1:=L.d i hi
    have h2:=takesTo_ge (js:=S.js) (p:=p) (L.lt i hi)
    have e1:S'.j i=jOf S'.js i:=rfl
    have e2:S.j (φ i)=jOf S.js (φ i):=rfl
    rw [e1,e2] at h1
    omega
theorem Less.best {S S':Sp} {φ:Nat→Nat} (L:Less S S' φ) {p p':List Sf} {t t':Int} (h:BestOk S p t) (h':BestOk S' p' t'):t'≤t:=by
  have h1:=h'.best _ (L.vp h.vp)
  have h2:=L.takes p
  have h3:=h.takes
  omega
theorem Less.manned {S S':Sp} {φ:Nat→Nat} (L:Less S S' φ) (h:Manned S):Manned S':=by
  intro i hi
  obtain ⟨w,a,b⟩:=h _ (L.lt i hi)
  obtain ⟨c,d⟩:=L.w w a
  exact ⟨w,c,by rw [L.s i hi];exact d _ b⟩
end Go.Proofs.YtaijkalhkgjakaaDoor

namespace Go.Proofs.YtaijkalhkgjakaaDoor
open Go.Av
attribute [local irreducible] thenA blockA awp awpOps awpD awp1
set_option maxHeartbeats 8000000
set_option maxRecDepth 20000
theorem jobs_zero:∀ {l:List Jb},(∀ j ∈ l,j.Ok)→jobsE l=0
  | [],_=>rfl
  | x :: l,h=>by
    have hx:=h x (by simp)
    unfold Jb.Ok at hx
    have e:jobE x=0:=by unfold jobE;rw [if_neg (by omega),if_neg (by omega),if_neg (by omega)]
    simp only[jobsE]
    rw [if_neg (by omega)]
    exact jobs_zero fun j hj=>h j (by simp [hj])
theorem shop_zero {S:Sp} (hS:S.Ok):shopE S=0:=by
  have h1:=hS.m0
  have h2:=hS.m4
  have h3:=hS.n7
  rw [shop_in (by omega) (by omega) (by omega)]
  exact jobs_zero hS.job
theorem ShGood.ok {S:Sp} {W J D:Int} (h:ShGood S W J D) (hW:W≤4) (hJ:J≤7) (hD:D≤30):S.Ok :=
  ⟨h.w.1,by have:=h.w.2;omega,by have:=h.j;omega,fun j hj=>by have:=h.job j hj;unfold Jb.Ok;omega⟩
theorem bestV_no {S:Sp} (hS:S.Ok) (h:lackD S=true):bestV S=.tup [.nils,.int .i64 0,.int .i64 7]:=by
  have e:bndV S=(0,7):=by unfold bndV;rw [if_neg (fun q=>q (shop_zero hS)),if_pos h]
  unfold bestV;rw [e];rfl
theorem bestV_yes {S:Sp} (hS:S.Ok) (h:lackD S=false):bestV S=.tup [.lst 2 ((bestD S).1.map Sf.row),.int .i64 (bestD S).2,.int .i64 0]:=by
  have e:bndV S=(boundD S,0):=by unfold bndV;rw [if_neg (fun q=>q (shop_zero hS)),if_neg (by rw [h];decide)]
  unfold bestV;rw [e];rfl
theorem sWk' (l:List Wk):Still (.lst 3 (l.map Wk.row)):=Still.lst fun r hr x hx=>by
  obtain ⟨y,_,rfl⟩:=List.mem_map.1 hr
  simp only[Wk.row,List.mem_cons,List.not_mem_nil,or_false] at hx
  rcases hx with rfl|rfl|rfl <;> exact fun _ _=>rfl
theorem sJb (l:List Jb):Still (.lst 3 (l.map Jb.row)):=Still.lst fun r hr x hx=>by
  obtain ⟨y,_,rfl⟩:=List.mem_map.1 hr
  simp only[Jb.row,List.mem_cons,List.not_mem_nil,or_false] at hx
  rcases hx with rfl|rfl|rfl <;> exact fun _ _=>rfl
theorem c16h (S:Sp) (hw:(S.ws.length:Int) < 1000000) (hj:(S.js.length:Int) < 1000000) (h:AH):ACalls Tryd.prog 16 [S.av] h (fun v g=>∃ b1 b2:Bid,v=.agg [.slc b1 3 0 S.ws.length,.slc b2 3 0 S.js.length]∧b1 ≠ b2∧h.clk≤b1.1∧h.clk≤b2.1∧b1.1 < g.clk∧b2.1 < g.clk∧g.at_ b1=some ⟨3,S.ws.map Wk.row⟩∧g.at_ b2=some ⟨3,S.js.map Jb.row⟩∧(∀ b:Bid,b.1 < h.clk→g.at_ b=h.at_ b)∧g.lp=h.lp):=by
  refine ACalls.of tab mixed Tryd.call16 Tryd.func16 rfl (fi:=⟨12,[2],[1,1000001],none,[(1,[0,0,2,7,0,0,32,127,255,511],[(0,false),(1,false),(2,true),(5,false),(6,true),(3,false),(4,false),(7,false),(8,false),(9,false)])]⟩) rfl rfl (Nat.le_of_ble_eq_true rfl) (by decide) ?_
  unfold startA
  try simp only[go_sem]
  repeat' (first|refine st_seq_reg rfl (by first|(simp only[go_sem];rfl)|rfl) (by first|(simp only[go_sem];rfl)|rfl) ?_|refine st_op ?_|refine st_det rfl (by simp (disch:=omega) only[go_sem,wr_i64,if_yes,if_no,↓reduceIte,reduceAdd,reduceMul,reduceEqDiff,Nat.reduceBEq,reduceLeDiff];rfl) ?_|refine st_loc rfl (by simp (disch:=omega) only[go_sem,wr_i64,if_yes,if_no,↓reduceIte,reduceAdd,reduceMul,reduceEqDiff,Nat.reduceBEq,reduceLeDiff];rfl) ?_|refine st_nil ?_|refine st_seq ?_)
  refine st_free ?_
  refine st_drawL tab mixed (f2:=⟨12,[2],[1],none,[(1,[0,0,2,7,0,0,32,127,255,511],[(0,false),(1,false),(2,true),(5,false),(6,true),(3,false),(4,false),(7,false),(8,false),(9,false)])]⟩) [4] rfl rfl (by first|(simp only[go_sem];rfl)|rfl) (by first|(simp only[go_sem];rfl)|rfl) (by first|(simp only[go_sem];rfl)|rfl) (by intro i o hi ho;obtain rfl:i=4:=(by simpa using hi);cases ho;exact ⟨7,3,rfl,rfl⟩) (by decide) ?_
  repeat' (first|refine st_det rfl (by simp (disch:=omega) only[go_sem,wr_i64,if_yes,if_no,↓reduceIte,reduceAdd,reduceMul,reduceEqDiff,Nat.reduceBEq,reduceLeDiff,length_map,big,Nat.zero_add];rfl) ?_|refine st_dop rfl ?_|refine st_heap rfl (by simp (disch:=omega) only[go_sem,wr_i64,if_yes,if_no,↓reduceIte,reduceAdd,reduceMul,reduceEqDiff,Nat.reduceBEq,reduceLeDiff,length_map,big,Nat.zero_add];rfl) ?_|refine st_store (by simp (disch:=omega) only[go_sem,wr_i64,if_yes,if_no,↓reduceIte,reduceAdd,reduceMul,reduceEqDiff,Nat.reduceBEq,reduceLeDiff,length_map,big,Nat.zero_add];rfl) ?_|refine st_append (by simp (disch:=omega) only[go_sem,wr_i64,if_yes,if_no,↓reduceIte,reduceAdd,reduceMul,reduceEqDiff,Nat.reduceBEq,reduceLeDiff,length_map,big,Nat.zero_add];rfl) ?_|refine st_dnil ?_|refine st_tN ?_|refine st_ret ?_)
  all_goals try (exfalso;omega)
  simp (disch:=omega) only[AEnd,Tryd.results16,aresK,fin,go_sem,↓reduceIte,reduceEqDiff,reduceAdd,reduceLeDiff,if_yes,if_no,implies_true,true_and,and_true,List.reverse_cons,List.reverse_nil]
  refine ⟨_,_,rfl,fun e=>(by injection e with _ e2;exact absurd e2 (by decide)),(by show h.clk≤h.clk+1;omega),(by show h.clk≤h.clk+1;omega),(by show h.clk+1 < h.clk+1+1;omega),(by show h.clk+1 < h.clk+1+1;omega),(by simp),(by simp),fun b hb=>?_⟩
  have hb0:∀ d,¬ b=(h.clk+1,d):=fun d e=>by rw [e] at hb;exact absurd hb (by show ¬ h.clk+1 < h.clk;omega)
  rw [if_neg (hb0 _),if_neg (hb0 _),if_neg (hb0 _),if_neg (hb0 _)]
theorem c16j (S:Sp) (hw:(S.ws.length:Int) < 1000000) (hj:(S.js.length:Int) < 1000000) (h:AH):ACalls Tryd.prog 16 [S.av] h (fun v g=>∃ b1:Bid,v=.agg [.slc b1 3 0 S.ws.length,.lst 3 (S.js.map Jb.row)]∧h.clk≤b1.1∧b1.1 < g.clk∧g.at_ b1=some ⟨3,S.ws.map Wk.row⟩∧(∀ b:Bid,b.1 < h.clk→g.at_ b=h.at_ b)∧g.lp=h.lp):=by
  refine ACalls.old Tryd.call16 fun hall=>?_
  refine ((c16h S hw hj h).mono ?_).give
  rintro v g ⟨b1,b2,rfl,hne,h1,h2,h3,h4,h5,h6,h7,h8⟩
  refine .inr ⟨b2,_,h6,?_,b1,?_,h1,h3,(put_ne _ _ hne).trans h5,fun b hb=>?_,h8⟩
  · cases e:h.at_ b2 with
    | none=>rfl
    | some k=>exact absurd (hall b2 k e) (by omega)
  · have e:=frz_lst (b:=b2) (z:=3) (l:=S.js.map Jb.row)
    rw [length_map] at e
    simp only[frz,frzs]
    simp only[frz] at e
    rw [if_neg (fun hh=>hne hh.1),e]
  · rw [put_ne _ _ (fun e=>by rw [e] at hb;omega)];exact h7 b hb
theorem c16w (S:Sp) (hw:(S.ws.length:Int) < 1000000) (hj:(S.js.length:Int) < 1000000) (h:AH):ACalls Tryd.prog 16 [S.av] h (fun v g=>∃ b2:Bid,v=.agg [.lst 3 (S.ws.map Wk.row),.slc b2 3 0 S.js.length]∧h.clk≤b2.1∧b2.1 < g.clk∧g.at_ b2=some ⟨3,S.js.map Jb.row⟩∧(∀ b:Bid,b.1 < h.clk→g.at_ b=h.at_ b)∧g.lp=h.lp):=by
  refine ACalls.old Tryd.call16 fun hall=>?_
  refine ((c16h S hw hj h).mono ?_).give
  rintro v g ⟨b1,b2,rfl,hne,h1,h2,h3,h4,h5,h6,h7,h8⟩
  refine .inr ⟨b1,_,h5,?_,b2,?_,h2,h4,(put_ne _ _ hne.symm).trans h6,fun b hb=>?_,h8⟩
  · cases e:h.at_ b1 with
    | none=>rfl
    | some k=>exact absurd (hall b1 k e) (by omega)
  · have e:=frz_lst (b:=b1) (z:=3) (l:=S.ws.map Wk.row)
    rw [length_map] at e
    simp only[frz,frzs]
    simp only[frz] at e
    rw [e,if_neg (fun hh=>hne hh.1.symm)]
  · rw [put_ne _ _ (fun e=>by rw [e] at hb;omega)];exact h7 b hb
end Go.Proofs.YtaijkalhkgjakaaDoor
