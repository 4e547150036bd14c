/- Contracts of functions that the claim reaches: what each call gives, told in our own logic. Conditions: those of each theorem. -/
import Derived.Test.YtaijkalhkgjakaaGreatDoorG28
import Derived.Test.YtaijkalhkgjakaaGreatDoorW12
open List (length_map)
set_option linter.all false
set_option linter.unusedSimpArgs false
set_option linter.unusedVariables false
namespace Go.Proofs.YtaijkalhkgjakaaGreatDoor
open Go.Av
attribute [local irreducible] thenA blockA awp awpOps awpD awp1
attribute [local go_sem_proc] Nat.reduceAdd Nat.reduceMul Nat.reduceEqDiff Nat.reduceBEq Nat.reduceLeDiff
attribute [local go_sem_proc ↓] reduceIte
attribute [local go_sem] if_yes if_no
set_option maxHeartbeats 8000000
set_option maxRecDepth 20000
theorem cells_one' {v:AV} (h:v.cell=true):v.cells=[v]:=by cases v <;> first|rfl|simp [AV.cell] at h
theorem sWk (l:List Wk):Still (.lst 3 (l.map Wk.row)):=Still.lst fun r hr x hx=>by
 obtain ⟨y,_,rfl⟩:=List.mem_map.1 hr
 simp only[Wk.row,List.mem_cons,List.not_mem_nil,or_false] at hx
 rcases hx with rfl|rfl|rfl <;> exact fun _ _=>rfl
theorem c38 (b:Nat × Nat) (W J D:Int) (hW:1≤W∧W≤4) (hJ:0≤J∧J≤7) (hD:1≤D∧D≤30):Drum Tryz.prog 38 [.ptr b 0 0,.int .i64 W,.int .i64 J,.int .i64 D] b (fun v=>∃ S,v=S.av∧ShGood S W J D):=by
 refine Drum.of Tryz.call38 fun h x hx hu hold=>?_
 have nbb:∀ {b1:Nat × Nat},h.clk≤b1.1→¬ b1=b:=fun hb e=>by rw [e] at hb;omega
 refine ACalls.ofS tab Tryz.call38 Tryz.func38 rfl (fi:=⟨56,[8,9],[31,52,1000010],none,[(5,[0,1,0,4,12,0,44,108,0,364,876,2044,4092,8191,16383,32767],[(0,false),(1,true),(2,false),(5,false),(8,false),(3,false),(4,false),(6,false),(7,false),(9,false),(10,false),(11,false),(12,false),(13,false),(14,false),(15,false)]),(9,[0,1,0,4,0,28,0,0,252,508,1020,2047,4095,8191],[(0,false),(1,true),(2,false),(4,false),(6,false),(7,false),(3,false),(5,false),(8,false),(9,false),(10,false),(11,false),(12,false),(13,false)])]⟩) rfl rfl (Nat.le_of_ble_eq_true rfl) ?_
 unfold startA
 refine asem_seq (fi:=⟨56,[8,9],[31,52,1000010],none,[(5,[0,1,0,4,12,0,44,108,0,364,876,2044,4092,8191,16383,32767],[(0,false),(1,true),(2,false),(5,false),(8,false),(3,false),(4,false),(6,false),(7,false),(9,false),(10,false),(11,false),(12,false),(13,false),(14,false),(15,false)]),(9,[0,1,0,4,0,28,0,0,252,508,1020,2047,4095,8191],[(0,false),(1,true),(2,false),(4,false),(6,false),(7,false),(3,false),(5,false),(8,false),(9,false),(10,false),(11,false),(12,false),(13,false)])]⟩) tab mixed (by decide) ?_
 repeat' (first|refine st_reg rfl (by first|(simp only[go_sem];rfl)|rfl) (by first|(simp only[go_sem];rfl)|rfl) ?_|refine st_op ?_|refine st_loc rfl (by simp (disch:=omega) only[go_sem,wr_i64];rfl) ?_|refine st_nil ?_|refine st_tN ?_)
 refine asem_seq (fi:=⟨56,[8,9],[31,52,1000010],none,[(5,[0,1,0,4,12,0,44,108,0,364,876,2044,4092,8191,16383,32767],[(0,false),(1,true),(2,false),(5,false),(8,false),(3,false),(4,false),(6,false),(7,false),(9,false),(10,false),(11,false),(12,false),(13,false),(14,false),(15,false)]),(9,[0,1,0,4,0,28,0,0,252,508,1020,2047,4095,8191],[(0,false),(1,true),(2,false),(4,false),(6,false),(7,false),(3,false),(5,false),(8,false),(9,false),(10,false),(11,false),(12,false),(13,false)])]⟩) tab mixed (by decide) ?_
 repeat' (first|refine st_reg rfl (by first|(simp only[go_sem];rfl)|rfl) (by first|(simp only[go_sem];rfl)|rfl) ?_|refine st_op ?_|refine st_loc rfl (by simp (disch:=omega) only[go_sem,wr_i64];rfl) ?_|refine st_nil ?_|refine st_tN ?_)
 refine asem_seq (fi:=⟨56,[8,9],[31,52,1000010],none,[(5,[0,1,0,4,12,0,44,108,0,364,876,2044,4092,8191,16383,32767],[(0,false),(1,true),(2,false),(5,false),(8,false),(3,false),(4,false),(6,false),(7,false),(9,false),(10,false),(11,false),(12,false),(13,false),(14,false),(15,false)]),(9,[0,1,0,4,0,28,0,0,252,508,1020,2047,4095,8191],[(0,false),(1,true),(2,false),(4,false),(6,false),(7,false),(3,false),(5,false),(8,false),(9,false),(10,false),(11,false),(12,false),(13,false)])]⟩) tab mixed (by decide) ?_
 repeat' (first|refine st_seq_reg rfl (by first|(simp only[go_sem,hx];rfl)|rfl) (by first|(simp only[go_sem,hx];rfl)|rfl) ?_|refine st_op ?_|refine st_det rfl (by simp (disch:=omega) only[go_sem,wr_i64,hx];rfl) ?_|(refine st_drum (by first|(simp (disch:=omega) only[go_sem,hx];rfl)|rfl) rfl (c48' b 1 W (by omega) (by omega)) (by first|(simp (disch:=omega) only[go_sem,hx];rfl)|rfl|exact put_same _ _ _) (by assumption) (by first|(simp only[go_sem,hx];rfl)|rfl) (by intro x' n;first|(simp (disch:=omega) only[go_sem];rfl)|rfl) ?_;rintro v x' n hu' ⟨n,rfl,hn⟩ hn)|refine st_nil ?_|refine st_block ?_)
 rename_i N1 hN1
 obtain ⟨n0,rfl⟩:∃ n0:Nat,n=n0:=⟨n.toNat,by omega⟩
 refine st_loopH (α:=ShS) tab mixed [9] [_] (by repeat (first|exact trivial|refine ⟨rfl,?_⟩)) [8] [_] (by repeat (first|exact trivial|refine ⟨rfl,?_⟩)) (fun a=>[(10,.int .i64 (a.i:Int))]) [(0,_),(1,_),(2,_),(3,_),(8,_),(9,_)] (fun a=>[[a.v,.nils]]) [_] (fun a=>a.g) (fun a=>Gd h b a.x a.g∧h.clk+2≤a.g.clk∧0≤a.i∧(a.ws.length:Int)+a.i=n0∧SlA h.clk a.g a.v 3 (a.ws.map Wk.row)) (fun a=>a.i.toNat) (by decide) ⟨n0,x',.nils,[],_⟩ (by refine ⟨⟨by assumption,by simp only[go_sem,↓reduceIte],fun b' _ h2=>by simp only[go_sem,h2,↓reduceIte],rfl,by simp only[go_sem];omega⟩,by simp only[go_sem];omega,by show (0:Int)≤n0;omega,by simp,.inl ⟨rfl,rfl⟩⟩) (by (try simp only[go_sem]);repeat' (first|exact trivial|refine And.intro ?_ ?_|rfl|(simp (disch:=omega) only[go_sem,if_yes,if_no,if_no];rfl)|(simp (disch:=omega) only[go_sem,if_yes,if_no,if_no]))) (by (try simp only[go_sem]);repeat' (first|exact trivial|refine And.intro ?_ ?_|rfl|(simp (disch:=omega) only[go_sem,if_yes,if_no,if_no];rfl)|(simp (disch:=omega) only[go_sem,if_yes,if_no,if_no]))) (HOld.refl _) ?_
 rintro ⟨i,x1,v,ws,g⟩ c ⟨hG,hgc,i0,hwl,hS⟩ hc
 dsimp only at hG hgc i0 hwl hS hc
 have hu1:=hG.u
 have hd1:=hG.d
 simp only[go_sem]
 have hnc:=hS.noL
 by_cases hi:0 < i
 case pos =>
  repeat' (first|refine st_seq_reg rfl (by first|(simp only[go_sem,hd1,hnc];rfl)|rfl) (by first|(simp only[go_sem,hd1,hnc];rfl)|rfl) ?_|refine st_draw rfl (by first|(simp only[go_sem,hd1,hnc];rfl)|rfl) (by first|(simp only[go_sem,hd1,hnc];rfl)|rfl) ?_|refine st_op ?_|refine st_det rfl (by simp (disch:=omega) only[go_sem,wr_i64,hd1,hnc];rfl) ?_|refine st_dop rfl ?_|(refine st_drum (by first|(simp (disch:=omega) only[go_sem,hd1,hnc];rfl)|rfl) rfl (c47 b 3 (by decide)) (by first|(simp (disch:=omega) only[go_sem,hd1,hnc];rfl)|rfl|exact put_same _ _ _) (by assumption) (by first|(simp only[go_sem,hd1,hnc];rfl)|rfl) (by intro x' n;first|(simp (disch:=omega) only[go_sem];rfl)|rfl) ?_;rintro v x' n hu' ⟨r1,rfl⟩ hn)|(refine st_appS (by intro h id x y;simp only[go_sem];rfl) rfl (by simp only[go_sem,hd1,hnc];rfl) (by first|(simp only[go_sem,hd1,hnc];rfl)|rfl) (by decide) hS (fun b1 m e=>by simp only[go_sem,nbb (hS.lt e).1,↓reduceIte]) (by omega) (by simp only[length_map,List.length_cons,List.length_nil,big,hd1,hnc];omega) (by omega) (by omega) ?_;intro v' g' hA)|(refine st_condS rfl ?_ ?_ <;> intro hg <;> (try simp only[dcT,dcF,bnT,bnF] at hg))|refine st_nil ?_|refine st_tN ?_|refine st_seq ?_|refine st_block ?_|refine st_skip ?_|refine st_exit ?_|refine st_tE ?_|refine st_bH ?_)
  all_goals try (exfalso;omega)
  have hnv:=hA.nol
  have hcl:=hA.sl.cell
  have hcv:=cells_one' hcl
  repeat' (first|refine st_reg rfl (by first|(simp only[go_sem,hnv,hcl,hcv];rfl)|rfl) (by first|(simp only[go_sem,hnv,hcl,hcv];rfl)|rfl) ?_|refine st_op ?_|refine st_det rfl (by simp (disch:=omega) only[go_sem,wr_i64,hnv,hcl,hcv];rfl) ?_|refine st_store (by simp (disch:=omega) only[go_sem,wr_i64,hnv,hcl,hcv];rfl) ?_|refine st_nil ?_|refine st_dnil ?_|refine st_tN ?_|refine st_bN ?_)
  refine ⟨⟨i - 1,x',v',ws ++ [⟨_,_,_⟩],_⟩,(by refine ⟨(hG.put (by assumption) (n:=n) (by omega)).app hold (Nat.le_refl _) hA (by simp only[go_sem];omega),by simp only[go_sem];omega,by show 0≤i - 1;omega,by simp;omega,by rw [List.map_append];exact hA.sl.to (fun _ _ _ _ _=>rfl) (by simp only[go_sem];omega)⟩),by show (i - 1).toNat < i.toNat;omega,(by repeat' (first|exact trivial|refine And.intro ?_ ?_|rfl|(simp (disch:=omega) only[go_sem,if_yes,if_no,if_no];rfl)|(simp (disch:=omega) only[go_sem,if_yes,if_no,if_no]))),(by repeat' (first|exact trivial|refine And.intro ?_ ?_|rfl|(simp (disch:=omega) only[go_sem,if_yes,if_no,if_no];rfl)|(simp (disch:=omega) only[go_sem,if_yes,if_no,if_no]))),rfl,HOld.refl _⟩
 obtain rfl:i=0:=by omega
 repeat' (first|refine st_seq_reg rfl (by first|(simp only[go_sem];rfl)|rfl) (by first|(simp only[go_sem];rfl)|rfl) ?_|refine st_op ?_|refine st_det rfl (by simp (disch:=omega) only[go_sem,wr_i64];rfl) ?_|refine st_condF rfl ?_|refine st_nil ?_|refine st_tN ?_|refine st_seq ?_|refine st_exit ?_|refine st_tE ?_|refine st_bH ?_)
 all_goals try (exfalso;omega)
 refine ASem.cutA (h.clk+1,9) [] [.nils] v 3 (ws.map Wk.row) (by simp only[go_sem,↓reduceIte] <;> rfl) (hS.to (fun _ _ _ _ _=>rfl) (by simp only[go_sem];omega)) (by intro y hy;simp at hy;rcases hy with rfl;exact Still.nils) fun H1 h1a h1b h1c=>?_
 have hG1:Gd h b x1 H1:=hG.to hu1 (by rw [h1a b (fun m e=>by have:=(hS.lt e).1;omega)];exact hd1) (fun b' h1 _=>h1a b' (fun m e=>by have:=(hS.lt e).1;omega)) h1c (by rw [h1b];simp only[go_sem];omega)
 have hH1c:c+1≤H1.clk:=by rw [h1b];simp only[go_sem];omega
 have hd2:=hG1.d
 have hu2:=hG1.u
 refine asem_seq (fi:=⟨56,[8,9],[31,52,1000010],none,[(5,[0,1,0,4,12,0,44,108,0,364,876,2044,4092,8191,16383,32767],[(0,false),(1,true),(2,false),(5,false),(8,false),(3,false),(4,false),(6,false),(7,false),(9,false),(10,false),(11,false),(12,false),(13,false),(14,false),(15,false)]),(9,[0,1,0,4,0,28,0,0,252,508,1020,2047,4095,8191],[(0,false),(1,true),(2,false),(4,false),(6,false),(7,false),(3,false),(5,false),(8,false),(9,false),(10,false),(11,false),(12,false),(13,false)])]⟩) tab mixed (by decide) ?_
 repeat' (first|refine st_seq_reg rfl (by first|(simp only[go_sem,hd2];rfl)|rfl) (by first|(simp only[go_sem,hd2];rfl)|rfl) ?_|refine st_op ?_|refine st_det rfl (by simp (disch:=omega) only[go_sem,wr_i64,hd2];rfl) ?_|(refine st_drum (by first|(simp (disch:=omega) only[go_sem,hd2];rfl)|rfl) rfl (c45' b (J+1) (by omega)) (by first|(simp (disch:=omega) only[go_sem,hd2];rfl)|rfl|exact put_same _ _ _) (by assumption) (by first|(simp only[go_sem,hd2];rfl)|rfl) (by intro x' n;first|(simp (disch:=omega) only[go_sem];rfl)|rfl) ?_;rintro v x' n hu' ⟨m,rfl,hm⟩ hn)|refine st_nil ?_|refine st_block ?_)
 rename_i N2
 obtain ⟨m0,rfl⟩:∃ m0:Nat,m=m0:=⟨m.toNat,by omega⟩
 have hH1g:h.clk≤H1.clk:=hG1.cl
 have hwn:1≤ws.length∧(ws.length:Int)≤W:=by omega
 refine st_loopH (α:=SjS) tab mixed [9] [_] (by repeat (first|exact trivial|refine ⟨rfl,?_⟩)) [8] [_] (by repeat (first|exact trivial|refine ⟨rfl,?_⟩)) (fun a=>[(11,.int .i64 (a.i:Int))]) [(0,_),(1,_),(2,_),(3,_),(8,_),(9,_)] (fun a=>[[.lst 3 (ws.map Wk.row),a.v]]) [_] (fun a=>a.g) (fun a=>Gd h b a.x a.g∧h.clk+2≤a.g.clk∧0≤a.i∧(a.js.length:Int)+a.i=m0∧SlA h.clk a.g a.v 3 (a.js.map Jb.row)∧∀ y ∈ a.js,0≤y.f∧y.f≤2∧1≤y.s∧y.s≤3∧1≤y.d∧y.d≤D) (fun a=>a.i.toNat) (by decide) ⟨m0,x',.nils,[],_⟩ (by refine ⟨hG1.put (by assumption) (n:=n) (by omega),by simp only[go_sem];omega,by show (0:Int)≤m0;omega,by simp,.inl ⟨rfl,rfl⟩,fun y hy=>by cases hy⟩) (by (try simp only[go_sem]);repeat' (first|exact trivial|refine And.intro ?_ ?_|rfl|(simp (disch:=omega) only[go_sem,if_yes,if_no,if_no];rfl)|(simp (disch:=omega) only[go_sem,if_yes,if_no,if_no]))) (by (try simp only[go_sem]);repeat' (first|exact trivial|refine And.intro ?_ ?_|rfl|(simp (disch:=omega) only[go_sem,if_yes,if_no,if_no];rfl)|(simp (disch:=omega) only[go_sem,if_yes,if_no,if_no]))) (HOld.refl _) ?_
 rintro ⟨i,x2,v2,js,g2⟩ c2 ⟨hG2,hgc2,i2,hjl,hS2,hjs⟩ hc2
 dsimp only at hG2 hgc2 i2 hjl hS2 hjs hc2
 have hu3:=hG2.u
 have hd3:=hG2.d
 simp only[go_sem]
 have hnc2:=hS2.noL
 by_cases hi2:0 < i
 case pos =>
  repeat' (first|refine st_seq_reg rfl (by first|(simp only[go_sem,hd3,hnc2];rfl)|rfl) (by first|(simp only[go_sem,hd3,hnc2];rfl)|rfl) ?_|refine st_draw rfl (by first|(simp only[go_sem,hd3,hnc2];rfl)|rfl) (by first|(simp only[go_sem,hd3,hnc2];rfl)|rfl) ?_|refine st_op ?_|refine st_det rfl (by simp (disch:=omega) only[go_sem,wr_i64,hd3,hnc2];rfl) ?_|refine st_dop rfl ?_|(refine st_drum (by first|(simp (disch:=omega) only[go_sem,hd3,hnc2];rfl)|rfl) rfl (c45' b 3 (by decide)) (by first|(simp (disch:=omega) only[go_sem,hd3,hnc2];rfl)|rfl|exact put_same _ _ _) (by assumption) (by first|(simp only[go_sem,hd3,hnc2];rfl)|rfl) (by intro x' n;first|(simp (disch:=omega) only[go_sem];rfl)|rfl) ?_;rintro v x' n hu' ⟨r1,rfl,hr1⟩ hn)|(refine st_drum (by first|(simp (disch:=omega) only[go_sem,hd3,hnc2];rfl)|rfl) rfl (c48' b 1 3 (by decide) (by decide)) (by first|(simp (disch:=omega) only[go_sem,hd3,hnc2];rfl)|rfl|exact put_same _ _ _) (by assumption) (by first|(simp only[go_sem,hd3,hnc2];rfl)|rfl) (by intro x' n;first|(simp (disch:=omega) only[go_sem];rfl)|rfl) ?_;rintro v x' n hu' ⟨r2,rfl,hr2⟩ hn)|(refine st_drum (by first|(simp (disch:=omega) only[go_sem,hd3,hnc2];rfl)|rfl) rfl (c48' b 1 D (by decide) (by omega)) (by first|(simp (disch:=omega) only[go_sem,hd3,hnc2];rfl)|rfl|exact put_same _ _ _) (by assumption) (by first|(simp only[go_sem,hd3,hnc2];rfl)|rfl) (by intro x' n;first|(simp (disch:=omega) only[go_sem];rfl)|rfl) ?_;rintro v x' n hu' ⟨r3,rfl,hr3⟩ hn)|(refine st_appS (by intro h id x y;simp only[go_sem];rfl) rfl (by simp only[go_sem,hd3,hnc2];rfl) (by first|(simp only[go_sem,hd3,hnc2];rfl)|rfl) (by decide) hS2 (fun b1 m e=>by simp only[go_sem,nbb (hS2.lt e).1,↓reduceIte]) (by omega) (by simp only[length_map,List.length_cons,List.length_nil,big,hd3,hnc2];omega) (by omega) (by omega) ?_;intro v' g' hA)|(refine st_condS rfl ?_ ?_ <;> intro hg <;> (try simp only[dcT,dcF,bnT,bnF] at hg))|refine st_nil ?_|refine st_tN ?_|refine st_seq ?_|refine st_block ?_|refine st_skip ?_|refine st_exit ?_|refine st_tE ?_|refine st_bH ?_)
  all_goals try (exfalso;omega)
  have hnv:=hA.nol
  have hcl:=hA.sl.cell
  have hcv:=cells_one' hcl
  repeat' (first|refine st_reg rfl (by first|(simp only[go_sem,hnv,hcl,hcv];rfl)|rfl) (by first|(simp only[go_sem,hnv,hcl,hcv];rfl)|rfl) ?_|refine st_op ?_|refine st_det rfl (by simp (disch:=omega) only[go_sem,wr_i64,hnv,hcl,hcv];rfl) ?_|refine st_store (by simp (disch:=omega) only[go_sem,wr_i64,hnv,hcl,hcv];rfl) ?_|refine st_nil ?_|refine st_dnil ?_|refine st_tN ?_|refine st_bN ?_)
  refine ⟨⟨i - 1,x',v',js ++ [⟨r1,r2,r3⟩],_⟩,(by refine ⟨(hG2.put (by assumption) (n:=n) (by omega)).app hold (Nat.le_refl _) hA (by simp only[go_sem];omega),by simp only[go_sem];omega,by show 0≤i - 1;omega,by simp;omega,by rw [List.map_append];exact hA.sl.to (fun _ _ _ _ _=>rfl) (by simp only[go_sem];omega),fun y hy=>(List.mem_append.1 hy).elim (hjs y) (fun hy=>by rw [List.mem_singleton.1 hy];dsimp only;omega)⟩),by show (i - 1).toNat < i.toNat;omega,(by repeat' (first|exact trivial|refine And.intro ?_ ?_|rfl|(simp (disch:=omega) only[go_sem,if_yes,if_no,if_no];rfl)|(simp (disch:=omega) only[go_sem,if_yes,if_no,if_no]))),(by repeat' (first|exact trivial|refine And.intro ?_ ?_|rfl|(simp (disch:=omega) only[go_sem,if_yes,if_no,if_no];rfl)|(simp (disch:=omega) only[go_sem,if_yes,if_no,if_no]))),rfl,HOld.refl _⟩
 obtain rfl:i=0:=by omega
 repeat' (first|refine st_seq_reg rfl (by first|(simp only[go_sem];rfl)|rfl) (by first|(simp only[go_sem];rfl)|rfl) ?_|refine st_op ?_|refine st_det rfl (by simp (disch:=omega) only[go_sem,wr_i64];rfl) ?_|refine st_condF rfl ?_|refine st_nil ?_|refine st_tN ?_|refine st_seq ?_|refine st_exit ?_|refine st_tE ?_|refine st_bH ?_)
 all_goals try (exfalso;omega)
 refine ASem.cutA (h.clk+1,9) [.lst 3 (ws.map Wk.row)] [] v2 3 (js.map Jb.row) (by simp only[go_sem,↓reduceIte] <;> rfl) (hS2.to (fun _ _ _ _ _=>rfl) (by simp only[go_sem];omega)) (by intro y hy;simp at hy;subst hy;exact sWk _) fun H2 h2a h2b h2c=>?_
 have hG3:Gd h b x2 H2:=hG2.to hu3 (by rw [h2a b (fun m e=>by have:=(hS2.lt e).1;omega)];exact hd3) (fun b' h1 _=>h2a b' (fun m e=>by have:=(hS2.lt e).1;omega)) h2c (by rw [h2b];simp only[go_sem];omega)
 refine st_run tab mixed (f2:=⟨56,[8,9],[31,52],none,[(5,[0,1,0,4,12,0,44,108,0,364,876,2044,4092,8191,16383,32767],[(0,false),(1,true),(2,false),(5,false),(8,false),(3,false),(4,false),(6,false),(7,false),(9,false),(10,false),(11,false),(12,false),(13,false),(14,false),(15,false)]),(9,[0,1,0,4,0,28,0,0,252,508,1020,2047,4095,8191],[(0,false),(1,true),(2,false),(4,false),(6,false),(7,false),(3,false),(5,false),(8,false),(9,false),(10,false),(11,false),(12,false),(13,false)])]⟩) rfl rfl (by decide) ?_
 repeat' (first|refine st_seq_reg rfl (by first|(simp only[go_sem];rfl)|rfl) (by first|(simp only[go_sem];rfl)|rfl) ?_|refine st_op ?_|refine st_det rfl (by simp (disch:=omega) only[go_sem,wr_i64];rfl) ?_|refine st_store (by simp (disch:=omega) only[go_sem,wr_i64];rfl) ?_|refine st_nil ?_|refine st_ret ?_)
 simp (disch:=omega) only[AEnd,Tryz.results38,aresK,fin,go_sem,implies_true,true_and,and_true,List.reverse_cons,List.reverse_nil]
 refine ⟨hG3.old,⟨x2,hG3.d,hG3.u⟩,hG3.lp,⟨ws,js⟩,rfl,⟨hwn,by show (js.length:Int)≤J;omega,hjs⟩⟩
end Go.Proofs.YtaijkalhkgjakaaGreatDoor

namespace Go.Proofs.YtaijkalhkgjakaaGreatDoor
open Go.Av
attribute [local irreducible] thenA blockA awp awpOps awpD awp1
attribute [local go_sem_proc] Nat.reduceAdd Nat.reduceMul Nat.reduceEqDiff Nat.reduceBEq Nat.reduceLeDiff
attribute [local go_sem_proc ↓] reduceIte
attribute [local go_sem] if_yes if_no
set_option maxHeartbeats 8000000
set_option maxRecDepth 20000
theorem wk_stop {p q:List Wk} (h:p.length=q.length) (k:∀ i,i < p.length→wOf p i=wOf q i):p=q:=by
 apply List.ext_getElem? 
 intro i
 by_cases hi:i < p.length
 ·have:=k i hi
  unfold wOf at this
  rw [List.getD_eq_getElem?_getD,List.getD_eq_getElem?_getD,List.getElem?_eq_getElem hi,List.getElem?_eq_getElem (by omega:i < q.length)] at this
  rw [List.getElem?_eq_getElem hi,List.getElem?_eq_getElem (by omega:i < q.length)]
  simpa using this
 ·rw [List.getElem?_eq_none (by omega),List.getElem?_eq_none (by omega)]
theorem wk_eq {x y:Wk}:([x.a,x.b,x.c]=[y.a,y.b,y.c])=(x=y):=by
 cases x;cases y;simp
theorem c43 (S T:Sp) (h1:S.ws.length < 1000000) (h2:S.js.length < 1000000) (h3:T.ws.length < 1000000) (h4:T.js.length < 1000000):Pure Tryz.prog 43 [S.av,T.av] (fun v=>v=.bool (decide (S=T))):=by
 intro h
 obtain ⟨p,p2⟩:=S
 obtain ⟨q,q2⟩:=T
 dsimp only at h1 h2 h3 h4
 have k31:=c31 p2 q2 (by omega) (by omega)
 have heq:((⟨p,p2⟩:Sp)=⟨q,q2⟩)=(p=q∧p2=q2):=by simp
 refine ACalls.forget (ACalls.of tab mixed Tryz.call43 Tryz.func43 rfl (fi:=⟨43,[],[2,3],none,[(5,[0,1,0,7,15,0,32,0,224,480,1023,2047],[(0,false),(1,true),(2,false),(3,false),(4,true),(5,false),(6,true),(7,false),(8,false),(9,true),(10,false),(11,false)])]⟩) rfl rfl (Nat.le_of_ble_eq_true rfl) (by decide) ?_)
 unfold startA
 try simp only[go_sem]
 by_cases hl:(p.length:Int)=q.length
 case neg =>
  repeat' (first|refine st_seq_reg rfl (by first|(simp only[go_sem,length_map];rfl)|rfl) (by first|(simp only[go_sem,length_map];rfl)|rfl) ?_|refine st_op ?_|refine st_det rfl (by simp (disch:=omega) only[go_sem,wr_i64,length_map];rfl) ?_|refine st_gT rfl rfl rfl ?_|refine st_gF rfl rfl rfl ?_|(refine st_gS rfl rfl ?_ ?_ <;> intro hg <;> (try simp only[dcT,dcF,bnT,bnF] at hg))|refine st_nil ?_|refine st_seq ?_|refine st_block ?_)
  all_goals try (exfalso;omega)
  refine st_loopC (α:=Nat) tab mixed [] [] (by repeat (first|exact trivial|refine ⟨rfl,?_⟩)) [] [] (by repeat (first|exact trivial|refine ⟨rfl,?_⟩)) (fun i=>[(6,.int .i64 (0:Int)),(5,.bool false)]) [(2,_),(3,_),(4,_)] (fun _=>[]) [] (fun i=>i=0) (fun i=>i) (by decide) 0 rfl (by (try simp only[go_sem]);repeat' (first|exact trivial|refine And.intro ?_ ?_|rfl|(simp (disch:=omega) only[go_sem,if_yes,if_no,if_no];rfl)|(simp (disch:=omega) only[go_sem,if_yes,if_no,if_no]))) (by (try simp only[go_sem]);repeat' (first|exact trivial|refine And.intro ?_ ?_|rfl|(simp (disch:=omega) only[go_sem,if_yes,if_no,if_no];rfl)|(simp (disch:=omega) only[go_sem,if_yes,if_no,if_no]))) (by first|(simp only[go_sem];rfl)|rfl) (by intro n;simp only[go_sem];rfl) ?_
  rintro i c _ hc
  simp only[go_sem]
  repeat' (first|refine st_seq_reg rfl (by first|(simp only[go_sem];rfl)|rfl) (by first|(simp only[go_sem];rfl)|rfl) ?_|refine st_op ?_|refine st_det rfl (by simp (disch:=omega) only[go_sem,wr_i64];rfl) ?_|refine st_gF rfl rfl rfl ?_|refine st_condF rfl ?_|refine st_nil ?_|refine st_tN ?_|refine st_seq ?_|refine st_exit ?_|refine st_ret ?_|refine st_tE ?_|refine st_bH ?_)
  simp (disch:=omega) only[AEnd,Tryz.results43,aresK,fin,go_sem,implies_true,true_and,and_true,List.reverse_cons,List.reverse_nil]
  have:¬ p=q:=fun e=>hl (by rw [e])
  simp [heq,this]
 repeat' (first|refine st_seq_reg rfl (by first|(simp only[go_sem,length_map];rfl)|rfl) (by first|(simp only[go_sem,length_map];rfl)|rfl) ?_|refine st_op ?_|refine st_det rfl (by simp (disch:=omega) only[go_sem,wr_i64,length_map];rfl) ?_|(refine st_pureE (by first|(simp (disch:=omega) only[go_sem,length_map];rfl)|rfl) rfl (k31) (by first|(simp only[go_sem,length_map];rfl)|rfl) (by intro n;first|(simp (disch:=omega) only[go_sem];rfl)|rfl) ?_;intro n hn)|refine st_gT rfl rfl rfl ?_|refine st_gF rfl rfl rfl ?_|(refine st_gS rfl rfl ?_ ?_ <;> intro hg <;> (try simp only[dcT,dcF,bnT,bnF] at hg))|refine st_nil ?_|refine st_seq ?_|refine st_block ?_)
 all_goals try (exfalso;omega)
 refine st_loopC (α:=Nat × Bool) tab mixed [] [] (by repeat (first|exact trivial|refine ⟨rfl,?_⟩)) [] [] (by repeat (first|exact trivial|refine ⟨rfl,?_⟩)) (fun a=>[(6,.int .i64 (a.1:Nat)),(5,.bool a.2)]) [(2,_),(3,_),(4,_)] (fun _=>[]) [] (fun a=>a.1≤p.length∧(a.2=true ↔ ((p2=q2)∧a.1=0) ∨ 0 < a.1∧(p2=q2)∧∀ k,k < a.1→wOf p k=wOf q k)) (fun a=>p.length - a.1) (by decide) (0,decide (p2=q2)) ⟨Nat.zero_le _,by rw [decide_eq_true_eq];simp⟩ (by (try simp only[go_sem]);repeat' (first|exact trivial|refine And.intro ?_ ?_|rfl|(simp (disch:=omega) only[go_sem,if_yes,if_no,if_no];rfl)|(simp (disch:=omega) only[go_sem,if_yes,if_no,if_no]))) (by (try simp only[go_sem]);repeat' (first|exact trivial|refine And.intro ?_ ?_|rfl|(simp (disch:=omega) only[go_sem,if_yes,if_no,if_no];rfl)|(simp (disch:=omega) only[go_sem,if_yes,if_no,if_no]))) (by first|(simp only[go_sem];rfl)|rfl) (by intro n;simp only[go_sem];rfl) ?_
 rintro ⟨i,b⟩ c ⟨hi,hb⟩ hc
 dsimp only at hi hb
 have hb:b=true ↔ (p2=q2∧∀ k,k < i→wOf p k=wOf q k):=by
  rw [hb]
  constructor
  ·rintro (⟨q1,q2⟩|⟨_,q1,q2⟩)
   ·exact ⟨q1,fun k hk=>by omega⟩
   ·exact ⟨q1,q2⟩
  ·rintro ⟨q1,q2⟩
   by_cases h0:i=0
   ·exact .inl ⟨q1,h0⟩
   ·exact .inr ⟨by omega,q1,q2⟩
 simp only[go_sem]
 cases b with
 | false =>
  repeat' (first|refine st_seq_reg rfl (by first|(simp only[go_sem,length_map];rfl)|rfl) (by first|(simp only[go_sem,length_map];rfl)|rfl) ?_|refine st_op ?_|refine st_det rfl (by simp (disch:=omega) only[go_sem,wr_i64,length_map];rfl) ?_|refine st_gF rfl rfl rfl ?_|refine st_condF rfl ?_|refine st_nil ?_|refine st_tN ?_|refine st_seq ?_|refine st_exit ?_|refine st_ret ?_|refine st_tE ?_|refine st_bH ?_)
  simp (disch:=omega) only[AEnd,Tryz.results43,aresK,fin,go_sem,implies_true,true_and,and_true,List.reverse_cons,List.reverse_nil]
  have:¬ (p=q∧p2=q2):=fun e=>by
   have:=hb.2 ⟨e.2,fun k _=>by rw [e.1]⟩
   cases this
  simp [heq,this]
 | true =>
  have hb:=hb.1 rfl
  repeat' (first|refine st_seq_reg rfl (by first|(simp only[go_sem,length_map,wk_eq];rfl)|rfl) (by first|(simp only[go_sem,length_map,wk_eq];rfl)|rfl) ?_|refine st_reg rfl (by first|(simp only[go_sem,length_map,wk_eq];rfl)|rfl) (by first|(simp only[go_sem,length_map,wk_eq];rfl)|rfl) ?_|refine st_draw rfl (by first|(simp only[go_sem,length_map,wk_eq];rfl)|rfl) (by first|(simp only[go_sem,length_map,wk_eq];rfl)|rfl) ?_|refine st_op ?_|refine st_det rfl (by simp (disch:=omega) only[go_sem,wr_i64,length_map,wk_eq];rfl) ?_|refine st_dop rfl ?_|refine st_gT rfl rfl rfl ?_|(refine st_condS rfl ?_ ?_ <;> intro hg <;> (try simp only[dcT,dcF,bnT,bnF] at hg))|refine st_nil ?_|refine st_dnil ?_|refine st_tN ?_|refine st_seq ?_|refine st_block ?_|refine st_skip ?_|refine st_exit ?_|refine st_ret ?_|refine st_tE ?_|refine st_bN ?_|refine st_bH ?_)
  all_goals try (exfalso;omega)
  ·have hit:decide (wOf p i=wOf q i)=true ↔ ((p2=q2)∧i+1=0) ∨ 0 < i+1∧(p2=q2)∧∀ k,k < i+1→wOf p k=wOf q k:=by
    rw [decide_eq_true_eq]
    exact ⟨fun e=>.inr ⟨by omega,hb.1,stepP hb.2 e⟩,fun e=>by
     rcases e with ⟨_,e⟩|⟨_,_,e⟩
     ·omega
     ·exact e i (Nat.lt_succ_self i)⟩
   refine ⟨(i+1,decide (wOf p i=wOf q i)),⟨by show i+1≤p.length;omega,hit⟩,by show p.length - (i+1) < p.length - i;omega,(by repeat' (first|exact trivial|refine And.intro ?_ ?_|rfl|(simp (disch:=omega) only[go_sem,if_yes,if_no,if_no];rfl)|(simp (disch:=omega) only[go_sem,if_yes,if_no,if_no]))),(by repeat' (first|exact trivial|refine And.intro ?_ ?_|rfl|(simp (disch:=omega) only[go_sem,if_yes,if_no,if_no];rfl)|(simp (disch:=omega) only[go_sem,if_yes,if_no,if_no]))),rfl,HOld.of _ (by omega)⟩
  ·simp (disch:=omega) only[AEnd,Tryz.results43,aresK,fin,go_sem,implies_true,true_and,and_true,List.reverse_cons,List.reverse_nil]
   have:p=q:=wk_stop (by omega) (fun k hk=>hb.2 k (by omega))
   simp [heq,this,hb.1]
end Go.Proofs.YtaijkalhkgjakaaGreatDoor
