/- Contracts of functions that the claim reaches: what each call gives, told in our own logic. Conditions: those of each theorem. -/
import Derived.Test.YtaijkalhkgjakaaDoorG18
import Derived.Test.YtaijkalhkgjakaaDoorP1
import Derived.Test.YtaijkalhkgjakaaDoorBaseC
import Derived.Test.YtaijkalhkgjakaaDoorG27
import Derived.Test.YtaijkalhkgjakaaDoorP6
open Nat (reduceAdd reduceMul reduceEqDiff reduceLeDiff)
open List (length_map)
set_option linter.all false
set_option linter.unusedSimpArgs false
set_option linter.unusedVariables false
namespace Go.Proofs.YtaijkalhkgjakaaDoor
open Go.Av
attribute [local irreducible] thenA blockA awp awpOps awpD awp1
set_option maxHeartbeats 8000000
set_option maxRecDepth 20000
theorem c15 (l:List Int) (hl:(l.length:Int)≤9223372036854775807) (h:AH):ACalls Tryd.prog 15 [.lst 1 (l.map iv)] h (fun v h'=>∃ b x n,v=.ptr b 0 0∧h.clk≤b.1∧b.1 < n∧isU64 x∧h'=(h.tick n).put b (dr x)):=by
  refine ACalls.of tab mixed Tryd.call15 Tryd.func15 rfl (fi:=⟨29,[],[],none,[(5,[0,0,2,6,14,0,0,96,224,480,1022,2047,4095,8191],[(0,false),(1,false),(2,false),(3,false),(4,false),(5,false),(6,false),(7,false),(8,true),(9,false),(10,false),(11,false),(12,false),(13,false)])]⟩) rfl rfl (Nat.le_of_ble_eq_true rfl) (by decide) ?_
  unfold startA
  repeat' (first|refine st_seq_reg rfl (by first|(simp only[go_sem];rfl)|rfl) (by first|(simp only[go_sem];rfl)|rfl) ?_|refine st_op ?_|refine st_det rfl (by simp (disch:=omega) only[go_sem,wr_i64,if_yes,if_no,↓reduceIte,reduceAdd,reduceMul,reduceEqDiff,Nat.reduceBEq,reduceLeDiff];rfl) ?_|refine st_heap rfl (by simp (disch:=omega) only[go_sem,wr_i64,if_yes,if_no,↓reduceIte,reduceAdd,reduceMul,reduceEqDiff,Nat.reduceBEq,reduceLeDiff];rfl) ?_|refine st_nil ?_|refine st_seq ?_|refine st_block ?_)
  refine st_loopH (α:=Nat × Int) tab mixed [] [] (by repeat (first|exact trivial|refine ⟨rfl,?_⟩)) [] [] (by repeat (first|exact trivial|refine ⟨rfl,?_⟩)) (fun a=>[(4,.int .i64 a.1)]) [(0,_),(2,_),(3,_)] (fun _=>[]) [] (fun a=>(h.tick (h.clk+1+1+1)).put (h.clk+1,6) (dr a.2)) (fun a=>a.1≤l.length∧isU64 a.2) (fun a=>l.length - a.1) (by decide) (0,2685821657736338717) ⟨by omega,by unfold isU64;omega⟩ (by (try simp only[go_sem]);repeat' (first|exact trivial|refine And.intro ?_ ?_|rfl|(simp (disch:=omega) only[go_sem,if_yes,if_no,↓reduceIte,reduceAdd,reduceMul,reduceEqDiff,Nat.reduceBEq,reduceLeDiff];rfl)|(simp (disch:=omega) only[go_sem,if_yes,if_no,↓reduceIte,reduceAdd,reduceMul,reduceEqDiff,Nat.reduceBEq,reduceLeDiff]))) (by (try simp only[go_sem]);repeat' (first|exact trivial|refine And.intro ?_ ?_|rfl|(simp (disch:=omega) only[go_sem,if_yes,if_no,↓reduceIte,reduceAdd,reduceMul,reduceEqDiff,Nat.reduceBEq,reduceLeDiff];rfl)|(simp (disch:=omega) only[go_sem,if_yes,if_no,↓reduceIte,reduceAdd,reduceMul,reduceEqDiff,Nat.reduceBEq,reduceLeDiff]))) (HOld.refl _) ?_
  rintro ⟨i,x⟩ c ⟨hi',hx⟩ hc
  simp only[go_sem] at hc
  simp only[go_sem,dr]
  repeat' (first|refine st_seq_reg rfl (by first|(simp only[go_sem];rfl)|rfl) (by first|(simp only[go_sem];rfl)|rfl) ?_|refine st_reg rfl (by first|(simp only[go_sem];rfl)|rfl) (by first|(simp only[go_sem];rfl)|rfl) ?_|refine st_seq_draw rfl (by first|(simp only[go_sem];rfl)|rfl) (by first|(simp only[go_sem];rfl)|rfl) ?_|refine st_op ?_|(refine st_u64 rfl (by simp (disch:=omega) only[go_sem,wr_i64,if_yes,if_no,↓reduceIte,reduceAdd,reduceMul,reduceEqDiff,Nat.reduceBEq,reduceLeDiff];rfl) (by first|exact wr_u64 _|exact xor_u64 _ _) ?_;intro y hy)|refine st_det rfl (by simp (disch:=omega) only[go_sem,wr_i64,if_yes,if_no,↓reduceIte,reduceAdd,reduceMul,reduceEqDiff,Nat.reduceBEq,reduceLeDiff];rfl) ?_|refine st_dop rfl ?_|refine st_store (by simp (disch:=omega) only[go_sem,wr_i64,if_yes,if_no,↓reduceIte,reduceAdd,reduceMul,reduceEqDiff,Nat.reduceBEq,reduceLeDiff];rfl) ?_|(refine st_drum (by first|(simp (disch:=omega) only[go_sem];rfl)|rfl) rfl (c59 _) (by first|(simp (disch:=omega) only[go_sem];rfl)|rfl|exact put_same _ _ _) (by assumption) (by first|(simp only[go_sem];rfl)|rfl) (by intro x' n;first|(simp (disch:=omega) only[go_sem];rfl)|rfl) ?_;rintro v x' n hu' ⟨w,hw,rfl⟩ hn)|(refine st_condS rfl ?_ ?_ <;> intro hg <;> (try simp only[decide_eq_true_eq,decide_eq_false_iff_not,Bool.not_eq_true',Bool.not_eq_false'] at hg))|refine st_nil ?_|refine st_dnil ?_|refine st_tN ?_|refine st_seq ?_|refine st_block ?_|refine st_skip ?_|refine st_exit ?_|refine st_ret ?_|refine st_tE ?_|refine st_bN ?_|refine st_bH ?_)
  · refine ⟨(i+1,x'),⟨by omega,by assumption⟩,by omega,(by repeat' (first|exact trivial|refine And.intro ?_ ?_|rfl|(simp (disch:=omega) only[go_sem,if_yes,if_no,↓reduceIte,reduceAdd,reduceMul,reduceEqDiff,Nat.reduceBEq,reduceLeDiff];rfl)|(simp (disch:=omega) only[go_sem,if_yes,if_no,↓reduceIte,reduceAdd,reduceMul,reduceEqDiff,Nat.reduceBEq,reduceLeDiff]))),(by repeat' (first|exact trivial|refine And.intro ?_ ?_|rfl|(simp (disch:=omega) only[go_sem,if_yes,if_no,↓reduceIte,reduceAdd,reduceMul,reduceEqDiff,Nat.reduceBEq,reduceLeDiff];rfl)|(simp (disch:=omega) only[go_sem,if_yes,if_no,↓reduceIte,reduceAdd,reduceMul,reduceEqDiff,Nat.reduceBEq,reduceLeDiff]))),rfl,HOld.put _ _ _ (by omega)⟩
  · simp (disch:=omega) only[AEnd,Tryd.results15,aresK,fin,go_sem,↓reduceIte,reduceEqDiff,reduceAdd,reduceLeDiff,if_yes,if_no,implies_true,true_and,and_true,List.reverse_cons,List.reverse_nil]
    exact ⟨_,x,_,rfl,by omega,by omega,hx,rfl⟩
theorem c40' (b:Nat × Nat) (lo hi:Int) (h1:-1000000000≤lo∧lo≤1000000000) (h2:lo≤hi∧hi - lo < 1000000000):Drum Tryd.prog 40 [.ptr b 0 0,.int .i64 lo,.int .i64 hi] b (fun v=>∃ r,v=.int .i64 r∧lo≤r∧r≤hi):=by
  intro h x hx hu
  refine (c40 b lo hi h1 (by omega) h x hx hu).mono ?_
  rintro v h' ⟨x',n,h1,h2,h3,r,h4,h5,h6⟩
  exact ⟨x',n,h1,h2,h3,r,h4,h5,by omega⟩
theorem c39' (b:Nat × Nat) (N:Int) (hN:1≤N∧N≤1000000000):Drum Tryd.prog 39 [.ptr b 0 0,.int .i64 N] b (fun v=>∃ r,v=.int .i64 r∧0≤r∧r < N):=by
  intro h x hx hu
  refine (c39 b N hN.2 h x hx hu).mono ?_
  rintro v h' ⟨x',n,h1,h2,h3,r,h4,h5,h6⟩
  exact ⟨x',n,h1,h2,h3,r,h4,h5,by omega⟩
structure FS where
  i:Int
  x:Int
  t:Nat
  bb:Nat × Nat
  ls:List Ld
def FS.sl (a:FS):AV:=if a.ls=[] then .nils else .slc a.bb 7 0 a.ls.length
def FS.hp (h:AH) (b:Nat × Nat) (a:FS):AH:=if a.ls=[] then (h.tick a.t).put b (dr a.x) else ((h.tick a.t).put a.bb (some ⟨7,a.ls.map Ld.row⟩)).put b (dr a.x)
@[go_sem] theorem FS.sl_nil (i x:Int) (t:Nat) (bb:Nat × Nat):FS.sl ⟨i,x,t,bb,[]⟩=.nils:=rfl
@[go_sem] theorem FS.sl_app (i x:Int) (t:Nat) (bb:Nat × Nat) (l:List Ld) (y:Ld):FS.sl ⟨i,x,t,bb,l ++ [y]⟩=.slc bb 7 0 (l.length+1):=by simp [FS.sl]
@[go_sem] theorem FS.sl_one (i x:Int) (t:Nat) (bb:Nat × Nat) (y:Ld):FS.sl ⟨i,x,t,bb,[y]⟩=.slc bb 7 0 1:=by simp [FS.sl]
theorem c38 (b:Nat × Nat) (N:Int) (hN:1≤N∧N≤1000000000):Drum Tryd.prog 38 [.ptr b 0 0,.int .i64 N] b (fun v=>∃ r:Bool,v=.bool r):=by
  refine Drum.of Tryd.call38 fun h x hx hu hold=>?_
  refine ACalls.of tab mixed Tryd.call38 Tryd.func38 rfl (fi:=⟨9,[],[],none,[]⟩) rfl rfl (Nat.le_of_ble_eq_true rfl) (by decide) ?_
  unfold startA
  repeat' (first|refine st_seq_reg rfl (by first|(simp only[go_sem,hx];rfl)|rfl) (by first|(simp only[go_sem,hx];rfl)|rfl) ?_|refine st_op ?_|refine st_det rfl (by simp (disch:=omega) only[go_sem,wr_i64,if_yes,if_no,↓reduceIte,reduceAdd,reduceMul,reduceEqDiff,Nat.reduceBEq,reduceLeDiff,hx];rfl) ?_|(refine st_drum (by first|(simp (disch:=omega) only[go_sem,hx];rfl)|rfl) rfl (c39 b _ (by omega)) (by first|(simp (disch:=omega) only[go_sem,hx];rfl)|rfl|exact put_same _ _ _) (by assumption) (by first|(simp only[go_sem,hx];rfl)|rfl) (by intro x' n;first|(simp (disch:=omega) only[go_sem];rfl)|rfl) ?_;rintro v x' n hu' ⟨r,rfl,hr1,hr2⟩ hn)|refine st_nil ?_|refine st_ret ?_)
  simp (disch:=omega) only[AEnd,Tryd.results38,aresK,fin,go_sem,↓reduceIte,reduceEqDiff,reduceAdd,reduceLeDiff,if_yes,if_no,implies_true,true_and,and_true,List.reverse_cons,List.reverse_nil]
  exact ⟨fun b' _ h2=>if_neg h2,⟨_,rfl,hu'⟩,⟨_,rfl⟩⟩
structure Gd (h:AH) (b:Nat × Nat) (x:Int) (g:AH):Prop where
  u:isU64 x
  d:g.at_ b=dr x
  old:∀ b':Nat × Nat,b'.1 < h.clk→b' ≠ b→g.at_ b'=h.at_ b'
  lp:g.lp=h.lp
  cl:h.clk≤g.clk
theorem Gd.to {h g g':AH} {b:Nat × Nat} {x x':Int} (hG:Gd h b x g) (u:isU64 x') (d:g'.at_ b=dr x') (ho:∀ b':Nat × Nat,b'.1 < h.clk→b' ≠ b→g'.at_ b'=g.at_ b') (hl:g'.lp=g.lp) (hc:g.clk≤g'.clk):Gd h b x' g' :=
  ⟨u,d,fun b' h1 h2=>by rw [ho b' h1 h2];exact hG.old b' h1 h2,by rw [hl];exact hG.lp,by have:=hG.cl;omega⟩
theorem Gd.put {h g:AH} {b:Nat × Nat} {x x':Int} (hG:Gd h b x g) (u:isU64 x') {n:Nat} (hn:g.clk≤n):Gd h b x' ((g.tick n).put b (dr x')) :=
  hG.to u (put_same _ _ _) (fun b' _ h2=>put_ne _ _ h2) rfl hn
theorem Gd.tick {h g:AH} {b:Nat × Nat} {x:Int} (hG:Gd h b x g) {n:Nat} (hn:g.clk≤n):Gd h b x (g.tick n):=hG.to hG.u hG.d (fun _ _ _=>rfl) rfl hn
theorem Gd.app {h H G:AH} {b:Nat × Nat} {x:Int} {h0 k0 d z n:Nat} {v v':AV} {l:List (List AV)} (hG:Gd h b x H) (hb:b.1 < h.clk) (h0h:h.clk≤h0) (hA:AppA h0 k0 d H v z n l v' G) {N:Nat} (hN:H.clk≤N):Gd h b x (G.tick N) :=
  hG.to hG.u (by show G.at_ b=_;rw [hA.old b (by omega)];exact hG.d) (fun b' h1 _=>hA.old b' (by omega)) hA.lp hN
structure ShS where
  i:Int
  x:Int
  v:AV
  ws:List Wk
  g:AH
structure SjS where
  i:Int
  x:Int
  v:AV
  js:List Jb
  g:AH
structure ShGood (S:Sp) (W J D:Int):Prop where
  w:1≤S.ws.length∧(S.ws.length:Int)≤W
  j:(S.js.length:Int)≤J
  job:∀ x ∈ S.js,0≤x.f∧x.f≤2∧1≤x.s∧x.s≤3∧1≤x.d∧x.d≤D
theorem cells_one' {v:AV} (h:v.cell=true):v.cells=[v]:=by cases v <;> first|rfl|simp [AV.cell] at h
theorem sWk (l:List Wk):Still (.lst 3 (l.map Wk.row)):=Still.lst fun r hr x hx=>by
  obtain ⟨y,_,rfl⟩:=List.mem_map.1 hr
  simp only[Wk.row,List.mem_cons,List.not_mem_nil,or_false] at hx
  rcases hx with rfl|rfl|rfl <;> exact fun _ _=>rfl
theorem c14 (b:Nat × Nat) (W J D:Int) (hW:1≤W∧W≤4) (hJ:0≤J∧J≤7) (hD:1≤D∧D≤30):Drum Tryd.prog 14 [.ptr b 0 0,.int .i64 W,.int .i64 J,.int .i64 D] b (fun v=>∃ S,v=S.av∧ShGood S W J D):=by
  refine Drum.of Tryd.call14 fun h x hx hu hold=>?_
  have nbb:∀ {b1:Nat × Nat},h.clk≤b1.1→¬ b1=b:=fun hb e=>by rw [e] at hb;omega
  refine ACalls.ofS tab Tryd.call14 Tryd.func14 rfl (fi:=⟨56,[8,9],[31,52,1000010],none,[(5,[0,1,0,4,12,0,44,108,0,364,876,2044,4092,8191,16383,32767],[(0,false),(1,true),(2,false),(5,false),(8,false),(3,false),(4,false),(6,false),(7,false),(9,false),(10,false),(11,false),(12,false),(13,false),(14,false),(15,false)]),(9,[0,1,0,4,0,28,0,0,252,508,1020,2047,4095,8191],[(0,false),(1,true),(2,false),(4,false),(6,false),(7,false),(3,false),(5,false),(8,false),(9,false),(10,false),(11,false),(12,false),(13,false)])]⟩) rfl rfl (Nat.le_of_ble_eq_true rfl) ?_
  unfold startA
  refine asem_seq (fi:=⟨56,[8,9],[31,52,1000010],none,[(5,[0,1,0,4,12,0,44,108,0,364,876,2044,4092,8191,16383,32767],[(0,false),(1,true),(2,false),(5,false),(8,false),(3,false),(4,false),(6,false),(7,false),(9,false),(10,false),(11,false),(12,false),(13,false),(14,false),(15,false)]),(9,[0,1,0,4,0,28,0,0,252,508,1020,2047,4095,8191],[(0,false),(1,true),(2,false),(4,false),(6,false),(7,false),(3,false),(5,false),(8,false),(9,false),(10,false),(11,false),(12,false),(13,false)])]⟩) tab mixed (by decide) ?_
  repeat' (first|refine st_reg rfl (by first|(simp only[go_sem];rfl)|rfl) (by first|(simp only[go_sem];rfl)|rfl) ?_|refine st_op ?_|refine st_loc rfl (by simp (disch:=omega) only[go_sem,wr_i64,if_yes,if_no,↓reduceIte,reduceAdd,reduceMul,reduceEqDiff,Nat.reduceBEq,reduceLeDiff];rfl) ?_|refine st_nil ?_|refine st_tN ?_)
  refine asem_seq (fi:=⟨56,[8,9],[31,52,1000010],none,[(5,[0,1,0,4,12,0,44,108,0,364,876,2044,4092,8191,16383,32767],[(0,false),(1,true),(2,false),(5,false),(8,false),(3,false),(4,false),(6,false),(7,false),(9,false),(10,false),(11,false),(12,false),(13,false),(14,false),(15,false)]),(9,[0,1,0,4,0,28,0,0,252,508,1020,2047,4095,8191],[(0,false),(1,true),(2,false),(4,false),(6,false),(7,false),(3,false),(5,false),(8,false),(9,false),(10,false),(11,false),(12,false),(13,false)])]⟩) tab mixed (by decide) ?_
  repeat' (first|refine st_reg rfl (by first|(simp only[go_sem];rfl)|rfl) (by first|(simp only[go_sem];rfl)|rfl) ?_|refine st_op ?_|refine st_loc rfl (by simp (disch:=omega) only[go_sem,wr_i64,if_yes,if_no,↓reduceIte,reduceAdd,reduceMul,reduceEqDiff,Nat.reduceBEq,reduceLeDiff];rfl) ?_|refine st_nil ?_|refine st_tN ?_)
  refine asem_seq (fi:=⟨56,[8,9],[31,52,1000010],none,[(5,[0,1,0,4,12,0,44,108,0,364,876,2044,4092,8191,16383,32767],[(0,false),(1,true),(2,false),(5,false),(8,false),(3,false),(4,false),(6,false),(7,false),(9,false),(10,false),(11,false),(12,false),(13,false),(14,false),(15,false)]),(9,[0,1,0,4,0,28,0,0,252,508,1020,2047,4095,8191],[(0,false),(1,true),(2,false),(4,false),(6,false),(7,false),(3,false),(5,false),(8,false),(9,false),(10,false),(11,false),(12,false),(13,false)])]⟩) tab mixed (by decide) ?_
  repeat' (first|refine st_seq_reg rfl (by first|(simp only[go_sem,hx];rfl)|rfl) (by first|(simp only[go_sem,hx];rfl)|rfl) ?_|refine st_op ?_|refine st_det rfl (by simp (disch:=omega) only[go_sem,wr_i64,if_yes,if_no,↓reduceIte,reduceAdd,reduceMul,reduceEqDiff,Nat.reduceBEq,reduceLeDiff,hx];rfl) ?_|(refine st_drum (by first|(simp (disch:=omega) only[go_sem,hx];rfl)|rfl) rfl (c40' b 1 W (by omega) (by omega)) (by first|(simp (disch:=omega) only[go_sem,hx];rfl)|rfl|exact put_same _ _ _) (by assumption) (by first|(simp only[go_sem,hx];rfl)|rfl) (by intro x' n;first|(simp (disch:=omega) only[go_sem];rfl)|rfl) ?_;rintro v x' n hu' ⟨n,rfl,hn⟩ hn)|refine st_nil ?_|refine st_block ?_)
  rename_i N1 hN1
  obtain ⟨n0,rfl⟩:∃ n0:Nat,n=n0:=⟨n.toNat,by omega⟩
  refine st_loopH (α:=ShS) tab mixed [9] [_] (by repeat (first|exact trivial|refine ⟨rfl,?_⟩)) [8] [_] (by repeat (first|exact trivial|refine ⟨rfl,?_⟩)) (fun a=>[(10,.int .i64 (a.i:Int))]) [(0,_),(1,_),(2,_),(3,_),(8,_),(9,_)] (fun a=>[[a.v,.nils]]) [_] (fun a=>a.g) (fun a=>Gd h b a.x a.g∧h.clk+2≤a.g.clk∧0≤a.i∧(a.ws.length:Int)+a.i=n0∧SlA h.clk a.g a.v 3 (a.ws.map Wk.row)) (fun a=>a.i.toNat) (by decide) ⟨n0,x',.nils,[],_⟩ (by refine ⟨⟨by assumption,by simp only[go_sem,↓reduceIte],fun b' _ h2=>by simp only[go_sem,h2,↓reduceIte],rfl,by simp only[go_sem];omega⟩,by simp only[go_sem];omega,by show (0:Int)≤n0;omega,by simp,.inl ⟨rfl,rfl⟩⟩) (by (try simp only[go_sem]);repeat' (first|exact trivial|refine And.intro ?_ ?_|rfl|(simp (disch:=omega) only[go_sem,if_yes,if_no,↓reduceIte,reduceAdd,reduceMul,reduceEqDiff,Nat.reduceBEq,reduceLeDiff];rfl)|(simp (disch:=omega) only[go_sem,if_yes,if_no,↓reduceIte,reduceAdd,reduceMul,reduceEqDiff,Nat.reduceBEq,reduceLeDiff]))) (by (try simp only[go_sem]);repeat' (first|exact trivial|refine And.intro ?_ ?_|rfl|(simp (disch:=omega) only[go_sem,if_yes,if_no,↓reduceIte,reduceAdd,reduceMul,reduceEqDiff,Nat.reduceBEq,reduceLeDiff];rfl)|(simp (disch:=omega) only[go_sem,if_yes,if_no,↓reduceIte,reduceAdd,reduceMul,reduceEqDiff,Nat.reduceBEq,reduceLeDiff]))) (HOld.refl _) ?_
  rintro ⟨i,x1,v,ws,g⟩ c ⟨hG,hgc,i0,hwl,hS⟩ hc
  dsimp only at hG hgc i0 hwl hS hc
  have hu1:=hG.u
  have hd1:=hG.d
  simp only[go_sem]
  have hnc:=hS.noL
  by_cases hi:0 < i
  case pos =>
    repeat' (first|refine st_seq_reg rfl (by first|(simp only[go_sem,hd1,hnc];rfl)|rfl) (by first|(simp only[go_sem,hd1,hnc];rfl)|rfl) ?_|refine st_draw rfl (by first|(simp only[go_sem,hd1,hnc];rfl)|rfl) (by first|(simp only[go_sem,hd1,hnc];rfl)|rfl) ?_|refine st_op ?_|refine st_det rfl (by simp (disch:=omega) only[go_sem,wr_i64,if_yes,if_no,↓reduceIte,reduceAdd,reduceMul,reduceEqDiff,Nat.reduceBEq,reduceLeDiff,hd1,hnc];rfl) ?_|refine st_dop rfl ?_|(refine st_drum (by first|(simp (disch:=omega) only[go_sem,hd1,hnc];rfl)|rfl) rfl (c38 b 3 (by decide)) (by first|(simp (disch:=omega) only[go_sem,hd1,hnc];rfl)|rfl|exact put_same _ _ _) (by assumption) (by first|(simp only[go_sem,hd1,hnc];rfl)|rfl) (by intro x' n;first|(simp (disch:=omega) only[go_sem];rfl)|rfl) ?_;rintro v x' n hu' ⟨r1,rfl⟩ hn)|(refine st_appS (by intro h id x y;simp only[go_sem];rfl) rfl (by simp only[go_sem,hd1,hnc];rfl) (by first|(simp only[go_sem,hd1,hnc];rfl)|rfl) (by decide) hS (fun b1 m e=>by simp only[go_sem,nbb (hS.lt e).1,↓reduceIte]) (by omega) (by simp only[length_map,List.length_cons,List.length_nil,big,hd1,hnc];omega) (by omega) (by omega) ?_;intro v' g' hA)|(refine st_condS rfl ?_ ?_ <;> intro hg <;> (try simp only[decide_eq_true_eq,decide_eq_false_iff_not,Bool.not_eq_true',Bool.not_eq_false'] at hg))|refine st_nil ?_|refine st_tN ?_|refine st_seq ?_|refine st_block ?_|refine st_skip ?_|refine st_exit ?_|refine st_tE ?_|refine st_bH ?_)
    all_goals try (exfalso;omega)
    have hnv:=hA.nol
    have hcl:=hA.sl.cell
    have hcv:=cells_one' hcl
    repeat' (first|refine st_reg rfl (by first|(simp only[go_sem,hnv,hcl,hcv];rfl)|rfl) (by first|(simp only[go_sem,hnv,hcl,hcv];rfl)|rfl) ?_|refine st_op ?_|refine st_det rfl (by simp (disch:=omega) only[go_sem,wr_i64,if_yes,if_no,↓reduceIte,reduceAdd,reduceMul,reduceEqDiff,Nat.reduceBEq,reduceLeDiff,hnv,hcl,hcv];rfl) ?_|refine st_store (by simp (disch:=omega) only[go_sem,wr_i64,if_yes,if_no,↓reduceIte,reduceAdd,reduceMul,reduceEqDiff,Nat.reduceBEq,reduceLeDiff,hnv,hcl,hcv];rfl) ?_|refine st_nil ?_|refine st_dnil ?_|refine st_tN ?_|refine st_bN ?_)
    refine ⟨⟨i - 1,x',v',ws ++ [⟨_,_,_⟩],_⟩,(by refine ⟨(hG.put (by assumption) (n:=n) (by omega)).app hold (Nat.le_refl _) hA (by simp only[go_sem];omega),by simp only[go_sem];omega,by show 0≤i - 1;omega,by simp;omega,by rw [List.map_append];exact hA.sl.to (fun _ _ _ _ _=>rfl) (by simp only[go_sem];omega)⟩),by show (i - 1).toNat < i.toNat;omega,(by repeat' (first|exact trivial|refine And.intro ?_ ?_|rfl|(simp (disch:=omega) only[go_sem,if_yes,if_no,↓reduceIte,reduceAdd,reduceMul,reduceEqDiff,Nat.reduceBEq,reduceLeDiff];rfl)|(simp (disch:=omega) only[go_sem,if_yes,if_no,↓reduceIte,reduceAdd,reduceMul,reduceEqDiff,Nat.reduceBEq,reduceLeDiff]))),(by repeat' (first|exact trivial|refine And.intro ?_ ?_|rfl|(simp (disch:=omega) only[go_sem,if_yes,if_no,↓reduceIte,reduceAdd,reduceMul,reduceEqDiff,Nat.reduceBEq,reduceLeDiff];rfl)|(simp (disch:=omega) only[go_sem,if_yes,if_no,↓reduceIte,reduceAdd,reduceMul,reduceEqDiff,Nat.reduceBEq,reduceLeDiff]))),rfl,HOld.refl _⟩
  obtain rfl:i=0:=by omega
  repeat' (first|refine st_seq_reg rfl (by first|(simp only[go_sem];rfl)|rfl) (by first|(simp only[go_sem];rfl)|rfl) ?_|refine st_op ?_|refine st_det rfl (by simp (disch:=omega) only[go_sem,wr_i64,if_yes,if_no,↓reduceIte,reduceAdd,reduceMul,reduceEqDiff,Nat.reduceBEq,reduceLeDiff];rfl) ?_|refine st_condF rfl ?_|refine st_nil ?_|refine st_tN ?_|refine st_seq ?_|refine st_exit ?_|refine st_tE ?_|refine st_bH ?_)
  all_goals try (exfalso;omega)
  refine ASem.cutA (h.clk+1,9) [] [.nils] v 3 (ws.map Wk.row) (by simp only[go_sem,↓reduceIte] <;> rfl) (hS.to (fun _ _ _ _ _=>rfl) (by simp only[go_sem];omega)) (by intro y hy;simp at hy;rcases hy with rfl;exact Still.nils) fun H1 h1a h1b h1c=>?_
  have hG1:Gd h b x1 H1:=hG.to hu1 (by rw [h1a b (fun m e=>by have:=(hS.lt e).1;omega)];exact hd1) (fun b' h1 _=>h1a b' (fun m e=>by have:=(hS.lt e).1;omega)) h1c (by rw [h1b];simp only[go_sem];omega)
  have hH1c:c+1≤H1.clk:=by rw [h1b];simp only[go_sem];omega
  have hd2:=hG1.d
  have hu2:=hG1.u
  refine asem_seq (fi:=⟨56,[8,9],[31,52,1000010],none,[(5,[0,1,0,4,12,0,44,108,0,364,876,2044,4092,8191,16383,32767],[(0,false),(1,true),(2,false),(5,false),(8,false),(3,false),(4,false),(6,false),(7,false),(9,false),(10,false),(11,false),(12,false),(13,false),(14,false),(15,false)]),(9,[0,1,0,4,0,28,0,0,252,508,1020,2047,4095,8191],[(0,false),(1,true),(2,false),(4,false),(6,false),(7,false),(3,false),(5,false),(8,false),(9,false),(10,false),(11,false),(12,false),(13,false)])]⟩) tab mixed (by decide) ?_
  repeat' (first|refine st_seq_reg rfl (by first|(simp only[go_sem,hd2];rfl)|rfl) (by first|(simp only[go_sem,hd2];rfl)|rfl) ?_|refine st_op ?_|refine st_det rfl (by simp (disch:=omega) only[go_sem,wr_i64,if_yes,if_no,↓reduceIte,reduceAdd,reduceMul,reduceEqDiff,Nat.reduceBEq,reduceLeDiff,hd2];rfl) ?_|(refine st_drum (by first|(simp (disch:=omega) only[go_sem,hd2];rfl)|rfl) rfl (c39' b (J+1) (by omega)) (by first|(simp (disch:=omega) only[go_sem,hd2];rfl)|rfl|exact put_same _ _ _) (by assumption) (by first|(simp only[go_sem,hd2];rfl)|rfl) (by intro x' n;first|(simp (disch:=omega) only[go_sem];rfl)|rfl) ?_;rintro v x' n hu' ⟨m,rfl,hm⟩ hn)|refine st_nil ?_|refine st_block ?_)
  rename_i N2
  obtain ⟨m0,rfl⟩:∃ m0:Nat,m=m0:=⟨m.toNat,by omega⟩
  have hH1g:h.clk≤H1.clk:=hG1.cl
  have hwn:1≤ws.length∧(ws.length:Int)≤W:=by omega
  refine st_loopH (α:=SjS) tab mixed [9] [_] (by repeat (first|exact trivial|refine ⟨rfl,?_⟩)) [8] [_] (by repeat (first|exact trivial|refine ⟨rfl,?_⟩)) (fun a=>[(11,.int .i64 (a.i:Int))]) [(0,_),(1,_),(2,_),(3,_),(8,_),(9,_)] (fun a=>[[.lst 3 (ws.map Wk.row),a.v]]) [_] (fun a=>a.g) (fun a=>Gd h b a.x a.g∧h.clk+2≤a.g.clk∧0≤a.i∧(a.js.length:Int)+a.i=m0∧SlA h.clk a.g a.v 3 (a.js.map Jb.row)∧∀ y ∈ a.js,0≤y.f∧y.f≤2∧1≤y.s∧y.s≤3∧1≤y.d∧y.d≤D) (fun a=>a.i.toNat) (by decide) ⟨m0,x',.nils,[],_⟩ (by refine ⟨hG1.put (by assumption) (n:=n) (by omega),by simp only[go_sem];omega,by show (0:Int)≤m0;omega,by simp,.inl ⟨rfl,rfl⟩,fun y hy=>by cases hy⟩) (by (try simp only[go_sem]);repeat' (first|exact trivial|refine And.intro ?_ ?_|rfl|(simp (disch:=omega) only[go_sem,if_yes,if_no,↓reduceIte,reduceAdd,reduceMul,reduceEqDiff,Nat.reduceBEq,reduceLeDiff];rfl)|(simp (disch:=omega) only[go_sem,if_yes,if_no,↓reduceIte,reduceAdd,reduceMul,reduceEqDiff,Nat.reduceBEq,reduceLeDiff]))) (by (try simp only[go_sem]);repeat' (first|exact trivial|refine And.intro ?_ ?_|rfl|(simp (disch:=omega) only[go_sem,if_yes,if_no,↓reduceIte,reduceAdd,reduceMul,reduceEqDiff,Nat.reduceBEq,reduceLeDiff];rfl)|(simp (disch:=omega) only[go_sem,if_yes,if_no,↓reduceIte,reduceAdd,reduceMul,reduceEqDiff,Nat.reduceBEq,reduceLeDiff]))) (HOld.refl _) ?_
  rintro ⟨i,x2,v2,js,g2⟩ c2 ⟨hG2,hgc2,i2,hjl,hS2,hjs⟩ hc2
  dsimp only at hG2 hgc2 i2 hjl hS2 hjs hc2
  have hu3:=hG2.u
  have hd3:=hG2.d
  simp only[go_sem]
  have hnc2:=hS2.noL
  by_cases hi2:0 < i
  case pos =>
    repeat' (first|refine st_seq_reg rfl (by first|(simp only[go_sem,hd3,hnc2];rfl)|rfl) (by first|(simp only[go_sem,hd3,hnc2];rfl)|rfl) ?_|refine st_draw rfl (by first|(simp only[go_sem,hd3,hnc2];rfl)|rfl) (by first|(simp only[go_sem,hd3,hnc2];rfl)|rfl) ?_|refine st_op ?_|refine st_det rfl (by simp (disch:=omega) only[go_sem,wr_i64,if_yes,if_no,↓reduceIte,reduceAdd,reduceMul,reduceEqDiff,Nat.reduceBEq,reduceLeDiff,hd3,hnc2];rfl) ?_|refine st_dop rfl ?_|(refine st_drum (by first|(simp (disch:=omega) only[go_sem,hd3,hnc2];rfl)|rfl) rfl (c39' b 3 (by decide)) (by first|(simp (disch:=omega) only[go_sem,hd3,hnc2];rfl)|rfl|exact put_same _ _ _) (by assumption) (by first|(simp only[go_sem,hd3,hnc2];rfl)|rfl) (by intro x' n;first|(simp (disch:=omega) only[go_sem];rfl)|rfl) ?_;rintro v x' n hu' ⟨r1,rfl,hr1⟩ hn)|(refine st_drum (by first|(simp (disch:=omega) only[go_sem,hd3,hnc2];rfl)|rfl) rfl (c40' b 1 3 (by decide) (by decide)) (by first|(simp (disch:=omega) only[go_sem,hd3,hnc2];rfl)|rfl|exact put_same _ _ _) (by assumption) (by first|(simp only[go_sem,hd3,hnc2];rfl)|rfl) (by intro x' n;first|(simp (disch:=omega) only[go_sem];rfl)|rfl) ?_;rintro v x' n hu' ⟨r2,rfl,hr2⟩ hn)|(refine st_drum (by first|(simp (disch:=omega) only[go_sem,hd3,hnc2];rfl)|rfl) rfl (c40' b 1 D (by decide) (by omega)) (by first|(simp (disch:=omega) only[go_sem,hd3,hnc2];rfl)|rfl|exact put_same _ _ _) (by assumption) (by first|(simp only[go_sem,hd3,hnc2];rfl)|rfl) (by intro x' n;first|(simp (disch:=omega) only[go_sem];rfl)|rfl) ?_;rintro v x' n hu' ⟨r3,rfl,hr3⟩ hn)|(refine st_appS (by intro h id x y;simp only[go_sem];rfl) rfl (by simp only[go_sem,hd3,hnc2];rfl) (by first|(simp only[go_sem,hd3,hnc2];rfl)|rfl) (by decide) hS2 (fun b1 m e=>by simp only[go_sem,nbb (hS2.lt e).1,↓reduceIte]) (by omega) (by simp only[length_map,List.length_cons,List.length_nil,big,hd3,hnc2];omega) (by omega) (by omega) ?_;intro v' g' hA)|(refine st_condS rfl ?_ ?_ <;> intro hg <;> (try simp only[decide_eq_true_eq,decide_eq_false_iff_not,Bool.not_eq_true',Bool.not_eq_false'] at hg))|refine st_nil ?_|refine st_tN ?_|refine st_seq ?_|refine st_block ?_|refine st_skip ?_|refine st_exit ?_|refine st_tE ?_|refine st_bH ?_)
    all_goals try (exfalso;omega)
    have hnv:=hA.nol
    have hcl:=hA.sl.cell
    have hcv:=cells_one' hcl
    repeat' (first|refine st_reg rfl (by first|(simp only[go_sem,hnv,hcl,hcv];rfl)|rfl) (by first|(simp only[go_sem,hnv,hcl,hcv];rfl)|rfl) ?_|refine st_op ?_|refine st_det rfl (by simp (disch:=omega) only[go_sem,wr_i64,if_yes,if_no,↓reduceIte,reduceAdd,reduceMul,reduceEqDiff,Nat.reduceBEq,reduceLeDiff,hnv,hcl,hcv];rfl) ?_|refine st_store (by simp (disch:=omega) only[go_sem,wr_i64,if_yes,if_no,↓reduceIte,reduceAdd,reduceMul,reduceEqDiff,Nat.reduceBEq,reduceLeDiff,hnv,hcl,hcv];rfl) ?_|refine st_nil ?_|refine st_dnil ?_|refine st_tN ?_|refine st_bN ?_)
    refine ⟨⟨i - 1,x',v',js ++ [⟨r1,r2,r3⟩],_⟩,(by refine ⟨(hG2.put (by assumption) (n:=n) (by omega)).app hold (Nat.le_refl _) hA (by simp only[go_sem];omega),by simp only[go_sem];omega,by show 0≤i - 1;omega,by simp;omega,by rw [List.map_append];exact hA.sl.to (fun _ _ _ _ _=>rfl) (by simp only[go_sem];omega),fun y hy=>(List.mem_append.1 hy).elim (hjs y) (fun hy=>by rw [List.mem_singleton.1 hy];dsimp only;omega)⟩),by show (i - 1).toNat < i.toNat;omega,(by repeat' (first|exact trivial|refine And.intro ?_ ?_|rfl|(simp (disch:=omega) only[go_sem,if_yes,if_no,↓reduceIte,reduceAdd,reduceMul,reduceEqDiff,Nat.reduceBEq,reduceLeDiff];rfl)|(simp (disch:=omega) only[go_sem,if_yes,if_no,↓reduceIte,reduceAdd,reduceMul,reduceEqDiff,Nat.reduceBEq,reduceLeDiff]))),(by repeat' (first|exact trivial|refine And.intro ?_ ?_|rfl|(simp (disch:=omega) only[go_sem,if_yes,if_no,↓reduceIte,reduceAdd,reduceMul,reduceEqDiff,Nat.reduceBEq,reduceLeDiff];rfl)|(simp (disch:=omega) only[go_sem,if_yes,if_no,↓reduceIte,reduceAdd,reduceMul,reduceEqDiff,Nat.reduceBEq,reduceLeDiff]))),rfl,HOld.refl _⟩
  obtain rfl:i=0:=by omega
  repeat' (first|refine st_seq_reg rfl (by first|(simp only[go_sem];rfl)|rfl) (by first|(simp only[go_sem];rfl)|rfl) ?_|refine st_op ?_|refine st_det rfl (by simp (disch:=omega) only[go_sem,wr_i64,if_yes,if_no,↓reduceIte,reduceAdd,reduceMul,reduceEqDiff,Nat.reduceBEq,reduceLeDiff];rfl) ?_|refine st_condF rfl ?_|refine st_nil ?_|refine st_tN ?_|refine st_seq ?_|refine st_exit ?_|refine st_tE ?_|refine st_bH ?_)
  all_goals try (exfalso;omega)
  refine ASem.cutA (h.clk+1,9) [.lst 3 (ws.map Wk.row)] [] v2 3 (js.map Jb.row) (by simp only[go_sem,↓reduceIte] <;> rfl) (hS2.to (fun _ _ _ _ _=>rfl) (by simp only[go_sem];omega)) (by intro y hy;simp at hy;subst hy;exact sWk _) fun H2 h2a h2b h2c=>?_
  have hG3:Gd h b x2 H2:=hG2.to hu3 (by rw [h2a b (fun m e=>by have:=(hS2.lt e).1;omega)];exact hd3) (fun b' h1 _=>h2a b' (fun m e=>by have:=(hS2.lt e).1;omega)) h2c (by rw [h2b];simp only[go_sem];omega)
  refine st_run tab mixed (f2:=⟨56,[8,9],[31,52],none,[(5,[0,1,0,4,12,0,44,108,0,364,876,2044,4092,8191,16383,32767],[(0,false),(1,true),(2,false),(5,false),(8,false),(3,false),(4,false),(6,false),(7,false),(9,false),(10,false),(11,false),(12,false),(13,false),(14,false),(15,false)]),(9,[0,1,0,4,0,28,0,0,252,508,1020,2047,4095,8191],[(0,false),(1,true),(2,false),(4,false),(6,false),(7,false),(3,false),(5,false),(8,false),(9,false),(10,false),(11,false),(12,false),(13,false)])]⟩) rfl rfl (by decide) ?_
  repeat' (first|refine st_seq_reg rfl (by first|(simp only[go_sem];rfl)|rfl) (by first|(simp only[go_sem];rfl)|rfl) ?_|refine st_op ?_|refine st_det rfl (by simp (disch:=omega) only[go_sem,wr_i64,if_yes,if_no,↓reduceIte,reduceAdd,reduceMul,reduceEqDiff,Nat.reduceBEq,reduceLeDiff];rfl) ?_|refine st_store (by simp (disch:=omega) only[go_sem,wr_i64,if_yes,if_no,↓reduceIte,reduceAdd,reduceMul,reduceEqDiff,Nat.reduceBEq,reduceLeDiff];rfl) ?_|refine st_nil ?_|refine st_ret ?_)
  simp (disch:=omega) only[AEnd,Tryd.results14,aresK,fin,go_sem,↓reduceIte,reduceEqDiff,reduceAdd,reduceLeDiff,if_yes,if_no,implies_true,true_and,and_true,List.reverse_cons,List.reverse_nil]
  refine ⟨hG3.old,⟨x2,hG3.d,hG3.u⟩,hG3.lp,⟨ws,js⟩,rfl,⟨hwn,by show (js.length:Int)≤J;omega,hjs⟩⟩
end Go.Proofs.YtaijkalhkgjakaaDoor

namespace Go.Proofs.YtaijkalhkgjakaaDoor
open Go.Av
structure Less (S S':Sp) (φ:Nat→Nat):Prop where
  lt:∀ i,i < S'.js.length→φ i < S.js.length
  mono:∀ i k,i < k→k < S'.js.length→φ i < φ k
  f:∀ i,i < S'.js.length→(S'.j i).f=(S.j (φ i)).f
  s:∀ i,i < S'.js.length→(S'.j i).s=(S.j (φ i)).s
  d:∀ i,i < S'.js.length→(S'.j i).d≤(S.j (φ i)).d
  w:∀ w,w < S.ws.length→w < S'.ws.length∧∀ s,(S.wk w).can s=true→(S'.wk w).can s=true
def subP (p:List Sf) (φ:Nat→Nat) (n:Nat):List Sf:=(List.range n).map fun i=>pAt p (φ i)
theorem pAt_subP {p:List Sf} {φ:Nat→Nat} {n i:Nat} (h:i < n):pAt (subP p φ n) i=pAt p (φ i):=by
  have:pAt (subP p φ n) i=((subP p φ n)[i]?).getD ⟨0,0⟩:=by simp [pAt,List.getD_eq_getElem?_getD]
  rw [this];simp [subP,h]
theorem Less.vp {S S':Sp} {φ:Nat→Nat} (L:Less S S' φ) {p:List Sf} (h:VP S p):VP S' (subP p φ S'.js.length):=by
  refine ⟨by simp [subP],fun i hi=>?_,fun k i hki hi hf=>?_,fun k i hki hi hw=>?_⟩
  · rw [pAt_subP hi]
    obtain ⟨a,b,c,d,e⟩:=h.w _ (L.lt i hi)
    obtain ⟨w1,w2⟩:=L.w (pAt p (φ i)).w.toNat (by omega)
    exact ⟨a,by omega,by rw [L.s i hi];exact w2 _ c,d,e⟩
  · have hk:=Nat.lt_trans hki hi
    rw [pAt_subP hi,pAt_subP hk]
    have:=h.ord _ _ (L.mono k i hki hi) (L.lt i hi) (by rw [← L.f k hk,← L.f i hi];exact hf)
    have:=L.d k hk
    omega
  · have hk:=Nat.lt_trans hki hi
    rw [pAt_subP hi,pAt_subP hk] at *
    have:=h.clash _ _ (L.mono k i hki hi) (L.lt i hi) hw
    have:=L.d k hk
    have:=L.d i hi
    omega
theorem Less.takes {S S':Sp} {φ:Nat→Nat} (L:Less S S' φ) (p:List Sf):takesP S' (subP p φ S'.js.length)≤takesP S p:=by
  rcases takesTo_cases (js:=S'.js) (p:=subP p φ S'.js.length) S'.js.length with e|⟨i,hi,e⟩
  · unfold takesP;rw [e];exact takesTo_nonneg _
  · unfold takesP;rw [e,pAt_subP hi]
    have h1:=L.d i hi
    have h2:=takesTo_ge (js:=S.js) (p:=p) (L.lt i hi)
    have e1:S'.j i=jOf S'.js i:=rfl
    have e2:S.j (φ i)=jOf S.js (φ i):=rfl
    rw [e1,e2] at h1
    omega
theorem Less.best {S S':Sp} {φ:Nat→Nat} (L:Less S S' φ) {p p':List Sf} {t t':Int} (h:BestOk S p t) (h':BestOk S' p' t'):t'≤t:=by
  have h1:=h'.best _ (L.vp h.vp)
  have h2:=L.takes p
  have h3:=h.takes
  omega
theorem dsP_getD (l:List Sf) (i:Nat):(dsP l).getD i 0=(pAt l i).d:=by
  simp only[dsP,pAt,List.getD_eq_getElem?_getD,List.getElem?_map]
  cases l[i]? <;> rfl
end Go.Proofs.YtaijkalhkgjakaaDoor

namespace Go.Proofs.YtaijkalhkgjakaaDoor
open Go.Av
attribute [local irreducible] thenA blockA awp awpOps awpD awp1
set_option maxHeartbeats 8000000
set_option maxRecDepth 20000
theorem c95 (x:Wk) (s:Int):Pure Tryd.prog 95 [.agg x.row,.int .i64 s] (fun v=>v=.bool (x.can s)):=by
  intro h
  refine ACalls.forget (ACalls.of tab mixed Tryd.call95 Tryd.func95 rfl (fi:=⟨16,[],[2],none,[]⟩) rfl rfl (Nat.le_of_ble_eq_true rfl) (by decide) ?_)
  unfold startA
  try simp only[go_sem]
  by_cases h1:s=1
  · have e:x.can s=x.a:=by unfold Wk.can;rw [if_pos h1]
    repeat' (first|refine st_seq_reg rfl (by first|(simp only[go_sem];rfl)|rfl) (by first|(simp only[go_sem];rfl)|rfl) ?_|refine st_op ?_|refine st_det rfl (by simp (disch:=omega) only[go_sem,wr_i64,if_yes,if_no,↓reduceIte,reduceAdd,reduceMul,reduceEqDiff,Nat.reduceBEq,reduceLeDiff];rfl) ?_|(refine st_condS rfl ?_ ?_ <;> intro hg <;> (try simp only[decide_eq_true_eq,decide_eq_false_iff_not,Bool.not_eq_true',Bool.not_eq_false'] at hg))|refine st_nil ?_|refine st_tN ?_|refine st_seq ?_|refine st_block ?_|refine st_skip ?_|refine st_ret ?_|refine st_tR ?_|refine st_bN ?_|refine st_bR ?_)
    all_goals try (exfalso;omega)
    simp (disch:=omega) only[AEnd,Tryd.results95,aresK,fin,go_sem,↓reduceIte,reduceEqDiff,reduceAdd,reduceLeDiff,if_yes,if_no,implies_true,true_and,and_true,List.reverse_cons,List.reverse_nil]
    rw [e]
  · by_cases h2:s=2
    · have e:x.can s=x.b:=by unfold Wk.can;rw [if_neg h1,if_pos h2]
      repeat' (first|refine st_seq_reg rfl (by first|(simp only[go_sem];rfl)|rfl) (by first|(simp only[go_sem];rfl)|rfl) ?_|refine st_op ?_|refine st_det rfl (by simp (disch:=omega) only[go_sem,wr_i64,if_yes,if_no,↓reduceIte,reduceAdd,reduceMul,reduceEqDiff,Nat.reduceBEq,reduceLeDiff];rfl) ?_|(refine st_condS rfl ?_ ?_ <;> intro hg <;> (try simp only[decide_eq_true_eq,decide_eq_false_iff_not,Bool.not_eq_true',Bool.not_eq_false'] at hg))|refine st_nil ?_|refine st_tN ?_|refine st_seq ?_|refine st_block ?_|refine st_skip ?_|refine st_ret ?_|refine st_tR ?_|refine st_bN ?_|refine st_bR ?_)
      all_goals try (exfalso;omega)
      simp (disch:=omega) only[AEnd,Tryd.results95,aresK,fin,go_sem,↓reduceIte,reduceEqDiff,reduceAdd,reduceLeDiff,if_yes,if_no,implies_true,true_and,and_true,List.reverse_cons,List.reverse_nil]
      rw [e]
    · have e:x.can s=x.c:=by unfold Wk.can;rw [if_neg h1,if_neg h2]
      repeat' (first|refine st_seq_reg rfl (by first|(simp only[go_sem];rfl)|rfl) (by first|(simp only[go_sem];rfl)|rfl) ?_|refine st_op ?_|refine st_det rfl (by simp (disch:=omega) only[go_sem,wr_i64,if_yes,if_no,↓reduceIte,reduceAdd,reduceMul,reduceEqDiff,Nat.reduceBEq,reduceLeDiff];rfl) ?_|(refine st_condS rfl ?_ ?_ <;> intro hg <;> (try simp only[decide_eq_true_eq,decide_eq_false_iff_not,Bool.not_eq_true',Bool.not_eq_false'] at hg))|refine st_nil ?_|refine st_tN ?_|refine st_seq ?_|refine st_block ?_|refine st_skip ?_|refine st_ret ?_|refine st_tR ?_|refine st_bN ?_|refine st_bR ?_)
      all_goals try (exfalso;omega)
      simp (disch:=omega) only[AEnd,Tryd.results95,aresK,fin,go_sem,↓reduceIte,reduceEqDiff,reduceAdd,reduceLeDiff,if_yes,if_no,implies_true,true_and,and_true,List.reverse_cons,List.reverse_nil]
      rw [e]
theorem c104 (S:Sp) (p:List Sf) (i:Nat) (hi:i < p.length) (hj:i < S.js.length) (h7:S.js.length≤7) (hd:-100000≤(pAt p i).d∧(pAt p i).d≤100000) (hjd:1≤(jOf S.js i).d∧(jOf S.js i).d≤30) :
    Pure Tryd.prog 104 [S.av,.lst 2 (p.map Sf.row),.int .i64 (i:Nat)] (fun v=>v=.int .i64 ((pAt p i).d+(jOf S.js i).d)):=by
  intro h
  refine ACalls.forget (ACalls.of tab mixed Tryd.call104 Tryd.func104 rfl (fi:=⟨19,[],[3],none,[(1,[0,0,3,7,15,0,32,0,224,480,992,2047,4095],[(0,false),(1,false),(2,false),(3,false),(4,true),(5,false),(6,true),(7,false),(8,false),(9,false),(10,true),(11,false),(12,false)])]⟩) rfl rfl (Nat.le_of_ble_eq_true rfl) (by decide) ?_)
  unfold startA
  try simp only[go_sem]
  repeat' (first|refine st_seq_reg rfl (by first|(simp only[go_sem,length_map];rfl)|rfl) (by first|(simp only[go_sem,length_map];rfl)|rfl) ?_|refine st_seq_draw rfl (by first|(simp only[go_sem,length_map];rfl)|rfl) (by first|(simp only[go_sem,length_map];rfl)|rfl) ?_|refine st_op ?_|refine st_det rfl (by simp (disch:=omega) only[go_sem,wr_i64,if_yes,if_no,↓reduceIte,reduceAdd,reduceMul,reduceEqDiff,Nat.reduceBEq,reduceLeDiff,length_map];rfl) ?_|refine st_dop rfl ?_|refine st_nil ?_|refine st_dnil ?_|refine st_ret ?_)
  all_goals try (exfalso;omega)
  simp (disch:=omega) only[AEnd,Tryd.results104,aresK,fin,go_sem,↓reduceIte,reduceEqDiff,reduceAdd,reduceLeDiff,if_yes,if_no,implies_true,true_and,and_true,List.reverse_cons,List.reverse_nil]
end Go.Proofs.YtaijkalhkgjakaaDoor
