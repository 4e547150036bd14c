/- Contracts of functions that the claim reaches: what each call gives, told in our own logic. Conditions: those of each theorem. -/
import Derived.Test.YtaijkalhkgjakaaDoorF25
import Derived.Test.YtaijkalhkgjakaaDoorP1
import Derived.Test.YtaijkalhkgjakaaDoorBaseC
import Derived.Test.YtaijkalhkgjakaaDoorG27
open Nat (reduceAdd reduceMul reduceEqDiff reduceLeDiff)
set_option linter.all false
set_option linter.unusedSimpArgs false
set_option linter.unusedVariables false
namespace Go.Proofs.YtaijkalhkgjakaaDoor
open Go.Av
attribute [local irreducible] thenA blockA awp awpOps awpD awp1
set_option maxHeartbeats 8000000
set_option maxRecDepth 20000
theorem c15 (l:List Int) (hl:(l.length:Int)≤9223372036854775807) (h:AH):ACalls Tryd.prog 15 [.lst 1 (l.map iv)] h (fun v h'=>∃ b x n,v=.ptr b 0 0∧h.clk≤b.1∧b.1 < n∧isU64 x∧h'=(h.tick n).put b (dr x)):=by
  refine ACalls.of tab mixed Tryd.call15 Tryd.func15 rfl (fi:=⟨29,[],[],none,[(5,[0,0,2,6,14,0,0,96,224,480,1022,2047,4095,8191],[(0,false),(1,false),(2,false),(3,false),(4,false),(5,false),(6,false),(7,false),(8,true),(9,false),(10,false),(11,false),(12,false),(13,false)])]⟩) rfl rfl (Nat.le_of_ble_eq_true rfl) (by decide) ?_
  unfold startA
  repeat' (first|refine st_seq_reg rfl (by first|(simp only[go_sem];rfl)|rfl) (by first|(simp only[go_sem];rfl)|rfl) ?_|refine st_reg rfl (by first|(simp only[go_sem];rfl)|rfl) (by first|(simp only[go_sem];rfl)|rfl) ?_|refine st_seq_draw rfl (by first|(simp only[go_sem];rfl)|rfl) (by first|(simp only[go_sem];rfl)|rfl) ?_|refine st_draw rfl (by first|(simp only[go_sem];rfl)|rfl) (by first|(simp only[go_sem];rfl)|rfl) ?_|refine st_op ?_|refine st_det rfl (by simp (disch:=omega) only[go_sem,wr_i64,if_yes,if_no,↓reduceIte,reduceAdd,reduceMul,reduceEqDiff,Nat.reduceBEq,reduceLeDiff];rfl) ?_|refine st_dop rfl ?_|refine st_loc rfl (by simp (disch:=omega) only[go_sem,wr_i64,if_yes,if_no,↓reduceIte,reduceAdd,reduceMul,reduceEqDiff,Nat.reduceBEq,reduceLeDiff];rfl) ?_|refine st_heap rfl (by simp (disch:=omega) only[go_sem,wr_i64,if_yes,if_no,↓reduceIte,reduceAdd,reduceMul,reduceEqDiff,Nat.reduceBEq,reduceLeDiff];rfl) ?_|refine st_store (by simp (disch:=omega) only[go_sem,wr_i64,if_yes,if_no,↓reduceIte,reduceAdd,reduceMul,reduceEqDiff,Nat.reduceBEq,reduceLeDiff];rfl) ?_|refine st_condT rfl ?_|refine st_condF rfl ?_|(refine st_condS rfl ?_ ?_ <;> intro hg <;> (try simp only[decide_eq_true_eq,decide_eq_false_iff_not,Bool.not_eq_true',Bool.not_eq_false'] at hg))|refine st_nil ?_|refine st_dnil ?_|refine st_tN ?_|refine st_seq ?_|refine st_block ?_|refine st_skip ?_|refine st_exit ?_|refine st_ret ?_|refine st_tE ?_|refine st_tR ?_|refine st_bN ?_|refine st_bR ?_|refine st_bH ?_|refine st_bM rfl ?_)
  refine st_loopH (α:=Nat × Int) tab mixed [] [] (by repeat (first|exact trivial|refine ⟨rfl,?_⟩)) [] [] (by repeat (first|exact trivial|refine ⟨rfl,?_⟩)) (fun a=>[(4,.int .i64 a.1)]) [(0,_),(2,_),(3,_)] (fun _=>[]) [] (fun a=>(h.tick (h.clk+1+1+1)).put (h.clk+1,6) (dr a.2)) (fun a=>a.1≤l.length∧isU64 a.2) (fun a=>l.length - a.1) (by decide) (0,2685821657736338717) ⟨by omega,by unfold isU64;omega⟩ (by (try simp only[go_sem]);repeat' (first|exact trivial|refine And.intro ?_ ?_|rfl|(simp (disch:=omega) only[go_sem,if_yes,if_no,↓reduceIte,reduceAdd,reduceMul,reduceEqDiff,Nat.reduceBEq,reduceLeDiff];rfl)|(simp (disch:=omega) only[go_sem,if_yes,if_no,↓reduceIte,reduceAdd,reduceMul,reduceEqDiff,Nat.reduceBEq,reduceLeDiff]))) (by (try simp only[go_sem]);repeat' (first|exact trivial|refine And.intro ?_ ?_|rfl|(simp (disch:=omega) only[go_sem,if_yes,if_no,↓reduceIte,reduceAdd,reduceMul,reduceEqDiff,Nat.reduceBEq,reduceLeDiff];rfl)|(simp (disch:=omega) only[go_sem,if_yes,if_no,↓reduceIte,reduceAdd,reduceMul,reduceEqDiff,Nat.reduceBEq,reduceLeDiff]))) (HOld.refl _) ?_
  rintro ⟨i,x⟩ c ⟨hi',hx⟩ hc
  simp only[go_sem] at hc
  simp only[go_sem,dr]
  repeat' (first|refine st_seq_reg rfl (by first|(simp only[go_sem];rfl)|rfl) (by first|(simp only[go_sem];rfl)|rfl) ?_|refine st_reg rfl (by first|(simp only[go_sem];rfl)|rfl) (by first|(simp only[go_sem];rfl)|rfl) ?_|refine st_seq_draw rfl (by first|(simp only[go_sem];rfl)|rfl) (by first|(simp only[go_sem];rfl)|rfl) ?_|refine st_draw rfl (by first|(simp only[go_sem];rfl)|rfl) (by first|(simp only[go_sem];rfl)|rfl) ?_|refine st_op ?_|(refine st_u64 rfl (by simp (disch:=omega) only[go_sem,wr_i64,if_yes,if_no,↓reduceIte,reduceAdd,reduceMul,reduceEqDiff,Nat.reduceBEq,reduceLeDiff];rfl) (by first|exact wr_u64 _|exact xor_u64 _ _) ?_;intro y hy)|refine st_det rfl (by simp (disch:=omega) only[go_sem,wr_i64,if_yes,if_no,↓reduceIte,reduceAdd,reduceMul,reduceEqDiff,Nat.reduceBEq,reduceLeDiff];rfl) ?_|refine st_dop rfl ?_|refine st_loc rfl (by simp (disch:=omega) only[go_sem,wr_i64,if_yes,if_no,↓reduceIte,reduceAdd,reduceMul,reduceEqDiff,Nat.reduceBEq,reduceLeDiff];rfl) ?_|refine st_heap rfl (by simp (disch:=omega) only[go_sem,wr_i64,if_yes,if_no,↓reduceIte,reduceAdd,reduceMul,reduceEqDiff,Nat.reduceBEq,reduceLeDiff];rfl) ?_|refine st_store (by simp (disch:=omega) only[go_sem,wr_i64,if_yes,if_no,↓reduceIte,reduceAdd,reduceMul,reduceEqDiff,Nat.reduceBEq,reduceLeDiff];rfl) ?_|(refine st_drum (by first|(simp (disch:=omega) only[go_sem];rfl)|rfl) rfl (c59 _) (by first|(simp (disch:=omega) only[go_sem];rfl)|rfl) (by assumption) (by first|(simp only[go_sem];rfl)|rfl) (by intro x' n;first|(simp (disch:=omega) only[go_sem];rfl)|rfl) ?_;rintro v x' n hu' ⟨w,hw,rfl⟩ hn)|refine st_condT rfl ?_|refine st_condF rfl ?_|(refine st_condS rfl ?_ ?_ <;> intro hg <;> (try simp only[decide_eq_true_eq,decide_eq_false_iff_not,Bool.not_eq_true',Bool.not_eq_false'] at hg))|refine st_nil ?_|refine st_dnil ?_|refine st_tN ?_|refine st_seq ?_|refine st_block ?_|refine st_skip ?_|refine st_exit ?_|refine st_ret ?_|refine st_tE ?_|refine st_tR ?_|refine st_bN ?_|refine st_bR ?_|refine st_bH ?_|refine st_bM rfl ?_)
  · refine ⟨(i+1,x'),⟨by omega,by assumption⟩,by omega,(by repeat' (first|exact trivial|refine And.intro ?_ ?_|rfl|(simp (disch:=omega) only[go_sem,if_yes,if_no,↓reduceIte,reduceAdd,reduceMul,reduceEqDiff,Nat.reduceBEq,reduceLeDiff];rfl)|(simp (disch:=omega) only[go_sem,if_yes,if_no,↓reduceIte,reduceAdd,reduceMul,reduceEqDiff,Nat.reduceBEq,reduceLeDiff]))),(by repeat' (first|exact trivial|refine And.intro ?_ ?_|rfl|(simp (disch:=omega) only[go_sem,if_yes,if_no,↓reduceIte,reduceAdd,reduceMul,reduceEqDiff,Nat.reduceBEq,reduceLeDiff];rfl)|(simp (disch:=omega) only[go_sem,if_yes,if_no,↓reduceIte,reduceAdd,reduceMul,reduceEqDiff,Nat.reduceBEq,reduceLeDiff]))),rfl,HOld.put _ _ _ (by omega)⟩
  · simp (disch:=omega) only[AEnd,Tryd.results15,aresK,fin,go_sem,↓reduceIte,reduceEqDiff,reduceAdd,reduceLeDiff,if_yes,if_no,implies_true,true_and,and_true,List.reverse_cons,List.reverse_nil]
    exact ⟨_,x,_,rfl,by omega,by omega,hx,rfl⟩
theorem c40' (b:Nat × Nat) (lo hi:Int) (h1:-1000000000≤lo∧lo≤1000000000) (h2:lo≤hi∧hi - lo < 1000000000):Drum Tryd.prog 40 [.ptr b 0 0,.int .i64 lo,.int .i64 hi] b (fun v=>∃ r,v=.int .i64 r∧lo≤r∧r≤hi):=by
  intro h x hx hu
  refine (c40 b lo hi h1 (by omega) h x hx hu).mono ?_
  rintro v h' ⟨x',n,h1,h2,h3,r,h4,h5,h6⟩
  exact ⟨x',n,h1,h2,h3,r,h4,h5,by omega⟩
theorem c39' (b:Nat × Nat) (N:Int) (hN:1≤N∧N≤1000000000):Drum Tryd.prog 39 [.ptr b 0 0,.int .i64 N] b (fun v=>∃ r,v=.int .i64 r∧0≤r∧r < N):=by
  intro h x hx hu
  refine (c39 b N hN.2 h x hx hu).mono ?_
  rintro v h' ⟨x',n,h1,h2,h3,r,h4,h5,h6⟩
  exact ⟨x',n,h1,h2,h3,r,h4,h5,by omega⟩
structure FS where
  i:Int
  x:Int
  t:Nat
  bb:Nat × Nat
  ls:List Ld
def FS.sl (a:FS):AV:=if a.ls=[] then .nils else .slc a.bb 7 0 a.ls.length
def FS.hp (h:AH) (b:Nat × Nat) (a:FS):AH:=if a.ls=[] then (h.tick a.t).put b (dr a.x) else ((h.tick a.t).put a.bb (some ⟨7,a.ls.map Ld.row⟩)).put b (dr a.x)
@[go_sem] theorem FS.sl_nil (i x:Int) (t:Nat) (bb:Nat × Nat):FS.sl ⟨i,x,t,bb,[]⟩=.nils:=rfl
@[go_sem] theorem FS.sl_app (i x:Int) (t:Nat) (bb:Nat × Nat) (l:List Ld) (y:Ld):FS.sl ⟨i,x,t,bb,l ++ [y]⟩=.slc bb 7 0 (l.length+1):=by simp [FS.sl]
@[go_sem] theorem FS.sl_one (i x:Int) (t:Nat) (bb:Nat × Nat) (y:Ld):FS.sl ⟨i,x,t,bb,[y]⟩=.slc bb 7 0 1:=by simp [FS.sl]
theorem c38 (b:Nat × Nat) (N:Int) (hN:1≤N∧N≤1000000000):Drum Tryd.prog 38 [.ptr b 0 0,.int .i64 N] b (fun v=>∃ r:Bool,v=.bool r):=by
  refine Drum.of Tryd.call38 fun h x hx hu hold=>?_
  refine ACalls.of tab mixed Tryd.call38 Tryd.func38 rfl (fi:=⟨9,[],[],none,[]⟩) rfl rfl (Nat.le_of_ble_eq_true rfl) (by decide) ?_
  unfold startA
  repeat' (first|refine st_seq_reg rfl (by first|(simp only[go_sem,hx];rfl)|rfl) (by first|(simp only[go_sem,hx];rfl)|rfl) ?_|refine st_reg rfl (by first|(simp only[go_sem,hx];rfl)|rfl) (by first|(simp only[go_sem,hx];rfl)|rfl) ?_|refine st_op ?_|refine st_det rfl (by simp (disch:=omega) only[go_sem,wr_i64,if_yes,if_no,↓reduceIte,reduceAdd,reduceMul,reduceEqDiff,Nat.reduceBEq,reduceLeDiff,hx];rfl) ?_|(refine st_drum (by first|(simp (disch:=omega) only[go_sem,hx];rfl)|rfl) rfl (c39 b _ (by omega)) (by first|(simp (disch:=omega) only[go_sem,hx];rfl)|rfl) (by assumption) (by first|(simp only[go_sem,hx];rfl)|rfl) (by intro x' n;first|(simp (disch:=omega) only[go_sem];rfl)|rfl) ?_;rintro v x' n hu' ⟨r,rfl,hr1,hr2⟩ hn)|refine st_nil ?_|refine st_tN ?_|refine st_seq ?_|refine st_skip ?_|refine st_ret ?_|refine st_tE ?_|refine st_tR ?_)
  simp (disch:=omega) only[AEnd,Tryd.results38,aresK,fin,go_sem,↓reduceIte,reduceEqDiff,reduceAdd,reduceLeDiff,if_yes,if_no,implies_true,true_and,and_true,List.reverse_cons,List.reverse_nil]
  exact ⟨fun b' _ h2=>if_neg h2,⟨_,rfl,hu'⟩,⟨_,rfl⟩⟩
structure Gd (h:AH) (b:Nat × Nat) (x:Int) (g:AH):Prop where
  u:isU64 x
  d:g.at_ b=dr x
  old:∀ b':Nat × Nat,b'.1 < h.clk→b' ≠ b→g.at_ b'=h.at_ b'
  lp:g.lp=h.lp
  cl:h.clk≤g.clk
theorem Gd.to {h g g':AH} {b:Nat × Nat} {x x':Int} (hG:Gd h b x g) (u:isU64 x') (d:g'.at_ b=dr x') (ho:∀ b':Nat × Nat,b'.1 < h.clk→b' ≠ b→g'.at_ b'=g.at_ b') (hl:g'.lp=g.lp) (hc:g.clk≤g'.clk):Gd h b x' g' :=
  ⟨u,d,fun b' h1 h2=>by rw [ho b' h1 h2];exact hG.old b' h1 h2,by rw [hl];exact hG.lp,by have:=hG.cl;omega⟩
theorem Gd.put {h g:AH} {b:Nat × Nat} {x x':Int} (hG:Gd h b x g) (u:isU64 x') {n:Nat} (hn:g.clk≤n):Gd h b x' ((g.tick n).put b (dr x')) :=
  hG.to u (put_same _ _ _) (fun b' _ h2=>put_ne _ _ h2) rfl hn
theorem Gd.tick {h g:AH} {b:Nat × Nat} {x:Int} (hG:Gd h b x g) {n:Nat} (hn:g.clk≤n):Gd h b x (g.tick n):=hG.to hG.u hG.d (fun _ _ _=>rfl) rfl hn
theorem Gd.app {h H G:AH} {b:Nat × Nat} {x:Int} {h0 k0 d z n:Nat} {v v':AV} {l:List (List AV)} (hG:Gd h b x H) (hb:b.1 < h.clk) (h0h:h.clk≤h0) (hA:AppA h0 k0 d H v z n l v' G) {N:Nat} (hN:H.clk≤N):Gd h b x (G.tick N) :=
  hG.to hG.u (by show G.at_ b=_;rw [hA.old b (by omega)];exact hG.d) (fun b' h1 _=>hA.old b' (by omega)) hA.lp hN
theorem slA_put {h0:Nat} {g:AH} {v:AV} {z:Nat} {l:List (List AV)} {b:Nat × Nat} {k:Option Blk} (hS:SlA h0 g v z l) (hb:b.1 < h0) {n:Nat} (hn:g.clk≤n):SlA h0 ((g.tick n).put b k) v z l :=
  hS.to (fun b1 m _ h1 _=>put_ne _ _ (fun e=>by rw [e] at h1;omega)) hn
structure ShS where
  i:Int
  x:Int
  v:AV
  ws:List Wk
  g:AH
structure SjS where
  i:Int
  x:Int
  v:AV
  js:List Jb
  g:AH
structure ShGood (S:Sp) (W J D:Int):Prop where
  w:1≤S.ws.length∧(S.ws.length:Int)≤W
  j:(S.js.length:Int)≤J
  job:∀ x ∈ S.js,0≤x.f∧x.f≤2∧1≤x.s∧x.s≤3∧1≤x.d∧x.d≤D
end Go.Proofs.YtaijkalhkgjakaaDoor
