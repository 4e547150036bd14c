/- Contracts of functions that the claim reaches: what each call gives, told in our own logic. Conditions: those of each theorem. -/
import Derived.Test.YtaijkalhkgjakaaDoorG31
import Derived.Test.YtaijkalhkgjakaaDoorBaseD
import Derived.Test.YtaijkalhkgjakaaDoorP8
open Nat (reduceAdd reduceMul reduceEqDiff reduceLeDiff)
open List (length_map)
set_option linter.all false
set_option linter.unusedSimpArgs false
set_option linter.unusedVariables false
namespace Go.Proofs.YtaijkalhkgjakaaDoor
open Go.Av
attribute [local irreducible] thenA blockA awp awpOps awpD awp1
set_option maxHeartbeats 8000000
set_option maxRecDepth 20000
theorem ShGood.ok {S:Sp} {W J D:Int} (h:ShGood S W J D) (hW:W≤4) (hJ:J≤7) (hD:D≤30):S.Ok :=
  ⟨h.w.1,by have:=h.w.2;omega,by have:=h.j;omega,fun j hj=>by have:=h.job j hj;unfold Jb.Ok;omega⟩
end Go.Proofs.YtaijkalhkgjakaaDoor

namespace Go.Proofs.YtaijkalhkgjakaaDoor
open Go.Av
def OkM (fits:List (List Bool)) (m:List Int) (n:Nat):Prop :=
  ∀ k,k < n→m.getD k 0 = -1 ∨ ∃ i:Nat,i < fits.length∧m.getD k 0=i∧fitAt fits i k=true∧(m.take k).contains (i:Int)=false
theorem fitAt_more {fits:List (List Bool)} {row:List Bool} {i k:Nat} (hi:i < fits.length):fitAt (fits ++ [row]) i k=fitAt fits i k:=by
  unfold fitAt
  congr 1
  simp [List.getD_eq_getElem?_getD,List.getElem?_append_left hi]
theorem OkM.more {fits:List (List Bool)} {m:List Int} {D:Nat} (h:OkM fits m D) (row:List Bool):OkM (fits ++ [row]) m D:=fun k hk=>by
  rcases h k hk with e|⟨i,hi,e,hf,hc⟩
  · exact .inl e
  · exact .inr ⟨i,by simp;omega,e,by rw [fitAt_more hi];exact hf,hc⟩
end Go.Proofs.YtaijkalhkgjakaaDoor

namespace Go.Proofs.YtaijkalhkgjakaaDoor
open Go.Av
attribute [local irreducible] thenA blockA awp awpOps awpD awp1
set_option maxHeartbeats 8000000
set_option maxRecDepth 20000
structure FrS where
  i:Int
  x:Int
  v:AV
  fs:List Fl
  g:AH
def FrOk (f:Fl):Prop:=(0≤f.front∧f.front < f.rear∧f.rear≤1200)∧f.loads=[]
theorem fl_mem {l:List Fl} {i:Nat} (h:i < l.length):fl l i ∈ l:=by
  have:fl l i=l[i]:=by simp [fl,List.getD_eq_getElem?_getD,h]
  rw [this];exact List.getElem_mem h
theorem Gd.new {h g:AH} {b id:Nat × Nat} {x:Int} (hG:Gd h b x g) (hne:b ≠ id) (hi:h.clk≤id.1) (k:Option Blk):Gd h b x (g.put id k) :=
  hG.to hG.u ((put_ne _ _ hne).trans hG.d) (fun b' h1 _=>put_ne _ _ (fun e=>by rw [e] at h1;omega)) rfl (Nat.le_refl _)
theorem c21 (b:Nat × Nat) (N:Int) (hN:0≤N∧N≤6):Drum Tryd.prog 21 [.ptr b 0 0,.int .i64 N] b (fun v=>∃ fs:List Fl,v=.lst 9 (fs.map Fl.row)∧(fs.length:Int)≤N∧∀ f ∈ fs,FrOk f):=by
  refine Drum.give Tryd.call21 fun h x hx hu hold=>?_
  have nbb:∀ {b1:Nat × Nat},h.clk≤b1.1→¬ b1=b:=fun hb e=>by rw [e] at hb;omega
  refine ACalls.of tab mixed Tryd.call21 Tryd.func21 rfl (fi:=⟨36,[7],[33],none,[]⟩) rfl rfl (Nat.le_of_ble_eq_true rfl) (by decide) ?_
  unfold startA
  try simp only[go_sem]
  repeat' (first|refine st_seq_reg rfl (by first|(simp only[go_sem,hx];rfl)|rfl) (by first|(simp only[go_sem,hx];rfl)|rfl) ?_|refine st_op ?_|refine st_det rfl (by simp (disch:=omega) only[go_sem,wr_i64,if_yes,if_no,↓reduceIte,reduceAdd,reduceMul,reduceEqDiff,Nat.reduceBEq,reduceLeDiff,hx];rfl) ?_|(refine st_drum (by first|(simp (disch:=omega) only[go_sem,hx];rfl)|rfl) rfl (c39' b (N+1) (by omega)) (by first|(simp (disch:=omega) only[go_sem,hx];rfl)|rfl|exact put_same _ _ _) (by assumption) (by first|(simp only[go_sem,hx];rfl)|rfl) (by intro x' n;first|(simp (disch:=omega) only[go_sem];rfl)|rfl) ?_;rintro v x' n hu' ⟨n1,rfl,hn⟩ hn)|refine st_nil ?_|refine st_seq ?_|refine st_block ?_)
  all_goals try (exfalso;omega)
  obtain ⟨n0,rfl⟩:∃ n0:Nat,n1=n0:=⟨n1.toNat,by omega⟩
  refine st_loopH (α:=FrS) tab mixed [] [] (by repeat (first|exact trivial|refine ⟨rfl,?_⟩)) [] [] (by repeat (first|exact trivial|refine ⟨rfl,?_⟩)) (fun a=>[(6,.int .i64 (a.i:Int)),(5,a.v)]) [(0,_),(4,_)] (fun _=>[]) [] (fun a=>a.g) (fun a=>Gd h b a.x a.g∧0≤a.i∧(a.fs.length:Int)+a.i=n0∧SlA h.clk a.g a.v 9 (a.fs.map Fl.row)∧∀ f ∈ a.fs,FrOk f) (fun a=>a.i.toNat) (by decide) ⟨n0,x',.nils,[],_⟩ (by refine ⟨⟨by assumption,by simp only[go_sem,↓reduceIte],fun b' _ h2=>by simp only[go_sem,h2,↓reduceIte],rfl,by simp only[go_sem];omega⟩,by show (0:Int)≤n0;omega,by simp,.inl ⟨rfl,rfl⟩,fun f hf=>by cases hf⟩) (by (try simp only[go_sem]);repeat' (first|exact trivial|refine And.intro ?_ ?_|rfl|(simp (disch:=omega) only[go_sem,if_yes,if_no,↓reduceIte,reduceAdd,reduceMul,reduceEqDiff,Nat.reduceBEq,reduceLeDiff];rfl)|(simp (disch:=omega) only[go_sem,if_yes,if_no,↓reduceIte,reduceAdd,reduceMul,reduceEqDiff,Nat.reduceBEq,reduceLeDiff]))) (by (try simp only[go_sem]);repeat' (first|exact trivial|refine And.intro ?_ ?_|rfl|(simp (disch:=omega) only[go_sem,if_yes,if_no,↓reduceIte,reduceAdd,reduceMul,reduceEqDiff,Nat.reduceBEq,reduceLeDiff];rfl)|(simp (disch:=omega) only[go_sem,if_yes,if_no,↓reduceIte,reduceAdd,reduceMul,reduceEqDiff,Nat.reduceBEq,reduceLeDiff]))) (HOld.refl _) ?_
  rintro ⟨i,x1,v,fs,g⟩ c ⟨hG,i0,hfl,hS,hfo⟩ hc
  dsimp only at hG i0 hfl hS hfo hc
  have hu1:=hG.u
  have hd1:=hG.d
  have hcl0:=hG.cl
  have hnc:=hS.noL
  simp only[go_sem]
  by_cases hi:0 < i
  case neg =>
    obtain rfl:i=0:=by omega
    repeat' (first|refine st_seq_reg rfl (by first|(simp only[go_sem,hnc];rfl)|rfl) (by first|(simp only[go_sem,hnc];rfl)|rfl) ?_|refine st_op ?_|refine st_det rfl (by simp (disch:=omega) only[go_sem,wr_i64,if_yes,if_no,↓reduceIte,reduceAdd,reduceMul,reduceEqDiff,Nat.reduceBEq,reduceLeDiff,hnc];rfl) ?_|refine st_condF rfl ?_|refine st_nil ?_|refine st_tN ?_|refine st_seq ?_|refine st_exit ?_|refine st_ret ?_|refine st_tE ?_|refine st_bH ?_)
    all_goals try (exfalso;omega)
    simp (disch:=omega) only[AEnd,Tryd.results21,aresK,fin,go_sem,↓reduceIte,reduceEqDiff,reduceAdd,reduceLeDiff,if_yes,if_no,implies_true,true_and,and_true,List.reverse_cons,List.reverse_nil]
    refine ⟨hnc,hG.old,⟨x1,hG.d,hG.u⟩,hG.lp,?_⟩
    exact SlA.ans (R:=fun v=>∃ fs:List Fl,v=.lst 9 (fs.map Fl.row)∧(fs.length:Int)≤N∧∀ f ∈ fs,FrOk f) hS ⟨fs,rfl,by omega,hfo⟩
  have hok:∀ f:Fl,FlGood f 0→FrOk f:=fun f hf=>⟨⟨hf.axles.1,hf.axles.2.1,by have:=hf.axles.2.2;have:=hf.len.2;omega⟩,by
    have:=hf.many
    exact List.length_eq_zero_iff.1 (by omega)⟩
  rcases hS with ⟨rfl,e⟩|⟨b1,rfl,q1,q2,q3⟩
  · have e0:fs=[]:=by simpa using e
    subst e0
    repeat' (first|refine st_seq_reg rfl (by first|(simp only[go_sem,hd1];rfl)|rfl) (by first|(simp only[go_sem,hd1];rfl)|rfl) ?_|refine st_reg rfl (by first|(simp only[go_sem,hd1];rfl)|rfl) (by first|(simp only[go_sem,hd1];rfl)|rfl) ?_|refine st_op ?_|refine st_det rfl (by simp (disch:=omega) only[go_sem,wr_i64,if_yes,if_no,↓reduceIte,reduceAdd,reduceMul,reduceEqDiff,Nat.reduceBEq,reduceLeDiff,hd1];rfl) ?_|refine st_loc rfl (by simp (disch:=omega) only[go_sem,wr_i64,if_yes,if_no,↓reduceIte,reduceAdd,reduceMul,reduceEqDiff,Nat.reduceBEq,reduceLeDiff,hd1];rfl) ?_|refine st_store (by simp (disch:=omega) only[go_sem,wr_i64,if_yes,if_no,↓reduceIte,reduceAdd,reduceMul,reduceEqDiff,Nat.reduceBEq,reduceLeDiff,hd1];rfl) ?_|refine st_append (by simp (disch:=omega) only[go_sem,wr_i64,if_yes,if_no,↓reduceIte,reduceAdd,reduceMul,reduceEqDiff,Nat.reduceBEq,reduceLeDiff,hd1];rfl) ?_|(refine st_drum (by first|(simp (disch:=omega) only[go_sem,hd1];rfl)|rfl) rfl (c37 b 0 (by decide)) (by first|(simp (disch:=omega) only[go_sem,hd1];rfl)|rfl|exact put_same _ _ _) (by assumption) (by first|(simp only[go_sem,hd1];rfl)|rfl) (by intro x' n;first|(simp (disch:=omega) only[go_sem];rfl)|rfl) ?_;rintro v x' n hu' ⟨f,rfl,hf⟩ hn)|(refine st_drum (by first|(simp (disch:=omega) only[go_sem,hd1];rfl)|rfl) rfl (c38 b 2 (by decide)) (by first|(simp (disch:=omega) only[go_sem,hd1];rfl)|rfl|exact put_same _ _ _) (by assumption) (by first|(simp only[go_sem,hd1];rfl)|rfl) (by intro x' n;first|(simp (disch:=omega) only[go_sem];rfl)|rfl) ?_;rintro v x' n hu' ⟨r,rfl⟩ hn)|refine st_gT rfl rfl rfl ?_|refine st_gF rfl rfl rfl ?_|(refine st_gS rfl rfl ?_ ?_ <;> intro hg <;> (try simp only[decide_eq_true_eq,decide_eq_false_iff_not,Bool.not_eq_true',Bool.not_eq_false'] at hg))|refine st_condF rfl ?_|(refine st_condS rfl ?_ ?_ <;> intro hg <;> (try simp only[decide_eq_true_eq,decide_eq_false_iff_not,Bool.not_eq_true',Bool.not_eq_false'] at hg))|refine st_nil ?_|refine st_tN ?_|refine st_seq ?_|refine st_block ?_|refine st_skip ?_|refine st_exit ?_|refine st_ret ?_|refine st_tE ?_|refine st_bN ?_|refine st_bH ?_)
    all_goals try (exfalso;omega)
    have hbn:b ≠ (n,34):=fun e=>by rw [e] at hold;dsimp only at hold;omega
    all_goals
      refine ⟨⟨i - 1,_,.slc (n,34) 9 0 1,[f],_⟩,(by refine ⟨(hG.put (by assumption) (n:=n+1+1) (by omega)).new (fun e=>by rw [e] at hold;dsimp only at hold;omega) (by dsimp only;omega) _,by show 0≤i - 1;omega,by simp at hfl ⊢;omega,.inr ⟨(_,34),rfl,put_same _ _ _,by dsimp only;omega,by show _ < _+1+1;omega⟩,fun y hy=>by rw [List.mem_singleton.1 hy];exact hok f hf⟩),(by show (i - 1).toNat < i.toNat;omega),(by repeat' (first|exact trivial|refine And.intro ?_ ?_|rfl|(simp (disch:=omega) only[go_sem,if_yes,if_no,↓reduceIte,reduceAdd,reduceMul,reduceEqDiff,Nat.reduceBEq,reduceLeDiff];rfl)|(simp (disch:=omega) only[go_sem,if_yes,if_no,↓reduceIte,reduceAdd,reduceMul,reduceEqDiff,Nat.reduceBEq,reduceLeDiff]))),(by repeat' (first|exact trivial|refine And.intro ?_ ?_|rfl|(simp (disch:=omega) only[go_sem,if_yes,if_no,↓reduceIte,reduceAdd,reduceMul,reduceEqDiff,Nat.reduceBEq,reduceLeDiff];rfl)|(simp (disch:=omega) only[go_sem,if_yes,if_no,↓reduceIte,reduceAdd,reduceMul,reduceEqDiff,Nat.reduceBEq,reduceLeDiff]))),rfl,HOld.refl _⟩
  · have n1:b1 ≠ b:=nbb q2
    have hlen:(fs.map Fl.row).length=fs.length:=length_map ..
    rw [hlen] at *
    have hS2:SlA h.clk g (.slc b1 9 0 fs.length) 9 (fs.map Fl.row):=.inr ⟨b1,by rw [length_map],q1,q2,q3⟩
    by_cases hf0:0 < fs.length
    case neg =>
      repeat' (first|refine st_seq_reg rfl (by first|(simp only[go_sem,hd1,length_map,Nat.zero_add];rfl)|rfl) (by first|(simp only[go_sem,hd1,length_map,Nat.zero_add];rfl)|rfl) ?_|refine st_reg rfl (by first|(simp only[go_sem,hd1,length_map,Nat.zero_add];rfl)|rfl) (by first|(simp only[go_sem,hd1,length_map,Nat.zero_add];rfl)|rfl) ?_|refine st_op ?_|refine st_det rfl (by simp (disch:=omega) only[go_sem,wr_i64,if_yes,if_no,↓reduceIte,reduceAdd,reduceMul,reduceEqDiff,Nat.reduceBEq,reduceLeDiff,hd1,length_map,Nat.zero_add];rfl) ?_|refine st_loc rfl (by simp (disch:=omega) only[go_sem,wr_i64,if_yes,if_no,↓reduceIte,reduceAdd,reduceMul,reduceEqDiff,Nat.reduceBEq,reduceLeDiff,hd1,length_map,Nat.zero_add];rfl) ?_|refine st_store (by simp (disch:=omega) only[go_sem,wr_i64,if_yes,if_no,↓reduceIte,reduceAdd,reduceMul,reduceEqDiff,Nat.reduceBEq,reduceLeDiff,hd1,length_map,Nat.zero_add];rfl) ?_|(refine st_drum (by first|(simp (disch:=omega) only[go_sem,hd1,length_map,Nat.zero_add];rfl)|rfl) rfl (c37 b 0 (by decide)) (by first|(simp (disch:=omega) only[go_sem,hd1,length_map,Nat.zero_add];rfl)|rfl|exact put_same _ _ _) (by assumption) (by first|(simp only[go_sem,hd1,length_map,Nat.zero_add];rfl)|rfl) (by intro x' n;first|(simp (disch:=omega) only[go_sem];rfl)|rfl) ?_;rintro v x' n hu' ⟨f,rfl,hf⟩ hn)|(refine st_drum (by first|(simp (disch:=omega) only[go_sem,hd1,length_map,Nat.zero_add];rfl)|rfl) rfl (c38 b 2 (by decide)) (by first|(simp (disch:=omega) only[go_sem,hd1,length_map,Nat.zero_add];rfl)|rfl|exact put_same _ _ _) (by assumption) (by first|(simp only[go_sem,hd1,length_map,Nat.zero_add];rfl)|rfl) (by intro x' n;first|(simp (disch:=omega) only[go_sem];rfl)|rfl) ?_;rintro v x' n hu' ⟨r,rfl⟩ hn)|(refine st_appS (by intro h id x y;simp only[go_sem];rfl) rfl (by simp only[go_sem,hd1,length_map,Nat.zero_add];rfl) (by first|(simp only[go_sem,hd1,length_map,Nat.zero_add];rfl)|rfl) (by decide) hS2 (fun b' m e=>by injection e with e _;subst e;simp only[go_sem,n1,↓reduceIte]) (by omega) (by simp only[length_map,List.length_cons,List.length_nil,big,hd1,length_map,Nat.zero_add];omega) (by omega) (by omega) ?_;intro v' g' hA)|refine st_gT rfl rfl rfl ?_|refine st_gF rfl rfl rfl ?_|(refine st_gS rfl rfl ?_ ?_ <;> intro hg <;> (try simp only[decide_eq_true_eq,decide_eq_false_iff_not,Bool.not_eq_true',Bool.not_eq_false'] at hg))|refine st_condF rfl ?_|(refine st_condS rfl ?_ ?_ <;> intro hg <;> (try simp only[decide_eq_true_eq,decide_eq_false_iff_not,Bool.not_eq_true',Bool.not_eq_false'] at hg))|refine st_nil ?_|refine st_tN ?_|refine st_seq ?_|refine st_block ?_|refine st_skip ?_|refine st_exit ?_|refine st_ret ?_|refine st_tE ?_|refine st_bN ?_|refine st_bH ?_)
      all_goals try (exfalso;omega)
      all_goals
        have hnv:=hA.nol
        have hcl:=hA.sl.cell
        have hcv:=cells_one' hcl
        repeat' (first|refine st_seq_reg rfl (by first|(simp only[go_sem,hnv,hcl,hcv];rfl)|rfl) (by first|(simp only[go_sem,hnv,hcl,hcv];rfl)|rfl) ?_)
        refine ⟨⟨i - 1,x',v',fs ++ [f],_⟩,(by refine ⟨(hG.put (by assumption) (n:=n+1) (by omega)).app hold (Nat.le_refl _) hA (by (try simp only[go_sem]);omega),by show 0≤i - 1;omega,by simp;omega,by rw [List.map_append];exact hA.sl.to (fun _ _ _ _ _=>rfl) (by (try simp only[go_sem]);omega),fun y hy=>(List.mem_append.1 hy).elim (hfo y) (fun hy=>by rw [List.mem_singleton.1 hy];exact hok f hf)⟩),(by show (i - 1).toNat < i.toNat;omega),(by repeat' (first|exact trivial|refine And.intro ?_ ?_|rfl|(simp (disch:=omega) only[go_sem,if_yes,if_no,↓reduceIte,reduceAdd,reduceMul,reduceEqDiff,Nat.reduceBEq,reduceLeDiff];rfl)|(simp (disch:=omega) only[go_sem,if_yes,if_no,↓reduceIte,reduceAdd,reduceMul,reduceEqDiff,Nat.reduceBEq,reduceLeDiff]))),(by repeat' (first|exact trivial|refine And.intro ?_ ?_|rfl|(simp (disch:=omega) only[go_sem,if_yes,if_no,↓reduceIte,reduceAdd,reduceMul,reduceEqDiff,Nat.reduceBEq,reduceLeDiff];rfl)|(simp (disch:=omega) only[go_sem,if_yes,if_no,↓reduceIte,reduceAdd,reduceMul,reduceEqDiff,Nat.reduceBEq,reduceLeDiff]))),rfl,HOld.refl _⟩
    have hg0:=fl_getD hf0
    have hm0:=hfo _ (fl_mem hf0)
    repeat' (first|refine st_seq_reg rfl (by first|(simp only[go_sem,hd1,q1,n1,hg0,length_map,Nat.zero_add];rfl)|rfl) (by first|(simp only[go_sem,hd1,q1,n1,hg0,length_map,Nat.zero_add];rfl)|rfl) ?_|refine st_reg rfl (by first|(simp only[go_sem,hd1,q1,n1,hg0,length_map,Nat.zero_add];rfl)|rfl) (by first|(simp only[go_sem,hd1,q1,n1,hg0,length_map,Nat.zero_add];rfl)|rfl) ?_|refine st_op ?_|refine st_det rfl (by simp (disch:=omega) only[go_sem,wr_i64,if_yes,if_no,↓reduceIte,reduceAdd,reduceMul,reduceEqDiff,Nat.reduceBEq,reduceLeDiff,hd1,q1,n1,hg0,length_map,Nat.zero_add];rfl) ?_|refine st_loc rfl (by simp (disch:=omega) only[go_sem,wr_i64,if_yes,if_no,↓reduceIte,reduceAdd,reduceMul,reduceEqDiff,Nat.reduceBEq,reduceLeDiff,hd1,q1,n1,hg0,length_map,Nat.zero_add];rfl) ?_|refine st_store (by simp (disch:=omega) only[go_sem,wr_i64,if_yes,if_no,↓reduceIte,reduceAdd,reduceMul,reduceEqDiff,Nat.reduceBEq,reduceLeDiff,hd1,q1,n1,hg0,length_map,Nat.zero_add];rfl) ?_|refine st_append (by simp (disch:=omega) only[go_sem,wr_i64,if_yes,if_no,↓reduceIte,reduceAdd,reduceMul,reduceEqDiff,Nat.reduceBEq,reduceLeDiff,hd1,q1,n1,hg0,length_map,Nat.zero_add];rfl) ?_|(refine st_drum (by first|(simp (disch:=omega) only[go_sem,hd1,q1,n1,hg0,length_map,Nat.zero_add];rfl)|rfl) rfl (c37 b 0 (by decide)) (by first|(simp (disch:=omega) only[go_sem,hd1,q1,n1,hg0,length_map,Nat.zero_add];rfl)|rfl|exact put_same _ _ _) (by assumption) (by first|(simp only[go_sem,hd1,q1,n1,hg0,length_map,Nat.zero_add];rfl)|rfl) (by intro x' n;first|(simp (disch:=omega) only[go_sem];rfl)|rfl) ?_;rintro v x' n hu' ⟨f,rfl,hf⟩ hn)|(refine st_drum (by first|(simp (disch:=omega) only[go_sem,hd1,q1,n1,hg0,length_map,Nat.zero_add];rfl)|rfl) rfl (c38 b 2 (by decide)) (by first|(simp (disch:=omega) only[go_sem,hd1,q1,n1,hg0,length_map,Nat.zero_add];rfl)|rfl|exact put_same _ _ _) (by assumption) (by first|(simp only[go_sem,hd1,q1,n1,hg0,length_map,Nat.zero_add];rfl)|rfl) (by intro x' n;first|(simp (disch:=omega) only[go_sem];rfl)|rfl) ?_;rintro v x' n hu' ⟨r,rfl⟩ hn)|(refine st_drum (by first|(simp (disch:=omega) only[go_sem,hd1,q1,n1,hg0,length_map,Nat.zero_add];rfl)|rfl) rfl (c39' b 2000 (by decide)) (by first|(simp (disch:=omega) only[go_sem,hd1,q1,n1,hg0,length_map,Nat.zero_add];rfl)|rfl|exact put_same _ _ _) (by assumption) (by first|(simp only[go_sem,hd1,q1,n1,hg0,length_map,Nat.zero_add];rfl)|rfl) (by intro x' n;first|(simp (disch:=omega) only[go_sem];rfl)|rfl) ?_;rintro v x' n hu' ⟨kk,rfl,hkk⟩ hn)|(refine st_appS (by intro h id x y;simp only[go_sem];rfl) rfl (by simp only[go_sem,hd1,q1,n1,hg0,length_map,Nat.zero_add];rfl) (by first|(simp only[go_sem,hd1,q1,n1,hg0,length_map,Nat.zero_add];rfl)|rfl) (by decide) hS2 (fun b' m e=>by injection e with e _;subst e;simp only[go_sem,n1,↓reduceIte]) (by omega) (by simp only[length_map,List.length_cons,List.length_nil,big,hd1,q1,n1,hg0,length_map,Nat.zero_add];omega) (by omega) (by omega) ?_;intro v' g' hA)|refine st_gT rfl rfl rfl ?_|refine st_gF rfl rfl rfl ?_|(refine st_gS rfl rfl ?_ ?_ <;> intro hg <;> (try simp only[decide_eq_true_eq,decide_eq_false_iff_not,Bool.not_eq_true',Bool.not_eq_false'] at hg))|refine st_condF rfl ?_|(refine st_condS rfl ?_ ?_ <;> intro hg <;> (try simp only[decide_eq_true_eq,decide_eq_false_iff_not,Bool.not_eq_true',Bool.not_eq_false'] at hg))|refine st_nil ?_|refine st_tN ?_|refine st_seq ?_|refine st_block ?_|refine st_skip ?_|refine st_exit ?_|refine st_ret ?_|refine st_tE ?_|refine st_bN ?_|refine st_bH ?_)
    all_goals try (exfalso;omega)
    · skip
      have hnv:=hA.nol
      have hcl:=hA.sl.cell
      have hcv:=cells_one' hcl
      repeat' (first|refine st_seq_reg rfl (by first|(simp only[go_sem,hnv,hcl,hcv];rfl)|rfl) (by first|(simp only[go_sem,hnv,hcl,hcv];rfl)|rfl) ?_)
      refine ⟨⟨i - 1,x',v',fs ++ [(⟨(fl fs 0).len,(fl fs 0).wid,(fl fs 0).front,(fl fs 0).rear,(fl fs 0).turn,kk,(fl fs 0).mid,(fl fs 0).high,(fl fs 0).loads⟩:Fl)],_⟩,(by refine ⟨(hG.put (by assumption) (n:=n+1) (by omega)).app hold (Nat.le_refl _) hA (by (try simp only[go_sem]);omega),by show 0≤i - 1;omega,by simp;omega,by rw [List.map_append];exact hA.sl.to (fun _ _ _ _ _=>rfl) (by (try simp only[go_sem]);omega),fun y hy=>(List.mem_append.1 hy).elim (hfo y) (fun hy=>by rw [List.mem_singleton.1 hy];exact hm0)⟩),(by show (i - 1).toNat < i.toNat;omega),(by repeat' (first|exact trivial|refine And.intro ?_ ?_|rfl|(simp (disch:=omega) only[go_sem,if_yes,if_no,↓reduceIte,reduceAdd,reduceMul,reduceEqDiff,Nat.reduceBEq,reduceLeDiff];rfl)|(simp (disch:=omega) only[go_sem,if_yes,if_no,↓reduceIte,reduceAdd,reduceMul,reduceEqDiff,Nat.reduceBEq,reduceLeDiff]))),(by repeat' (first|exact trivial|refine And.intro ?_ ?_|rfl|(simp (disch:=omega) only[go_sem,if_yes,if_no,↓reduceIte,reduceAdd,reduceMul,reduceEqDiff,Nat.reduceBEq,reduceLeDiff];rfl)|(simp (disch:=omega) only[go_sem,if_yes,if_no,↓reduceIte,reduceAdd,reduceMul,reduceEqDiff,Nat.reduceBEq,reduceLeDiff]))),rfl,HOld.refl _⟩
    · skip
      have hnv:=hA.nol
      have hcl:=hA.sl.cell
      have hcv:=cells_one' hcl
      repeat' (first|refine st_seq_reg rfl (by first|(simp only[go_sem,hnv,hcl,hcv];rfl)|rfl) (by first|(simp only[go_sem,hnv,hcl,hcv];rfl)|rfl) ?_)
      refine ⟨⟨i - 1,x',v',fs ++ [f],_⟩,(by refine ⟨(hG.put (by assumption) (n:=n+1) (by omega)).app hold (Nat.le_refl _) hA (by (try simp only[go_sem]);omega),by show 0≤i - 1;omega,by simp;omega,by rw [List.map_append];exact hA.sl.to (fun _ _ _ _ _=>rfl) (by (try simp only[go_sem]);omega),fun y hy=>(List.mem_append.1 hy).elim (hfo y) (fun hy=>by rw [List.mem_singleton.1 hy];exact hok f hf)⟩),(by show (i - 1).toNat < i.toNat;omega),(by repeat' (first|exact trivial|refine And.intro ?_ ?_|rfl|(simp (disch:=omega) only[go_sem,if_yes,if_no,↓reduceIte,reduceAdd,reduceMul,reduceEqDiff,Nat.reduceBEq,reduceLeDiff];rfl)|(simp (disch:=omega) only[go_sem,if_yes,if_no,↓reduceIte,reduceAdd,reduceMul,reduceEqDiff,Nat.reduceBEq,reduceLeDiff]))),(by repeat' (first|exact trivial|refine And.intro ?_ ?_|rfl|(simp (disch:=omega) only[go_sem,if_yes,if_no,↓reduceIte,reduceAdd,reduceMul,reduceEqDiff,Nat.reduceBEq,reduceLeDiff];rfl)|(simp (disch:=omega) only[go_sem,if_yes,if_no,↓reduceIte,reduceAdd,reduceMul,reduceEqDiff,Nat.reduceBEq,reduceLeDiff]))),rfl,HOld.refl _⟩
structure DsS where
  i:Int
  x:Int
  v:AV
  ds:List (List Ld)
  g:AH
structure LsS where
  k:Int
  x:Int
  v:AV
  ls:List Ld
  g:AH
theorem c22 (b:Nat × Nat) (fs:List Fl) (hfs:(fs.length:Int)≤1000) (hfo:∀ f ∈ fs,FrOk f) (N:Int) (hN:0≤N∧N≤6):Drum Tryd.prog 22 [.ptr b 0 0,.lst 9 (fs.map Fl.row),.int .i64 N] b (fun v=>∃ ds:List (List Ld),v=.lst 1 (ds.map dsR)∧(ds.length:Int)≤N):=by
  refine Drum.give Tryd.call22 fun h x hx hu hold=>?_
  have nbb:∀ {b1:Nat × Nat},h.clk≤b1.1→¬ b1=b:=fun hb e=>by rw [e] at hb;omega
  refine ACalls.of tab mixed Tryd.call22 Tryd.func22 rfl (fi:=⟨60,[11],[47,53,57,1000011],none,[]⟩) rfl rfl (Nat.le_of_ble_eq_true rfl) (by decide) ?_
  unfold startA
  try simp only[go_sem]
  repeat' (first|refine st_seq_reg rfl (by first|(simp only[go_sem,hx];rfl)|rfl) (by first|(simp only[go_sem,hx];rfl)|rfl) ?_|refine st_op ?_|refine st_det rfl (by simp (disch:=omega) only[go_sem,wr_i64,if_yes,if_no,↓reduceIte,reduceAdd,reduceMul,reduceEqDiff,Nat.reduceBEq,reduceLeDiff,hx];rfl) ?_|(refine st_drum (by first|(simp (disch:=omega) only[go_sem,hx];rfl)|rfl) rfl (c39' b (N+1) (by omega)) (by first|(simp (disch:=omega) only[go_sem,hx];rfl)|rfl|exact put_same _ _ _) (by assumption) (by first|(simp only[go_sem,hx];rfl)|rfl) (by intro x' n;first|(simp (disch:=omega) only[go_sem];rfl)|rfl) ?_;rintro v x' n hu' ⟨n1,rfl,hn⟩ hn)|refine st_nil ?_|refine st_seq ?_|refine st_block ?_)
  all_goals try (exfalso;omega)
  obtain ⟨n0,rfl⟩:∃ n0:Nat,n1=n0:=⟨n1.toNat,by omega⟩
  refine st_loopH (α:=DsS) tab mixed [] [] (by repeat (first|exact trivial|refine ⟨rfl,?_⟩)) [] [] (by repeat (first|exact trivial|refine ⟨rfl,?_⟩)) (fun a=>[(8,.int .i64 (a.i:Int)),(7,a.v)]) [(0,_),(1,_),(6,_)] (fun _=>[]) [] (fun a=>a.g) (fun a=>Gd h b a.x a.g∧0≤a.i∧(a.ds.length:Int)+a.i=n0∧SlA h.clk a.g a.v 1 (a.ds.map dsR)) (fun a=>a.i.toNat) (by decide) ⟨n0,x',.nils,[],_⟩ (by refine ⟨⟨by assumption,by simp only[go_sem,↓reduceIte],fun b' _ h2=>by simp only[go_sem,h2,↓reduceIte],rfl,by simp only[go_sem];omega⟩,by show (0:Int)≤n0;omega,by simp,.inl ⟨rfl,rfl⟩⟩) (by (try simp only[go_sem]);repeat' (first|exact trivial|refine And.intro ?_ ?_|rfl|(simp (disch:=omega) only[go_sem,if_yes,if_no,↓reduceIte,reduceAdd,reduceMul,reduceEqDiff,Nat.reduceBEq,reduceLeDiff];rfl)|(simp (disch:=omega) only[go_sem,if_yes,if_no,↓reduceIte,reduceAdd,reduceMul,reduceEqDiff,Nat.reduceBEq,reduceLeDiff]))) (by (try simp only[go_sem]);repeat' (first|exact trivial|refine And.intro ?_ ?_|rfl|(simp (disch:=omega) only[go_sem,if_yes,if_no,↓reduceIte,reduceAdd,reduceMul,reduceEqDiff,Nat.reduceBEq,reduceLeDiff];rfl)|(simp (disch:=omega) only[go_sem,if_yes,if_no,↓reduceIte,reduceAdd,reduceMul,reduceEqDiff,Nat.reduceBEq,reduceLeDiff]))) (HOld.refl _) ?_
  rintro ⟨i,x1,v,ds,g⟩ c ⟨hG,i0,hdl,hS⟩ hc
  dsimp only at hG i0 hdl hS hc
  have hu1:=hG.u
  have hd1:=hG.d
  have hcl0:=hG.cl
  have hnc:=hS.noL
  simp only[go_sem]
  by_cases hi:0 < i
  case neg =>
    obtain rfl:i=0:=by omega
    repeat' (first|refine st_seq_reg rfl (by first|(simp only[go_sem,hnc];rfl)|rfl) (by first|(simp only[go_sem,hnc];rfl)|rfl) ?_|refine st_op ?_|refine st_det rfl (by simp (disch:=omega) only[go_sem,wr_i64,if_yes,if_no,↓reduceIte,reduceAdd,reduceMul,reduceEqDiff,Nat.reduceBEq,reduceLeDiff,hnc];rfl) ?_|refine st_condF rfl ?_|refine st_nil ?_|refine st_tN ?_|refine st_seq ?_|refine st_exit ?_|refine st_ret ?_|refine st_tE ?_|refine st_bH ?_)
    all_goals try (exfalso;omega)
    simp (disch:=omega) only[AEnd,Tryd.results22,aresK,fin,go_sem,↓reduceIte,reduceEqDiff,reduceAdd,reduceLeDiff,if_yes,if_no,implies_true,true_and,and_true,List.reverse_cons,List.reverse_nil]
    refine ⟨hnc,hG.old,⟨x1,hG.d,hG.u⟩,hG.lp,?_⟩
    exact SlA.ans (R:=fun v=>∃ ds:List (List Ld),v=.lst 1 (ds.map dsR)∧(ds.length:Int)≤N) hS ⟨ds,rfl,by omega⟩
  repeat' (first|refine st_seq_reg rfl (by first|(simp only[go_sem,hd1,hnc];rfl)|rfl) (by first|(simp only[go_sem,hd1,hnc];rfl)|rfl) ?_|refine st_op ?_|refine st_det rfl (by simp (disch:=omega) only[go_sem,wr_i64,if_yes,if_no,↓reduceIte,reduceAdd,reduceMul,reduceEqDiff,Nat.reduceBEq,reduceLeDiff,hd1,hnc];rfl) ?_|(refine st_drum (by first|(simp (disch:=omega) only[go_sem,hd1,hnc];rfl)|rfl) rfl (c39' b 3 (by decide)) (by first|(simp (disch:=omega) only[go_sem,hd1,hnc];rfl)|rfl|exact put_same _ _ _) (by assumption) (by first|(simp only[go_sem,hd1,hnc];rfl)|rfl) (by intro x' n;first|(simp (disch:=omega) only[go_sem];rfl)|rfl) ?_;rintro v x' n hu' ⟨k1,rfl,hk1⟩ hn)|(refine st_condS rfl ?_ ?_ <;> intro hg <;> (try simp only[decide_eq_true_eq,decide_eq_false_iff_not,Bool.not_eq_true',Bool.not_eq_false'] at hg))|refine st_nil ?_|refine st_tN ?_|refine st_seq ?_|refine st_block ?_|refine st_skip ?_|refine st_exit ?_|refine st_ret ?_|refine st_tE ?_|refine st_bH ?_)
  all_goals try (exfalso;omega)
  obtain ⟨C,hC⟩:∃ C,C=c:=⟨c,rfl⟩
  have hvo:∀ bb m,v=.slc bb 1 0 m→bb.1 < C:=fun bb m e=>by have:=(hS.lt e).2.1;omega
  refine st_loopH (α:=LsS) tab mixed [] [] (by repeat (first|exact trivial|refine ⟨rfl,?_⟩)) [] [] (by repeat (first|exact trivial|refine ⟨rfl,?_⟩)) (fun a=>[(10,.int .i64 (a.k:Int)),(9,a.v)]) [(0,_),(1,_),(6,_),(7,_),(8,_)] (fun _=>[]) [] (fun a=>a.g) (fun a=>Gd h b a.x a.g∧SlA h.clk a.g v 1 (ds.map dsR)∧(0≤a.k∧a.k≤3)∧(a.ls.length:Int)+a.k≤3∧C≤a.g.clk∧SlA C a.g a.v 7 (a.ls.map Ld.row)) (fun a=>a.k.toNat) (by decide) ⟨k1,x',.nils,[],_⟩ (by refine ⟨hG.put (by assumption) (n:=n) (by omega),slA_put hS hold (by omega),by dsimp only;omega,by simp;omega,by (try simp only[go_sem]);omega,.inl ⟨rfl,rfl⟩⟩) (by (try simp only[go_sem]);repeat' (first|exact trivial|refine And.intro ?_ ?_|rfl|(simp (disch:=omega) only[go_sem,if_yes,if_no,↓reduceIte,reduceAdd,reduceMul,reduceEqDiff,Nat.reduceBEq,reduceLeDiff];rfl)|(simp (disch:=omega) only[go_sem,if_yes,if_no,↓reduceIte,reduceAdd,reduceMul,reduceEqDiff,Nat.reduceBEq,reduceLeDiff]))) (by (try simp only[go_sem]);repeat' (first|exact trivial|refine And.intro ?_ ?_|rfl|(simp (disch:=omega) only[go_sem,if_yes,if_no,↓reduceIte,reduceAdd,reduceMul,reduceEqDiff,Nat.reduceBEq,reduceLeDiff];rfl)|(simp (disch:=omega) only[go_sem,if_yes,if_no,↓reduceIte,reduceAdd,reduceMul,reduceEqDiff,Nat.reduceBEq,reduceLeDiff]))) (HOld.refl _) ?_
  rintro ⟨k,x2,lv,ls,g2⟩ c2 ⟨hG2,hS2,hk,hll,hC2,hL⟩ hc2
  dsimp only at hG2 hS2 hk hll hC2 hL hc2
  have hu2:=hG2.u
  have hd2:=hG2.d
  have hcl2:=hG2.cl
  have hnl:=hL.noL
  simp only[go_sem]
  by_cases hgo:0 < k∧0 < fs.length
  · obtain ⟨hk0,hfl0⟩:=hgo
    repeat' (first|refine st_seq_reg rfl (by first|(simp only[go_sem,hd2,hnl,length_map];rfl)|rfl) (by first|(simp only[go_sem,hd2,hnl,length_map];rfl)|rfl) ?_|refine st_reg rfl (by first|(simp only[go_sem,hd2,hnl,length_map];rfl)|rfl) (by first|(simp only[go_sem,hd2,hnl,length_map];rfl)|rfl) ?_|refine st_op ?_|refine st_det rfl (by simp (disch:=omega) only[go_sem,wr_i64,if_yes,if_no,↓reduceIte,reduceAdd,reduceMul,reduceEqDiff,Nat.reduceBEq,reduceLeDiff,hd2,hnl,length_map];rfl) ?_|refine st_loc rfl (by simp (disch:=omega) only[go_sem,wr_i64,if_yes,if_no,↓reduceIte,reduceAdd,reduceMul,reduceEqDiff,Nat.reduceBEq,reduceLeDiff,hd2,hnl,length_map];rfl) ?_|refine st_store (by simp (disch:=omega) only[go_sem,wr_i64,if_yes,if_no,↓reduceIte,reduceAdd,reduceMul,reduceEqDiff,Nat.reduceBEq,reduceLeDiff,hd2,hnl,length_map];rfl) ?_|(refine st_drum (by first|(simp (disch:=omega) only[go_sem,hd2,hnl,length_map];rfl)|rfl) rfl (c39' b fs.length (by omega)) (by first|(simp (disch:=omega) only[go_sem,hd2,hnl,length_map];rfl)|rfl|exact put_same _ _ _) (by assumption) (by first|(simp only[go_sem,hd2,hnl,length_map];rfl)|rfl) (by intro x' n;first|(simp (disch:=omega) only[go_sem];rfl)|rfl) ?_;rintro v x' n hu' ⟨j0,rfl,hj0⟩ hn)|refine st_gT rfl rfl rfl ?_|refine st_gF rfl rfl rfl ?_|(refine st_gS rfl rfl ?_ ?_ <;> intro hg <;> (try simp only[decide_eq_true_eq,decide_eq_false_iff_not,Bool.not_eq_true',Bool.not_eq_false'] at hg))|refine st_condF rfl ?_|(refine st_condS rfl ?_ ?_ <;> intro hg <;> (try simp only[decide_eq_true_eq,decide_eq_false_iff_not,Bool.not_eq_true',Bool.not_eq_false'] at hg))|refine st_nil ?_|refine st_tN ?_|refine st_seq ?_|refine st_block ?_|refine st_skip ?_|refine st_exit ?_|refine st_tE ?_|refine st_bH ?_)
    all_goals try (exfalso;omega)
    have hf:=hfo _ (fl_mem (l:=fs) (i:=j0.toNat) (by omega))
    unfold FrOk at hf
    repeat' (first|refine st_op ?_|refine st_det rfl (by simp (disch:=omega) only[go_sem,wr_i64,if_yes,if_no,↓reduceIte,reduceAdd,reduceMul,reduceEqDiff,Nat.reduceBEq,reduceLeDiff,hd2,hnl,length_map];rfl) ?_|(refine st_drum (by first|(simp (disch:=omega) only[go_sem,hd2,hnl,length_map];rfl)|rfl) rfl (c40' b (fl fs j0.toNat).front (fl fs j0.toNat).rear (by omega) (by omega)) (by first|(simp (disch:=omega) only[go_sem,hd2,hnl,length_map];rfl)|rfl|exact put_same _ _ _) (by assumption) (by first|(simp only[go_sem,hd2,hnl,length_map];rfl)|rfl) (by intro x' n;first|(simp (disch:=omega) only[go_sem];rfl)|rfl) ?_;rintro v x' n hu' ⟨r1,rfl,hr1⟩ hn)|(refine st_drum (by first|(simp (disch:=omega) only[go_sem,hd2,hnl,length_map];rfl)|rfl) rfl (c65b b 5 900) (by first|(simp (disch:=omega) only[go_sem,hd2,hnl,length_map];rfl)|rfl|exact put_same _ _ _) (by assumption) (by first|(simp only[go_sem,hd2,hnl,length_map];rfl)|rfl) (by intro x' n;first|(simp (disch:=omega) only[go_sem];rfl)|rfl) ?_;rintro v x' n hu' ⟨r2,rfl,hr2⟩ hn)|(refine st_drum (by first|(simp (disch:=omega) only[go_sem,hd2,hnl,length_map];rfl)|rfl) rfl (c64 b 0 r2 (by decide) (by omega) (by omega)) (by first|(simp (disch:=omega) only[go_sem,hd2,hnl,length_map];rfl)|rfl|exact put_same _ _ _) (by assumption) (by first|(simp only[go_sem,hd2,hnl,length_map];rfl)|rfl) (by intro x' n;first|(simp (disch:=omega) only[go_sem];rfl)|rfl) ?_;rintro v x' n hu' ⟨lo1,hi1,rfl,hs1⟩ hn)|(refine st_drum (by first|(simp (disch:=omega) only[go_sem,hd2,hnl,length_map];rfl)|rfl) rfl (c64 b 0 700 (by decide) (by decide) (by decide)) (by first|(simp (disch:=omega) only[go_sem,hd2,hnl,length_map];rfl)|rfl|exact put_same _ _ _) (by assumption) (by first|(simp only[go_sem,hd2,hnl,length_map];rfl)|rfl) (by intro x' n;first|(simp (disch:=omega) only[go_sem];rfl)|rfl) ?_;rintro v x' n hu' ⟨lo2,hi2,rfl,hs2⟩ hn))
    all_goals try (exfalso;omega)
    repeat' (first|refine st_reg rfl (by first|(simp only[go_sem,hd2,hnl,length_map];rfl)|rfl) (by first|(simp only[go_sem,hd2,hnl,length_map];rfl)|rfl) ?_|refine st_op ?_|refine st_det rfl (by simp (disch:=omega) only[go_sem,wr_i64,if_yes,if_no,↓reduceIte,reduceAdd,reduceMul,reduceEqDiff,Nat.reduceBEq,reduceLeDiff,hd2,hnl,length_map];rfl) ?_|(refine st_appS (by intro h id x y;simp only[go_sem];rfl) rfl (by simp only[go_sem,hd2,hnl,length_map];rfl) (by first|(simp only[go_sem,hd2,hnl,length_map];rfl)|rfl) (by decide) hL (fun b1 m e=>by have:=(hL.lt e).1;simp only[go_sem,nbb (show h.clk≤b1.1 by omega),↓reduceIte]) (by omega) (by simp only[length_map,List.length_cons,List.length_nil,big,hd2,hnl,length_map];omega) (by omega) (by omega) ?_;intro v' g' hA)|refine st_nil ?_|refine st_tN ?_|refine st_bN ?_)
    all_goals try (exfalso;omega)
    have hnv:=hA.nol
    have hCh:h.clk≤C:=by omega
    refine ⟨⟨k - 1,x',v',ls ++ [(⟨r1,lo1,hi1,lo2,hi2,1,0⟩:Ld)],_⟩,(by refine ⟨(hG2.put (by assumption) (n:=n) (by omega)).app hold hCh hA (by (try simp only[go_sem]);omega),hS2.to (fun bb m e q1 q2=>(hA.old bb (hvo bb m e)).trans (put_ne _ _ (nbb q1))) (by (try simp only[go_sem]);omega),by dsimp only;omega,by simp;omega,by (try simp only[go_sem]);omega,by rw [List.map_append];exact hA.sl.to (fun _ _ _ _ _=>rfl) (by (try simp only[go_sem]);omega)⟩),(by show (k - 1).toNat < k.toNat;omega),(by repeat' (first|exact trivial|refine And.intro ?_ ?_|rfl|(simp (disch:=omega) only[go_sem,if_yes,if_no,↓reduceIte,reduceAdd,reduceMul,reduceEqDiff,Nat.reduceBEq,reduceLeDiff];rfl)|(simp (disch:=omega) only[go_sem,if_yes,if_no,↓reduceIte,reduceAdd,reduceMul,reduceEqDiff,Nat.reduceBEq,reduceLeDiff]))),(by repeat' (first|exact trivial|refine And.intro ?_ ?_|rfl|(simp (disch:=omega) only[go_sem,if_yes,if_no,↓reduceIte,reduceAdd,reduceMul,reduceEqDiff,Nat.reduceBEq,reduceLeDiff];rfl)|(simp (disch:=omega) only[go_sem,if_yes,if_no,↓reduceIte,reduceAdd,reduceMul,reduceEqDiff,Nat.reduceBEq,reduceLeDiff]))),rfl,HOld.refl _⟩
  · repeat' (first|refine st_seq_reg rfl (by first|(simp only[go_sem,hd2,hnl,length_map];rfl)|rfl) (by first|(simp only[go_sem,hd2,hnl,length_map];rfl)|rfl) ?_|refine st_op ?_|refine st_det rfl (by simp (disch:=omega) only[go_sem,wr_i64,if_yes,if_no,↓reduceIte,reduceAdd,reduceMul,reduceEqDiff,Nat.reduceBEq,reduceLeDiff,hd2,hnl,length_map];rfl) ?_|refine st_gT rfl rfl rfl ?_|refine st_gF rfl rfl rfl ?_|(refine st_gS rfl rfl ?_ ?_ <;> intro hg <;> (try simp only[decide_eq_true_eq,decide_eq_false_iff_not,Bool.not_eq_true',Bool.not_eq_false'] at hg))|refine st_condF rfl ?_|(refine st_condS rfl ?_ ?_ <;> intro hg <;> (try simp only[decide_eq_true_eq,decide_eq_false_iff_not,Bool.not_eq_true',Bool.not_eq_false'] at hg))|refine st_nil ?_|refine st_tN ?_|refine st_seq ?_|refine st_block ?_|refine st_skip ?_|refine st_exit ?_|refine st_tE ?_|refine st_bH ?_)
    all_goals try (exfalso;omega)
    all_goals
      first|refine st_free ?_|refine st_seq_free ?_
      refine ASem.cutK 9 7 (ls.map Ld.row) (by
        simp only[go_sem,↓reduceIte,reduceEqDiff]
        rcases hL with q|⟨bb,e1,e2,_⟩
        · exact .inl q
        · rw [length_map] at e1;exact .inr ⟨bb,e1,e2⟩) fun H1 h1a h1b h1c=>?_
      have hlow:∀ bb:Bid,bb.1 < C→H1.at_ bb=g2.at_ bb:=fun bb q=>h1a bb (fun m e=>by
        have e':lv=.slc bb 7 0 m:=e
        have:=(hL.lt e').1;omega)
      have hG3:Gd h b x2 H1:=hG2.to hG2.u ((hlow b (by omega)).trans hG2.d) (fun b' q1 _=>hlow b' (by omega)) h1c (by rw [h1b];(try simp only[go_sem]);omega)
      have hS3:SlA h.clk H1 v 1 (ds.map dsR):=hS2.to (fun bb m e _ _=>hlow bb (hvo bb m e)) (by rw [h1b];(try simp only[go_sem]);omega)
      have hcl3:c2+1≤H1.clk:=by rw [h1b];(try simp only[go_sem]);omega
      have hnc3:=hS3.noL
      clear h1a h1b h1c
      refine st_run tab mixed (f2:=⟨60,[11],[47,53,57],none,[]⟩) rfl rfl (by decide) ?_
      repeat' (first|refine st_reg rfl (by first|(simp only[go_sem,hnc3,length_map];rfl)|rfl) (by first|(simp only[go_sem,hnc3,length_map];rfl)|rfl) ?_|refine st_op ?_|refine st_det rfl (by simp (disch:=omega) only[go_sem,wr_i64,if_yes,if_no,↓reduceIte,reduceAdd,reduceMul,reduceEqDiff,Nat.reduceBEq,reduceLeDiff,hnc3,length_map];rfl) ?_|(refine st_appS (by intro h id x y;simp only[go_sem];rfl) rfl (by simp only[go_sem,hnc3,length_map];rfl) (by first|(simp only[go_sem,hnc3,length_map];rfl)|rfl) (by decide) hS3 (fun _ _ _=>rfl) (by omega) (by simp only[length_map,List.length_cons,List.length_nil,big,hnc3,length_map];omega) (by omega) (by omega) ?_;intro v' g' hA)|refine st_nil ?_|refine st_tN ?_|refine st_bN ?_)
      all_goals try (exfalso;omega)
      have hnv:=hA.nol
      have hcl4:=hA.sl.cell
      have hcv:=cells_one' hcl4
      repeat' (first|refine st_seq_reg rfl (by first|(simp only[go_sem,hnv,hcl4,hcv];rfl)|rfl) (by first|(simp only[go_sem,hnv,hcl4,hcv];rfl)|rfl) ?_)
      refine ⟨⟨i - 1,x2,v',ds ++ [ls],_⟩,(by refine ⟨(hG3.tick (n:=H1.clk+1) (Nat.le_succ _)).app hold (Nat.le_refl _) hA (by (try simp only[go_sem]);omega),by show 0≤i - 1;omega,by simp;omega,by rw [List.map_append];exact hA.sl.to (fun _ _ _ _ _=>rfl) (by (try simp only[go_sem]);omega)⟩),(by show (i - 1).toNat < i.toNat;omega),(by repeat' (first|exact trivial|refine And.intro ?_ ?_|rfl|(simp (disch:=omega) only[go_sem,if_yes,if_no,↓reduceIte,reduceAdd,reduceMul,reduceEqDiff,Nat.reduceBEq,reduceLeDiff];rfl)|(simp (disch:=omega) only[go_sem,if_yes,if_no,↓reduceIte,reduceAdd,reduceMul,reduceEqDiff,Nat.reduceBEq,reduceLeDiff]))),(by repeat' (first|exact trivial|refine And.intro ?_ ?_|rfl|(simp (disch:=omega) only[go_sem,if_yes,if_no,↓reduceIte,reduceAdd,reduceMul,reduceEqDiff,Nat.reduceBEq,reduceLeDiff];rfl)|(simp (disch:=omega) only[go_sem,if_yes,if_no,↓reduceIte,reduceAdd,reduceMul,reduceEqDiff,Nat.reduceBEq,reduceLeDiff]))),rfl,HOld.refl _⟩
end Go.Proofs.YtaijkalhkgjakaaDoor
