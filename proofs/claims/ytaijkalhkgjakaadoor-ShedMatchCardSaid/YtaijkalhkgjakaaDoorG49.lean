/- Contracts of functions that the claim reaches: what each call gives, told in our own logic. Conditions: those of each theorem. -/
import Derived.Test.YtaijkalhkgjakaaDoorG31
import Derived.Test.YtaijkalhkgjakaaDoorBaseD
import Derived.Test.YtaijkalhkgjakaaDoorG22
open Nat (reduceAdd reduceMul reduceEqDiff reduceLeDiff)
open List (length_map)
set_option linter.all false
set_option linter.unusedSimpArgs false
set_option linter.unusedVariables false
namespace Go.Proofs.YtaijkalhkgjakaaDoor
open Go.Av
attribute [local irreducible] thenA blockA awp awpOps awpD awp1
set_option maxHeartbeats 8000000
set_option maxRecDepth 20000
theorem ShGood.ok {S:Sp} {W J D:Int} (h:ShGood S W J D) (hW:W≤4) (hJ:J≤7) (hD:D≤30):S.Ok :=
  ⟨h.w.1,by have:=h.w.2;omega,by have:=h.j;omega,fun j hj=>by have:=h.job j hj;unfold Jb.Ok;omega⟩
end Go.Proofs.YtaijkalhkgjakaaDoor

namespace Go.Proofs.YtaijkalhkgjakaaDoor
open Go.Av
def OkM (fits:List (List Bool)) (m:List Int) (n:Nat):Prop :=
  ∀ k,k < n→m.getD k 0 = -1 ∨ ∃ i:Nat,i < fits.length∧m.getD k 0=i∧fitAt fits i k=true∧(m.take k).contains (i:Int)=false
theorem pre_getD {l m:List Int} (h:l <+: m) {k:Nat} (hk:k < l.length):m.getD k 0=l.getD k 0∧m.take k=l.take k:=by
  obtain ⟨t,rfl⟩:=h
  refine ⟨?_,?_⟩
  · rw [List.getD_eq_getElem?_getD,List.getD_eq_getElem?_getD,List.getElem?_append_left hk]
  · rw [List.take_append_of_le_length (by omega)]
theorem okM_pre {fits:List (List Bool)} {l m:List Int} (h:l <+: m) {n:Nat} (hn:n≤l.length):OkM fits l n ↔ OkM fits m n:=by
  constructor
  · intro ho k hk
    obtain ⟨a,b⟩:=pre_getD h (k:=k) (by omega)
    rw [a,b];exact ho k hk
  · intro ho k hk
    obtain ⟨a,b⟩:=pre_getD h (k:=k) (by omega)
    have:=ho k hk
    rw [a,b] at this;exact this
theorem okM_snoc {fits:List (List Bool)} {l:List Int} {x:Int} (h:OkM fits l l.length) (hx:x = -1 ∨ ∃ i:Nat,i < fits.length∧x=i∧fitAt fits i l.length=true∧l.contains (i:Int)=false):OkM fits (l ++ [x]) (l.length+1):=by
  intro k hk
  by_cases e:k=l.length
  · subst e
    have e1:(l ++ [x]).getD l.length 0=x:=by simp [List.getD_eq_getElem?_getD]
    have e2:(l ++ [x]).take l.length=l:=by simp
    rw [e1,e2];exact hx
  · exact (okM_pre (List.prefix_append l [x]) (Nat.le_refl _)).1 h k (by omega)
theorem allM_ok {fits:List (List Bool)} {D:Nat}:∀ (f:Nat) (l m:List Int),OkM fits l l.length→m ∈ allM fits D f l→OkM fits m D:=by
  intro f
  induction f with
  | zero=>intro l m _ h;simp [allM] at h
  | succ f ih =>
    intro l m ho h
    simp only[allM] at h
    split at h
    · rename_i hl
      simp only[List.mem_singleton] at h
      subst h
      rw [← hl];exact ho
    · rcases List.mem_append.1 h with h|h
      · obtain ⟨i,hi,h⟩:=List.mem_flatMap.1 h
        split at h
        · rename_i hc
          simp only[Bool.and_eq_true,Bool.not_eq_true'] at hc
          refine ih _ _ ?_ h
          rw [List.length_append]
          exact okM_snoc ho (.inr ⟨i,List.mem_range.1 hi,rfl,hc.1,hc.2⟩)
        · cases h
      · refine ih _ _ ?_ h
        rw [List.length_append]
        exact okM_snoc ho (.inl rfl)
theorem allM_all {fits:List (List Bool)} {D:Nat} {m:List Int} (hm:m.length=D) (ho:OkM fits m D):∀ (f:Nat) (l:List Int),l <+: m→D < l.length+f→m ∈ allM fits D f l:=by
  intro f
  induction f with
  | zero=>intro l h hd;have:=h.length_le;omega
  | succ f ih =>
    intro l h hd
    have hle:=h.length_le
    simp only[allM]
    by_cases hl:l.length=D
    · rw [if_pos hl]
      have:=List.IsPrefix.eq_of_length h (by omega)
      simp [this]
    · rw [if_neg hl]
      have hlt:l.length < m.length:=by omega
      have hnx:∀ x,m.getD l.length 0=x→(l ++ [x]) <+: m:=fun x e=>by
        obtain ⟨t,rfl⟩:=h
        cases t with
        | nil=>simp at hlt
        | cons y t =>
          have e1:(l ++ y :: t).getD l.length 0=y:=by simp [List.getD_eq_getElem?_getD]
          rw [e1] at e
          subst e
          exact ⟨t,by simp⟩
      have htk:m.take l.length=l:=by
        obtain ⟨t,rfl⟩:=h
        simp
      rw [List.mem_append]
      rcases ho l.length (by omega) with e|⟨i,hi,e,hf,hc⟩
      · right
        exact ih _ (hnx _ e) (by simp;omega)
      · left
        rw [List.mem_flatMap]
        refine ⟨i,List.mem_range.2 hi,?_⟩
        rw [htk] at hc
        rw [hf,hc]
        simp only[Bool.not_false,Bool.and_true,if_true]
        exact ih _ (hnx _ e) (by simp;omega)
theorem best_first:∀ (l:List (List Int)) (b:List Int),∃ c,l.foldl (fun b m=>if spare m < spare b then m else b) b=c∧spare c≤spare b∧(∀ m ∈ l,spare c≤spare m) ∧
    (c=b ∨ spare c < spare b∧∃ q,q < l.length∧l.getD q []=c∧∀ j,j < q→spare c < spare (l.getD j [])):=by
  intro l
  induction l with
  | nil=>intro b;exact ⟨b,rfl,Nat.le_refl _,(fun m hm=>by cases hm),.inl rfl⟩
  | cons x l ih =>
    intro b
    simp only[List.foldl_cons]
    by_cases hx:spare x < spare b
    · rw [if_pos hx]
      obtain ⟨c,h1,h2,h3,h4⟩:=ih x
      refine ⟨c,h1,by omega,fun m hm=>?_,.inr ⟨by omega,?_⟩⟩
      · rcases List.mem_cons.1 hm with rfl|hm
        · exact h2
        · exact h3 m hm
      · rcases h4 with rfl|⟨h4,q,hq,e,hj⟩
        · exact ⟨0,by simp,rfl,fun j hj=>by omega⟩
        · refine ⟨q+1,by simp;omega,by simpa using e,fun j hj'=>?_⟩
          cases j with
          | zero=>simpa using h4
          | succ j=>simpa using hj j (by omega)
    · rw [if_neg hx]
      obtain ⟨c,h1,h2,h3,h4⟩:=ih b
      refine ⟨c,h1,h2,fun m hm=>?_,?_⟩
      · rcases List.mem_cons.1 hm with rfl|hm
        · omega
        · exact h3 m hm
      · rcases h4 with h4|⟨h4,q,hq,e,hj⟩
        · exact .inl h4
        · refine .inr ⟨h4,q+1,by simp;omega,by simpa using e,fun j hj'=>?_⟩
          cases j with
          | zero=>simp only[List.getD_cons_zero];omega
          | succ j=>simpa using hj j (by omega)
theorem bestM_first {l:List (List Int)} (hl:l ≠ []):∃ q,q < l.length∧l.getD q []=bestM l∧(∀ j,j < q→spare (bestM l) < spare (l.getD j []))∧∀ m ∈ l,spare (bestM l)≤spare m:=by
  cases l with
  | nil=>exact absurd rfl hl
  | cons x l =>
    obtain ⟨c,h1,h2,h3,h4⟩:=best_first (x :: l) x
    have e:bestM (x :: l)=c:=by rw [← h1];simp only[List.foldl_cons,if_neg (Nat.lt_irrefl _)];rfl
    rw [e]
    rcases h4 with rfl|⟨h4,q,hq,e2,hj⟩
    · exact ⟨0,by simp,rfl,fun j hj=>by omega,h3⟩
    · exact ⟨q,hq,e2,hj,h3⟩
theorem fitAt_more {fits:List (List Bool)} {row:List Bool} {i k:Nat} (hi:i < fits.length):fitAt (fits ++ [row]) i k=fitAt fits i k:=by
  unfold fitAt
  congr 1
  simp [List.getD_eq_getElem?_getD,List.getElem?_append_left hi]
theorem OkM.more {fits:List (List Bool)} {m:List Int} {D:Nat} (h:OkM fits m D) (row:List Bool):OkM (fits ++ [row]) m D:=fun k hk=>by
  rcases h k hk with e|⟨i,hi,e,hf,hc⟩
  · exact .inl e
  · exact .inr ⟨i,by simp;omega,e,by rw [fitAt_more hi];exact hf,hc⟩
end Go.Proofs.YtaijkalhkgjakaaDoor

namespace Go.Proofs.YtaijkalhkgjakaaDoor
open Go.Av
attribute [local irreducible] thenA blockA awp awpOps awpD awp1
set_option maxHeartbeats 8000000
set_option maxRecDepth 20000
structure FrS where
  i:Int
  x:Int
  v:AV
  fs:List Fl
  g:AH
def FrOk (f:Fl):Prop:=(0≤f.front∧f.front < f.rear∧f.rear≤1200)∧f.loads=[]
theorem fl_mem {l:List Fl} {i:Nat} (h:i < l.length):fl l i ∈ l:=by
  have:fl l i=l[i]:=by simp [fl,List.getD_eq_getElem?_getD,h]
  rw [this];exact List.getElem_mem h
theorem Gd.new {h g:AH} {b id:Nat × Nat} {x:Int} (hG:Gd h b x g) (hne:b ≠ id) (hi:h.clk≤id.1) (k:Option Blk):Gd h b x (g.put id k) :=
  hG.to hG.u ((put_ne _ _ hne).trans hG.d) (fun b' h1 _=>put_ne _ _ (fun e=>by rw [e] at h1;omega)) rfl (Nat.le_refl _)
theorem c21 (b:Nat × Nat) (N:Int) (hN:0≤N∧N≤6):Drum Tryd.prog 21 [.ptr b 0 0,.int .i64 N] b (fun v=>∃ fs:List Fl,v=.lst 9 (fs.map Fl.row)∧(fs.length:Int)≤N∧∀ f ∈ fs,FrOk f):=by
  refine Drum.give Tryd.call21 fun h x hx hu hold=>?_
  have nbb:∀ {b1:Nat × Nat},h.clk≤b1.1→¬ b1=b:=fun hb e=>by rw [e] at hb;omega
  refine ACalls.of tab mixed Tryd.call21 Tryd.func21 rfl (fi:=⟨36,[7],[33],none,[]⟩) rfl rfl (Nat.le_of_ble_eq_true rfl) (by decide) ?_
  unfold startA
  try simp only[go_sem]
  repeat' (first|refine st_seq_reg rfl (by first|(simp only[go_sem,hx];rfl)|rfl) (by first|(simp only[go_sem,hx];rfl)|rfl) ?_|refine st_op ?_|refine st_det rfl (by simp (disch:=omega) only[go_sem,wr_i64,if_yes,if_no,↓reduceIte,reduceAdd,reduceMul,reduceEqDiff,Nat.reduceBEq,reduceLeDiff,hx];rfl) ?_|(refine st_drum (by first|(simp (disch:=omega) only[go_sem,hx];rfl)|rfl) rfl (c39' b (N+1) (by omega)) (by first|(simp (disch:=omega) only[go_sem,hx];rfl)|rfl|exact put_same _ _ _) (by assumption) (by first|(simp only[go_sem,hx];rfl)|rfl) (by intro x' n;first|(simp (disch:=omega) only[go_sem];rfl)|rfl) ?_;rintro v x' n hu' ⟨n1,rfl,hn⟩ hn)|refine st_nil ?_|refine st_seq ?_|refine st_block ?_)
  all_goals try (exfalso;omega)
  obtain ⟨n0,rfl⟩:∃ n0:Nat,n1=n0:=⟨n1.toNat,by omega⟩
  refine st_loopH (α:=FrS) tab mixed [] [] (by repeat (first|exact trivial|refine ⟨rfl,?_⟩)) [] [] (by repeat (first|exact trivial|refine ⟨rfl,?_⟩)) (fun a=>[(6,.int .i64 (a.i:Int)),(5,a.v)]) [(0,_),(4,_)] (fun _=>[]) [] (fun a=>a.g) (fun a=>Gd h b a.x a.g∧0≤a.i∧(a.fs.length:Int)+a.i=n0∧SlA h.clk a.g a.v 9 (a.fs.map Fl.row)∧∀ f ∈ a.fs,FrOk f) (fun a=>a.i.toNat) (by decide) ⟨n0,x',.nils,[],_⟩ (by refine ⟨⟨by assumption,by simp only[go_sem,↓reduceIte],fun b' _ h2=>by simp only[go_sem,h2,↓reduceIte],rfl,by simp only[go_sem];omega⟩,by show (0:Int)≤n0;omega,by simp,.inl ⟨rfl,rfl⟩,fun f hf=>by cases hf⟩) (by (try simp only[go_sem]);repeat' (first|exact trivial|refine And.intro ?_ ?_|rfl|(simp (disch:=omega) only[go_sem,if_yes,if_no,↓reduceIte,reduceAdd,reduceMul,reduceEqDiff,Nat.reduceBEq,reduceLeDiff];rfl)|(simp (disch:=omega) only[go_sem,if_yes,if_no,↓reduceIte,reduceAdd,reduceMul,reduceEqDiff,Nat.reduceBEq,reduceLeDiff]))) (by (try simp only[go_sem]);repeat' (first|exact trivial|refine And.intro ?_ ?_|rfl|(simp (disch:=omega) only[go_sem,if_yes,if_no,↓reduceIte,reduceAdd,reduceMul,reduceEqDiff,Nat.reduceBEq,reduceLeDiff];rfl)|(simp (disch:=omega) only[go_sem,if_yes,if_no,↓reduceIte,reduceAdd,reduceMul,reduceEqDiff,Nat.reduceBEq,reduceLeDiff]))) (HOld.refl _) ?_
  rintro ⟨i,x1,v,fs,g⟩ c ⟨hG,i0,hfl,hS,hfo⟩ hc
  dsimp only at hG i0 hfl hS hfo hc
  have hu1:=hG.u
  have hd1:=hG.d
  have hcl0:=hG.cl
  have hnc:=hS.noL
  simp only[go_sem]
  by_cases hi:0 < i
  case neg =>
    obtain rfl:i=0:=by omega
    repeat' (first|refine st_seq_reg rfl (by first|(simp only[go_sem,hnc];rfl)|rfl) (by first|(simp only[go_sem,hnc];rfl)|rfl) ?_|refine st_op ?_|refine st_det rfl (by simp (disch:=omega) only[go_sem,wr_i64,if_yes,if_no,↓reduceIte,reduceAdd,reduceMul,reduceEqDiff,Nat.reduceBEq,reduceLeDiff,hnc];rfl) ?_|refine st_condF rfl ?_|refine st_nil ?_|refine st_tN ?_|refine st_seq ?_|refine st_exit ?_|refine st_ret ?_|refine st_tE ?_|refine st_bH ?_)
    all_goals try (exfalso;omega)
    simp (disch:=omega) only[AEnd,Tryd.results21,aresK,fin,go_sem,↓reduceIte,reduceEqDiff,reduceAdd,reduceLeDiff,if_yes,if_no,implies_true,true_and,and_true,List.reverse_cons,List.reverse_nil]
    refine ⟨hnc,hG.old,⟨x1,hG.d,hG.u⟩,hG.lp,?_⟩
    exact SlA.ans (R:=fun v=>∃ fs:List Fl,v=.lst 9 (fs.map Fl.row)∧(fs.length:Int)≤N∧∀ f ∈ fs,FrOk f) hS ⟨fs,rfl,by omega,hfo⟩
  have hok:∀ f:Fl,FlGood f 0→FrOk f:=fun f hf=>⟨⟨hf.axles.1,hf.axles.2.1,by have:=hf.axles.2.2;have:=hf.len.2;omega⟩,by
    have:=hf.many
    exact List.length_eq_zero_iff.1 (by omega)⟩
  rcases hS with ⟨rfl,e⟩|⟨b1,rfl,q1,q2,q3⟩
  · have e0:fs=[]:=by simpa using e
    subst e0
    repeat' (first|refine st_seq_reg rfl (by first|(simp only[go_sem,hd1];rfl)|rfl) (by first|(simp only[go_sem,hd1];rfl)|rfl) ?_|refine st_reg rfl (by first|(simp only[go_sem,hd1];rfl)|rfl) (by first|(simp only[go_sem,hd1];rfl)|rfl) ?_|refine st_op ?_|refine st_det rfl (by simp (disch:=omega) only[go_sem,wr_i64,if_yes,if_no,↓reduceIte,reduceAdd,reduceMul,reduceEqDiff,Nat.reduceBEq,reduceLeDiff,hd1];rfl) ?_|refine st_loc rfl (by simp (disch:=omega) only[go_sem,wr_i64,if_yes,if_no,↓reduceIte,reduceAdd,reduceMul,reduceEqDiff,Nat.reduceBEq,reduceLeDiff,hd1];rfl) ?_|refine st_store (by simp (disch:=omega) only[go_sem,wr_i64,if_yes,if_no,↓reduceIte,reduceAdd,reduceMul,reduceEqDiff,Nat.reduceBEq,reduceLeDiff,hd1];rfl) ?_|refine st_append (by simp (disch:=omega) only[go_sem,wr_i64,if_yes,if_no,↓reduceIte,reduceAdd,reduceMul,reduceEqDiff,Nat.reduceBEq,reduceLeDiff,hd1];rfl) ?_|(refine st_drum (by first|(simp (disch:=omega) only[go_sem,hd1];rfl)|rfl) rfl (c37 b 0 (by decide)) (by first|(simp (disch:=omega) only[go_sem,hd1];rfl)|rfl|exact put_same _ _ _) (by assumption) (by first|(simp only[go_sem,hd1];rfl)|rfl) (by intro x' n;first|(simp (disch:=omega) only[go_sem];rfl)|rfl) ?_;rintro v x' n hu' ⟨f,rfl,hf⟩ hn)|(refine st_drum (by first|(simp (disch:=omega) only[go_sem,hd1];rfl)|rfl) rfl (c38 b 2 (by decide)) (by first|(simp (disch:=omega) only[go_sem,hd1];rfl)|rfl|exact put_same _ _ _) (by assumption) (by first|(simp only[go_sem,hd1];rfl)|rfl) (by intro x' n;first|(simp (disch:=omega) only[go_sem];rfl)|rfl) ?_;rintro v x' n hu' ⟨r,rfl⟩ hn)|refine st_gT rfl rfl rfl ?_|refine st_gF rfl rfl rfl ?_|(refine st_gS rfl rfl ?_ ?_ <;> intro hg <;> (try simp only[decide_eq_true_eq,decide_eq_false_iff_not,Bool.not_eq_true',Bool.not_eq_false'] at hg))|refine st_condF rfl ?_|(refine st_condS rfl ?_ ?_ <;> intro hg <;> (try simp only[decide_eq_true_eq,decide_eq_false_iff_not,Bool.not_eq_true',Bool.not_eq_false'] at hg))|refine st_nil ?_|refine st_tN ?_|refine st_seq ?_|refine st_block ?_|refine st_skip ?_|refine st_exit ?_|refine st_ret ?_|refine st_tE ?_|refine st_bN ?_|refine st_bH ?_)
    all_goals try (exfalso;omega)
    have hbn:b ≠ (n,34):=fun e=>by rw [e] at hold;dsimp only at hold;omega
    all_goals
      refine ⟨⟨i - 1,_,.slc (n,34) 9 0 1,[f],_⟩,(by refine ⟨(hG.put (by assumption) (n:=n+1+1) (by omega)).new (fun e=>by rw [e] at hold;dsimp only at hold;omega) (by dsimp only;omega) _,by show 0≤i - 1;omega,by simp at hfl ⊢;omega,.inr ⟨(_,34),rfl,put_same _ _ _,by dsimp only;omega,by show _ < _+1+1;omega⟩,fun y hy=>by rw [List.mem_singleton.1 hy];exact hok f hf⟩),(by show (i - 1).toNat < i.toNat;omega),(by repeat' (first|exact trivial|refine And.intro ?_ ?_|rfl|(simp (disch:=omega) only[go_sem,if_yes,if_no,↓reduceIte,reduceAdd,reduceMul,reduceEqDiff,Nat.reduceBEq,reduceLeDiff];rfl)|(simp (disch:=omega) only[go_sem,if_yes,if_no,↓reduceIte,reduceAdd,reduceMul,reduceEqDiff,Nat.reduceBEq,reduceLeDiff]))),(by repeat' (first|exact trivial|refine And.intro ?_ ?_|rfl|(simp (disch:=omega) only[go_sem,if_yes,if_no,↓reduceIte,reduceAdd,reduceMul,reduceEqDiff,Nat.reduceBEq,reduceLeDiff];rfl)|(simp (disch:=omega) only[go_sem,if_yes,if_no,↓reduceIte,reduceAdd,reduceMul,reduceEqDiff,Nat.reduceBEq,reduceLeDiff]))),rfl,HOld.refl _⟩
  · have n1:b1 ≠ b:=nbb q2
    have hlen:(fs.map Fl.row).length=fs.length:=length_map ..
    rw [hlen] at *
    have hS2:SlA h.clk g (.slc b1 9 0 fs.length) 9 (fs.map Fl.row):=.inr ⟨b1,by rw [length_map],q1,q2,q3⟩
    by_cases hf0:0 < fs.length
    case neg =>
      repeat' (first|refine st_seq_reg rfl (by first|(simp only[go_sem,hd1,length_map,Nat.zero_add];rfl)|rfl) (by first|(simp only[go_sem,hd1,length_map,Nat.zero_add];rfl)|rfl) ?_|refine st_reg rfl (by first|(simp only[go_sem,hd1,length_map,Nat.zero_add];rfl)|rfl) (by first|(simp only[go_sem,hd1,length_map,Nat.zero_add];rfl)|rfl) ?_|refine st_op ?_|refine st_det rfl (by simp (disch:=omega) only[go_sem,wr_i64,if_yes,if_no,↓reduceIte,reduceAdd,reduceMul,reduceEqDiff,Nat.reduceBEq,reduceLeDiff,hd1,length_map,Nat.zero_add];rfl) ?_|refine st_loc rfl (by simp (disch:=omega) only[go_sem,wr_i64,if_yes,if_no,↓reduceIte,reduceAdd,reduceMul,reduceEqDiff,Nat.reduceBEq,reduceLeDiff,hd1,length_map,Nat.zero_add];rfl) ?_|refine st_store (by simp (disch:=omega) only[go_sem,wr_i64,if_yes,if_no,↓reduceIte,reduceAdd,reduceMul,reduceEqDiff,Nat.reduceBEq,reduceLeDiff,hd1,length_map,Nat.zero_add];rfl) ?_|(refine st_drum (by first|(simp (disch:=omega) only[go_sem,hd1,length_map,Nat.zero_add];rfl)|rfl) rfl (c37 b 0 (by decide)) (by first|(simp (disch:=omega) only[go_sem,hd1,length_map,Nat.zero_add];rfl)|rfl|exact put_same _ _ _) (by assumption) (by first|(simp only[go_sem,hd1,length_map,Nat.zero_add];rfl)|rfl) (by intro x' n;first|(simp (disch:=omega) only[go_sem];rfl)|rfl) ?_;rintro v x' n hu' ⟨f,rfl,hf⟩ hn)|(refine st_drum (by first|(simp (disch:=omega) only[go_sem,hd1,length_map,Nat.zero_add];rfl)|rfl) rfl (c38 b 2 (by decide)) (by first|(simp (disch:=omega) only[go_sem,hd1,length_map,Nat.zero_add];rfl)|rfl|exact put_same _ _ _) (by assumption) (by first|(simp only[go_sem,hd1,length_map,Nat.zero_add];rfl)|rfl) (by intro x' n;first|(simp (disch:=omega) only[go_sem];rfl)|rfl) ?_;rintro v x' n hu' ⟨r,rfl⟩ hn)|(refine st_appS (by intro h id x y;simp only[go_sem];rfl) rfl (by simp only[go_sem,hd1,length_map,Nat.zero_add];rfl) (by first|(simp only[go_sem,hd1,length_map,Nat.zero_add];rfl)|rfl) (by decide) hS2 (fun b' m e=>by injection e with e _;subst e;simp only[go_sem,n1,↓reduceIte]) (by omega) (by simp only[length_map,List.length_cons,List.length_nil,big,hd1,length_map,Nat.zero_add];omega) (by omega) (by omega) ?_;intro v' g' hA)|refine st_gT rfl rfl rfl ?_|refine st_gF rfl rfl rfl ?_|(refine st_gS rfl rfl ?_ ?_ <;> intro hg <;> (try simp only[decide_eq_true_eq,decide_eq_false_iff_not,Bool.not_eq_true',Bool.not_eq_false'] at hg))|refine st_condF rfl ?_|(refine st_condS rfl ?_ ?_ <;> intro hg <;> (try simp only[decide_eq_true_eq,decide_eq_false_iff_not,Bool.not_eq_true',Bool.not_eq_false'] at hg))|refine st_nil ?_|refine st_tN ?_|refine st_seq ?_|refine st_block ?_|refine st_skip ?_|refine st_exit ?_|refine st_ret ?_|refine st_tE ?_|refine st_bN ?_|refine st_bH ?_)
      all_goals try (exfalso;omega)
      all_goals
        have hnv:=hA.nol
        have hcl:=hA.sl.cell
        have hcv:=cells_one' hcl
        repeat' (first|refine st_seq_reg rfl (by first|(simp only[go_sem,hnv,hcl,hcv];rfl)|rfl) (by first|(simp only[go_sem,hnv,hcl,hcv];rfl)|rfl) ?_)
        refine ⟨⟨i - 1,x',v',fs ++ [f],_⟩,(by refine ⟨(hG.put (by assumption) (n:=n+1) (by omega)).app hold (Nat.le_refl _) hA (by (try simp only[go_sem]);omega),by show 0≤i - 1;omega,by simp;omega,by rw [List.map_append];exact hA.sl.to (fun _ _ _ _ _=>rfl) (by (try simp only[go_sem]);omega),fun y hy=>(List.mem_append.1 hy).elim (hfo y) (fun hy=>by rw [List.mem_singleton.1 hy];exact hok f hf)⟩),(by show (i - 1).toNat < i.toNat;omega),(by repeat' (first|exact trivial|refine And.intro ?_ ?_|rfl|(simp (disch:=omega) only[go_sem,if_yes,if_no,↓reduceIte,reduceAdd,reduceMul,reduceEqDiff,Nat.reduceBEq,reduceLeDiff];rfl)|(simp (disch:=omega) only[go_sem,if_yes,if_no,↓reduceIte,reduceAdd,reduceMul,reduceEqDiff,Nat.reduceBEq,reduceLeDiff]))),(by repeat' (first|exact trivial|refine And.intro ?_ ?_|rfl|(simp (disch:=omega) only[go_sem,if_yes,if_no,↓reduceIte,reduceAdd,reduceMul,reduceEqDiff,Nat.reduceBEq,reduceLeDiff];rfl)|(simp (disch:=omega) only[go_sem,if_yes,if_no,↓reduceIte,reduceAdd,reduceMul,reduceEqDiff,Nat.reduceBEq,reduceLeDiff]))),rfl,HOld.refl _⟩
    have hg0:=fl_getD hf0
    have hm0:=hfo _ (fl_mem hf0)
    repeat' (first|refine st_seq_reg rfl (by first|(simp only[go_sem,hd1,q1,n1,hg0,length_map,Nat.zero_add];rfl)|rfl) (by first|(simp only[go_sem,hd1,q1,n1,hg0,length_map,Nat.zero_add];rfl)|rfl) ?_|refine st_reg rfl (by first|(simp only[go_sem,hd1,q1,n1,hg0,length_map,Nat.zero_add];rfl)|rfl) (by first|(simp only[go_sem,hd1,q1,n1,hg0,length_map,Nat.zero_add];rfl)|rfl) ?_|refine st_op ?_|refine st_det rfl (by simp (disch:=omega) only[go_sem,wr_i64,if_yes,if_no,↓reduceIte,reduceAdd,reduceMul,reduceEqDiff,Nat.reduceBEq,reduceLeDiff,hd1,q1,n1,hg0,length_map,Nat.zero_add];rfl) ?_|refine st_loc rfl (by simp (disch:=omega) only[go_sem,wr_i64,if_yes,if_no,↓reduceIte,reduceAdd,reduceMul,reduceEqDiff,Nat.reduceBEq,reduceLeDiff,hd1,q1,n1,hg0,length_map,Nat.zero_add];rfl) ?_|refine st_store (by simp (disch:=omega) only[go_sem,wr_i64,if_yes,if_no,↓reduceIte,reduceAdd,reduceMul,reduceEqDiff,Nat.reduceBEq,reduceLeDiff,hd1,q1,n1,hg0,length_map,Nat.zero_add];rfl) ?_|refine st_append (by simp (disch:=omega) only[go_sem,wr_i64,if_yes,if_no,↓reduceIte,reduceAdd,reduceMul,reduceEqDiff,Nat.reduceBEq,reduceLeDiff,hd1,q1,n1,hg0,length_map,Nat.zero_add];rfl) ?_|(refine st_drum (by first|(simp (disch:=omega) only[go_sem,hd1,q1,n1,hg0,length_map,Nat.zero_add];rfl)|rfl) rfl (c37 b 0 (by decide)) (by first|(simp (disch:=omega) only[go_sem,hd1,q1,n1,hg0,length_map,Nat.zero_add];rfl)|rfl|exact put_same _ _ _) (by assumption) (by first|(simp only[go_sem,hd1,q1,n1,hg0,length_map,Nat.zero_add];rfl)|rfl) (by intro x' n;first|(simp (disch:=omega) only[go_sem];rfl)|rfl) ?_;rintro v x' n hu' ⟨f,rfl,hf⟩ hn)|(refine st_drum (by first|(simp (disch:=omega) only[go_sem,hd1,q1,n1,hg0,length_map,Nat.zero_add];rfl)|rfl) rfl (c38 b 2 (by decide)) (by first|(simp (disch:=omega) only[go_sem,hd1,q1,n1,hg0,length_map,Nat.zero_add];rfl)|rfl|exact put_same _ _ _) (by assumption) (by first|(simp only[go_sem,hd1,q1,n1,hg0,length_map,Nat.zero_add];rfl)|rfl) (by intro x' n;first|(simp (disch:=omega) only[go_sem];rfl)|rfl) ?_;rintro v x' n hu' ⟨r,rfl⟩ hn)|(refine st_drum (by first|(simp (disch:=omega) only[go_sem,hd1,q1,n1,hg0,length_map,Nat.zero_add];rfl)|rfl) rfl (c39' b 2000 (by decide)) (by first|(simp (disch:=omega) only[go_sem,hd1,q1,n1,hg0,length_map,Nat.zero_add];rfl)|rfl|exact put_same _ _ _) (by assumption) (by first|(simp only[go_sem,hd1,q1,n1,hg0,length_map,Nat.zero_add];rfl)|rfl) (by intro x' n;first|(simp (disch:=omega) only[go_sem];rfl)|rfl) ?_;rintro v x' n hu' ⟨kk,rfl,hkk⟩ hn)|(refine st_appS (by intro h id x y;simp only[go_sem];rfl) rfl (by simp only[go_sem,hd1,q1,n1,hg0,length_map,Nat.zero_add];rfl) (by first|(simp only[go_sem,hd1,q1,n1,hg0,length_map,Nat.zero_add];rfl)|rfl) (by decide) hS2 (fun b' m e=>by injection e with e _;subst e;simp only[go_sem,n1,↓reduceIte]) (by omega) (by simp only[length_map,List.length_cons,List.length_nil,big,hd1,q1,n1,hg0,length_map,Nat.zero_add];omega) (by omega) (by omega) ?_;intro v' g' hA)|refine st_gT rfl rfl rfl ?_|refine st_gF rfl rfl rfl ?_|(refine st_gS rfl rfl ?_ ?_ <;> intro hg <;> (try simp only[decide_eq_true_eq,decide_eq_false_iff_not,Bool.not_eq_true',Bool.not_eq_false'] at hg))|refine st_condF rfl ?_|(refine st_condS rfl ?_ ?_ <;> intro hg <;> (try simp only[decide_eq_true_eq,decide_eq_false_iff_not,Bool.not_eq_true',Bool.not_eq_false'] at hg))|refine st_nil ?_|refine st_tN ?_|refine st_seq ?_|refine st_block ?_|refine st_skip ?_|refine st_exit ?_|refine st_ret ?_|refine st_tE ?_|refine st_bN ?_|refine st_bH ?_)
    all_goals try (exfalso;omega)
    · skip
      have hnv:=hA.nol
      have hcl:=hA.sl.cell
      have hcv:=cells_one' hcl
      repeat' (first|refine st_seq_reg rfl (by first|(simp only[go_sem,hnv,hcl,hcv];rfl)|rfl) (by first|(simp only[go_sem,hnv,hcl,hcv];rfl)|rfl) ?_)
      refine ⟨⟨i - 1,x',v',fs ++ [(⟨(fl fs 0).len,(fl fs 0).wid,(fl fs 0).front,(fl fs 0).rear,(fl fs 0).turn,kk,(fl fs 0).mid,(fl fs 0).high,(fl fs 0).loads⟩:Fl)],_⟩,(by refine ⟨(hG.put (by assumption) (n:=n+1) (by omega)).app hold (Nat.le_refl _) hA (by (try simp only[go_sem]);omega),by show 0≤i - 1;omega,by simp;omega,by rw [List.map_append];exact hA.sl.to (fun _ _ _ _ _=>rfl) (by (try simp only[go_sem]);omega),fun y hy=>(List.mem_append.1 hy).elim (hfo y) (fun hy=>by rw [List.mem_singleton.1 hy];exact hm0)⟩),(by show (i - 1).toNat < i.toNat;omega),(by repeat' (first|exact trivial|refine And.intro ?_ ?_|rfl|(simp (disch:=omega) only[go_sem,if_yes,if_no,↓reduceIte,reduceAdd,reduceMul,reduceEqDiff,Nat.reduceBEq,reduceLeDiff];rfl)|(simp (disch:=omega) only[go_sem,if_yes,if_no,↓reduceIte,reduceAdd,reduceMul,reduceEqDiff,Nat.reduceBEq,reduceLeDiff]))),(by repeat' (first|exact trivial|refine And.intro ?_ ?_|rfl|(simp (disch:=omega) only[go_sem,if_yes,if_no,↓reduceIte,reduceAdd,reduceMul,reduceEqDiff,Nat.reduceBEq,reduceLeDiff];rfl)|(simp (disch:=omega) only[go_sem,if_yes,if_no,↓reduceIte,reduceAdd,reduceMul,reduceEqDiff,Nat.reduceBEq,reduceLeDiff]))),rfl,HOld.refl _⟩
    · skip
      have hnv:=hA.nol
      have hcl:=hA.sl.cell
      have hcv:=cells_one' hcl
      repeat' (first|refine st_seq_reg rfl (by first|(simp only[go_sem,hnv,hcl,hcv];rfl)|rfl) (by first|(simp only[go_sem,hnv,hcl,hcv];rfl)|rfl) ?_)
      refine ⟨⟨i - 1,x',v',fs ++ [f],_⟩,(by refine ⟨(hG.put (by assumption) (n:=n+1) (by omega)).app hold (Nat.le_refl _) hA (by (try simp only[go_sem]);omega),by show 0≤i - 1;omega,by simp;omega,by rw [List.map_append];exact hA.sl.to (fun _ _ _ _ _=>rfl) (by (try simp only[go_sem]);omega),fun y hy=>(List.mem_append.1 hy).elim (hfo y) (fun hy=>by rw [List.mem_singleton.1 hy];exact hok f hf)⟩),(by show (i - 1).toNat < i.toNat;omega),(by repeat' (first|exact trivial|refine And.intro ?_ ?_|rfl|(simp (disch:=omega) only[go_sem,if_yes,if_no,↓reduceIte,reduceAdd,reduceMul,reduceEqDiff,Nat.reduceBEq,reduceLeDiff];rfl)|(simp (disch:=omega) only[go_sem,if_yes,if_no,↓reduceIte,reduceAdd,reduceMul,reduceEqDiff,Nat.reduceBEq,reduceLeDiff]))),(by repeat' (first|exact trivial|refine And.intro ?_ ?_|rfl|(simp (disch:=omega) only[go_sem,if_yes,if_no,↓reduceIte,reduceAdd,reduceMul,reduceEqDiff,Nat.reduceBEq,reduceLeDiff];rfl)|(simp (disch:=omega) only[go_sem,if_yes,if_no,↓reduceIte,reduceAdd,reduceMul,reduceEqDiff,Nat.reduceBEq,reduceLeDiff]))),rfl,HOld.refl _⟩
end Go.Proofs.YtaijkalhkgjakaaDoor
