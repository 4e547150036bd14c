/- Contracts of functions that the claim reaches: what each call gives, told in our own logic. Conditions: those of each theorem. -/
import Derived.Test.YtefogfgddofdmaaDoorBaseD
import Derived.Test.YtefogfgddofdmaaDoorP12
open List (length_map)
set_option linter.all false
set_option linter.unusedSimpArgs false
set_option linter.unusedVariables false
namespace Go.Proofs.YtefogfgddofdmaaDoor
open Go.Av
attribute [local irreducible] thenA blockA awp awpOps awpD awp1
attribute [local go_sem_proc] Nat.reduceAdd Nat.reduceMul Nat.reduceEqDiff Nat.reduceBEq Nat.reduceLeDiff
attribute [local go_sem_proc ↓] reduceIte
attribute [local go_sem] if_yes if_no
set_option maxHeartbeats 8000000
set_option maxRecDepth 20000
theorem c30 (i n:Int):Pure Tryd.prog 30 ([.int .i64 i,.int .i64 n] ++ []) (fun v=>v=.int .i64 n):=by
 intro h
 refine ACalls.forget (ACalls.of tab mixed Tryd.call30 Tryd.func30 rfl (fi:=⟨6,[],[],none,[]⟩) rfl rfl (Nat.le_of_ble_eq_true rfl) (by decide) ?_)
 unfold startA
 repeat' (first|refine st_seq_reg rfl (by first|(simp only[go_sem];rfl)|rfl) (by first|(simp only[go_sem];rfl)|rfl) ?_|refine st_reg rfl (by first|(simp only[go_sem];rfl)|rfl) (by first|(simp only[go_sem];rfl)|rfl) ?_|refine st_op ?_|refine st_det rfl (by simp (disch:=omega) only[go_sem,wr_i64];rfl) ?_|refine st_nil ?_|refine st_tN ?_|refine st_seq ?_|refine st_skip ?_|refine st_ret ?_|refine st_tE ?_|refine st_tR ?_)
 simp (disch:=omega) only[AEnd,Tryd.results30,aresK,fin,go_sem,implies_true,true_and,and_true,List.reverse_cons,List.reverse_nil]
theorem c29m (l:List Int) {lo hi:Int} (h0:0≤lo) (h1:hi≤1000000000) (hl:l.length≤1000) (ha:allIn lo hi l=true):Pure Tryd.prog 29 [.lst 1 (l.map iv),.fn (.func 30) [] []] (fun v=>v=.int .i64 (sumL l)) :=
 c29 l 30 [] (elt l) rfl hl (fun i hi=>by have:=allIn_elt ha i hi;omega) (fun i _=>c30 i (elt l i))
def spV (nf:Nat) (t:List (List Int)) (i k f:Nat):Int:=if f < nf then colS t f i+(if f < k then elt (lel t i) f else 0) else 0
def spS (N nf:Nat) (t:List (List Int)) (i k:Nat):List Int:=(List.range N).map (spV nf t i k)
theorem spS_len (N nf:Nat) (t:List (List Int)) (i k:Nat):(spS N nf t i k).length=N:=by simp [spS]
theorem spS_get {N nf:Nat} {t:List (List Int)} {i k f:Nat} (hf:f < N):(spS N nf t i k).getD f 0=spV nf t i k f:=by
 simp [spS,List.getD_eq_getElem?_getD,hf]
theorem spS_next {N nf:Nat} {t:List (List Int)} {i k:Nat} (hk:k < nf) (hN:nf≤N):(spS N nf t i k).set k ((spS N nf t i k).getD k 0+elt (lel t i) k)=spS N nf t i (k+1):=by
 rw [spS_get (by omega)]
 refine List.ext_getElem (by simp [spS]) fun j h1 h2=>?_
 simp only[spS,Lm,List.length_range] at h2
 rw [List.getElem_set]
 simp only[spS,List.getElem_map,List.getElem_range]
 by_cases e:k=j
 ·subst e;rw [if_pos rfl];unfold spV;rw [if_pos hk,if_pos hk,if_neg (by omega),if_pos (by omega)];omega
 ·rw [if_neg e];unfold spV
  by_cases c0:j < nf
  ·rw [if_pos c0,if_pos c0]
   by_cases c:j < k
   ·rw [if_pos c,if_pos (by omega)]
   ·rw [if_neg c,if_neg (by omega)]
  ·rw [if_neg c0,if_neg c0]
theorem spS_row {N nf:Nat} {t:List (List Int)} {i:Nat}:spS N nf t i nf=spS N nf t (i+1) 0:=by
 refine List.map_congr_left fun f _=>?_
 unfold spV
 by_cases c:f < nf
 ·rw [if_pos c,if_pos c,if_pos c,if_neg (Nat.not_lt_zero _)]
  show colS t f i+_=colS t f i+elt (lel t i) f+0
  omega
 ·rw [if_neg c,if_neg c]
theorem spS_zero (N nf:Nat) (t:List (List Int)):spS N nf t 0 0=List.replicate N 0:=by
 refine List.ext_getElem (by simp [spS]) fun j h1 h2=>?_
 simp only[spS,List.getElem_map,List.getElem_range,List.getElem_replicate]
 unfold spV
 split
 ·rw [if_neg (Nat.not_lt_zero _)];rfl
 ·rfl
theorem colS_bd {l:Lg} {t:List (List Int)} (h:Tab l t) (f:Nat):∀ n,n≤l.bs.length→0≤colS t f n∧colS t f n≤n * 1000000000
 | 0,_=>⟨Int.le_refl _,by show (0:Int)≤_;omega⟩
 | n+1,hn=>by
  have ih:=colS_bd h f n (by omega)
  have:=h.elt (by omega:n < l.bs.length) f
  have e:colS t f (n+1)=colS t f n+elt (lel t n) f:=rfl
  rw [e]
  refine ⟨by omega,?_⟩
  have:((n+1:Nat):Int) * 1000000000=n * 1000000000+1000000000:=by omega
  omega
theorem spV_bd {l:Lg} {t:List (List Int)} (h:Tab l t) {i k f:Nat} (hi:i < l.bs.length ∨ (i=l.bs.length∧k=0)):0≤spV l.fs.length t i k f∧spV l.fs.length t i k f≤10000000000:=by
 have hbn:=h.ok.bn
 unfold spV
 split
 ·rcases hi with hi|⟨rfl,rfl⟩
  ·have h1:=colS_bd h f i (by omega)
   have h2:=h.elt hi f
   split <;> omega
  ·have h1:=colS_bd h f l.bs.length (by omega)
   rw [if_neg (Nat.not_lt_zero _)];omega
 ·omega
@[go_sem] theorem spS_zero8 (nf:Nat) (t:List (List Int)):(spS 8 nf t 0 0).map iA=[.int .i64 0,.int .i64 0,.int .i64 0,.int .i64 0,.int .i64 0,.int .i64 0,.int .i64 0,.int .i64 0]:=by rw [spS_zero];rfl
def flA (l:Lg) (t:List (List Int)) (i:Nat):List Fl:=catN (rowFl l t) i
def flB (l:Lg) (t:List (List Int)) (i k:Nat):List Fl:=catN (rowFl l t) i ++ bilF l t i ++ catN (useF l t i) k
def flC (l:Lg) (t:List (List Int)) (f:Nat):List Fl:=catN (rowFl l t) l.bs.length ++ catN (funF l t) f
theorem flB_row (l:Lg) (t:List (List Int)) (i:Nat):flB l t i l.fs.length=flA l t (i+1):=by
 show catN (rowFl l t) i ++ bilF l t i ++ catN (useF l t i) l.fs.length=catN (rowFl l t) i ++ (bilF l t i ++ catN (useF l t i) l.fs.length)
 rw [List.append_assoc]
theorem useF_len (l:Lg) (t:List (List Int)) (i f:Nat):(useF l t i f).length≤1:=by unfold useF;split <;> simp
theorem bilF_len (l:Lg) (t:List (List Int)) (i:Nat):(bilF l t i).length≤1:=by unfold bilF;split <;> simp
theorem funF_len (l:Lg) (t:List (List Int)) (f:Nat):(funF l t f).length≤1:=by unfold funF;split <;> simp
theorem flA_len (l:Lg) (t:List (List Int)) (hf:l.fs.length≤8) (i:Nat):(flA l t i).length≤i * 9:=by
 refine catN_len i fun n _=>?_
 have h1:=bilF_len l t n
 have h2:=catN_len (g:=useF l t n) (B:=1) l.fs.length (fun f _=>useF_len l t n f)
 show (bilF l t n ++ catN (useF l t n) l.fs.length).length≤9
 rw [List.length_append];omega
theorem flB_len (l:Lg) (t:List (List Int)) (hf:l.fs.length≤8) (i k:Nat):(flB l t i k).length≤i * 9+1+k:=by
 have h1:=bilF_len l t i
 have h2:=catN_len (g:=useF l t i) (B:=1) k (fun f _=>useF_len l t i f)
 have h3:=flA_len l t hf i
 unfold flB
 rw [List.length_append,List.length_append]
 unfold flA at h3
 omega
theorem flC_len (l:Lg) (t:List (List Int)) (hf:l.fs.length≤8) (hb:l.bs.length≤8) (f:Nat):(flC l t f).length≤72+f:=by
 have h2:=catN_len (g:=funF l t) (B:=1) f (fun f _=>funF_len l t f)
 have h3:=flA_len l t hf l.bs.length
 unfold flC
 rw [List.length_append]
 unfold flA at h3
 omega
theorem flB_next (l:Lg) (t:List (List Int)) (i k:Nat):flB l t i (k+1)=flB l t i k ++ useF l t i k:=by
 show catN (rowFl l t) i ++ bilF l t i ++ (catN (useF l t i) k ++ useF l t i k)=_
 rw [← List.append_assoc];rfl
theorem flC_next (l:Lg) (t:List (List Int)) (f:Nat):flC l t (f+1)=flC l t f ++ funF l t f:=by
 show _ ++ (catN (funF l t) f ++ funF l t f)=_
 rw [← List.append_assoc];rfl
theorem flB_zero (l:Lg) (t:List (List Int)) (i:Nat):flB l t i 0=flA l t i ++ bilF l t i:=List.append_nil _
structure AuS where
 i:Nat
 v:AV
 g:AH
def audR (l:Lg) (t:List (List Int)) (v:AV):Prop:=v=.tup [.lst 3 ((audL l t).map Fl.row),.int .i64 (audE l t)]
theorem audR_err {l:Lg} {t:List (List Int)} {e:Int} (h:audE l t=e) (he:e ≠ 0):audR l t (.tup [.lst 3 [],.int .i64 e]):=by
 unfold audR audL
 rw [h,if_pos he];rfl
theorem lelR_getD {t:List (List Int)} {i:Nat} (h:i < t.length):(t.map rowA).getD i []=[.lst 1 ((lel t i).map iv)]:=by
 rw [List.getD_eq_getElem?_getD,List.getElem?_map]
 simp [lel,rowA,List.getD_eq_getElem?_getD,h]
theorem numB_false {t:List (List Int)} {i:Nat} (hi:i < t.length) (h:allIn 0 1000000000 (lel t i)=false):numB t=false:=by
 cases hn:numB t
 ·rfl
 ·rw [List.all_eq_true.1 hn _ (lelI_mem hi)] at h;cases h
theorem sqB_false {l:Lg} {t:List (List Int)} {i:Nat} (hi:i < t.length) (h:(lel t i).length ≠ l.fs.length):sqB l t=false:=by
 cases hn:sqB l t
 ·rfl
 ·exact absurd (of_decide_eq_true (List.all_eq_true.1 hn _ (lelI_mem hi))) h
theorem all_lel {t:List (List Int)} {p:List Int→Prop} (h:∀ i,i < t.length→p (lel t i)):∀ x ∈ t,p x:=fun x hx=>by
 obtain ⟨i,hi,e⟩:=List.mem_iff_getElem.1 hx
 have:=h i hi
 unfold lel at this
 rw [List.getD_eq_getElem?_getD,List.getElem?_eq_getElem hi] at this
 rw [← e];exact this
theorem c12 (l:Lg) (t:List (List Int)) (ht:(t.length:Int) < 1000000) (hr:∀ x ∈ t,x.length < 1000000):Pure Tryd.prog 12 [l.av,.lst 1 (t.map rowA)] (audR l t):=by
 have k27:=c6 l
 refine Pure.give Tryd.call12 fun h hall=>?_
 by_cases h0:chkE l=0
 case neg =>
  refine ACalls.of tab mixed Tryd.call12 Tryd.func12 rfl (fi:=⟨132,[12,18],[2,72,107,128],none,[(23,[0,1,0,4,0,28,60,124,255],[(0,false),(2,false),(3,true),(4,false),(5,false),(6,false),(7,true),(1,false),(8,false)]),(29,[0,1,3,7,15,7,63,127,7,263,7,1799,3847,8191,16383,32767],[(0,false),(1,false),(2,false),(3,false),(4,true),(5,false),(6,false),(7,true),(8,false),(9,true),(10,false),(11,false),(12,true),(13,false),(14,false),(15,false)]),(36,[0,1,3,0,8,31],[(0,false),(1,false),(2,true),(3,false),(4,true),(5,false)])]⟩) rfl rfl (Nat.le_of_ble_eq_true rfl) (by decide) ?_
  unfold startA
  repeat' (first|refine st_seq_reg rfl (by first|(simp only[go_sem,Lm];rfl)|rfl) (by first|(simp only[go_sem,Lm];rfl)|rfl) ?_|refine st_reg rfl (by first|(simp only[go_sem,Lm];rfl)|rfl) (by first|(simp only[go_sem,Lm];rfl)|rfl) ?_|refine st_seq_draw rfl (by first|(simp only[go_sem,Lm];rfl)|rfl) (by first|(simp only[go_sem,Lm];rfl)|rfl) ?_|refine st_draw rfl (by first|(simp only[go_sem,Lm];rfl)|rfl) (by first|(simp only[go_sem,Lm];rfl)|rfl) ?_|refine st_op ?_|refine st_det rfl (by simp (disch:=omega) only[go_sem,wr_i64,Lm];rfl) ?_|refine st_dop rfl ?_|refine st_loc rfl (by simp (disch:=omega) only[go_sem,wr_i64,Lm];rfl) ?_|refine st_heap rfl (by simp (disch:=omega) only[go_sem,wr_i64,Lm];rfl) ?_|refine st_store (by simp (disch:=omega) only[go_sem,wr_i64,Lm];rfl) ?_|refine st_append (by simp (disch:=omega) only[go_sem,wr_i64,Lm];rfl) ?_|(refine st_pureE (by first|(simp (disch:=omega) only[go_sem,Lm];rfl)|rfl) rfl (k27) (by first|(simp only[go_sem,Lm];rfl)|rfl) (by intro n;first|(simp (disch:=omega) only[go_sem];rfl)|rfl) ?_;intro n hn)|refine st_gT rfl rfl rfl ?_|refine st_gF rfl rfl rfl ?_|refine st_dgT rfl rfl rfl rfl ?_|refine st_dgF rfl rfl rfl ?_|(refine st_gS rfl rfl ?_ ?_ <;> intro hg <;> (try simp only[dcT,dcF,bnT,bnF] at hg))|(refine st_dgS rfl rfl ?_ ?_ <;> intro hg <;> (try simp only[dcT,dcF,bnT,bnF] at hg))|refine st_condT rfl ?_|refine st_condF rfl ?_|(refine st_condS rfl ?_ ?_ <;> intro hg <;> (try simp only[dcT,dcF,bnT,bnF] at hg))|refine st_nil ?_|refine st_dnil ?_|refine st_tN ?_|refine st_seq ?_|refine st_block ?_|refine st_skip ?_|refine st_exit ?_|refine st_ret ?_|refine st_tE ?_|refine st_tR ?_|refine st_bN ?_|refine st_bR ?_|refine st_bH ?_|refine st_bM rfl ?_)
  all_goals try (exfalso;omega)
  simp (disch:=omega) only[AEnd,Tryd.results12,aresK,fin,go_sem,implies_true,true_and,and_true,List.reverse_cons,List.reverse_nil]
  refine .inl ⟨_,VLe.tup ⟨_,_,rfl,VLe.nils 3,_,_,rfl,.refl _,rfl⟩,audR_err (by unfold audE;rw [if_pos h0]) h0⟩
 rw [h0] at k27
 have hl:=ledgerOk h0
 have hfn:=hl.fn
 have hbn:=hl.bn
 by_cases h1:t.length=l.bs.length
 case neg =>
  refine ACalls.of tab mixed Tryd.call12 Tryd.func12 rfl (fi:=⟨132,[12,18],[2,72,107,128],none,[(23,[0,1,0,4,0,28,60,124,255],[(0,false),(2,false),(3,true),(4,false),(5,false),(6,false),(7,true),(1,false),(8,false)]),(29,[0,1,3,7,15,7,63,127,7,263,7,1799,3847,8191,16383,32767],[(0,false),(1,false),(2,false),(3,false),(4,true),(5,false),(6,false),(7,true),(8,false),(9,true),(10,false),(11,false),(12,true),(13,false),(14,false),(15,false)]),(36,[0,1,3,0,8,31],[(0,false),(1,false),(2,true),(3,false),(4,true),(5,false)])]⟩) rfl rfl (Nat.le_of_ble_eq_true rfl) (by decide) ?_
  unfold startA
  repeat' (first|refine st_seq_reg rfl (by first|(simp only[go_sem,Lm];rfl)|rfl) (by first|(simp only[go_sem,Lm];rfl)|rfl) ?_|refine st_reg rfl (by first|(simp only[go_sem,Lm];rfl)|rfl) (by first|(simp only[go_sem,Lm];rfl)|rfl) ?_|refine st_seq_draw rfl (by first|(simp only[go_sem,Lm];rfl)|rfl) (by first|(simp only[go_sem,Lm];rfl)|rfl) ?_|refine st_draw rfl (by first|(simp only[go_sem,Lm];rfl)|rfl) (by first|(simp only[go_sem,Lm];rfl)|rfl) ?_|refine st_op ?_|refine st_det rfl (by simp (disch:=omega) only[go_sem,wr_i64,Lm];rfl) ?_|refine st_dop rfl ?_|refine st_loc rfl (by simp (disch:=omega) only[go_sem,wr_i64,Lm];rfl) ?_|refine st_heap rfl (by simp (disch:=omega) only[go_sem,wr_i64,Lm];rfl) ?_|refine st_store (by simp (disch:=omega) only[go_sem,wr_i64,Lm];rfl) ?_|refine st_append (by simp (disch:=omega) only[go_sem,wr_i64,Lm];rfl) ?_|(refine st_pureE (by first|(simp (disch:=omega) only[go_sem,Lm];rfl)|rfl) rfl (k27) (by first|(simp only[go_sem,Lm];rfl)|rfl) (by intro n;first|(simp (disch:=omega) only[go_sem];rfl)|rfl) ?_;intro n hn)|refine st_gT rfl rfl rfl ?_|refine st_gF rfl rfl rfl ?_|refine st_dgT rfl rfl rfl rfl ?_|refine st_dgF rfl rfl rfl ?_|(refine st_gS rfl rfl ?_ ?_ <;> intro hg <;> (try simp only[dcT,dcF,bnT,bnF] at hg))|(refine st_dgS rfl rfl ?_ ?_ <;> intro hg <;> (try simp only[dcT,dcF,bnT,bnF] at hg))|refine st_condT rfl ?_|refine st_condF rfl ?_|(refine st_condS rfl ?_ ?_ <;> intro hg <;> (try simp only[dcT,dcF,bnT,bnF] at hg))|refine st_nil ?_|refine st_dnil ?_|refine st_tN ?_|refine st_seq ?_|refine st_block ?_|refine st_skip ?_|refine st_exit ?_|refine st_ret ?_|refine st_tE ?_|refine st_tR ?_|refine st_bN ?_|refine st_bR ?_|refine st_bH ?_|refine st_bM rfl ?_)
  all_goals try (exfalso;omega)
  simp (disch:=omega) only[AEnd,Tryd.results12,aresK,fin,go_sem,implies_true,true_and,and_true,List.reverse_cons,List.reverse_nil]
  refine .inl ⟨_,VLe.tup ⟨_,_,rfl,VLe.nils 3,_,_,rfl,.refl _,rfl⟩,audR_err (by unfold audE;rw [if_neg (by omega),if_pos h1]) (by decide)⟩
 refine ACalls.of tab mixed Tryd.call12 Tryd.func12 rfl (fi:=⟨132,[12,18],[2,72,107,128],none,[(23,[0,1,0,4,0,28,60,124,255],[(0,false),(2,false),(3,true),(4,false),(5,false),(6,false),(7,true),(1,false),(8,false)]),(29,[0,1,3,7,15,7,63,127,7,263,7,1799,3847,8191,16383,32767],[(0,false),(1,false),(2,false),(3,false),(4,true),(5,false),(6,false),(7,true),(8,false),(9,true),(10,false),(11,false),(12,true),(13,false),(14,false),(15,false)]),(36,[0,1,3,0,8,31],[(0,false),(1,false),(2,true),(3,false),(4,true),(5,false)])]⟩) rfl rfl (Nat.le_of_ble_eq_true rfl) (by decide) ?_
 unfold startA
 repeat' (first|refine st_seq_reg rfl (by first|(simp only[go_sem,Lm];rfl)|rfl) (by first|(simp only[go_sem,Lm];rfl)|rfl) ?_|refine st_reg rfl (by first|(simp only[go_sem,Lm];rfl)|rfl) (by first|(simp only[go_sem,Lm];rfl)|rfl) ?_|refine st_seq_draw rfl (by first|(simp only[go_sem,Lm];rfl)|rfl) (by first|(simp only[go_sem,Lm];rfl)|rfl) ?_|refine st_draw rfl (by first|(simp only[go_sem,Lm];rfl)|rfl) (by first|(simp only[go_sem,Lm];rfl)|rfl) ?_|refine st_op ?_|refine st_det rfl (by simp (disch:=omega) only[go_sem,wr_i64,Lm];rfl) ?_|refine st_dop rfl ?_|refine st_loc rfl (by simp (disch:=omega) only[go_sem,wr_i64,Lm];rfl) ?_|refine st_heap rfl (by simp (disch:=omega) only[go_sem,wr_i64,Lm];rfl) ?_|refine st_store (by simp (disch:=omega) only[go_sem,wr_i64,Lm];rfl) ?_|refine st_append (by simp (disch:=omega) only[go_sem,wr_i64,Lm];rfl) ?_|(refine st_pureE (by first|(simp (disch:=omega) only[go_sem,Lm];rfl)|rfl) rfl (k27) (by first|(simp only[go_sem,Lm];rfl)|rfl) (by intro n;first|(simp (disch:=omega) only[go_sem];rfl)|rfl) ?_;intro n hn)|refine st_gT rfl rfl rfl ?_|refine st_gF rfl rfl rfl ?_|refine st_dgT rfl rfl rfl rfl ?_|refine st_dgF rfl rfl rfl ?_|(refine st_gS rfl rfl ?_ ?_ <;> intro hg <;> (try simp only[dcT,dcF,bnT,bnF] at hg))|(refine st_dgS rfl rfl ?_ ?_ <;> intro hg <;> (try simp only[dcT,dcF,bnT,bnF] at hg))|refine st_condT rfl ?_|refine st_condF rfl ?_|(refine st_condS rfl ?_ ?_ <;> intro hg <;> (try simp only[dcT,dcF,bnT,bnF] at hg))|refine st_nil ?_|refine st_dnil ?_|refine st_tN ?_|refine st_seq ?_|refine st_block ?_|refine st_skip ?_|refine st_exit ?_|refine st_ret ?_|refine st_tE ?_|refine st_tR ?_|refine st_bN ?_|refine st_bR ?_|refine st_bH ?_|refine st_bM rfl ?_)
 all_goals try (exfalso;omega)
 refine st_loopC (α:=Nat) tab mixed [] [] (by repeat (first|exact trivial|refine ⟨rfl,?_⟩)) [] [] (by repeat (first|exact trivial|refine ⟨rfl,?_⟩)) (fun i=>[(32,.int .i64 (i:Nat))]) [(1,_),(2,_),(30,_),(31,_)] (fun _=>[]) [] (fun i=>i≤t.length∧∀ j,j < i→(lel t j).length=l.fs.length) (fun i=>t.length - i) (by decide) 0 ⟨Nat.zero_le _,fun j hj=>absurd hj (Nat.not_lt_zero _)⟩ (by (try simp only[go_sem]);repeat' (first|exact trivial|refine And.intro ?_ ?_|rfl|(simp (disch:=omega) only[go_sem,if_yes,if_no,if_no];rfl)|(simp (disch:=omega) only[go_sem,if_yes,if_no,if_no]))) (by (try simp only[go_sem]);repeat' (first|exact trivial|refine And.intro ?_ ?_|rfl|(simp (disch:=omega) only[go_sem,if_yes,if_no,if_no];rfl)|(simp (disch:=omega) only[go_sem,if_yes,if_no,if_no]))) (by first|(simp only[go_sem];rfl)|rfl) (by intro n;simp only[go_sem];rfl) ?_
 rintro i c ⟨i1,i2⟩ hc
 simp only[go_sem]
 have hgx:i < t.length→(t.map rowA).getD i []=[.lst 1 ((lel t i).map iv)]:=lelR_getD
 by_cases hi:i < t.length
 case pos =>
  have hgx:=hgx hi
  repeat' (first|refine st_seq_reg rfl (by first|(simp only[go_sem,Lm,hgx];rfl)|rfl) (by first|(simp only[go_sem,Lm,hgx];rfl)|rfl) ?_|refine st_reg rfl (by first|(simp only[go_sem,Lm,hgx];rfl)|rfl) (by first|(simp only[go_sem,Lm,hgx];rfl)|rfl) ?_|refine st_seq_draw rfl (by first|(simp only[go_sem,Lm,hgx];rfl)|rfl) (by first|(simp only[go_sem,Lm,hgx];rfl)|rfl) ?_|refine st_draw rfl (by first|(simp only[go_sem,Lm,hgx];rfl)|rfl) (by first|(simp only[go_sem,Lm,hgx];rfl)|rfl) ?_|refine st_op ?_|refine st_det rfl (by simp (disch:=omega) only[go_sem,wr_i64,Lm,hgx];rfl) ?_|refine st_dop rfl ?_|refine st_loc rfl (by simp (disch:=omega) only[go_sem,wr_i64,Lm,hgx];rfl) ?_|refine st_heap rfl (by simp (disch:=omega) only[go_sem,wr_i64,Lm,hgx];rfl) ?_|refine st_store (by simp (disch:=omega) only[go_sem,wr_i64,Lm,hgx];rfl) ?_|refine st_append (by simp (disch:=omega) only[go_sem,wr_i64,Lm,hgx];rfl) ?_|refine st_gT rfl rfl rfl ?_|refine st_gF rfl rfl rfl ?_|refine st_dgT rfl rfl rfl rfl ?_|refine st_dgF rfl rfl rfl ?_|(refine st_gS rfl rfl ?_ ?_ <;> intro hg <;> (try simp only[dcT,dcF,bnT,bnF] at hg))|(refine st_dgS rfl rfl ?_ ?_ <;> intro hg <;> (try simp only[dcT,dcF,bnT,bnF] at hg))|refine st_condT rfl ?_|refine st_condF rfl ?_|(refine st_condS rfl ?_ ?_ <;> intro hg <;> (try simp only[dcT,dcF,bnT,bnF] at hg))|refine st_nil ?_|refine st_dnil ?_|refine st_tN ?_|refine st_seq ?_|refine st_block ?_|refine st_skip ?_|refine st_exit ?_|refine st_ret ?_|refine st_tE ?_|refine st_tR ?_|refine st_bN ?_|refine st_bR ?_|refine st_bH ?_|refine st_bM rfl ?_)
  all_goals try (exfalso;omega)
  ·simp (disch:=omega) only[AEnd,Tryd.results12,aresK,fin,go_sem,implies_true,true_and,and_true,List.reverse_cons,List.reverse_nil]
   refine .inl ⟨_,VLe.tup ⟨_,_,rfl,VLe.nils 3,_,_,rfl,.refl _,rfl⟩,audR_err (by unfold audE;rw [if_neg (by omega),if_neg (by omega),if_pos (sqB_false hi (by omega))]) (by decide)⟩
  ·refine ⟨i+1,⟨by show i+1≤t.length;omega,all_stepP i2 (by omega)⟩,by show t.length - (i+1) < t.length - i;omega,(by repeat' (first|exact trivial|refine And.intro ?_ ?_|rfl|(simp (disch:=omega) only[go_sem,if_yes,if_no,if_no];rfl)|(simp (disch:=omega) only[go_sem,if_yes,if_no,if_no]))),(by repeat' (first|exact trivial|refine And.intro ?_ ?_|rfl|(simp (disch:=omega) only[go_sem,if_yes,if_no,if_no];rfl)|(simp (disch:=omega) only[go_sem,if_yes,if_no,if_no]))),rfl,(by first|exact HOld.of _ (by omega)|exact HOld.put _ _ _ (by omega))⟩
 obtain rfl:i=t.length:=by omega
 have hsq:sqB l t=true:=List.all_eq_true.2 (all_lel fun i hi=>decide_eq_true (i2 i hi))
 repeat' (first|refine st_seq_reg rfl (by first|(simp only[go_sem,Lm];rfl)|rfl) (by first|(simp only[go_sem,Lm];rfl)|rfl) ?_|refine st_reg rfl (by first|(simp only[go_sem,Lm];rfl)|rfl) (by first|(simp only[go_sem,Lm];rfl)|rfl) ?_|refine st_seq_draw rfl (by first|(simp only[go_sem,Lm];rfl)|rfl) (by first|(simp only[go_sem,Lm];rfl)|rfl) ?_|refine st_draw rfl (by first|(simp only[go_sem,Lm];rfl)|rfl) (by first|(simp only[go_sem,Lm];rfl)|rfl) ?_|refine st_op ?_|refine st_det rfl (by simp (disch:=omega) only[go_sem,wr_i64,Lm];rfl) ?_|refine st_dop rfl ?_|refine st_loc rfl (by simp (disch:=omega) only[go_sem,wr_i64,Lm];rfl) ?_|refine st_heap rfl (by simp (disch:=omega) only[go_sem,wr_i64,Lm];rfl) ?_|refine st_store (by simp (disch:=omega) only[go_sem,wr_i64,Lm];rfl) ?_|refine st_append (by simp (disch:=omega) only[go_sem,wr_i64,Lm];rfl) ?_|refine st_gT rfl rfl rfl ?_|refine st_gF rfl rfl rfl ?_|refine st_dgT rfl rfl rfl rfl ?_|refine st_dgF rfl rfl rfl ?_|(refine st_gS rfl rfl ?_ ?_ <;> intro hg <;> (try simp only[dcT,dcF,bnT,bnF] at hg))|(refine st_dgS rfl rfl ?_ ?_ <;> intro hg <;> (try simp only[dcT,dcF,bnT,bnF] at hg))|refine st_condT rfl ?_|refine st_condF rfl ?_|(refine st_condS rfl ?_ ?_ <;> intro hg <;> (try simp only[dcT,dcF,bnT,bnF] at hg))|refine st_nil ?_|refine st_dnil ?_|refine st_tN ?_|refine st_seq ?_|refine st_block ?_|refine st_skip ?_|refine st_exit ?_|refine st_ret ?_|refine st_tE ?_|refine st_tR ?_|refine st_bN ?_|refine st_bR ?_|refine st_bH ?_|refine st_bM rfl ?_)
 all_goals try (exfalso;omega)
 refine st_loopC (α:=Nat) tab mixed [] [] (by repeat (first|exact trivial|refine ⟨rfl,?_⟩)) [] [] (by repeat (first|exact trivial|refine ⟨rfl,?_⟩)) (fun i=>[(45,.int .i64 (i:Nat))]) [(1,_),(2,_),(43,_),(44,_)] (fun _=>[]) [] (fun i=>i≤t.length∧∀ j,j < i→allIn 0 1000000000 (lel t j)=true) (fun i=>t.length - i) (by decide) 0 ⟨Nat.zero_le _,fun j hj=>absurd hj (Nat.not_lt_zero _)⟩ (by (try simp only[go_sem]);repeat' (first|exact trivial|refine And.intro ?_ ?_|rfl|(simp (disch:=omega) only[go_sem,if_yes,if_no,if_no];rfl)|(simp (disch:=omega) only[go_sem,if_yes,if_no,if_no]))) (by (try simp only[go_sem]);repeat' (first|exact trivial|refine And.intro ?_ ?_|rfl|(simp (disch:=omega) only[go_sem,if_yes,if_no,if_no];rfl)|(simp (disch:=omega) only[go_sem,if_yes,if_no,if_no]))) (by first|(simp only[go_sem];rfl)|rfl) (by intro n;simp only[go_sem];rfl) ?_
 rintro i c1 ⟨j1,j2⟩ hc1
 simp only[go_sem]
 by_cases hi:i < t.length
 case pos =>
  have hgx:=lelR_getD hi
  have k65:=c21 0 1000000000 (lel t i) (by have:=hr _ (lelI_mem hi);omega)
  cases hA:allIn 0 1000000000 (lel t i)
  ·rw [hA] at k65
   repeat' (first|refine st_seq_reg rfl (by first|(simp only[go_sem,Lm,hgx];rfl)|rfl) (by first|(simp only[go_sem,Lm,hgx];rfl)|rfl) ?_|refine st_reg rfl (by first|(simp only[go_sem,Lm,hgx];rfl)|rfl) (by first|(simp only[go_sem,Lm,hgx];rfl)|rfl) ?_|refine st_seq_draw rfl (by first|(simp only[go_sem,Lm,hgx];rfl)|rfl) (by first|(simp only[go_sem,Lm,hgx];rfl)|rfl) ?_|refine st_draw rfl (by first|(simp only[go_sem,Lm,hgx];rfl)|rfl) (by first|(simp only[go_sem,Lm,hgx];rfl)|rfl) ?_|refine st_op ?_|refine st_det rfl (by simp (disch:=omega) only[go_sem,wr_i64,Lm,hgx];rfl) ?_|refine st_dop rfl ?_|refine st_loc rfl (by simp (disch:=omega) only[go_sem,wr_i64,Lm,hgx];rfl) ?_|refine st_heap rfl (by simp (disch:=omega) only[go_sem,wr_i64,Lm,hgx];rfl) ?_|refine st_store (by simp (disch:=omega) only[go_sem,wr_i64,Lm,hgx];rfl) ?_|refine st_append (by simp (disch:=omega) only[go_sem,wr_i64,Lm,hgx];rfl) ?_|(refine st_pureE (by first|(simp (disch:=omega) only[go_sem,Lm,hgx];rfl)|rfl) rfl (k65) (by first|(simp only[go_sem,Lm,hgx];rfl)|rfl) (by intro n;first|(simp (disch:=omega) only[go_sem];rfl)|rfl) ?_;intro n hn)|refine st_gT rfl rfl rfl ?_|refine st_gF rfl rfl rfl ?_|refine st_dgT rfl rfl rfl rfl ?_|refine st_dgF rfl rfl rfl ?_|(refine st_gS rfl rfl ?_ ?_ <;> intro hg <;> (try simp only[dcT,dcF,bnT,bnF] at hg))|(refine st_dgS rfl rfl ?_ ?_ <;> intro hg <;> (try simp only[dcT,dcF,bnT,bnF] at hg))|refine st_condT rfl ?_|refine st_condF rfl ?_|(refine st_condS rfl ?_ ?_ <;> intro hg <;> (try simp only[dcT,dcF,bnT,bnF] at hg))|refine st_nil ?_|refine st_dnil ?_|refine st_tN ?_|refine st_seq ?_|refine st_block ?_|refine st_skip ?_|refine st_exit ?_|refine st_ret ?_|refine st_tE ?_|refine st_tR ?_|refine st_bN ?_|refine st_bR ?_|refine st_bH ?_|refine st_bM rfl ?_)
   all_goals try (exfalso;omega)
   simp (disch:=omega) only[AEnd,Tryd.results12,aresK,fin,go_sem,implies_true,true_and,and_true,List.reverse_cons,List.reverse_nil]
   refine .inl ⟨_,VLe.tup ⟨_,_,rfl,VLe.nils 3,_,_,rfl,.refl _,rfl⟩,audR_err (by unfold audE;rw [if_neg (by omega),if_neg (by omega),if_neg (by rw [hsq];simp),if_pos (numB_false hi hA)]) (by decide)⟩
  ·rw [hA] at k65
   repeat' (first|refine st_seq_reg rfl (by first|(simp only[go_sem,Lm,hgx];rfl)|rfl) (by first|(simp only[go_sem,Lm,hgx];rfl)|rfl) ?_|refine st_reg rfl (by first|(simp only[go_sem,Lm,hgx];rfl)|rfl) (by first|(simp only[go_sem,Lm,hgx];rfl)|rfl) ?_|refine st_seq_draw rfl (by first|(simp only[go_sem,Lm,hgx];rfl)|rfl) (by first|(simp only[go_sem,Lm,hgx];rfl)|rfl) ?_|refine st_draw rfl (by first|(simp only[go_sem,Lm,hgx];rfl)|rfl) (by first|(simp only[go_sem,Lm,hgx];rfl)|rfl) ?_|refine st_op ?_|refine st_det rfl (by simp (disch:=omega) only[go_sem,wr_i64,Lm,hgx];rfl) ?_|refine st_dop rfl ?_|refine st_loc rfl (by simp (disch:=omega) only[go_sem,wr_i64,Lm,hgx];rfl) ?_|refine st_heap rfl (by simp (disch:=omega) only[go_sem,wr_i64,Lm,hgx];rfl) ?_|refine st_store (by simp (disch:=omega) only[go_sem,wr_i64,Lm,hgx];rfl) ?_|refine st_append (by simp (disch:=omega) only[go_sem,wr_i64,Lm,hgx];rfl) ?_|(refine st_pureE (by first|(simp (disch:=omega) only[go_sem,Lm,hgx];rfl)|rfl) rfl (k65) (by first|(simp only[go_sem,Lm,hgx];rfl)|rfl) (by intro n;first|(simp (disch:=omega) only[go_sem];rfl)|rfl) ?_;intro n hn)|refine st_gT rfl rfl rfl ?_|refine st_gF rfl rfl rfl ?_|refine st_dgT rfl rfl rfl rfl ?_|refine st_dgF rfl rfl rfl ?_|(refine st_gS rfl rfl ?_ ?_ <;> intro hg <;> (try simp only[dcT,dcF,bnT,bnF] at hg))|(refine st_dgS rfl rfl ?_ ?_ <;> intro hg <;> (try simp only[dcT,dcF,bnT,bnF] at hg))|refine st_condT rfl ?_|refine st_condF rfl ?_|(refine st_condS rfl ?_ ?_ <;> intro hg <;> (try simp only[dcT,dcF,bnT,bnF] at hg))|refine st_nil ?_|refine st_dnil ?_|refine st_tN ?_|refine st_seq ?_|refine st_block ?_|refine st_skip ?_|refine st_exit ?_|refine st_ret ?_|refine st_tE ?_|refine st_tR ?_|refine st_bN ?_|refine st_bR ?_|refine st_bH ?_|refine st_bM rfl ?_)
   all_goals try (exfalso;omega)
   refine ⟨i+1,⟨by show i+1≤t.length;omega,all_stepP j2 hA⟩,by show t.length - (i+1) < t.length - i;omega,(by repeat' (first|exact trivial|refine And.intro ?_ ?_|rfl|(simp (disch:=omega) only[go_sem,if_yes,if_no,if_no];rfl)|(simp (disch:=omega) only[go_sem,if_yes,if_no,if_no]))),(by repeat' (first|exact trivial|refine And.intro ?_ ?_|rfl|(simp (disch:=omega) only[go_sem,if_yes,if_no,if_no];rfl)|(simp (disch:=omega) only[go_sem,if_yes,if_no,if_no]))),rfl,(by first|exact HOld.of _ (by omega)|exact HOld.put _ _ _ (by omega))⟩
 obtain rfl:i=t.length:=by omega
 have hT:Tab l t:=⟨hl,h1,fun i hi=>i2 i (by omega),fun i hi=>j2 i (by omega)⟩
 have hE:audE l t=0:=hT.of h0
 repeat' (first|refine st_seq_reg rfl (by first|(simp only[go_sem,Lm];rfl)|rfl) (by first|(simp only[go_sem,Lm];rfl)|rfl) ?_|refine st_reg rfl (by first|(simp only[go_sem,Lm];rfl)|rfl) (by first|(simp only[go_sem,Lm];rfl)|rfl) ?_|refine st_seq_draw rfl (by first|(simp only[go_sem,Lm];rfl)|rfl) (by first|(simp only[go_sem,Lm];rfl)|rfl) ?_|refine st_draw rfl (by first|(simp only[go_sem,Lm];rfl)|rfl) (by first|(simp only[go_sem,Lm];rfl)|rfl) ?_|refine st_op ?_|refine st_det rfl (by simp (disch:=omega) only[go_sem,wr_i64,Lm];rfl) ?_|refine st_dop rfl ?_|refine st_loc rfl (by simp (disch:=omega) only[go_sem,wr_i64,Lm];rfl) ?_|refine st_heap rfl (by simp (disch:=omega) only[go_sem,wr_i64,Lm];rfl) ?_|refine st_store (by simp (disch:=omega) only[go_sem,wr_i64,Lm];rfl) ?_|refine st_append (by simp (disch:=omega) only[go_sem,wr_i64,Lm];rfl) ?_|refine st_gT rfl rfl rfl ?_|refine st_gF rfl rfl rfl ?_|refine st_dgT rfl rfl rfl rfl ?_|refine st_dgF rfl rfl rfl ?_|(refine st_gS rfl rfl ?_ ?_ <;> intro hg <;> (try simp only[dcT,dcF,bnT,bnF] at hg))|(refine st_dgS rfl rfl ?_ ?_ <;> intro hg <;> (try simp only[dcT,dcF,bnT,bnF] at hg))|refine st_condT rfl ?_|refine st_condF rfl ?_|(refine st_condS rfl ?_ ?_ <;> intro hg <;> (try simp only[dcT,dcF,bnT,bnF] at hg))|refine st_nil ?_|refine st_dnil ?_|refine st_tN ?_|refine st_seq ?_|refine st_block ?_|refine st_skip ?_|refine st_exit ?_|refine st_ret ?_|refine st_tE ?_|refine st_tR ?_|refine st_bN ?_|refine st_bR ?_|refine st_bH ?_|refine st_bM rfl ?_)
 all_goals try (exfalso;omega)
 refine st_loopH (α:=AuS) tab mixed [12] [_] (by repeat (first|exact trivial|refine ⟨rfl,?_⟩)) [] [] (by repeat (first|exact trivial|refine ⟨rfl,?_⟩)) (fun a=>[(55,.int .i64 (a.i:Nat)),(11,a.v)]) [(1,_),(2,_),(12,_),(53,_),(54,_)] (fun a=>[(spS 8 l.fs.length t a.i 0).map iA]) [] (fun a=>a.g) (fun a=>a.i≤t.length∧(∀ b':Nat × Nat,b'.1 < h.clk→a.g.at_ b'=h.at_ b')∧a.g.lp=h.lp∧h.clk≤a.g.clk∧SlA h.clk a.g a.v 3 ((flA l t a.i).map Fl.row)) (fun a=>t.length - a.i) (by decide) ⟨0,.nils,h⟩ ⟨Nat.zero_le _,fun _ _=>rfl,rfl,Nat.le_refl _,.inl ⟨rfl,rfl⟩⟩ (by (try simp only[go_sem]);repeat' (first|exact trivial|refine And.intro ?_ ?_|rfl|(simp (disch:=omega) only[go_sem,if_yes,if_no,if_no];rfl)|(simp (disch:=omega) only[go_sem,if_yes,if_no,if_no]))) (by (try simp only[go_sem]);repeat' (first|exact trivial|refine And.intro ?_ ?_|rfl|(simp (disch:=omega) only[go_sem,if_yes,if_no,if_no];rfl)|(simp (disch:=omega) only[go_sem,if_yes,if_no,if_no]))) (HOld.tick (by simp only[go_sem];omega)) ?_
 rintro ⟨i,v,g⟩ c2 ⟨m1,m2,m3,m4,hS⟩ hc2
 dsimp only at m1 m2 m3 m4 hS hc2
 simp only[go_sem]
 by_cases hi:i < t.length
 case neg =>
  obtain rfl:i=t.length:=by omega
  have hfl0:=flA_len l t hfn t.length
  have hA0:flA l t t.length=flC l t 0:=by rw [h1];exact (List.append_nil _).symm
  rw [hA0] at hS
  repeat' (first|refine st_seq_reg rfl (by first|(simp only[go_sem,Lm];rfl)|rfl) (by first|(simp only[go_sem,Lm];rfl)|rfl) ?_|refine st_reg rfl (by first|(simp only[go_sem,Lm];rfl)|rfl) (by first|(simp only[go_sem,Lm];rfl)|rfl) ?_|refine st_seq_draw rfl (by first|(simp only[go_sem,Lm];rfl)|rfl) (by first|(simp only[go_sem,Lm];rfl)|rfl) ?_|refine st_draw rfl (by first|(simp only[go_sem,Lm];rfl)|rfl) (by first|(simp only[go_sem,Lm];rfl)|rfl) ?_|refine st_op ?_|refine st_det rfl (by simp (disch:=omega) only[go_sem,wr_i64,Lm];rfl) ?_|refine st_dop rfl ?_|refine st_loc rfl (by simp (disch:=omega) only[go_sem,wr_i64,Lm];rfl) ?_|refine st_heap rfl (by simp (disch:=omega) only[go_sem,wr_i64,Lm];rfl) ?_|refine st_store (by simp (disch:=omega) only[go_sem,wr_i64,Lm];rfl) ?_|refine st_append (by simp (disch:=omega) only[go_sem,wr_i64,Lm];rfl) ?_|refine st_gT rfl rfl rfl ?_|refine st_gF rfl rfl rfl ?_|refine st_dgT rfl rfl rfl rfl ?_|refine st_dgF rfl rfl rfl ?_|(refine st_gS rfl rfl ?_ ?_ <;> intro hg <;> (try simp only[dcT,dcF,bnT,bnF] at hg))|(refine st_dgS rfl rfl ?_ ?_ <;> intro hg <;> (try simp only[dcT,dcF,bnT,bnF] at hg))|refine st_condT rfl ?_|refine st_condF rfl ?_|(refine st_condS rfl ?_ ?_ <;> intro hg <;> (try simp only[dcT,dcF,bnT,bnF] at hg))|refine st_nil ?_|refine st_dnil ?_|refine st_tN ?_|refine st_seq ?_|refine st_block ?_|refine st_skip ?_|refine st_exit ?_|refine st_ret ?_|refine st_tE ?_|refine st_tR ?_|refine st_bN ?_|refine st_bR ?_|refine st_bH ?_|refine st_bM rfl ?_)
  all_goals try (exfalso;omega)
  refine st_loopH (α:=AuS) tab mixed [] [] (by repeat (first|exact trivial|refine ⟨rfl,?_⟩)) [12] [_] (by repeat (first|exact trivial|refine ⟨rfl,?_⟩)) (fun a=>[(114,.int .i64 (a.i:Nat)),(11,a.v)]) [(2,_),(12,_),(112,_),(113,_)] (fun _=>[]) [_] (fun a=>a.g) (fun a=>a.i≤l.fs.length∧(∀ b':Nat × Nat,b'.1 < h.clk→a.g.at_ b'=h.at_ b')∧a.g.lp=h.lp∧h.clk≤a.g.clk∧SlA h.clk a.g a.v 3 ((flC l t a.i).map Fl.row)) (fun a=>l.fs.length - a.i) (by decide) ⟨0,v,g⟩ ⟨Nat.zero_le _,m2,m3,m4,hS⟩ (by (try simp only[go_sem]);repeat' (first|exact trivial|refine And.intro ?_ ?_|rfl|(simp (disch:=omega) only[go_sem,if_yes,if_no,if_no];rfl)|(simp (disch:=omega) only[go_sem,if_yes,if_no,if_no]))) (by (try simp only[go_sem]);repeat' (first|exact trivial|refine And.intro ?_ ?_|rfl|(simp (disch:=omega) only[go_sem,if_yes,if_no,if_no];rfl)|(simp (disch:=omega) only[go_sem,if_yes,if_no,if_no]))) (HOld.tick (by simp only[go_sem];omega)) ?_
  rintro ⟨f,w,g2⟩ c3 ⟨q1,q2,q3,q4,hS2⟩ hc3
  dsimp only at q1 q2 q3 q4 hS2 hc3
  simp only[go_sem]
  by_cases hf:f < l.fs.length
  case neg =>
   obtain rfl:f=l.fs.length:=by omega
   repeat' (first|refine st_seq_reg rfl (by first|(simp only[go_sem,Lm];rfl)|rfl) (by first|(simp only[go_sem,Lm];rfl)|rfl) ?_|refine st_reg rfl (by first|(simp only[go_sem,Lm];rfl)|rfl) (by first|(simp only[go_sem,Lm];rfl)|rfl) ?_|refine st_seq_draw rfl (by first|(simp only[go_sem,Lm];rfl)|rfl) (by first|(simp only[go_sem,Lm];rfl)|rfl) ?_|refine st_draw rfl (by first|(simp only[go_sem,Lm];rfl)|rfl) (by first|(simp only[go_sem,Lm];rfl)|rfl) ?_|refine st_op ?_|refine st_det rfl (by simp (disch:=omega) only[go_sem,wr_i64,Lm];rfl) ?_|refine st_dop rfl ?_|refine st_loc rfl (by simp (disch:=omega) only[go_sem,wr_i64,Lm];rfl) ?_|refine st_heap rfl (by simp (disch:=omega) only[go_sem,wr_i64,Lm];rfl) ?_|refine st_store (by simp (disch:=omega) only[go_sem,wr_i64,Lm];rfl) ?_|refine st_append (by simp (disch:=omega) only[go_sem,wr_i64,Lm];rfl) ?_|refine st_gT rfl rfl rfl ?_|refine st_gF rfl rfl rfl ?_|refine st_dgT rfl rfl rfl rfl ?_|refine st_dgF rfl rfl rfl ?_|(refine st_gS rfl rfl ?_ ?_ <;> intro hg <;> (try simp only[dcT,dcF,bnT,bnF] at hg))|(refine st_dgS rfl rfl ?_ ?_ <;> intro hg <;> (try simp only[dcT,dcF,bnT,bnF] at hg))|refine st_condT rfl ?_|refine st_condF rfl ?_|(refine st_condS rfl ?_ ?_ <;> intro hg <;> (try simp only[dcT,dcF,bnT,bnF] at hg))|refine st_nil ?_|refine st_dnil ?_|refine st_tN ?_|refine st_seq ?_|refine st_block ?_|refine st_skip ?_|refine st_exit ?_|refine st_ret ?_|refine st_tE ?_|refine st_tR ?_|refine st_bN ?_|refine st_bR ?_|refine st_bH ?_|refine st_bM rfl ?_)
   all_goals try (exfalso;omega)
   simp (disch:=omega) only[AEnd,Tryd.results12,aresK,fin,go_sem,implies_true,true_and,and_true,List.reverse_cons,List.reverse_nil]
   refine ⟨hS2.noL,q2,q3,SlA.ans2 hS2 ?_⟩
   unfold audR audL
   rw [hE,if_neg (by decide)]
   rfl
  have hfc:=flC_len l t hfn hbn f
  have hnx:=flC_next l t f
  have hgk:(spS 8 l.fs.length t t.length 0).getD f 0=colS t f l.bs.length:=by
   rw [spS_get (by omega),h1];unfold spV;rw [if_pos hf,if_neg (Nat.not_lt_zero _),Int.add_zero]
  have hfd:funF l t f=if (fd l.fs f).amt < colS t f l.bs.length then [⟨3,0,(f:Nat)⟩] else []:=rfl
  have hsl:=spS_len 8 l.fs.length t t.length 0
  by_cases hq:(fd l.fs f).amt < colS t f l.bs.length
  ·rw [if_pos hq] at hfd
   repeat' (first|refine st_seq_reg rfl (by first|(simp only[go_sem,Lm,Nat.zero_add,hgk,hsl];rfl)|rfl) (by first|(simp only[go_sem,Lm,Nat.zero_add,hgk,hsl];rfl)|rfl) ?_|refine st_reg rfl (by first|(simp only[go_sem,Lm,Nat.zero_add,hgk,hsl];rfl)|rfl) (by first|(simp only[go_sem,Lm,Nat.zero_add,hgk,hsl];rfl)|rfl) ?_|refine st_seq_draw rfl (by first|(simp only[go_sem,Lm,Nat.zero_add,hgk,hsl];rfl)|rfl) (by first|(simp only[go_sem,Lm,Nat.zero_add,hgk,hsl];rfl)|rfl) ?_|refine st_draw rfl (by first|(simp only[go_sem,Lm,Nat.zero_add,hgk,hsl];rfl)|rfl) (by first|(simp only[go_sem,Lm,Nat.zero_add,hgk,hsl];rfl)|rfl) ?_|refine st_op ?_|refine st_det rfl (by simp (disch:=omega) only[go_sem,wr_i64,Lm,Nat.zero_add,hgk,hsl];rfl) ?_|refine st_dop rfl ?_|refine st_loc rfl (by simp (disch:=omega) only[go_sem,wr_i64,Lm,Nat.zero_add,hgk,hsl];rfl) ?_|refine st_heap rfl (by simp (disch:=omega) only[go_sem,wr_i64,Lm,Nat.zero_add,hgk,hsl];rfl) ?_|refine st_store (by simp (disch:=omega) only[go_sem,wr_i64,Lm,Nat.zero_add,hgk,hsl];rfl) ?_|refine st_append (by simp (disch:=omega) only[go_sem,wr_i64,Lm,Nat.zero_add,hgk,hsl];rfl) ?_|(refine st_appS (by intro h id x y;simp only[go_sem];rfl) rfl (by simp only[go_sem];rfl) (by simp only[go_sem];rfl) (by decide) hS2 (fun _ _ _=>rfl) (by omega) (by simp only[Lm,List.length_cons,List.length_nil,big];omega) (by omega) (by omega) ?_;intro v g hA)|refine st_gT rfl rfl rfl ?_|refine st_gF rfl rfl rfl ?_|refine st_dgT rfl rfl rfl rfl ?_|refine st_dgF rfl rfl rfl ?_|(refine st_gS rfl rfl ?_ ?_ <;> intro hg <;> (try simp only[dcT,dcF,bnT,bnF] at hg))|(refine st_dgS rfl rfl ?_ ?_ <;> intro hg <;> (try simp only[dcT,dcF,bnT,bnF] at hg))|refine st_condT rfl ?_|refine st_condF rfl ?_|(refine st_condS rfl ?_ ?_ <;> intro hg <;> (try simp only[dcT,dcF,bnT,bnF] at hg))|refine st_nil ?_|refine st_dnil ?_|refine st_tN ?_|refine st_seq ?_|refine st_block ?_|refine st_skip ?_|refine st_exit ?_|refine st_ret ?_|refine st_tE ?_|refine st_tR ?_|refine st_bN ?_|refine st_bR ?_|refine st_bH ?_|refine st_bM rfl ?_)
   all_goals try (exfalso;omega)
   refine ⟨⟨f+1,v,_⟩,⟨by show f+1≤l.fs.length;omega,(by exact fun b' hb'=>(hA.old b' hb').trans (q2 b' hb')),(by exact hA.lp.trans q3),(by simp only[go_sem];omega),(by rw [hnx,hfd,List.map_append];exact hA.sl.to (fun _ _ _ _ _=>rfl) (by simp only[go_sem];omega))⟩,by show l.fs.length - (f+1) < l.fs.length - f;omega,(by repeat' (first|exact trivial|refine And.intro ?_ ?_|rfl|(simp (disch:=omega) only[go_sem,if_yes,if_no,if_no];rfl)|(simp (disch:=omega) only[go_sem,if_yes,if_no,if_no]))),(by repeat' (first|exact trivial|refine And.intro ?_ ?_|rfl|(simp (disch:=omega) only[go_sem,if_yes,if_no,if_no];rfl)|(simp (disch:=omega) only[go_sem,if_yes,if_no,if_no]))),rfl,HOld.refl _⟩
  ·rw [if_neg hq] at hfd
   repeat' (first|refine st_seq_reg rfl (by first|(simp only[go_sem,Lm,Nat.zero_add,hgk,hsl];rfl)|rfl) (by first|(simp only[go_sem,Lm,Nat.zero_add,hgk,hsl];rfl)|rfl) ?_|refine st_reg rfl (by first|(simp only[go_sem,Lm,Nat.zero_add,hgk,hsl];rfl)|rfl) (by first|(simp only[go_sem,Lm,Nat.zero_add,hgk,hsl];rfl)|rfl) ?_|refine st_seq_draw rfl (by first|(simp only[go_sem,Lm,Nat.zero_add,hgk,hsl];rfl)|rfl) (by first|(simp only[go_sem,Lm,Nat.zero_add,hgk,hsl];rfl)|rfl) ?_|refine st_draw rfl (by first|(simp only[go_sem,Lm,Nat.zero_add,hgk,hsl];rfl)|rfl) (by first|(simp only[go_sem,Lm,Nat.zero_add,hgk,hsl];rfl)|rfl) ?_|refine st_op ?_|refine st_det rfl (by simp (disch:=omega) only[go_sem,wr_i64,Lm,Nat.zero_add,hgk,hsl];rfl) ?_|refine st_dop rfl ?_|refine st_loc rfl (by simp (disch:=omega) only[go_sem,wr_i64,Lm,Nat.zero_add,hgk,hsl];rfl) ?_|refine st_heap rfl (by simp (disch:=omega) only[go_sem,wr_i64,Lm,Nat.zero_add,hgk,hsl];rfl) ?_|refine st_store (by simp (disch:=omega) only[go_sem,wr_i64,Lm,Nat.zero_add,hgk,hsl];rfl) ?_|refine st_append (by simp (disch:=omega) only[go_sem,wr_i64,Lm,Nat.zero_add,hgk,hsl];rfl) ?_|refine st_gT rfl rfl rfl ?_|refine st_gF rfl rfl rfl ?_|refine st_dgT rfl rfl rfl rfl ?_|refine st_dgF rfl rfl rfl ?_|(refine st_gS rfl rfl ?_ ?_ <;> intro hg <;> (try simp only[dcT,dcF,bnT,bnF] at hg))|(refine st_dgS rfl rfl ?_ ?_ <;> intro hg <;> (try simp only[dcT,dcF,bnT,bnF] at hg))|refine st_condT rfl ?_|refine st_condF rfl ?_|(refine st_condS rfl ?_ ?_ <;> intro hg <;> (try simp only[dcT,dcF,bnT,bnF] at hg))|refine st_nil ?_|refine st_dnil ?_|refine st_tN ?_|refine st_seq ?_|refine st_block ?_|refine st_skip ?_|refine st_exit ?_|refine st_ret ?_|refine st_tE ?_|refine st_tR ?_|refine st_bN ?_|refine st_bR ?_|refine st_bH ?_|refine st_bM rfl ?_)
   all_goals try (exfalso;omega)
   refine ⟨⟨f+1,w,_⟩,⟨by show f+1≤l.fs.length;omega,(by exact q2),(by exact q3),(by simp only[go_sem];omega),(by rw [hnx,hfd,List.append_nil];exact hS2.to (fun _ _ _ _ _=>rfl) (by simp only[go_sem];omega))⟩,by show l.fs.length - (f+1) < l.fs.length - f;omega,(by repeat' (first|exact trivial|refine And.intro ?_ ?_|rfl|(simp (disch:=omega) only[go_sem,if_yes,if_no,if_no];rfl)|(simp (disch:=omega) only[go_sem,if_yes,if_no,if_no]))),(by repeat' (first|exact trivial|refine And.intro ?_ ?_|rfl|(simp (disch:=omega) only[go_sem,if_yes,if_no,if_no];rfl)|(simp (disch:=omega) only[go_sem,if_yes,if_no,if_no]))),rfl,HOld.refl _⟩
 have hib:i < l.bs.length:=by omega
 have hgx:=lelR_getD hi
 have hall:=j2 i hi
 have hrl:=i2 i hi
 have hsl:=spS_len 8 l.fs.length t i 0
 have k72:=c29m (lel t i) (lo:=0) (hi:=1000000000) (by decide) (by decide) (by omega) hall
 have hz0:=flB_zero l t i
 have hbf:bilF l t i=if sumL (lel t i) ≠ (bl l.bs i).amt then [⟨1,(i:Nat),0⟩] else []:=rfl
 have hfl:=flA_len l t hfn i
 by_cases hb:sumL (lel t i)=(bl l.bs i).amt
 all_goals
  first|rw [if_pos hb] at hbf|rw [if_neg (fun e=>e hb)] at hbf
  repeat' (first|refine st_seq_reg rfl (by first|(simp only[go_sem,Lm,hgx,hrl];rfl)|rfl) (by first|(simp only[go_sem,Lm,hgx,hrl];rfl)|rfl) ?_|refine st_reg rfl (by first|(simp only[go_sem,Lm,hgx,hrl];rfl)|rfl) (by first|(simp only[go_sem,Lm,hgx,hrl];rfl)|rfl) ?_|refine st_seq_draw rfl (by first|(simp only[go_sem,Lm,hgx,hrl];rfl)|rfl) (by first|(simp only[go_sem,Lm,hgx,hrl];rfl)|rfl) ?_|refine st_draw rfl (by first|(simp only[go_sem,Lm,hgx,hrl];rfl)|rfl) (by first|(simp only[go_sem,Lm,hgx,hrl];rfl)|rfl) ?_|refine st_op ?_|refine st_det rfl (by simp (disch:=omega) only[go_sem,wr_i64,Lm,hgx,hrl];rfl) ?_|refine st_dop rfl ?_|refine st_loc rfl (by simp (disch:=omega) only[go_sem,wr_i64,Lm,hgx,hrl];rfl) ?_|refine st_heap rfl (by simp (disch:=omega) only[go_sem,wr_i64,Lm,hgx,hrl];rfl) ?_|refine st_store (by simp (disch:=omega) only[go_sem,wr_i64,Lm,hgx,hrl];rfl) ?_|refine st_append (by simp (disch:=omega) only[go_sem,wr_i64,Lm,hgx,hrl];rfl) ?_|(refine st_pureE (by first|(simp (disch:=omega) only[go_sem,Lm,hgx,hrl];rfl)|rfl) rfl (k72) (by first|(simp only[go_sem,Lm,hgx,hrl];rfl)|rfl) (by intro n;first|(simp (disch:=omega) only[go_sem];rfl)|rfl) ?_;intro n hn)|(refine st_appS (by intro h id x y;simp only[go_sem];rfl) rfl (by simp only[go_sem];rfl) (by simp only[go_sem];rfl) (by decide) hS (fun _ _ _=>rfl) (by omega) (by simp only[Lm,List.length_cons,List.length_nil,big];omega) (by omega) (by omega) ?_;intro v g hA)|refine st_gT rfl rfl rfl ?_|refine st_gF rfl rfl rfl ?_|refine st_dgT rfl rfl rfl rfl ?_|refine st_dgF rfl rfl rfl ?_|(refine st_gS rfl rfl ?_ ?_ <;> intro hg <;> (try simp only[dcT,dcF,bnT,bnF] at hg))|(refine st_dgS rfl rfl ?_ ?_ <;> intro hg <;> (try simp only[dcT,dcF,bnT,bnF] at hg))|refine st_condT rfl ?_|refine st_condF rfl ?_|(refine st_condS rfl ?_ ?_ <;> intro hg <;> (try simp only[dcT,dcF,bnT,bnF] at hg))|refine st_nil ?_|refine st_dnil ?_|refine st_tN ?_|refine st_seq ?_|refine st_block ?_|refine st_skip ?_|refine st_exit ?_|refine st_ret ?_|refine st_tE ?_|refine st_tR ?_|refine st_bN ?_|refine st_bR ?_|refine st_bH ?_|refine st_bM rfl ?_)
  all_goals try (exfalso;omega)
 all_goals
  obtain ⟨o1,l1,o2,hS1⟩:(∀ b':Nat × Nat,b'.1 < h.clk→g.at_ b'=h.at_ b')∧g.lp=h.lp∧h.clk≤n∧∀ N,n+1≤N→SlA h.clk (g.tick N) v 3 ((flB l t i 0).map Fl.row):=by
   first
    | exact ⟨m2,m3,by omega,fun N hN=>by rw [hz0,hbf,List.append_nil];exact hS.to (fun _ _ _ _ _=>rfl) (by show g.clk≤N;omega)⟩
    | exact ⟨fun b' hb'=>(hA.old b' hb').trans (m2 b' hb'),hA.lp.trans m3,by omega,fun N hN=>by rw [hz0,hbf,List.map_append];exact hA.sl.to (fun _ _ _ _ _=>rfl) (by show n+1≤N;omega)⟩
  refine st_loopH (α:=AuS) tab mixed [12] [_] (by repeat (first|exact trivial|refine ⟨rfl,?_⟩)) [] [] (by repeat (first|exact trivial|refine ⟨rfl,?_⟩)) (fun a=>[(76,.int .i64 (a.i:Nat)),(11,a.v)]) [(1,_),(2,_),(12,_),(53,_),(54,_),(55,_),(13,_),(14,_),(74,_),(75,_)] (fun a=>[(spS 8 l.fs.length t i a.i).map iA]) [] (fun a=>a.g) (fun a=>a.i≤l.fs.length∧(∀ b':Nat × Nat,b'.1 < h.clk→a.g.at_ b'=h.at_ b')∧a.g.lp=h.lp∧h.clk≤a.g.clk∧SlA h.clk a.g a.v 3 ((flB l t i a.i).map Fl.row)) (fun a=>l.fs.length - a.i) (by decide) ⟨0,v,_⟩ ⟨Nat.zero_le _,(by exact o1),(by exact l1),(by simp only[go_sem];omega),hS1 _ (by omega)⟩ (by (try simp only[go_sem]);repeat' (first|exact trivial|refine And.intro ?_ ?_|rfl|(simp (disch:=omega) only[go_sem,if_yes,if_no,if_no];rfl)|(simp (disch:=omega) only[go_sem,if_yes,if_no,if_no]))) (by (try simp only[go_sem]);repeat' (first|exact trivial|refine And.intro ?_ ?_|rfl|(simp (disch:=omega) only[go_sem,if_yes,if_no,if_no];rfl)|(simp (disch:=omega) only[go_sem,if_yes,if_no,if_no]))) (HOld.refl _) ?_
  rintro ⟨k,w,g2⟩ c3 ⟨q1,q2,q3,q4,hS2⟩ hc3
  dsimp only at q1 q2 q3 q4 hS2 hc3
  simp only[go_sem]
  by_cases hk:k < l.fs.length
  case neg =>
   obtain rfl:k=l.fs.length:=by omega
   rw [flB_row] at hS2
   have hsr:=spS_row (N:=8) (nf:=l.fs.length) (t:=t) (i:=i)
   repeat' (first|refine st_seq_reg rfl (by first|(simp only[go_sem,Lm,hrl];rfl)|rfl) (by first|(simp only[go_sem,Lm,hrl];rfl)|rfl) ?_|refine st_reg rfl (by first|(simp only[go_sem,Lm,hrl];rfl)|rfl) (by first|(simp only[go_sem,Lm,hrl];rfl)|rfl) ?_|refine st_seq_draw rfl (by first|(simp only[go_sem,Lm,hrl];rfl)|rfl) (by first|(simp only[go_sem,Lm,hrl];rfl)|rfl) ?_|refine st_draw rfl (by first|(simp only[go_sem,Lm,hrl];rfl)|rfl) (by first|(simp only[go_sem,Lm,hrl];rfl)|rfl) ?_|refine st_op ?_|refine st_det rfl (by simp (disch:=omega) only[go_sem,wr_i64,Lm,hrl];rfl) ?_|refine st_dop rfl ?_|refine st_loc rfl (by simp (disch:=omega) only[go_sem,wr_i64,Lm,hrl];rfl) ?_|refine st_heap rfl (by simp (disch:=omega) only[go_sem,wr_i64,Lm,hrl];rfl) ?_|refine st_store (by simp (disch:=omega) only[go_sem,wr_i64,Lm,hrl];rfl) ?_|refine st_append (by simp (disch:=omega) only[go_sem,wr_i64,Lm,hrl];rfl) ?_|refine st_gT rfl rfl rfl ?_|refine st_gF rfl rfl rfl ?_|refine st_dgT rfl rfl rfl rfl ?_|refine st_dgF rfl rfl rfl ?_|(refine st_gS rfl rfl ?_ ?_ <;> intro hg <;> (try simp only[dcT,dcF,bnT,bnF] at hg))|(refine st_dgS rfl rfl ?_ ?_ <;> intro hg <;> (try simp only[dcT,dcF,bnT,bnF] at hg))|refine st_condT rfl ?_|refine st_condF rfl ?_|(refine st_condS rfl ?_ ?_ <;> intro hg <;> (try simp only[dcT,dcF,bnT,bnF] at hg))|refine st_nil ?_|refine st_dnil ?_|refine st_tN ?_|refine st_seq ?_|refine st_block ?_|refine st_skip ?_|refine st_exit ?_|refine st_ret ?_|refine st_tE ?_|refine st_tR ?_|refine st_bN ?_|refine st_bR ?_|refine st_bH ?_|refine st_bM rfl ?_)
   all_goals try (exfalso;omega)
   refine ⟨⟨i+1,w,_⟩,⟨by show i+1≤t.length;omega,(by exact q2),(by exact q3),(by simp only[go_sem];omega),(by exact hS2.to (fun _ _ _ _ _=>rfl) (by simp only[go_sem];omega))⟩,by show t.length - (i+1) < t.length - i;omega,(by (try (simp only[hsr,go_sem]));repeat' (first|exact trivial|refine And.intro ?_ ?_|rfl|(simp (disch:=omega) only[go_sem,if_yes,if_no,if_no];rfl)|(simp (disch:=omega) only[go_sem,if_yes,if_no,if_no]))),(by (try (simp only[hsr,go_sem]));repeat' (first|exact trivial|refine And.intro ?_ ?_|rfl|(simp (disch:=omega) only[go_sem,if_yes,if_no,if_no];rfl)|(simp (disch:=omega) only[go_sem,if_yes,if_no,if_no]))),rfl,HOld.refl _⟩
  have hfb:=flB_len l t hfn i k
  have hnx:=flB_next l t i k
  have hsk:=spS_len 8 l.fs.length t i k
  have hgk:(spS 8 l.fs.length t i k).getD k 0=spV l.fs.length t i k k:=spS_get (by omega)
  have hvb:=spV_bd hT (i:=i) (k:=k) (f:=k) (.inl hib)
  have hvt:=hT.elt hib k
  have he:(lel t i).getD k 0=elt (lel t i) k:=rfl
  have hn1:(spS 8 l.fs.length t i k).set k (spV l.fs.length t i k k+elt (lel t i) k)=spS 8 l.fs.length t i (k+1):=by rw [← hgk];exact spS_next hk hfn
  have p1:=iA_put (l:=spS 8 l.fs.length t i k) (j:=k) (v:=spV l.fs.length t i k k+elt (lel t i) k) (by omega)
  rw [hn1] at p1
  have k58:=c24o hl hk hib
  have huf:useF l t i k=if 0 < elt (lel t i) k∧payB (fd l.fs k) (bl l.bs i)=false then [⟨2,(i:Nat),(k:Nat)⟩] else []:=rfl
  by_cases hu:0 < elt (lel t i) k∧payB (fd l.fs k) (bl l.bs i)=false
  ·rw [if_pos hu] at huf
   rw [hu.2] at k58
   repeat' (first|refine st_seq_reg rfl (by first|(simp only[go_sem,Lm,Nat.zero_add,hgk,hsk,he];rfl)|rfl) (by first|(simp only[go_sem,Lm,Nat.zero_add,hgk,hsk,he];rfl)|rfl) ?_|refine st_reg rfl (by first|(simp only[go_sem,Lm,Nat.zero_add,hgk,hsk,he];rfl)|rfl) (by first|(simp only[go_sem,Lm,Nat.zero_add,hgk,hsk,he];rfl)|rfl) ?_|refine st_seq_draw rfl (by first|(simp only[go_sem,Lm,Nat.zero_add,hgk,hsk,he];rfl)|rfl) (by first|(simp only[go_sem,Lm,Nat.zero_add,hgk,hsk,he];rfl)|rfl) ?_|refine st_draw rfl (by first|(simp only[go_sem,Lm,Nat.zero_add,hgk,hsk,he];rfl)|rfl) (by first|(simp only[go_sem,Lm,Nat.zero_add,hgk,hsk,he];rfl)|rfl) ?_|refine st_op ?_|refine st_det rfl (by simp (disch:=omega) only[go_sem,wr_i64,Lm,Nat.zero_add,hgk,hsk,he];rfl) ?_|refine st_dop rfl ?_|refine st_loc rfl (by simp (disch:=omega) only[go_sem,wr_i64,Lm,Nat.zero_add,hgk,hsk,he];rfl) ?_|refine st_heap rfl (by simp (disch:=omega) only[go_sem,wr_i64,Lm,Nat.zero_add,hgk,hsk,he];rfl) ?_|refine st_store (by simp (disch:=omega) only[go_sem,wr_i64,Lm,Nat.zero_add,hgk,hsk,he];rfl) ?_|refine st_append (by simp (disch:=omega) only[go_sem,wr_i64,Lm,Nat.zero_add,hgk,hsk,he];rfl) ?_|(refine st_pureE (by first|(simp (disch:=omega) only[go_sem,Lm,Nat.zero_add,hgk,hsk,he];rfl)|rfl) rfl (k58) (by first|(simp only[go_sem,Lm,Nat.zero_add,hgk,hsk,he];rfl)|rfl) (by intro n;first|(simp (disch:=omega) only[go_sem];rfl)|rfl) ?_;intro n hn)|(refine st_appS (by intro h id x y;simp only[go_sem];rfl) rfl (by simp only[go_sem];rfl) (by simp only[go_sem];rfl) (by decide) hS2 (fun _ _ _=>rfl) (by omega) (by simp only[Lm,List.length_cons,List.length_nil,big];omega) (by omega) (by omega) ?_;intro v g hA)|refine st_gT rfl rfl rfl ?_|refine st_gF rfl rfl rfl ?_|refine st_dgT rfl rfl rfl rfl ?_|refine st_dgF rfl rfl rfl ?_|(refine st_gS rfl rfl ?_ ?_ <;> intro hg <;> (try simp only[dcT,dcF,bnT,bnF] at hg))|(refine st_dgS rfl rfl ?_ ?_ <;> intro hg <;> (try simp only[dcT,dcF,bnT,bnF] at hg))|refine st_condT rfl ?_|refine st_condF rfl ?_|(refine st_condS rfl ?_ ?_ <;> intro hg <;> (try simp only[dcT,dcF,bnT,bnF] at hg))|refine st_nil ?_|refine st_dnil ?_|refine st_tN ?_|refine st_seq ?_|refine st_block ?_|refine st_skip ?_|refine st_exit ?_|refine st_ret ?_|refine st_tE ?_|refine st_tR ?_|refine st_bN ?_|refine st_bR ?_|refine st_bH ?_|refine st_bM rfl ?_)
   all_goals try (exfalso;omega)
   refine ⟨⟨k+1,v,_⟩,⟨by show k+1≤l.fs.length;omega,(by exact fun b' hb'=>(hA.old b' hb').trans (q2 b' hb')),(by exact hA.lp.trans q3),(by simp only[go_sem];omega),(by rw [hnx,huf,List.map_append];exact hA.sl.to (fun _ _ _ _ _=>rfl) (by simp only[go_sem];omega))⟩,by show l.fs.length - (k+1) < l.fs.length - k;omega,(by (try (simp only[← p1,Nat.zero_add,go_sem]));repeat' (first|exact trivial|refine And.intro ?_ ?_|rfl|(simp (disch:=omega) only[go_sem,if_yes,if_no,if_no];rfl)|(simp (disch:=omega) only[go_sem,if_yes,if_no,if_no]))),(by (try (simp only[← p1,Nat.zero_add,go_sem]));repeat' (first|exact trivial|refine And.intro ?_ ?_|rfl|(simp (disch:=omega) only[go_sem,if_yes,if_no,if_no];rfl)|(simp (disch:=omega) only[go_sem,if_yes,if_no,if_no]))),rfl,HOld.refl _⟩
  ·rw [if_neg hu] at huf
   cases hpy:payB (fd l.fs k) (bl l.bs i)
   all_goals
    rw [hpy] at k58 hu
    repeat' (first|refine st_seq_reg rfl (by first|(simp only[go_sem,Lm,Nat.zero_add,hgk,hsk,he];rfl)|rfl) (by first|(simp only[go_sem,Lm,Nat.zero_add,hgk,hsk,he];rfl)|rfl) ?_|refine st_reg rfl (by first|(simp only[go_sem,Lm,Nat.zero_add,hgk,hsk,he];rfl)|rfl) (by first|(simp only[go_sem,Lm,Nat.zero_add,hgk,hsk,he];rfl)|rfl) ?_|refine st_seq_draw rfl (by first|(simp only[go_sem,Lm,Nat.zero_add,hgk,hsk,he];rfl)|rfl) (by first|(simp only[go_sem,Lm,Nat.zero_add,hgk,hsk,he];rfl)|rfl) ?_|refine st_draw rfl (by first|(simp only[go_sem,Lm,Nat.zero_add,hgk,hsk,he];rfl)|rfl) (by first|(simp only[go_sem,Lm,Nat.zero_add,hgk,hsk,he];rfl)|rfl) ?_|refine st_op ?_|refine st_det rfl (by simp (disch:=omega) only[go_sem,wr_i64,Lm,Nat.zero_add,hgk,hsk,he];rfl) ?_|refine st_dop rfl ?_|refine st_loc rfl (by simp (disch:=omega) only[go_sem,wr_i64,Lm,Nat.zero_add,hgk,hsk,he];rfl) ?_|refine st_heap rfl (by simp (disch:=omega) only[go_sem,wr_i64,Lm,Nat.zero_add,hgk,hsk,he];rfl) ?_|refine st_store (by simp (disch:=omega) only[go_sem,wr_i64,Lm,Nat.zero_add,hgk,hsk,he];rfl) ?_|refine st_append (by simp (disch:=omega) only[go_sem,wr_i64,Lm,Nat.zero_add,hgk,hsk,he];rfl) ?_|(refine st_pureE (by first|(simp (disch:=omega) only[go_sem,Lm,Nat.zero_add,hgk,hsk,he];rfl)|rfl) rfl (k58) (by first|(simp only[go_sem,Lm,Nat.zero_add,hgk,hsk,he];rfl)|rfl) (by intro n;first|(simp (disch:=omega) only[go_sem];rfl)|rfl) ?_;intro n hn)|refine st_gT rfl rfl rfl ?_|refine st_gF rfl rfl rfl ?_|refine st_dgT rfl rfl rfl rfl ?_|refine st_dgF rfl rfl rfl ?_|(refine st_gS rfl rfl ?_ ?_ <;> intro hg <;> (try simp only[dcT,dcF,bnT,bnF] at hg))|(refine st_dgS rfl rfl ?_ ?_ <;> intro hg <;> (try simp only[dcT,dcF,bnT,bnF] at hg))|refine st_condT rfl ?_|refine st_condF rfl ?_|(refine st_condS rfl ?_ ?_ <;> intro hg <;> (try simp only[dcT,dcF,bnT,bnF] at hg))|refine st_nil ?_|refine st_dnil ?_|refine st_tN ?_|refine st_seq ?_|refine st_block ?_|refine st_skip ?_|refine st_exit ?_|refine st_ret ?_|refine st_tE ?_|refine st_tR ?_|refine st_bN ?_|refine st_bR ?_|refine st_bH ?_|refine st_bM rfl ?_)
    all_goals try (exfalso;omega)
    all_goals
     first
      | (exfalso;exact hu ⟨by omega,by decide⟩)
      | skip
    all_goals
     refine ⟨⟨k+1,w,_⟩,⟨by show k+1≤l.fs.length;omega,(by exact q2),(by exact q3),(by simp only[go_sem];omega),(by rw [hnx,huf,List.append_nil];exact hS2.to (fun _ _ _ _ _=>rfl) (by simp only[go_sem];omega))⟩,by show l.fs.length - (k+1) < l.fs.length - k;omega,(by (try (simp only[← p1,Nat.zero_add,go_sem]));repeat' (first|exact trivial|refine And.intro ?_ ?_|rfl|(simp (disch:=omega) only[go_sem,if_yes,if_no,if_no];rfl)|(simp (disch:=omega) only[go_sem,if_yes,if_no,if_no]))),(by (try (simp only[← p1,Nat.zero_add,go_sem]));repeat' (first|exact trivial|refine And.intro ?_ ?_|rfl|(simp (disch:=omega) only[go_sem,if_yes,if_no,if_no];rfl)|(simp (disch:=omega) only[go_sem,if_yes,if_no,if_no]))),rfl,HOld.refl _⟩
end Go.Proofs.YtefogfgddofdmaaDoor
