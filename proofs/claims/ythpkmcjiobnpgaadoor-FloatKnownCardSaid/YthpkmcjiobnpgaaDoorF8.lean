/- Contracts of functions that the claim reaches: what each call gives, told in our own logic. Conditions: those of each theorem. -/
import Derived.Test.YthpkmcjiobnpgaaDoorF7
import Derived.Test.YthpkmcjiobnpgaaDoorX1
import Derived.Test.YthpkmcjiobnpgaaDoorBaseC
import Derived.Test.YthpkmcjiobnpgaaDoorF3b
set_option linter.all false
set_option linter.unusedSimpArgs false
set_option linter.unusedVariables false
namespace Go.Proofs.YthpkmcjiobnpgaaDoor
open Go.Av
attribute [local irreducible] thenA blockA awp awpOps awpD awp1
attribute [local go_sem_proc] Nat.reduceAdd Nat.reduceMul Nat.reduceEqDiff Nat.reduceBEq Nat.reduceLeDiff
attribute [local go_sem_proc ↓] reduceIte
attribute [local go_sem] if_yes if_no
set_option maxHeartbeats 8000000
set_option maxRecDepth 20000
def turnsP (f:Fl) (x:Hu) (r:Int):Prop:=f.turn≤r∧2 * x.a≤2 * r - f.wid∧outR f r≤4 * x.b * x.b
instance (f:Fl) (x:Hu) (r:Int):Decidable (turnsP f x r):=by unfold turnsP;infer_instance
def bothE (f:Fl) (r:List Hu):Int:=if chkE f ≠ 0 then chkE f else routeE r
theorem c36 (f:Fl) (r:List Hu):Pure Tryd.prog 36 [f.av,.lst 3 (r.map Hu.row)] (fun v=>v=.int .i64 (bothE f r)):=by
 intro h
 refine ACalls.forget (ACalls.of tab mixed Tryd.call36 Tryd.func36 rfl (fi:=⟨13,[],[2],none,[]⟩) rfl rfl (Nat.le_of_ble_eq_true rfl) (by decide) ?_)
 unfold startA
 simp only[go_sem]
 repeat' (first|refine st_seq_reg rfl (by first|(simp only[go_sem];rfl)|rfl) (by first|(simp only[go_sem];rfl)|rfl) ?_|refine st_reg rfl (by first|(simp only[go_sem];rfl)|rfl) (by first|(simp only[go_sem];rfl)|rfl) ?_|refine st_op ?_|refine st_det rfl (by simp (disch:=omega) only[go_sem,wr_i64];rfl) ?_|refine st_loc rfl (by simp (disch:=omega) only[go_sem,wr_i64];rfl) ?_|refine st_heap rfl (by simp (disch:=omega) only[go_sem,wr_i64];rfl) ?_|(refine st_pureE (by first|(simp (disch:=omega) only[go_sem];rfl)|rfl) rfl (c6 f) (by first|(simp only[go_sem];rfl)|rfl) (by intro n;first|(simp (disch:=omega) only[go_sem];rfl)|rfl) ?_;intro n hn)|(refine st_pureE (by first|(simp (disch:=omega) only[go_sem];rfl)|rfl) rfl (c56 r) (by first|(simp only[go_sem];rfl)|rfl) (by intro n;first|(simp (disch:=omega) only[go_sem];rfl)|rfl) ?_;intro n hn)|refine st_condT rfl ?_|refine st_condF rfl ?_|(refine st_condS rfl ?_ ?_ <;> intro hg <;> (try simp only[dcT,dcF,bnT,bnF] at hg))|refine st_nil ?_|refine st_tN ?_|refine st_seq ?_|refine st_skip ?_|refine st_ret ?_|refine st_tE ?_|refine st_tR ?_)
 all_goals
  simp (disch:=omega) only[AEnd,Tryd.results36,aresK,fin,go_sem,implies_true,true_and,and_true,List.reverse_cons,List.reverse_nil]
  all_goals simp [bothE, *]
theorem frz_hu (b:Bid) (k:Blk) (l:List Hu):frzss b k (l.map Hu.row)=l.map Hu.row:=by
 rw [frzss_map,List.map_map];rfl
theorem frz_ld (b:Bid) (k:Blk) (l:List Ld):frzss b k (l.map Ld.row)=l.map Ld.row:=by
 rw [frzss_map,List.map_map];rfl
def vfn (f:Fl) (p m:Int) (r:List Hu):AV:=.fn (.func 58) [] [.iptr [.lst 3 (r.map Hu.row)] 0,.iptr [.fn (.func 57) [Tk.av f p m] []] 0]
theorem c37 (f:Fl) (p m:Int) (r:List Hu):Pure Tryd.prog 37 [Tk.av f p m,.lst 3 (r.map Hu.row)] (fun v=>v=vfn f p m r):=by
 refine Pure.give Tryd.call37 fun h hold=>?_
 refine ACalls.of tab mixed Tryd.call37 Tryd.func37 rfl (fi:=⟨9,[],[2,3],none,[]⟩) rfl rfl (Nat.le_of_ble_eq_true rfl) (by decide) ?_
 unfold startA
 simp only[go_sem]
 repeat' (first|refine st_seq_reg rfl (by first|(simp only[go_sem];rfl)|rfl) (by first|(simp only[go_sem];rfl)|rfl) ?_|refine st_reg rfl (by first|(simp only[go_sem];rfl)|rfl) (by first|(simp only[go_sem];rfl)|rfl) ?_|refine st_op ?_|refine st_det rfl (by simp (disch:=omega) only[go_sem,wr_i64];rfl) ?_|refine st_loc rfl (by simp (disch:=omega) only[go_sem,wr_i64];rfl) ?_|refine st_heap rfl (by simp (disch:=omega) only[go_sem,wr_i64];rfl) ?_|refine st_store (by simp (disch:=omega) only[go_sem,wr_i64];rfl) ?_|refine st_nil ?_|refine st_tN ?_|refine st_seq ?_|refine st_skip ?_|refine st_ret ?_|refine st_tE ?_|refine st_tR ?_)
 simp (disch:=omega) only[AEnd,Tryd.results37,aresK,fin,go_sem,implies_true,true_and,and_true,List.reverse_cons,List.reverse_nil]
 refine ⟨fun b' h1=>if_neg (fun e=>?_),.inr ⟨(h.clk+1,5),_,Nat.le_succ _,if_pos rfl,?_⟩⟩
 ·rw [e] at h1;exact absurd h1 (Nat.not_lt.2 (Nat.le_succ _))
 ·simp [frz,frzs,vfn,Tk.av,frz_hu,frz_ld]
theorem c58 (f:Fl) (p m:Int) (r:List Hu) (l:Nat) (hf:FlOk f) (hp:0≤p∧p≤3000) (hm:0≤m∧m≤100000) (hr:∀ x ∈ r,HuOk x) (hl:r.length≤1000) (I:Nat→AH→Prop) (D:AH→Prop) (hI:∀ i h n,I i h→h.clk≤n→I i (h.tick n))
  (hD:∀ h n,D h→h.clk≤n→D (h.tick n)) (hy:∀ i h,i < r.length→I i h→AYields Tryd.prog l [.int .i64 i,.int .i64 (pV f p m (hu r i))] h (fun v h'=>(v=.bool true∧I (i+1) h') ∨ (v=.bool false∧D h'))) (h:AH) (h0:I 0 h) :
  ACalls Tryd.prog 58 [.fn (.yield l) [] [],.iptr [.lst 3 (r.map Hu.row)] 0,.iptr [.fn (.func 57) [Tk.av f p m] []] 0] h (fun _ h'=>I r.length h' ∨ D h'):=by
 refine ACalls.of tab mixed Tryd.call58 Tryd.func58 rfl (fi:=⟨21,[5],[],none,[]⟩) rfl rfl (Nat.le_of_ble_eq_true rfl) (by decide) ?_
 unfold startA
 simp only[go_sem]
 repeat' (first|refine st_seq_reg rfl (by first|(simp only[go_sem];rfl)|rfl) (by first|(simp only[go_sem];rfl)|rfl) ?_|refine st_reg rfl (by first|(simp only[go_sem];rfl)|rfl) (by first|(simp only[go_sem];rfl)|rfl) ?_|refine st_op ?_|refine st_det rfl (by simp (disch:=omega) only[go_sem,wr_i64];rfl) ?_|refine st_loc rfl (by simp (disch:=omega) only[go_sem,wr_i64];rfl) ?_|refine st_heap rfl (by simp (disch:=omega) only[go_sem,wr_i64];rfl) ?_|refine st_store (by simp (disch:=omega) only[go_sem,wr_i64];rfl) ?_|refine st_condT rfl ?_|refine st_condF rfl ?_|(refine st_condS rfl ?_ ?_ <;> intro hg <;> (try simp only[dcT,dcF,bnT,bnF] at hg))|refine st_nil ?_|refine st_tN ?_|refine st_seq ?_|refine st_block ?_|refine st_skip ?_|refine st_exit ?_|refine st_ret ?_|refine st_tE ?_|refine st_tR ?_|refine st_bN ?_|refine st_bR ?_|refine st_bH ?_|refine st_bM rfl ?_)
 refine st_loopH (α:=Nat × AH) tab mixed [] [] (by repeat (first|exact trivial|refine ⟨rfl,?_⟩)) [] [] (by repeat (first|exact trivial|refine ⟨rfl,?_⟩)) (fun a=>[(8,.int .i64 a.1)]) [(0,_),(2,_),(6,_),(7,_)] (fun _=>[]) [] (fun a=>a.2) (fun a=>a.1≤r.length∧I a.1 a.2) (fun a=>r.length - a.1) (by decide) (0,h) ⟨by omega,h0⟩ (by (try simp only[go_sem]);repeat' (first|exact trivial|refine And.intro ?_ ?_|rfl|(simp (disch:=omega) only[go_sem,if_yes,if_no,if_no];rfl)|(simp (disch:=omega) only[go_sem,if_yes,if_no,if_no]))) (by (try simp only[go_sem]);repeat' (first|exact trivial|refine And.intro ?_ ?_|rfl|(simp (disch:=omega) only[go_sem,if_yes,if_no,if_no];rfl)|(simp (disch:=omega) only[go_sem,if_yes,if_no,if_no]))) (HOld.tick (by simp only[go_sem];omega)) ?_
 rintro ⟨i,g⟩ c ⟨hi',hi⟩ hc
 simp only[go_sem] at hc
 simp only[go_sem]
 repeat' (first|refine st_seq_reg rfl (by first|(simp only[go_sem];rfl)|rfl) (by first|(simp only[go_sem];rfl)|rfl) ?_|refine st_reg rfl (by first|(simp only[go_sem];rfl)|rfl) (by first|(simp only[go_sem];rfl)|rfl) ?_|refine st_op ?_|refine st_det rfl (by simp (disch:=omega) only[go_sem,wr_i64];rfl) ?_|refine st_loc rfl (by simp (disch:=omega) only[go_sem,wr_i64];rfl) ?_|refine st_heap rfl (by simp (disch:=omega) only[go_sem,wr_i64];rfl) ?_|refine st_store (by simp (disch:=omega) only[go_sem,wr_i64];rfl) ?_|(refine st_pureV (by first|(simp only[go_sem];rfl)|rfl) (by first|(simp (disch:=omega) only[go_sem];rfl)|rfl) rfl (c57 f p m (hu r i) hf hp hm (hr _ (hu_mem (by omega)))) (by first|(simp only[go_sem];rfl)|rfl) (by intro n;first|(simp (disch:=omega) only[go_sem];rfl)|rfl) ?_;intro v n hv hn;subst hv)|(refine st_yield rfl (by first|(simp (disch:=omega) only[go_sem];rfl)|(simp (disch:=omega) only[go_sem])) rfl (hy i _ (by omega) (hI i g _ hi (by omega))) ?_;rintro v h' (⟨rfl,hi2⟩|⟨rfl,hd⟩))|refine st_condT rfl ?_|refine st_condF rfl ?_|(refine st_condS rfl ?_ ?_ <;> intro hg <;> (try simp only[dcT,dcF,bnT,bnF] at hg))|refine st_nil ?_|refine st_tN ?_|refine st_seq ?_|refine st_block ?_|refine st_skip ?_|refine st_exit ?_|refine st_ret ?_|refine st_tE ?_|refine st_tR ?_|refine st_bN ?_|refine st_bR ?_|refine st_bH ?_|refine st_bM rfl ?_)
 ·refine ⟨(i+1,h'),⟨by omega,hi2⟩,by omega,(by repeat' (first|exact trivial|refine And.intro ?_ ?_|rfl|(simp (disch:=omega) only[go_sem,if_yes,if_no,if_no];rfl)|(simp (disch:=omega) only[go_sem,if_yes,if_no,if_no]))),(by repeat' (first|exact trivial|refine And.intro ?_ ?_|rfl|(simp (disch:=omega) only[go_sem,if_yes,if_no,if_no];rfl)|(simp (disch:=omega) only[go_sem,if_yes,if_no,if_no]))),rfl,HOld.tick (Nat.le_succ _)⟩
 ·simp (disch:=omega) only[AEnd,Tryd.results58,aresK,fin,go_sem,implies_true,true_and,and_true,List.reverse_cons,List.reverse_nil]
  exact .inr (hD _ _ hd (by omega))
 ·simp (disch:=omega) only[AEnd,Tryd.results58,aresK,fin,go_sem,implies_true,true_and,and_true,List.reverse_cons,List.reverse_nil]
  have e:i=r.length:=by omega
  subst e
  exact .inl (hI _ _ _ hi (by omega))
def pVs (f:Fl) (p m:Int) (r:List Hu):List Int:=r.map (pV f p m)
@[go_sem] theorem pVs_len (f:Fl) (p m:Int) (r:List Hu):(pVs f p m r).length=r.length:=by simp [pVs]
theorem pVs_take {f:Fl} {p m:Int} {r:List Hu} {i:Nat} (h:i < r.length):((pVs f p m r).take (i+1)).map iv=((pVs f p m r).take i).map iv ++ [[.int .i64 (pV f p m (hu r i))]]:=by
 have h':i < (pVs f p m r).length:=by rw [pVs_len];exact h
 rw [List.take_succ_eq_append_getElem h',List.map_append]
 congr 1
 simp [pVs,iv,hu,List.getD_eq_getElem?_getD,h]
theorem routeOk {r:List Hu} (h:routeE r=0):∀ x ∈ r,HuOk x:=by
 have aux:∀ l:List Hu,hurdlesE l=0→∀ x ∈ l,HuOk x:=by
  intro l
  induction l with
  | nil=>intro _ x hx;cases hx
  | cons y l ih =>
   intro he x hx
   unfold hurdlesE at he
   split at he
   ·omega
   ·rename_i hy
    rcases List.mem_cons.1 hx with rfl|hx
    ·have hy':hurdleE x=0:=by omega
     unfold hurdleE at hy'
     refine ⟨?_,?_,?_⟩ <;> (repeat' split at hy') <;> omega
    ·exact ih he x hx
 unfold routeE at h
 split at h
 ·omega
 ·exact aux r h
theorem routeLen {r:List Hu} (h:routeE r=0):r.length≤40:=by
 unfold routeE at h
 split at h
 ·omega
 ·omega
theorem chkOk {f:Fl} (h:chkE f=0):FlOk f:=by
 have aux:∀ l:List Ld,loadsE f l=0→(0≤f.front∧f.rear≤3000)→∀ x ∈ l,LdOk x:=by
  intro l
  induction l with
  | nil=>intro _ _ x hx;cases hx
  | cons y l ih =>
   intro he hb x hx
   unfold loadsE at he
   split at he
   ·omega
   ·rename_i hy
    rcases List.mem_cons.1 hx with rfl|hx
    ·have hy':loadE f x=0:=by omega
     unfold loadE spanE at hy'
     unfold LdOk
     (repeat' split at hy') <;> omega
    ·exact ih he hb x hx
 unfold chkE at h
 (repeat' split at h) <;> try omega
 refine ⟨by omega,by omega,by omega,by omega,by omega,by omega,by omega,by omega,aux _ h (by omega)⟩
def passV (f:Fl) (r:List Hu):AV:=if bothE f r ≠ 0 then .tup [.lst 1 [],.int .i64 (bothE f r)] else .tup [.lst 1 ((pVs f 0 0 r).map iv),.int .i64 0]
theorem c16 (f:Fl) (r:List Hu):Pure Tryd.prog 16 [f.av,.lst 3 (r.map Hu.row)] (fun v=>v=passV f r):=by
 refine Pure.give Tryd.call16 fun h hold=>?_
 refine ACalls.of tab mixed Tryd.call16 Tryd.func16 rfl (fi:=⟨27,[],[2,24],none,[]⟩) rfl rfl (Nat.le_of_ble_eq_true rfl) (by decide) ?_
 unfold startA
 simp only[go_sem]
 repeat' (first|refine st_seq_reg rfl (by first|(simp only[go_sem];rfl)|rfl) (by first|(simp only[go_sem];rfl)|rfl) ?_|refine st_reg rfl (by first|(simp only[go_sem];rfl)|rfl) (by first|(simp only[go_sem];rfl)|rfl) ?_|refine st_op ?_|refine st_det rfl (by simp (disch:=omega) only[go_sem,wr_i64];rfl) ?_|refine st_loc rfl (by simp (disch:=omega) only[go_sem,wr_i64];rfl) ?_|refine st_heap rfl (by simp (disch:=omega) only[go_sem,wr_i64];rfl) ?_|refine st_store (by simp (disch:=omega) only[go_sem,wr_i64];rfl) ?_|refine st_append (by simp (disch:=omega) only[go_sem,wr_i64];rfl) ?_|(refine st_pureE (by first|(simp (disch:=omega) only[go_sem];rfl)|rfl) rfl (c36 f r) (by first|(simp only[go_sem];rfl)|rfl) (by intro n;first|(simp (disch:=omega) only[go_sem];rfl)|rfl) ?_;intro n hn)|(refine st_pureE (by first|(simp (disch:=omega) only[go_sem];rfl)|rfl) rfl (c37 f 0 0 r) (by first|(simp only[go_sem];rfl)|rfl) (by intro n;first|(simp (disch:=omega) only[go_sem];rfl)|rfl) ?_;intro n hn)|refine st_condT rfl ?_|refine st_condF rfl ?_|(refine st_condS rfl ?_ ?_ <;> intro hg <;> (try simp only[dcT,dcF,bnT,bnF] at hg))|refine st_nil ?_|refine st_tN ?_|refine st_seq ?_|refine st_block ?_|refine st_skip ?_|refine st_exit ?_|refine st_ret ?_|refine st_tE ?_|refine st_tR ?_|refine st_bN ?_|refine st_bR ?_|refine st_bH ?_|refine st_bM rfl ?_|refine st_noN ?_|refine st_noR ?_|refine st_noE ?_|refine st_label ?_|refine st_scope tab mixed (by decide) ?_)
 ·simp (disch:=omega) only[AEnd,Tryd.results16,aresK,fin,go_sem,implies_true,true_and,and_true,List.reverse_cons,List.reverse_nil]
  exact .inl ⟨.tup [.lst 1 [],.int .i64 (bothE f r)],VLe.tup (by simp only[VLes];exact ⟨_,_,rfl,VLe.nils 1,_,_,rfl,VLe.refl _,rfl⟩),by unfold passV;rw [if_pos hg]⟩
 rename_i n1 hn1
 have hb:bothE f r=0:=by omega
 have hc0:chkE f=0:=by unfold bothE at hb;split at hb <;> omega
 have hr0:routeE r=0:=by unfold bothE at hb;split at hb <;> omega
 have hf:=chkOk hc0
 have hl:=routeLen hr0
 have hv:passV f r=.tup [.lst 1 ((pVs f 0 0 r).map iv),.int .i64 0]:=by unfold passV;rw [if_neg (by omega)]
 refine st_rangeFunc rfl (by simp only[go_sem];rfl) (fun l D R hR hlp=>?_)
 simp only[go_sem] at hlp
 let I:Nat→AH→Prop:=fun i g=>g.lp l=some R∧n1+1+1≤g.clk∧(∀ b':Bid,b'.1 < h.clk→g.at_ b'=h.at_ b')∧(∀ l',l' ≠ l→g.lp l'=h.lp l') ∧
  ((i=0∧g.at_ (n1+1,7)=some ⟨1,[[.nils]]⟩) ∨ ∃ bs:Nat × Nat,n1+1 < bs.1∧bs.1 < g.clk∧g.at_ (n1+1,7)=some ⟨1,[[.slc bs 1 0 i]]⟩∧g.at_ bs=some ⟨1,((pVs f 0 0 r).take i).map iv⟩)
 refine (c58 f 0 0 r l hf ⟨by omega,by omega⟩ ⟨by omega,by omega⟩ (routeOk hr0) (by omega) I (fun _=>False) ?_ ?_ ?_ _ ?_).mono ?_
 ·rintro i g n ⟨h1,h2,h3,h4,h5⟩ hn
  refine ⟨h1,by simp only[go_sem];omega,h3,h4,?_⟩
  rcases h5 with h5|⟨bs,g1,g2,g3,g4⟩
  ·exact .inl h5
  ·exact .inr ⟨bs,g1,by simp only[go_sem];omega,g3,g4⟩
 ·exact fun _ _ h _=>h
 ·rintro i g hi ⟨h1,h2,h3,h4,h5⟩
  refine AYields.canon tab mixed [] [2,24] [] hR h1 rfl (by intro p hp;simp at hp;rcases hp with rfl|rfl <;> decide) [(21,.int .i64 (pV f 0 0 (hu r i))),(7,.ptr (n1+1,7) 0 0)] ⟨rfl,rfl,trivial⟩ rfl rfl ?_
  simp only[go_sem]
  repeat' (first|refine st_seq_reg rfl (by first|(simp only[go_sem];rfl)|rfl) (by first|(simp only[go_sem];rfl)|rfl) ?_|refine st_reg rfl (by first|(simp only[go_sem];rfl)|rfl) (by first|(simp only[go_sem];rfl)|rfl) ?_|refine st_op ?_|refine st_det rfl (by simp (disch:=omega) only[go_sem,wr_i64];rfl) ?_|refine st_loc rfl (by simp (disch:=omega) only[go_sem,wr_i64];rfl) ?_|refine st_heap rfl (by simp (disch:=omega) only[go_sem,wr_i64];rfl) ?_|refine st_store (by simp (disch:=omega) only[go_sem,wr_i64];rfl) ?_|refine st_append (by simp (disch:=omega) only[go_sem,wr_i64];rfl) ?_|refine st_condT rfl ?_|refine st_condF rfl ?_|(refine st_condS rfl ?_ ?_ <;> intro hg <;> (try simp only[dcT,dcF,bnT,bnF] at hg))|refine st_nil ?_|refine st_tN ?_|refine st_seq ?_|refine st_block ?_|refine st_skip ?_|refine st_exit ?_|refine st_ret ?_|refine st_tE ?_|refine st_tR ?_|refine st_bN ?_|refine st_bR ?_|refine st_bH ?_|refine st_bM rfl ?_|refine st_noN ?_|refine st_noR ?_|refine st_noE ?_|refine st_label ?_|refine st_scope tab mixed (by decide) ?_)
  refine ⟨h1,?_⟩
  dsimp only
  have hne0:∀ b':Nat × Nat,b'.1 < h.clk→¬ b'=(n1+1,7):=fun b' hb' e=>by rw [e] at hb';exact absurd hb' (by show ¬ (n1+1 < h.clk);omega)
  have hne1:∀ b':Nat × Nat,b'.1 < h.clk→¬ b'=(g.clk+1,25):=fun b' hb' e=>by rw [e] at hb';exact absurd hb' (by show ¬ (g.clk+1 < h.clk);omega)
  have hne2:¬ ((g.clk+1,25):Nat × Nat)=(n1+1,7):=fun e=>by cases e
  rcases h5 with ⟨rfl,h5⟩|⟨bs,g1,g2,g3,g4⟩
  ·repeat' (first|refine st_seq_reg rfl (by first|(simp only[go_sem,h5,big];rfl)|rfl) (by first|(simp only[go_sem,h5,big];rfl)|rfl) ?_|refine st_reg rfl (by first|(simp only[go_sem,h5,big];rfl)|rfl) (by first|(simp only[go_sem,h5,big];rfl)|rfl) ?_|refine st_op ?_|refine st_det rfl (by simp (disch:=omega) only[go_sem,wr_i64,h5,big];rfl) ?_|refine st_loc rfl (by simp (disch:=omega) only[go_sem,wr_i64,h5,big];rfl) ?_|refine st_heap rfl (by simp (disch:=omega) only[go_sem,wr_i64,h5,big];rfl) ?_|refine st_store (by simp (disch:=omega) only[go_sem,wr_i64,h5,big];rfl) ?_|refine st_append (by simp (disch:=omega) only[go_sem,wr_i64,h5,big];rfl) ?_|refine st_condT rfl ?_|refine st_condF rfl ?_|(refine st_condS rfl ?_ ?_ <;> intro hg <;> (try simp only[dcT,dcF,bnT,bnF] at hg))|refine st_nil ?_|refine st_tN ?_|refine st_seq ?_|refine st_block ?_|refine st_skip ?_|refine st_exit ?_|refine st_ret ?_|refine st_tE ?_|refine st_tR ?_|refine st_bN ?_|refine st_bR ?_|refine st_bH ?_|refine st_bM rfl ?_|refine st_noN ?_|refine st_noR ?_|refine st_noE ?_|refine st_label ?_|refine st_scope tab mixed (by decide) ?_)
   refine ⟨by simp only[go_sem],.inl ⟨rfl,lpSet_same _ _ _,by simp only[go_sem];omega,fun b' hb'=>?_,fun l' hl'=>?_,.inr ⟨(g.clk+1,25),by show n1+1 < g.clk+1;omega,by simp only[go_sem];omega,?_,?_⟩⟩⟩
   ·simp only[go_sem,hne0 b' hb',hne1 b' hb',↓reduceIte];exact h3 b' hb'
   ·rw [lpSet_ne _ _ hl'];simp only[go_sem];rw [lpSet_ne _ _ hl'];exact h4 l' hl'
   ·simp only[go_sem,↓reduceIte] <;> rfl
   ·simp only[go_sem,hne2,↓reduceIte];rw [pVs_take hi];rfl
  ·have hne3:¬ ((n1+1,7):Nat × Nat)=bs:=fun e=>by rw [← e] at g1;exact absurd g1 (Nat.lt_irrefl _)
   have hne4:∀ b':Nat × Nat,b'.1 < h.clk→¬ b'=bs:=fun b' hb' e=>by rw [e] at hb';omega
   repeat' (first|refine st_seq_reg rfl (by first|(simp only[go_sem,g3,g4,List.length_take,big,hne3];rfl)|rfl) (by first|(simp only[go_sem,g3,g4,List.length_take,big,hne3];rfl)|rfl) ?_|refine st_reg rfl (by first|(simp only[go_sem,g3,g4,List.length_take,big,hne3];rfl)|rfl) (by first|(simp only[go_sem,g3,g4,List.length_take,big,hne3];rfl)|rfl) ?_|refine st_op ?_|refine st_det rfl (by simp (disch:=omega) only[go_sem,wr_i64,g3,g4,List.length_take,big,hne3];rfl) ?_|refine st_loc rfl (by simp (disch:=omega) only[go_sem,wr_i64,g3,g4,List.length_take,big,hne3];rfl) ?_|refine st_heap rfl (by simp (disch:=omega) only[go_sem,wr_i64,g3,g4,List.length_take,big,hne3];rfl) ?_|refine st_store (by simp (disch:=omega) only[go_sem,wr_i64,g3,g4,List.length_take,big,hne3];rfl) ?_|refine st_append (by simp (disch:=omega) only[go_sem,wr_i64,g3,g4,List.length_take,big,hne3];rfl) ?_|refine st_condT rfl ?_|refine st_condF rfl ?_|(refine st_condS rfl ?_ ?_ <;> intro hg <;> (try simp only[dcT,dcF,bnT,bnF] at hg))|refine st_nil ?_|refine st_tN ?_|refine st_seq ?_|refine st_block ?_|refine st_skip ?_|refine st_exit ?_|refine st_ret ?_|refine st_tE ?_|refine st_tR ?_|refine st_bN ?_|refine st_bR ?_|refine st_bH ?_|refine st_bM rfl ?_|refine st_noN ?_|refine st_noR ?_|refine st_noE ?_|refine st_label ?_|refine st_scope tab mixed (by decide) ?_)
   refine ⟨by simp only[go_sem],.inl ⟨rfl,lpSet_same _ _ _,by simp only[go_sem];omega,fun b' hb'=>?_,fun l' hl'=>?_,.inr ⟨(g.clk+1,25),by show n1+1 < g.clk+1;omega,by simp only[go_sem];omega,?_,?_⟩⟩⟩
   ·simp only[go_sem,hne0 b' hb',hne1 b' hb',hne4 b' hb',↓reduceIte];exact h3 b' hb'
   ·rw [lpSet_ne _ _ hl'];simp only[go_sem];rw [lpSet_ne _ _ hl'];exact h4 l' hl'
   ·simp only[go_sem,↓reduceIte] <;> rfl
   ·simp only[go_sem,hne2,↓reduceIte];rw [pVs_take hi,List.take_of_length_le (by simp [pVs];omega)]
 ·exact ⟨lpSet_same _ _ _,by simp only[go_sem];omega,fun b' hb'=>by simp only[go_sem];rw [if_neg];intro e;rw [e] at hb';exact absurd hb' (by show ¬ (n1+1 < h.clk);omega),fun l' hl'=>by rw [lpSet_ne _ _ hl'];rfl,.inl ⟨rfl,by simp only[go_sem]⟩⟩
 ·rintro v h' (⟨h1,h2,h3,h4,h5⟩|hh)
  ·refine .inl ⟨h1,?_⟩
   refine st_bN (st_tN ?_)
   rcases h5 with ⟨h0,h5⟩|⟨bs,g1,g2,g3,g4⟩
   ·repeat' (first|refine st_seq_reg rfl (by first|(simp only[go_sem,h5];rfl)|rfl) (by first|(simp only[go_sem,h5];rfl)|rfl) ?_|refine st_reg rfl (by first|(simp only[go_sem,h5];rfl)|rfl) (by first|(simp only[go_sem,h5];rfl)|rfl) ?_|refine st_op ?_|refine st_det rfl (by simp (disch:=omega) only[go_sem,wr_i64,h5];rfl) ?_|refine st_loc rfl (by simp (disch:=omega) only[go_sem,wr_i64,h5];rfl) ?_|refine st_heap rfl (by simp (disch:=omega) only[go_sem,wr_i64,h5];rfl) ?_|refine st_store (by simp (disch:=omega) only[go_sem,wr_i64,h5];rfl) ?_|refine st_append (by simp (disch:=omega) only[go_sem,wr_i64,h5];rfl) ?_|refine st_condT rfl ?_|refine st_condF rfl ?_|(refine st_condS rfl ?_ ?_ <;> intro hg <;> (try simp only[dcT,dcF,bnT,bnF] at hg))|refine st_nil ?_|refine st_tN ?_|refine st_seq ?_|refine st_block ?_|refine st_skip ?_|refine st_exit ?_|refine st_ret ?_|refine st_tE ?_|refine st_tR ?_|refine st_bN ?_|refine st_bR ?_|refine st_bH ?_|refine st_bM rfl ?_|refine st_noN ?_|refine st_noR ?_|refine st_noE ?_|refine st_label ?_|refine st_scope tab mixed (by decide) ?_)
    simp (disch:=omega) only[AEnd,Tryd.results16,aresK,fin,go_sem,implies_true,true_and,and_true,List.reverse_cons,List.reverse_nil]
    have e0:r=[]:=List.length_eq_zero_iff.1 h0
    refine ⟨h3,?_,.inl ⟨.tup [.lst 1 [],.int .i64 0],VLe.tup (by simp only[VLes];exact ⟨_,_,rfl,VLe.nils 1,_,_,rfl,VLe.refl _,rfl⟩),by rw [hv,e0];rfl⟩⟩
    funext l'
    by_cases e:l'=l
    ·rw [e,lpSet_same,hlp]
    ·rw [lpSet_ne _ _ e];exact h4 l' e
   ·repeat' (first|refine st_seq_reg rfl (by first|(simp only[go_sem,g3];rfl)|rfl) (by first|(simp only[go_sem,g3];rfl)|rfl) ?_|refine st_reg rfl (by first|(simp only[go_sem,g3];rfl)|rfl) (by first|(simp only[go_sem,g3];rfl)|rfl) ?_|refine st_op ?_|refine st_det rfl (by simp (disch:=omega) only[go_sem,wr_i64,g3];rfl) ?_|refine st_loc rfl (by simp (disch:=omega) only[go_sem,wr_i64,g3];rfl) ?_|refine st_heap rfl (by simp (disch:=omega) only[go_sem,wr_i64,g3];rfl) ?_|refine st_store (by simp (disch:=omega) only[go_sem,wr_i64,g3];rfl) ?_|refine st_append (by simp (disch:=omega) only[go_sem,wr_i64,g3];rfl) ?_|refine st_condT rfl ?_|refine st_condF rfl ?_|(refine st_condS rfl ?_ ?_ <;> intro hg <;> (try simp only[dcT,dcF,bnT,bnF] at hg))|refine st_nil ?_|refine st_tN ?_|refine st_seq ?_|refine st_block ?_|refine st_skip ?_|refine st_exit ?_|refine st_ret ?_|refine st_tE ?_|refine st_tR ?_|refine st_bN ?_|refine st_bR ?_|refine st_bH ?_|refine st_bM rfl ?_|refine st_noN ?_|refine st_noR ?_|refine st_noE ?_|refine st_label ?_|refine st_scope tab mixed (by decide) ?_)
    simp (disch:=omega) only[AEnd,Tryd.results16,aresK,fin,go_sem,implies_true,true_and,and_true,List.reverse_cons,List.reverse_nil]
    refine ⟨h3,?_,.inr ⟨bs,_,by omega,g4,?_⟩⟩
    ·funext l'
     by_cases e:l'=l
     ·rw [e,lpSet_same,hlp]
     ·rw [lpSet_ne _ _ e];exact h4 l' e
    ·rw [hv]
     have e1:(pVs f 0 0 r).take r.length=pVs f 0 0 r:=List.take_of_length_le (by simp [pVs])
     rw [e1]
     have e2:((pVs f 0 0 r).map iv).take r.length=(pVs f 0 0 r).map iv:=List.take_of_length_le (by simp [pVs])
     simp [frz,frzs,pVs]
     exact List.take_of_length_le (by simp)
  ·exact hh.elim
end Go.Proofs.YthpkmcjiobnpgaaDoor

namespace Go.Proofs.YthpkmcjiobnpgaaDoor
open Go.Av
attribute [local irreducible] thenA blockA awp awpOps awpD awp1
attribute [local go_sem_proc] Nat.reduceAdd Nat.reduceMul Nat.reduceEqDiff Nat.reduceBEq Nat.reduceLeDiff
attribute [local go_sem_proc ↓] reduceIte
attribute [local go_sem] if_yes if_no
set_option maxHeartbeats 8000000
set_option maxRecDepth 20000
theorem wr_u64i {n:Int} (h:0≤n∧n < 18446744073709551616):wr .u64 n=n:=by
 unfold wr IntKind.wrap
 simp only[IntKind.signed,IntKind.bits,Bool.false_and,Bool.false_eq_true,if_false]
 omega
end Go.Proofs.YthpkmcjiobnpgaaDoor
