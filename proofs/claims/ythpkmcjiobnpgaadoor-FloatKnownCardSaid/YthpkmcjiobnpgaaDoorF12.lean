/- Contracts of functions that the claim reaches: what each call gives, told in our own logic. Conditions: those of each theorem. -/
import Derived.Test.YthpkmcjiobnpgaaDoorF8
import Derived.Test.YthpkmcjiobnpgaaDoorBaseC
set_option linter.all false
set_option linter.unusedSimpArgs false
set_option linter.unusedVariables false
namespace Go.Proofs.YthpkmcjiobnpgaaDoor
open Go.Av
attribute [local irreducible] thenA blockA awp awpOps awpD awp1
attribute [local go_sem_proc] Nat.reduceAdd Nat.reduceMul Nat.reduceEqDiff Nat.reduceBEq Nat.reduceLeDiff
attribute [local go_sem_proc ↓] reduceIte
attribute [local go_sem] if_yes if_no
set_option maxHeartbeats 8000000
set_option maxRecDepth 20000
def sP (l:(Int→Int)→Fl→Int→Int→Int) (f:Fl) (p m:Int):Prop:=0≤l (frontA f) f p m∧0≤l (rearA f) f p m
instance (l:(Int→Int)→Fl→Int→Int→Int) (f:Fl) (p m:Int):Decidable (sP l f p m):=by unfold sP;infer_instance
theorem c46a (f:Fl) (p m:Int) (hf:FlOk f) (hp:0≤p∧p≤3000) (hm:0≤m∧m≤100000):Pure Tryd.prog 46 [.int .i64 0,.iptr (Tk.av f p m).cells 0] (fun v=>v=.bool (decide (sP wL f p m))):=by
 intro h
 refine ACalls.forget (ACalls.of tab mixed Tryd.call46 Tryd.func46 rfl (fi:=⟨16,[],[],none,[]⟩) rfl rfl (Nat.le_of_ble_eq_true rfl) (by decide) ?_)
 unfold startA
 simp only[go_sem]
 repeat' (first|refine st_seq_reg rfl (by first|(simp only[go_sem];rfl)|rfl) (by first|(simp only[go_sem];rfl)|rfl) ?_|refine st_reg rfl (by first|(simp only[go_sem];rfl)|rfl) (by first|(simp only[go_sem];rfl)|rfl) ?_|refine st_op ?_|refine st_det rfl (by simp (disch:=omega) only[go_sem,wr_i64];rfl) ?_|(refine st_pureE (by first|(simp (disch:=omega) only[go_sem];rfl)|rfl) rfl (c34 f p m hf hp hm) (by first|(simp only[go_sem];rfl)|rfl) (by intro n;first|(simp (disch:=omega) only[go_sem];rfl)|rfl) ?_;intro n hn)|(refine st_pureE (by first|(simp (disch:=omega) only[go_sem];rfl)|rfl) rfl (c35 f p m hf hp hm) (by first|(simp only[go_sem];rfl)|rfl) (by intro n;first|(simp (disch:=omega) only[go_sem];rfl)|rfl) ?_;intro n hn)|refine st_gT rfl rfl rfl ?_|refine st_gF rfl rfl rfl ?_|(refine st_gS rfl rfl ?_ ?_ <;> intro hg <;> (try simp only[dcT,dcF,bnT,bnF] at hg))|refine st_nil ?_|refine st_tN ?_|refine st_seq ?_|refine st_skip ?_|refine st_ret ?_|refine st_tE ?_|refine st_tR ?_)
 all_goals
  simp (disch:=omega) only[AEnd,Tryd.results46,aresK,fin,go_sem,implies_true,true_and,and_true,List.reverse_cons,List.reverse_nil]
  all_goals simp [sP, *]
theorem c46b (f:Fl) (p m:Int) (hf:FlOk f) (hp:0≤p∧p≤3000) (hm:0≤m∧m≤100000):Pure Tryd.prog 46 [.int .i64 1,.iptr (Tk.av f p m).cells 0] (fun v=>v=.bool (decide (sP wH f p m))):=by
 intro h
 refine ACalls.forget (ACalls.of tab mixed Tryd.call46 Tryd.func46 rfl (fi:=⟨16,[],[],none,[]⟩) rfl rfl (Nat.le_of_ble_eq_true rfl) (by decide) ?_)
 unfold startA
 simp only[go_sem]
 repeat' (first|refine st_seq_reg rfl (by first|(simp only[go_sem];rfl)|rfl) (by first|(simp only[go_sem];rfl)|rfl) ?_|refine st_reg rfl (by first|(simp only[go_sem];rfl)|rfl) (by first|(simp only[go_sem];rfl)|rfl) ?_|refine st_op ?_|refine st_det rfl (by simp (disch:=omega) only[go_sem,wr_i64];rfl) ?_|(refine st_pureE (by first|(simp (disch:=omega) only[go_sem];rfl)|rfl) rfl (c34 f p m hf hp hm) (by first|(simp only[go_sem];rfl)|rfl) (by intro n;first|(simp (disch:=omega) only[go_sem];rfl)|rfl) ?_;intro n hn)|(refine st_pureE (by first|(simp (disch:=omega) only[go_sem];rfl)|rfl) rfl (c35 f p m hf hp hm) (by first|(simp only[go_sem];rfl)|rfl) (by intro n;first|(simp (disch:=omega) only[go_sem];rfl)|rfl) ?_;intro n hn)|refine st_gT rfl rfl rfl ?_|refine st_gF rfl rfl rfl ?_|(refine st_gS rfl rfl ?_ ?_ <;> intro hg <;> (try simp only[dcT,dcF,bnT,bnF] at hg))|refine st_nil ?_|refine st_tN ?_|refine st_seq ?_|refine st_skip ?_|refine st_ret ?_|refine st_tE ?_|refine st_tR ?_)
 all_goals
  simp (disch:=omega) only[AEnd,Tryd.results46,aresK,fin,go_sem,implies_true,true_and,and_true,List.reverse_cons,List.reverse_nil]
  all_goals simp [sP, *]
def sV (f:Fl) (p m:Int):Int:=if sP wL f p m then 1 else if sP wH f p m then 3 else 2
theorem c24 (f:Fl) (p m:Int) (hf:FlOk f) (hp:0≤p∧p≤3000) (hm:0≤m∧m≤100000):Pure Tryd.prog 24 [Tk.av f p m] (fun v=>v=.int .i64 (sV f p m)):=by
 intro h
 refine ACalls.forget (ACalls.of tab mixed Tryd.call24 Tryd.func24 rfl (fi:=⟨10,[],[1],none,[]⟩) rfl rfl (Nat.le_of_ble_eq_true rfl) (by decide) ?_)
 unfold startA
 simp only[go_sem]
 repeat' (first|refine st_seq_reg rfl (by first|(simp only[go_sem];rfl)|rfl) (by first|(simp only[go_sem];rfl)|rfl) ?_|refine st_reg rfl (by first|(simp only[go_sem];rfl)|rfl) (by first|(simp only[go_sem];rfl)|rfl) ?_|refine st_op ?_|refine st_det rfl (by simp (disch:=omega) only[go_sem,wr_i64];rfl) ?_|refine st_loc rfl (by simp (disch:=omega) only[go_sem,wr_i64];rfl) ?_|refine st_heap rfl (by simp (disch:=omega) only[go_sem,wr_i64];rfl) ?_|(refine st_pureV (by first|(simp only[go_sem];rfl)|rfl) (by first|(simp (disch:=omega) only[go_sem];rfl)|rfl) rfl (c46a f p m hf hp hm) (by first|(simp only[go_sem];rfl)|rfl) (by intro n;first|(simp (disch:=omega) only[go_sem];rfl)|rfl) ?_;intro v n hv hn;subst hv)|(refine st_pureV (by first|(simp only[go_sem];rfl)|rfl) (by first|(simp (disch:=omega) only[go_sem];rfl)|rfl) rfl (c46b f p m hf hp hm) (by first|(simp only[go_sem];rfl)|rfl) (by intro n;first|(simp (disch:=omega) only[go_sem];rfl)|rfl) ?_;intro v n hv hn;subst hv)|(refine st_pureE (by first|(simp (disch:=omega) only[go_sem];rfl)|rfl) rfl (c47 _ _) (by first|(simp only[go_sem];rfl)|rfl) (by intro n;first|(simp (disch:=omega) only[go_sem];rfl)|rfl) ?_;intro n hn)|refine st_nil ?_|refine st_tN ?_|refine st_seq ?_|refine st_skip ?_|refine st_ret ?_|refine st_tE ?_|refine st_tR ?_)
 simp (disch:=omega) only[AEnd,Tryd.results24,aresK,fin,go_sem,implies_true,true_and,and_true,List.reverse_cons,List.reverse_nil]
 simp [sV]
def wfn (f:Fl) (p:Int):AV:=.fn (.func 38) [] [.iptr f.av.cells 0,.iptr [.int .i64 p] 0]
@[go_sem] theorem wfn_eq (f:Fl) (p:Int):wfn f p=.fn (.func 38) [] [.iptr f.av.cells 0,.iptr [.int .i64 p] 0]:=rfl
theorem c38 (f:Fl) (p m:Int):Pure Tryd.prog 38 [.int .i64 m,.iptr f.av.cells 0,.iptr [.int .i64 p] 0] (fun v=>v=Tk.av f p m):=by
 intro h
 refine ACalls.forget (ACalls.of tab mixed Tryd.call38 Tryd.func38 rfl (fi:=⟨9,[4],[],none,[]⟩) rfl rfl (Nat.le_of_ble_eq_true rfl) (by decide) ?_)
 unfold startA
 simp only[go_sem]
 repeat' (first|refine st_seq_reg rfl (by first|(simp only[go_sem];rfl)|rfl) (by first|(simp only[go_sem];rfl)|rfl) ?_|refine st_reg rfl (by first|(simp only[go_sem];rfl)|rfl) (by first|(simp only[go_sem];rfl)|rfl) ?_|refine st_op ?_|refine st_det rfl (by simp (disch:=omega) only[go_sem,wr_i64];rfl) ?_|refine st_loc rfl (by simp (disch:=omega) only[go_sem,wr_i64];rfl) ?_|refine st_heap rfl (by simp (disch:=omega) only[go_sem,wr_i64];rfl) ?_|refine st_store (by simp (disch:=omega) only[go_sem,wr_i64];rfl) ?_|refine st_nil ?_|refine st_tN ?_|refine st_seq ?_|refine st_skip ?_|refine st_ret ?_|refine st_tE ?_|refine st_tR ?_)
 simp (disch:=omega) only[AEnd,Tryd.results38,aresK,fin,go_sem,implies_true,true_and,and_true,List.reverse_cons,List.reverse_nil]
theorem c40 (f:Fl) (p m:Int) (hf:FlOk f) (hp:0≤p∧p≤3000) (hm:0≤m∧m≤100000):Pure Tryd.prog 40 [.int .i64 m,.iptr [wfn f p] 0] (fun v=>v=.bool (decide (sP wL f p m))):=by
 intro h
 refine ACalls.forget (ACalls.of tab mixed Tryd.call40 Tryd.func40 rfl (fi:=⟨9,[],[],none,[]⟩) rfl rfl (Nat.le_of_ble_eq_true rfl) (by decide) ?_)
 unfold startA
 simp only[go_sem]
 repeat' (first|refine st_seq_reg rfl (by first|(simp only[go_sem];rfl)|rfl) (by first|(simp only[go_sem];rfl)|rfl) ?_|refine st_reg rfl (by first|(simp only[go_sem];rfl)|rfl) (by first|(simp only[go_sem];rfl)|rfl) ?_|refine st_op ?_|refine st_det rfl (by simp (disch:=omega) only[go_sem,wr_i64];rfl) ?_|(refine st_pureV (by first|(simp only[go_sem];rfl)|rfl) (by first|(simp (disch:=omega) only[go_sem];rfl)|rfl) rfl (c38 f p m) (by first|(simp only[go_sem];rfl)|rfl) (by intro n;first|(simp (disch:=omega) only[go_sem];rfl)|rfl) ?_;intro v n hv hn;subst hv)|(refine st_pureE (by first|(simp (disch:=omega) only[go_sem];rfl)|rfl) rfl (c24 f p m hf hp hm) (by first|(simp only[go_sem];rfl)|rfl) (by intro n;first|(simp (disch:=omega) only[go_sem];rfl)|rfl) ?_;intro n hn)|refine st_nil ?_|refine st_tN ?_|refine st_seq ?_|refine st_skip ?_|refine st_ret ?_|refine st_tE ?_|refine st_tR ?_)
 simp (disch:=omega) only[AEnd,Tryd.results40,aresK,fin,go_sem,implies_true,true_and,and_true,List.reverse_cons,List.reverse_nil]
 unfold sV
 split
 ·simp [*]
 ·split <;> simp [*]
theorem shr_1 (y:Int):shr .u64 y 1=y / 2:=by
 unfold shr
 rw [Int.fdiv_eq_ediv_of_nonneg _ (by decide)]
 rfl
def SrchOk (N:Int) (F:Int→Bool) (a:Int):Prop:=0≤a∧a≤N∧(0 < a→F (a - 1)=false)∧(a < N→F a=true)
theorem c39 (N:Int) (g:FuncId) (cap:List AV) (F:Int→Bool) (hN:0≤N∧N≤1000000000) (hF:∀ k,0≤k→k < N→Pure Tryd.prog g (([] ++ [.int .i64 k]) ++ cap) (fun v=>v=.bool (F k))) :
  Pure Tryd.prog 39 [.int .i64 N,.fn (.func g) [] cap] (fun v=>∃ a,v=.int .i64 a∧SrchOk N F a):=by
 intro h
 refine ACalls.forget (ACalls.of tab mixed Tryd.call39 Tryd.func39 rfl (fi:=⟨26,[],[],none,[]⟩) rfl rfl (Nat.le_of_ble_eq_true rfl) (by decide) ?_)
 unfold startA
 repeat' (first|refine st_seq_reg rfl (by first|(simp only[go_sem];rfl)|rfl) (by first|(simp only[go_sem];rfl)|rfl) ?_|refine st_reg rfl (by first|(simp only[go_sem];rfl)|rfl) (by first|(simp only[go_sem];rfl)|rfl) ?_|refine st_op ?_|refine st_det rfl (by simp (disch:=omega) only[go_sem,wr_i64];rfl) ?_|refine st_condT rfl ?_|refine st_condF rfl ?_|(refine st_condS rfl ?_ ?_ <;> intro hg <;> (try simp only[dcT,dcF,bnT,bnF] at hg))|refine st_nil ?_|refine st_tN ?_|refine st_seq ?_|refine st_block ?_|refine st_skip ?_|refine st_exit ?_|refine st_ret ?_|refine st_tE ?_|refine st_tR ?_|refine st_bN ?_|refine st_bR ?_|refine st_bH ?_|refine st_bM rfl ?_)
 refine st_loopC (α:=Int × Int) tab mixed [] [] (by repeat (first|exact trivial|refine ⟨rfl,?_⟩)) [] [] (by repeat (first|exact trivial|refine ⟨rfl,?_⟩)) (fun a=>[(5,.int .i64 a.1),(6,.int .i64 a.2)]) [(1,_),(4,_)] (fun _=>[]) [] (fun a=>0≤a.1∧a.1≤a.2∧a.2≤N∧(0 < a.1→F (a.1 - 1)=false)∧(a.2 < N→F a.2=true)) (fun a=>(a.2 - a.1).toNat) (by decide) (0,N) ⟨Int.le_refl _,hN.1,Int.le_refl _,fun h=>absurd h (Int.lt_irrefl _),fun h=>absurd h (Int.lt_irrefl _)⟩ (by (try simp only[go_sem]);repeat' (first|exact trivial|refine And.intro ?_ ?_|rfl|(simp (disch:=omega) only[go_sem,if_yes,if_no,if_no];rfl)|(simp (disch:=omega) only[go_sem,if_yes,if_no,if_no]))) (by (try simp only[go_sem]);repeat' (first|exact trivial|refine And.intro ?_ ?_|rfl|(simp (disch:=omega) only[go_sem,if_yes,if_no,if_no];rfl)|(simp (disch:=omega) only[go_sem,if_yes,if_no,if_no]))) (by first|(simp only[go_sem];rfl)|rfl) (by intro n;simp only[go_sem];rfl) ?_
 rintro ⟨i,j⟩ c ⟨i1,i2,i3,i4,i5⟩ hc
 dsimp only at i1 i2 i3 i4 i5
 simp only[go_sem]
 repeat' (first|refine st_seq_reg rfl (by first|(simp only[go_sem,wr_u64i,shr_1];rfl)|rfl) (by first|(simp only[go_sem,wr_u64i,shr_1];rfl)|rfl) ?_|refine st_reg rfl (by first|(simp only[go_sem,wr_u64i,shr_1];rfl)|rfl) (by first|(simp only[go_sem,wr_u64i,shr_1];rfl)|rfl) ?_|refine st_op ?_|refine st_det rfl (by simp (disch:=omega) only[go_sem,wr_i64,wr_u64i,shr_1];rfl) ?_|(refine st_pureV (by first|(simp only[go_sem,wr_u64i,shr_1];rfl)|rfl) (by first|(simp (disch:=omega) only[go_sem,wr_u64i,shr_1];rfl)|rfl) rfl (hF _ (by omega) (by omega)) (by first|(simp only[go_sem,wr_u64i,shr_1];rfl)|rfl) (by intro n;first|(simp (disch:=omega) only[go_sem];rfl)|rfl) ?_;intro v n hv hn;subst hv)|refine st_condT rfl ?_|refine st_condF rfl ?_|(refine st_condS rfl ?_ ?_ <;> intro hg <;> (try simp only[dcT,dcF,bnT,bnF] at hg))|refine st_nil ?_|refine st_tN ?_|refine st_seq ?_|refine st_block ?_|refine st_skip ?_|refine st_exit ?_|refine st_ret ?_|refine st_tE ?_|refine st_tR ?_|refine st_bN ?_|refine st_bR ?_|refine st_bH ?_|refine st_bM rfl ?_)
 ·refine ⟨((i+j) / 2+1,j),⟨by show 0≤(i+j) / 2+1;omega,by show (i+j) / 2+1≤j;omega,i3,fun _=>by show F ((i+j) / 2+1 - 1)=false;rw [Int.add_sub_cancel];exact hg,i5⟩,by show (j - ((i+j) / 2+1)).toNat < (j - i).toNat;omega,(by repeat' (first|exact trivial|refine And.intro ?_ ?_|rfl|(simp (disch:=omega) only[go_sem,if_yes,if_no,if_no];rfl)|(simp (disch:=omega) only[go_sem,if_yes,if_no,if_no]))),(by repeat' (first|exact trivial|refine And.intro ?_ ?_|rfl|(simp (disch:=omega) only[go_sem,if_yes,if_no,if_no];rfl)|(simp (disch:=omega) only[go_sem,if_yes,if_no,if_no]))),rfl,(by first|exact HOld.of _ (by omega)|exact HOld.put _ _ _ (by omega))⟩
 ·refine ⟨(i,(i+j) / 2),⟨i1,by show i≤(i+j) / 2;omega,by show (i+j) / 2≤N;omega,i4,fun _=>hg⟩,by show ((i+j) / 2 - i).toNat < (j - i).toNat;omega,(by repeat' (first|exact trivial|refine And.intro ?_ ?_|rfl|(simp (disch:=omega) only[go_sem,if_yes,if_no,if_no];rfl)|(simp (disch:=omega) only[go_sem,if_yes,if_no,if_no]))),(by repeat' (first|exact trivial|refine And.intro ?_ ?_|rfl|(simp (disch:=omega) only[go_sem,if_yes,if_no,if_no];rfl)|(simp (disch:=omega) only[go_sem,if_yes,if_no,if_no]))),rfl,(by first|exact HOld.of _ (by omega)|exact HOld.put _ _ _ (by omega))⟩
 ·simp (disch:=omega) only[AEnd,Tryd.results39,aresK,fin,go_sem,implies_true,true_and,and_true,List.reverse_cons,List.reverse_nil]
  have e:i=j:=by omega
  subst e
  exact ⟨i,rfl,i1,i3,i4,i5⟩
def goesB (f:Fl) (p m:Int) (r:List Hu):Bool:=r.all fun x=>decide (pV f p m x=1)
theorem goes_iff {f:Fl} {p m:Int} {r:List Hu}:goesB f p m r=true ↔ ∀ j,j < r.length→pV f p m (hu r j)=1:=by
 unfold goesB
 rw [List.all_eq_true]
 constructor
 ·intro h j hj
  simpa using h _ (hu_mem hj)
 ·intro h x hx
  obtain ⟨j,hj,rfl⟩:=List.mem_iff_getElem.1 hx
  have:=h j hj
  unfold hu at this
  rw [List.getD_eq_getElem?_getD,List.getElem?_eq_getElem hj] at this
  simpa using this
theorem c42 (f:Fl) (p m:Int) (r:List Hu) (hf:FlOk f) (hp:0≤p∧p≤3000) (hm:0≤m∧m≤100000) (hr:∀ x ∈ r,HuOk x) (hl:r.length≤1000):Pure Tryd.prog 42 [Tk.av f p m,.lst 3 (r.map Hu.row)] (fun v=>v=.bool (goesB f p m r)):=by
 intro h
 refine ACalls.forget ?_
 refine ACalls.of tab mixed Tryd.call42 Tryd.func42 rfl (fi:=⟨14,[],[2],none,[]⟩) rfl rfl (Nat.le_of_ble_eq_true rfl) (by decide) ?_
 unfold startA
 simp only[go_sem]
 repeat' (first|refine st_seq_reg rfl (by first|(simp only[go_sem];rfl)|rfl) (by first|(simp only[go_sem];rfl)|rfl) ?_|refine st_reg rfl (by first|(simp only[go_sem];rfl)|rfl) (by first|(simp only[go_sem];rfl)|rfl) ?_|refine st_op ?_|refine st_det rfl (by simp (disch:=omega) only[go_sem,wr_i64];rfl) ?_|refine st_loc rfl (by simp (disch:=omega) only[go_sem,wr_i64];rfl) ?_|refine st_heap rfl (by simp (disch:=omega) only[go_sem,wr_i64];rfl) ?_|refine st_store (by simp (disch:=omega) only[go_sem,wr_i64];rfl) ?_|(refine st_pureE (by first|(simp (disch:=omega) only[go_sem];rfl)|rfl) rfl (c37 f p m r) (by first|(simp only[go_sem];rfl)|rfl) (by intro n;first|(simp (disch:=omega) only[go_sem];rfl)|rfl) ?_;intro n hn)|refine st_condT rfl ?_|refine st_condF rfl ?_|(refine st_condS rfl ?_ ?_ <;> intro hg <;> (try simp only[dcT,dcF,bnT,bnF] at hg))|refine st_nil ?_|refine st_tN ?_|refine st_seq ?_|refine st_block ?_|refine st_skip ?_|refine st_exit ?_|refine st_ret ?_|refine st_tE ?_|refine st_tR ?_|refine st_bN ?_|refine st_bR ?_|refine st_bH ?_|refine st_bM rfl ?_|refine st_noN ?_|refine st_noR ?_|refine st_noE ?_|refine st_label ?_|refine st_scope tab mixed (by decide) ?_)
 refine st_rangeFunc rfl (by simp only[go_sem];rfl) (fun l D R hR hlp=>?_)
 simp only[go_sem] at hlp
 have hne0:∀ b':Nat × Nat,b'.1 < h.clk→¬ b'=(h.clk,4):=fun b' hb' e=>by rw [e] at hb';exact absurd hb' (Nat.lt_irrefl _)
 let J:AH→Prop:=fun g=>(∀ b':Bid,b'.1 < h.clk→g.at_ b'=h.at_ b')∧(∀ l',l' ≠ l→g.lp l'=h.lp l')∧g.at_ (h.clk,4)=some ⟨1,[[.bool false]]⟩
 let I:Nat→AH→Prop:=fun i g=>g.lp l=some R∧J g∧∀ j,j < i→pV f p m (hu r j)=1
 let E:AH→Prop:=fun g=>g.lp l=some (R.stop .ret)∧J g∧∃ j,j < r.length∧pV f p m (hu r j) ≠ 1
 refine (c58 f p m r l hf hp hm hr hl I E ?_ ?_ ?_ _ ?_).mono ?_
 ·exact fun i g n h _=>h
 ·exact fun g n h _=>h
 ·rintro i g hi ⟨h1,⟨h2,h3,h4⟩,h5⟩
  refine AYields.canon tab mixed [] [2] [] hR h1 rfl (by intro p hp;simp at hp;rcases hp with rfl|rfl <;> decide) [(11,.int .i64 (pV f p m (hu r i))),(4,.ptr (h.clk,4) 0 0)] ⟨rfl,rfl,trivial⟩ rfl rfl ?_
  simp only[go_sem]
  repeat' (first|refine st_seq_reg rfl (by first|(simp only[go_sem];rfl)|rfl) (by first|(simp only[go_sem];rfl)|rfl) ?_|refine st_reg rfl (by first|(simp only[go_sem];rfl)|rfl) (by first|(simp only[go_sem];rfl)|rfl) ?_|refine st_op ?_|refine st_det rfl (by simp (disch:=omega) only[go_sem,wr_i64];rfl) ?_|refine st_loc rfl (by simp (disch:=omega) only[go_sem,wr_i64];rfl) ?_|refine st_heap rfl (by simp (disch:=omega) only[go_sem,wr_i64];rfl) ?_|refine st_store (by simp (disch:=omega) only[go_sem,wr_i64];rfl) ?_|refine st_condT rfl ?_|refine st_condF rfl ?_|(refine st_condS rfl ?_ ?_ <;> intro hg <;> (try simp only[dcT,dcF,bnT,bnF] at hg))|refine st_nil ?_|refine st_tN ?_|refine st_seq ?_|refine st_block ?_|refine st_skip ?_|refine st_exit ?_|refine st_ret ?_|refine st_tE ?_|refine st_tR ?_|refine st_bN ?_|refine st_bR ?_|refine st_bH ?_|refine st_bM rfl ?_|refine st_noN ?_|refine st_noR ?_|refine st_noE ?_|refine st_label ?_|refine st_scope tab mixed (by decide) ?_)
  refine ⟨h1,?_⟩
  dsimp only
  repeat' (first|refine st_seq_reg rfl (by first|(simp only[go_sem,h4];rfl)|rfl) (by first|(simp only[go_sem,h4];rfl)|rfl) ?_|refine st_reg rfl (by first|(simp only[go_sem,h4];rfl)|rfl) (by first|(simp only[go_sem,h4];rfl)|rfl) ?_|refine st_op ?_|refine st_det rfl (by simp (disch:=omega) only[go_sem,wr_i64,h4];rfl) ?_|refine st_loc rfl (by simp (disch:=omega) only[go_sem,wr_i64,h4];rfl) ?_|refine st_heap rfl (by simp (disch:=omega) only[go_sem,wr_i64,h4];rfl) ?_|refine st_store (by simp (disch:=omega) only[go_sem,wr_i64,h4];rfl) ?_|refine st_condT rfl ?_|refine st_condF rfl ?_|(refine st_condS rfl ?_ ?_ <;> intro hg <;> (try simp only[dcT,dcF,bnT,bnF] at hg))|refine st_nil ?_|refine st_tN ?_|refine st_seq ?_|refine st_block ?_|refine st_skip ?_|refine st_exit ?_|refine st_ret ?_|refine st_tE ?_|refine st_tR ?_|refine st_bN ?_|refine st_bR ?_|refine st_bH ?_|refine st_bM rfl ?_|refine st_noN ?_|refine st_noR ?_|refine st_noE ?_|refine st_label ?_|refine st_scope tab mixed (by decide) ?_)
  ·refine ⟨by simp only[go_sem],.inr ⟨rfl,lpSet_same _ _ _,⟨fun b' hb'=>?_,fun l' hl'=>?_,?_⟩,i,hi,hg⟩⟩
   ·simp only[go_sem];rw [if_neg (hne0 b' hb')];exact h2 b' hb'
   ·rw [lpSet_ne _ _ hl'];simp only[go_sem];rw [lpSet_ne _ _ hl'];exact h3 l' hl'
   ·simp only[go_sem,↓reduceIte] <;> rfl
  ·refine ⟨by simp only[go_sem],.inl ⟨rfl,lpSet_same _ _ _,⟨fun b' hb'=>h2 b' hb',fun l' hl'=>?_,h4⟩,fun j hj=>?_⟩⟩
   ·rw [lpSet_ne _ _ hl'];simp only[go_sem];rw [lpSet_ne _ _ hl'];exact h3 l' hl'
   ·by_cases e:j=i
    ·rw [e];exact Decidable.of_not_not hg
    ·exact h5 j (by omega)
 ·exact ⟨lpSet_same _ _ _,⟨fun b' hb'=>by simp only[go_sem];rw [if_neg (hne0 b' hb')],fun l' hl'=>by rw [lpSet_ne _ _ hl'];rfl,by simp only[go_sem,↓reduceIte]⟩,fun j hj=>absurd hj (Nat.not_lt_zero _)⟩
 ·have hlp2:∀ h':AH,(∀ l',l' ≠ l→h'.lp l'=h.lp l')→(h'.lpSet l none).lp=h.lp:=by
   intro h' h3
   funext l'
   by_cases e:l'=l
   ·rw [e,lpSet_same,hlp]
   ·rw [lpSet_ne _ _ e];exact h3 l' e
  rintro v h' (⟨h1,⟨h2,h3,h4⟩,h5⟩|⟨h1,⟨h2,h3,h4⟩,j,hj,h5⟩)
  ·refine .inl ⟨h1,st_bN (st_tN ?_)⟩
   repeat' (first|refine st_seq_reg rfl (by first|(simp only[go_sem,h4];rfl)|rfl) (by first|(simp only[go_sem,h4];rfl)|rfl) ?_|refine st_reg rfl (by first|(simp only[go_sem,h4];rfl)|rfl) (by first|(simp only[go_sem,h4];rfl)|rfl) ?_|refine st_op ?_|refine st_det rfl (by simp (disch:=omega) only[go_sem,wr_i64,h4];rfl) ?_|refine st_loc rfl (by simp (disch:=omega) only[go_sem,wr_i64,h4];rfl) ?_|refine st_heap rfl (by simp (disch:=omega) only[go_sem,wr_i64,h4];rfl) ?_|refine st_store (by simp (disch:=omega) only[go_sem,wr_i64,h4];rfl) ?_|refine st_condT rfl ?_|refine st_condF rfl ?_|(refine st_condS rfl ?_ ?_ <;> intro hg <;> (try simp only[dcT,dcF,bnT,bnF] at hg))|refine st_nil ?_|refine st_tN ?_|refine st_seq ?_|refine st_block ?_|refine st_skip ?_|refine st_exit ?_|refine st_ret ?_|refine st_tE ?_|refine st_tR ?_|refine st_bN ?_|refine st_bR ?_|refine st_bH ?_|refine st_bM rfl ?_|refine st_noN ?_|refine st_noR ?_|refine st_noE ?_|refine st_label ?_|refine st_scope tab mixed (by decide) ?_)
   simp (disch:=omega) only[AEnd,Tryd.results42,aresK,fin,go_sem,implies_true,true_and,and_true,List.reverse_cons,List.reverse_nil,hlp2 h' h3]
   refine ⟨fun b' hb'=>?_,by rw [goes_iff.2 h5]⟩
   rw [if_neg (hne0 b' hb')];exact h2 b' hb'
  ·refine .inr ⟨.ret,h1,ASem.ret (st_bR (st_tR ?_))⟩
   simp (disch:=omega) only[AEnd,Tryd.results42,aresK,fin,go_sem,implies_true,true_and,and_true,List.reverse_cons,List.reverse_nil,hlp2 h' h3,h4]
   refine ⟨h2,?_⟩
   cases e:goesB f p m r with
   | false=>rfl
   | true=>exact absurd (goes_iff.1 e j hj) h5
theorem c41 (f:Fl) (p m:Int) (r:List Hu) (hf:FlOk f) (hp:0≤p∧p≤3000) (hm:0≤m∧m≤100000) (hr:∀ x ∈ r,HuOk x) (hl:r.length≤1000):Pure Tryd.prog 41 [.int .i64 m,.iptr [wfn f p] 0,.iptr [.lst 3 (r.map Hu.row)] 0] (fun v=>v=.bool (!goesB f p m r)):=by
 intro h
 refine ACalls.forget (ACalls.of tab mixed Tryd.call41 Tryd.func41 rfl (fi:=⟨11,[],[],none,[(1,[0,0,3,0,15,31,63],[(0,true),(1,false),(3,true),(2,false),(4,false),(5,false),(6,false)])]⟩) rfl rfl (Nat.le_of_ble_eq_true rfl) (by decide) ?_)
 unfold startA
 simp only[go_sem]
 repeat' (first|refine st_seq_reg rfl (by first|(simp only[go_sem];rfl)|rfl) (by first|(simp only[go_sem];rfl)|rfl) ?_|refine st_reg rfl (by first|(simp only[go_sem];rfl)|rfl) (by first|(simp only[go_sem];rfl)|rfl) ?_|refine st_seq_draw rfl (by first|(simp only[go_sem];rfl)|rfl) (by first|(simp only[go_sem];rfl)|rfl) ?_|refine st_draw rfl (by first|(simp only[go_sem];rfl)|rfl) (by first|(simp only[go_sem];rfl)|rfl) ?_|refine st_op ?_|refine st_det rfl (by simp (disch:=omega) only[go_sem,wr_i64];rfl) ?_|refine st_dop rfl ?_|(refine st_pureV (by first|(simp only[go_sem];rfl)|rfl) (by first|(simp (disch:=omega) only[go_sem];rfl)|rfl) rfl (c38 f p m) (by first|(simp only[go_sem];rfl)|rfl) (by intro n;first|(simp (disch:=omega) only[go_sem];rfl)|rfl) ?_;intro v n hv hn;subst hv)|(refine st_pureE (by first|(simp (disch:=omega) only[go_sem];rfl)|rfl) rfl (c42 f p m r hf hp hm hr hl) (by first|(simp only[go_sem];rfl)|rfl) (by intro n;first|(simp (disch:=omega) only[go_sem];rfl)|rfl) ?_;intro n hn)|refine st_nil ?_|refine st_dnil ?_|refine st_tN ?_|refine st_seq ?_|refine st_skip ?_|refine st_ret ?_|refine st_tE ?_|refine st_tR ?_)
 simp (disch:=omega) only[AEnd,Tryd.results41,aresK,fin,go_sem,implies_true,true_and,and_true,List.reverse_cons,List.reverse_nil]
def balR (f:Fl) (r:List Hu) (p:Int) (v:AV):Prop :=
 if bothE f r ≠ 0 then v=.tup [.agg [.int .i64 0,.int .i64 0],.int .i64 (bothE f r)] else if ¬ (f.front≤p∧p≤f.rear) then v=.tup [.agg [.int .i64 0,.int .i64 0],.int .i64 2] else
 ∃ a b,SrchOk 100001 (fun m=>decide (sP wL f p m)) a∧SrchOk 100001 (fun m=>!goesB f p m r) b ∧
  v=if b≤a then .tup [.agg [.int .i64 0,.int .i64 0],.int .i64 7] else .tup [.agg [.int .i64 a,.int .i64 (b - 1)],.int .i64 0]
theorem bothOk {f:Fl} {r:List Hu} (h:bothE f r=0):FlOk f∧(∀ x ∈ r,HuOk x)∧r.length≤40∧chkE f=0∧routeE r=0:=by
 have hc0:chkE f=0:=by unfold bothE at h;split at h <;> omega
 have hr0:routeE r=0:=by unfold bothE at h;split at h <;> omega
 exact ⟨chkOk hc0,routeOk hr0,routeLen hr0,hc0,hr0⟩
theorem c18 (f:Fl) (r:List Hu) (p:Int):Pure Tryd.prog 18 [f.av,.lst 3 (r.map Hu.row),.int .i64 p] (balR f r p):=by
 intro h
 refine ACalls.forget ?_
 refine ACalls.ofS tab Tryd.call18 Tryd.func18 rfl (fi:=⟨41,[6],[3,4,5,24],none,[]⟩) rfl rfl (Nat.le_of_ble_eq_true rfl) ?_
 unfold startA
 simp only[go_sem]
 refine asem_seq (fi:=⟨41,[6],[3,4,5,24],none,[]⟩) tab mixed (by decide) ?_
 repeat' (first|refine st_seq_reg rfl (by first|(simp only[go_sem];rfl)|rfl) (by first|(simp only[go_sem];rfl)|rfl) ?_|refine st_reg rfl (by first|(simp only[go_sem];rfl)|rfl) (by first|(simp only[go_sem];rfl)|rfl) ?_|refine st_op ?_|refine st_det rfl (by simp (disch:=omega) only[go_sem,wr_i64];rfl) ?_|refine st_loc rfl (by simp (disch:=omega) only[go_sem,wr_i64];rfl) ?_|refine st_heap rfl (by simp (disch:=omega) only[go_sem,wr_i64];rfl) ?_|refine st_store (by simp (disch:=omega) only[go_sem,wr_i64];rfl) ?_|(refine st_pureE (by first|(simp (disch:=omega) only[go_sem];rfl)|rfl) rfl (c36 f r) (by first|(simp only[go_sem];rfl)|rfl) (by intro n;first|(simp (disch:=omega) only[go_sem];rfl)|rfl) ?_;intro n hn)|refine st_condT rfl ?_|refine st_condF rfl ?_|(refine st_condS rfl ?_ ?_ <;> intro hg <;> (try simp only[dcT,dcF,bnT,bnF] at hg))|refine st_nil ?_|refine st_tN ?_|refine st_seq ?_|refine st_skip ?_|refine st_ret ?_|refine st_tE ?_|refine st_tR ?_)
 refine asem_seq (fi:=⟨41,[6],[3,4,5,24],none,[]⟩) tab mixed (by decide) ?_
 repeat' (first|refine st_seq_reg rfl (by first|(simp only[go_sem];rfl)|rfl) (by first|(simp only[go_sem];rfl)|rfl) ?_|refine st_reg rfl (by first|(simp only[go_sem];rfl)|rfl) (by first|(simp only[go_sem];rfl)|rfl) ?_|refine st_op ?_|refine st_det rfl (by simp (disch:=omega) only[go_sem,wr_i64];rfl) ?_|refine st_loc rfl (by simp (disch:=omega) only[go_sem,wr_i64];rfl) ?_|refine st_heap rfl (by simp (disch:=omega) only[go_sem,wr_i64];rfl) ?_|refine st_store (by simp (disch:=omega) only[go_sem,wr_i64];rfl) ?_|(refine st_pureE (by first|(simp (disch:=omega) only[go_sem];rfl)|rfl) rfl (c36 f r) (by first|(simp only[go_sem];rfl)|rfl) (by intro n;first|(simp (disch:=omega) only[go_sem];rfl)|rfl) ?_;intro n hn)|refine st_condT rfl ?_|refine st_condF rfl ?_|(refine st_condS rfl ?_ ?_ <;> intro hg <;> (try simp only[dcT,dcF,bnT,bnF] at hg))|refine st_nil ?_|refine st_tN ?_|refine st_seq ?_|refine st_skip ?_|refine st_ret ?_|refine st_tE ?_|refine st_tR ?_)
 ·simp (disch:=omega) only[AEnd,Tryd.results18,aresK,fin,go_sem,implies_true,true_and,and_true,List.reverse_cons,List.reverse_nil]
  simp [balR,hg]
 have hb:bothE f r=0:=by omega
 obtain ⟨hf,hr,hl,_,_⟩:=bothOk hb
 have h1:=hf.len;have h2:=hf.axles
 refine asem_seq (fi:=⟨41,[6],[3,4,5,24],none,[]⟩) tab mixed (by decide) ?_
 repeat' (first|refine st_seq_reg rfl (by first|(simp only[go_sem];rfl)|rfl) (by first|(simp only[go_sem];rfl)|rfl) ?_|refine st_reg rfl (by first|(simp only[go_sem];rfl)|rfl) (by first|(simp only[go_sem];rfl)|rfl) ?_|refine st_op ?_|refine st_det rfl (by simp (disch:=omega) only[go_sem,wr_i64];rfl) ?_|refine st_loc rfl (by simp (disch:=omega) only[go_sem,wr_i64];rfl) ?_|refine st_heap rfl (by simp (disch:=omega) only[go_sem,wr_i64];rfl) ?_|refine st_store (by simp (disch:=omega) only[go_sem,wr_i64];rfl) ?_|(refine st_pureE (by first|(simp (disch:=omega) only[go_sem];rfl)|rfl) rfl (c20a _ _ _) (by first|(simp only[go_sem];rfl)|rfl) (by intro n;first|(simp (disch:=omega) only[go_sem];rfl)|rfl) ?_;intro n hn)|refine st_condT rfl ?_|refine st_condF rfl ?_|(refine st_condS rfl ?_ ?_ <;> intro hg <;> (try simp only[dcT,dcF,bnT,bnF] at hg))|refine st_nil ?_|refine st_tN ?_|refine st_seq ?_|refine st_skip ?_|refine st_ret ?_|refine st_tE ?_|refine st_tR ?_)
 ·simp (disch:=omega) only[AEnd,Tryd.results18,aresK,fin,go_sem,implies_true,true_and,and_true,List.reverse_cons,List.reverse_nil]
  simp [balR,hb,hg]
 refine asem_seq (fi:=⟨41,[6],[3,4,5,24],none,[]⟩) tab mixed (by decide) ?_
 repeat' (first|refine st_seq_reg rfl (by first|(simp only[go_sem];rfl)|rfl) (by first|(simp only[go_sem];rfl)|rfl) ?_|refine st_reg rfl (by first|(simp only[go_sem];rfl)|rfl) (by first|(simp only[go_sem];rfl)|rfl) ?_|refine st_op ?_|refine st_det rfl (by simp (disch:=omega) only[go_sem,wr_i64];rfl) ?_|refine st_loc rfl (by simp (disch:=omega) only[go_sem,wr_i64];rfl) ?_|refine st_heap rfl (by simp (disch:=omega) only[go_sem,wr_i64];rfl) ?_|refine st_store (by simp (disch:=omega) only[go_sem,wr_i64];rfl) ?_|refine st_condT rfl ?_|refine st_condF rfl ?_|(refine st_condS rfl ?_ ?_ <;> intro hg <;> (try simp only[dcT,dcF,bnT,bnF] at hg))|refine st_nil ?_|refine st_tN ?_|refine st_seq ?_|refine st_skip ?_|refine st_ret ?_|refine st_tE ?_|refine st_tR ?_)
 refine ASem.frz1 9 (b:=(n,9)) rfl (by simp only[go_sem,↓reduceIte];rfl) (by exact Nat.zero_lt_one) ?_
 refine asem_awp (fi:=⟨41,[6],[3,4,5,24],none,[]⟩) tab mixed (by decide) ?_
 simp only[go_sem]
 repeat' (first|refine st_seq_reg rfl (by first|(simp only[go_sem];rfl)|rfl) (by first|(simp only[go_sem];rfl)|rfl) ?_|refine st_reg rfl (by first|(simp only[go_sem];rfl)|rfl) (by first|(simp only[go_sem];rfl)|rfl) ?_|refine st_op ?_|refine st_det rfl (by simp (disch:=omega) only[go_sem,wr_i64];rfl) ?_|refine st_loc rfl (by simp (disch:=omega) only[go_sem,wr_i64];rfl) ?_|refine st_heap rfl (by simp (disch:=omega) only[go_sem,wr_i64];rfl) ?_|refine st_store (by simp (disch:=omega) only[go_sem,wr_i64];rfl) ?_|(refine st_pure (by first|(simp (disch:=omega) only[go_sem];rfl)|rfl) rfl (c39 100001 40 [.iptr [wfn f p] 0] (fun m=>decide (sP wL f p m)) (by omega) (fun k g1 g2=>c40 f p k hf (by omega) (by omega))) (by first|(simp only[go_sem];rfl)|rfl) (by intro n;first|(simp (disch:=omega) only[go_sem];rfl)|rfl) ?_;rintro v n ⟨a,rfl,a1,a2,a3,a4⟩ hn)|(refine st_pure (by first|(simp (disch:=omega) only[go_sem];rfl)|rfl) rfl (c39 100001 41 [.iptr [wfn f p] 0,.iptr [.lst 3 (r.map Hu.row)] 0] (fun m=>!goesB f p m r) (by omega) (fun k g1 g2=>c41 f p k r hf (by omega) (by omega) hr (by omega))) (by first|(simp only[go_sem];rfl)|rfl) (by intro n;first|(simp (disch:=omega) only[go_sem];rfl)|rfl) ?_;rintro v n ⟨b,rfl,b1,b2,b3,b4⟩ hn)|refine st_condT rfl ?_|refine st_condF rfl ?_|(refine st_condS rfl ?_ ?_ <;> intro hg <;> (try simp only[dcT,dcF,bnT,bnF] at hg))|refine st_nil ?_|refine st_tN ?_|refine st_seq ?_|refine st_skip ?_|refine st_ret ?_|refine st_tE ?_|refine st_tR ?_)
 ·simp (disch:=omega) only[AEnd,Tryd.results18,aresK,fin,go_sem,implies_true,true_and,and_true,List.reverse_cons,List.reverse_nil]
  refine ⟨fun z h1=>?_,?_⟩
  ·rw [if_neg (fun e=>by rw [e] at h1;dsimp only at h1;omega)]
  ·unfold balR
   rw [if_neg (by omega),if_neg (by omega)]
   exact ⟨a,b,⟨a1,a2,a3,a4⟩,⟨b1,b2,b3,b4⟩,by rw [if_pos (by omega)]⟩
 ·simp (disch:=omega) only[AEnd,Tryd.results18,aresK,fin,go_sem,implies_true,true_and,and_true,List.reverse_cons,List.reverse_nil]
  refine ⟨fun z h1=>?_,?_⟩
  ·rw [if_neg (fun e=>by rw [e] at h1;dsimp only at h1;omega)]
  ·unfold balR
   rw [if_neg (by omega),if_neg (by omega)]
   exact ⟨a,b,⟨a1,a2,a3,a4⟩,⟨b1,b2,b3,b4⟩,by rw [if_neg (by omega)]⟩
end Go.Proofs.YthpkmcjiobnpgaaDoor
