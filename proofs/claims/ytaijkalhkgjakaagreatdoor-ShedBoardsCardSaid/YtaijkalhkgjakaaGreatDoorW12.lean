/- Contracts of functions that the claim reaches: what each call gives, told in our own logic. Conditions: those of each theorem. -/
import Derived.Test.YtaijkalhkgjakaaGreatDoorW3
import Derived.Test.YtaijkalhkgjakaaGreatDoorG16
import Derived.Test.YtaijkalhkgjakaaGreatDoorG4
open List (length_map)
set_option linter.all false
set_option linter.unusedSimpArgs false
set_option linter.unusedVariables false
namespace Go.Proofs.YtaijkalhkgjakaaGreatDoor
open Go.Av Go.Txt Go.Lib
attribute [local irreducible] thenA blockA awp awpOps awpD awp1
attribute [local go_sem_proc] Nat.reduceAdd Nat.reduceMul Nat.reduceEqDiff Nat.reduceBEq Nat.reduceLeDiff
attribute [local go_sem_proc ↓] reduceIte
attribute [local go_sem] if_yes if_no
set_option maxHeartbeats 8000000
set_option maxRecDepth 20000
def bi (b:Bool):Int:=if b=true then 1 else 0
def wShop:List UInt8:=[115,104,111,112]
def wWorker:List UInt8:=[119,111,114,107,101,114]
def wJob:List UInt8:=[106,111,98]
def wEnd:List UInt8:=[101,110,100]
def wkT (x:Wk):List UInt8:=rowT wWorker [bi x.a,bi x.b,bi x.c]
def jbT (x:Jb):List UInt8:=rowT wJob [x.f,x.s,x.d]
def brdT (S:Sp):List UInt8:=rowT wShop [(S.js.length:Int)] ++ S.ws.flatMap wkT ++ S.js.flatMap jbT ++ rowT wEnd []
def wrV (S:Sp):AV:=if shopE S=0 then .tup [.str (brdT S),.int .i64 0] else .tup [.str [],.int .i64 (shopE S)]
theorem ab1 (x:Wk):bitop .and .i64 (wr .i64 (x.sk.tdiv 1)) 1=bi x.a:=by obtain ⟨a,b,c⟩:=x;cases a <;> cases b <;> cases c <;> decide
theorem ab2 (x:Wk):bitop .and .i64 (wr .i64 (x.sk.tdiv 2)) 1=bi x.b:=by obtain ⟨a,b,c⟩:=x;cases a <;> cases b <;> cases c <;> decide
theorem ab4 (x:Wk):bitop .and .i64 (wr .i64 (x.sk.tdiv 4)) 1=bi x.c:=by obtain ⟨a,b,c⟩:=x;cases a <;> cases b <;> cases c <;> decide
theorem rowT_len {w:List UInt8} {l:List Int} (h:∀ x ∈ l,-9223372036854775808≤x∧x≤9223372036854775807):(rowT w l).length≤w.length+22 * l.length+1:=by
 have:=numsT_len h
 unfold rowT
 simp only[List.length_append,List.length_cons,List.length_nil]
 omega
theorem bi_ok (b:Bool):-9223372036854775808≤bi b∧bi b≤9223372036854775807:=by unfold bi;split <;> omega
theorem num3 {a b c:Int} (ha:-9223372036854775808≤a∧a≤9223372036854775807) (hb:-9223372036854775808≤b∧b≤9223372036854775807) (hc:-9223372036854775808≤c∧c≤9223372036854775807):NumOk [a,b,c] :=
 ⟨by simp,fun x hx=>by simp at hx;rcases hx with rfl|rfl|rfl <;> assumption⟩
theorem wkT_len (x:Wk):(wkT x).length≤80:=by
 have:=rowT_len (w:=wWorker) (num3 (bi_ok x.a) (bi_ok x.b) (bi_ok x.c)).2
 have e:wWorker.length=6:=rfl
 unfold wkT
 simp only[List.length_cons,List.length_nil] at this;omega
theorem jbT_len {x:Jb} (h:x.Ok):(jbT x).length≤80:=by
 obtain ⟨h1,h2,h3,h4,h5,h6⟩:=h
 have:=rowT_len (w:=wJob) (num3 (a:=x.f) (b:=x.s) (c:=x.d) (by omega) (by omega) (by omega)).2
 have e:wJob.length=3:=rfl
 unfold jbT
 simp only[List.length_cons,List.length_nil] at this;omega
theorem flat_take {α:Type} {f:α→List UInt8} {l:List α} {d:α} {i:Nat} (h:i < l.length):(l.take (i+1)).flatMap f=(l.take i).flatMap f ++ f (l.getD i d):=by
 rw [List.take_add_one,List.flatMap_append,List.getElem?_eq_getElem h,List.getD_eq_getElem?_getD,List.getElem?_eq_getElem h]
 simp
theorem flat_len {α:Type} {f:α→List UInt8} {n:Nat} {l:List α} (h:∀ x ∈ l,(f x).length≤n):(l.flatMap f).length≤n * l.length:=by
 induction l with
 | nil=>simp
 | cons x l ih =>
  have h1:=h x (by simp)
  have h2:=ih (fun y hy=>h y (by simp [hy]))
  rw [List.flatMap_cons,List.length_append,List.length_cons,Nat.mul_succ]
  omega
theorem c36 (S:Sp):PureG gT Tryz.prog 36 [S.av] (fun v=>v=wrV S):=by
 intro h hgl
 refine ACalls.forgetM ?_
 refine ACalls.ofS tab Tryz.call36 Tryz.func36 rfl (fi:=⟨66,[8,11],[1,22,43,60],none,[]⟩) rfl rfl (Nat.le_of_ble_eq_true rfl) ?_
 unfold startA
 try simp only[go_sem]
 refine asem_seq (fi:=⟨66,[8,11],[1,22,43,60],none,[]⟩) tab mixed (by decide) ?_
 repeat' (first|refine st_reg rfl (by first|(simp only[go_sem];rfl)|rfl) (by first|(simp only[go_sem];rfl)|rfl) ?_|refine st_op ?_|refine st_det rfl (by simp (disch:=omega) only[go_sem,wr_i64];rfl) ?_|refine st_nil ?_|refine st_tN ?_)
 refine asem_seq (fi:=⟨66,[8,11],[1,22,43,60],none,[]⟩) tab mixed (by decide) ?_
 repeat' (first|refine st_seq_reg rfl (by first|(simp only[go_sem];rfl)|rfl) (by first|(simp only[go_sem];rfl)|rfl) ?_|refine st_op ?_|refine st_det rfl (by simp (disch:=omega) only[go_sem,wr_i64];rfl) ?_|(refine st_pureE (by first|(simp (disch:=omega) only[go_sem];rfl)|rfl) rfl (c26 S) (by first|(simp only[go_sem];rfl)|rfl) (by intro n;first|(simp (disch:=omega) only[go_sem];rfl)|rfl) ?_;intro n hn)|(refine st_condS rfl ?_ ?_ <;> intro hg <;> (try simp only[dcT,dcF,bnT,bnF] at hg))|refine st_nil ?_|refine st_tN ?_|refine st_skip ?_|refine st_ret ?_|refine st_tR ?_)
 ·simp (disch:=omega) only[AEnd,Tryz.results36,aresK,fin,go_sem,implies_true,true_and,and_true,List.reverse_cons,List.reverse_nil]
  exact ⟨fun _ _ h=>h,by unfold wrV;rw [if_neg hg]⟩
 refine asem_bdNew tab (by decide) rfl ?_
 intro lb hlb
 have hE:shopE S=0:=by omega
 have hS:=shop_ok hE
 have h4:=hS.m4
 have h7:=hS.n7
 obtain ⟨g0,hG,hB0,ha0,hgl0,hc0⟩:∃ g0,g0=(((h.tick (n+1)).lpSet lb (some (orec #[.pointer none,.slice none 0 0] 139))))∧BdZ h g0 lb []∧g0.at_=h.at_∧g0.gl=gT∧g0.clk=n+1:=⟨_,rfl,Bd.new (h:=h) hlb,rfl,hgl,rfl⟩
 rw [← hG]
 clear hG hlb
 refine asem_seq (fi:=⟨66,[8,11],[1,22,43,60],none,[]⟩) tab mixed (by decide) ?_
 repeat' (first|refine st_reg rfl (by first|(simp only[go_sem];rfl)|rfl) (by first|(simp only[go_sem];rfl)|rfl) ?_|refine st_op ?_|refine st_det rfl (by simp (disch:=omega) only[go_sem,wr_i64];rfl) ?_|refine st_nil ?_|refine st_tN ?_)
 have hlS:(rowT wShop [(S.js.length:Int)]).length≤100:=by
  have:=rowT_len (w:=wShop) (l:=[(S.js.length:Int)]) (fun x hx=>by simp at hx;omega)
  have e:wShop.length=4:=rfl
  simp only[List.length_cons,List.length_nil] at this;omega
 refine asem_seq (fi:=⟨66,[8,11],[1,22,43,60],none,[]⟩) tab mixed (by decide) ?_
 repeat' (first|refine st_reg rfl (by first|(simp only[go_sem,length_map];rfl)|rfl) (by first|(simp only[go_sem,length_map];rfl)|rfl) ?_|refine st_op ?_|refine st_det rfl (by simp (disch:=omega) only[go_sem,wr_i64,length_map];rfl) ?_|(refine st_call rfl rfl rfl (c77 wShop [(S.js.length:Int)] lb [] h _ (by exact hgl0) (by exact hB0) ⟨by simp,fun x hx=>by simp at hx;omega⟩ (by simp) (by decide)) ?_;rintro v' h1 ⟨rfl,hB1,ha1,hk1,hg1⟩)|refine st_nil ?_|refine st_tN ?_)
 have hB1':BdZ h h1 lb (rowT wShop [(S.js.length:Int)]):=hB1
 have ha1':h1.at_=h.at_:=ha1.trans ha0
 have hg1':h1.gl=gT:=hg1.trans hgl0
 have hk1':h.clk≤h1.clk:=by
  have e:n+1≤h1.clk:=Nat.le_trans (by simp only[go_sem];omega) hk1
  omega
 clear hB1 ha1 hg1 hk1 hB0 ha0
 refine asem_seq (fi:=⟨66,[8,11],[1,22,43,60],none,[]⟩) tab mixed (by decide) ?_
 repeat' (first|refine st_seq_reg rfl (by first|(simp only[go_sem,length_map];rfl)|rfl) (by first|(simp only[go_sem,length_map];rfl)|rfl) ?_|refine st_op ?_|refine st_det rfl (by simp (disch:=omega) only[go_sem,wr_i64,length_map];rfl) ?_|refine st_nil ?_|refine st_block ?_)
 obtain ⟨b0,hb0⟩:∃ b0,b0=rowT wShop [(S.js.length:Int)]:=⟨_,rfl⟩
 rw [← hb0] at hB1' hlS
 refine st_loopH (α:=Nat × AH) tab mixed [] [] (by repeat (first|exact trivial|refine ⟨rfl,?_⟩)) [] [] (by repeat (first|exact trivial|refine ⟨rfl,?_⟩)) (fun a=>[(27,.int .i64 (a.1:Nat))]) [(1,_),(2,_),(3,_),(6,_),(25,_),(26,_),(5,_)] (fun _=>[]) [] (fun a=>a.2) (fun a=>a.1≤S.ws.length∧BdZ h a.2 lb (b0 ++ (S.ws.take a.1).flatMap wkT)∧a.2.at_=h.at_∧h.clk≤a.2.clk∧a.2.gl=gT) (fun a=>S.ws.length - a.1) (by decide) (0,_) (by exact ⟨Nat.zero_le _,by show BdZ h h1 lb _;simpa using hB1',ha1',by show h.clk≤_;try simp only[go_sem];omega,hg1'⟩) (by (try simp only[go_sem]);repeat' (first|exact trivial|refine And.intro ?_ ?_|rfl|(simp (disch:=omega) only[go_sem,if_yes,if_no,if_no];rfl)|(simp (disch:=omega) only[go_sem,if_yes,if_no,if_no]))) (by (try simp only[go_sem]);repeat' (first|exact trivial|refine And.intro ?_ ?_|rfl|(simp (disch:=omega) only[go_sem,if_yes,if_no,if_no];rfl)|(simp (disch:=omega) only[go_sem,if_yes,if_no,if_no]))) (HOld.refl _) ?_
 rintro ⟨i,g2⟩ c2 ⟨hi,hB2,ha2,hk2,hg2⟩ hc2
 dsimp only at hi hB2 ha2 hk2 hg2 hc2
 simp only[go_sem]
 by_cases hil:i < S.ws.length
 case pos =>
  have hfl:((S.ws.take i).flatMap wkT).length≤80 * 4:=Nat.le_trans (flat_len (fun x _=>wkT_len x)) (Nat.mul_le_mul_left _ (by rw [List.length_take];omega))
  repeat' (first|refine st_seq_reg rfl (by first|(simp only[go_sem,length_map,ab1,ab2,ab4];rfl)|rfl) (by first|(simp only[go_sem,length_map,ab1,ab2,ab4];rfl)|rfl) ?_|refine st_reg rfl (by first|(simp only[go_sem,length_map,ab1,ab2,ab4];rfl)|rfl) (by first|(simp only[go_sem,length_map,ab1,ab2,ab4];rfl)|rfl) ?_|refine st_op ?_|refine st_det rfl (by simp (disch:=omega) only[go_sem,wr_i64,length_map,ab1,ab2,ab4];rfl) ?_|refine st_loc rfl (by simp (disch:=omega) only[go_sem,wr_i64,length_map,ab1,ab2,ab4];rfl) ?_|refine st_store (by simp (disch:=omega) only[go_sem,wr_i64,length_map,ab1,ab2,ab4];rfl) ?_|(refine st_pureE (by first|(simp (disch:=omega) only[go_sem,length_map,ab1,ab2,ab4];rfl)|rfl) rfl (c74 (wOf S.ws i)) (by first|(simp only[go_sem,length_map,ab1,ab2,ab4];rfl)|rfl) (by intro n;first|(simp (disch:=omega) only[go_sem];rfl)|rfl) ?_;intro n hn)|(refine st_call rfl rfl rfl (c77 wWorker [bi (wOf S.ws i).a,bi (wOf S.ws i).b,bi (wOf S.ws i).c] lb _ h _ (by exact hg2) (by exact hB2) (num3 (bi_ok _) (bi_ok _) (bi_ok _)) (by rw [List.length_append];omega) (by decide)) ?_;rintro v' h2 ⟨rfl,hB3,ha3,hk3,hg3⟩)|(refine st_condS rfl ?_ ?_ <;> intro hg <;> (try simp only[dcT,dcF,bnT,bnF] at hg))|refine st_nil ?_|refine st_tN ?_|refine st_seq ?_|refine st_block ?_|refine st_skip ?_|refine st_exit ?_|refine st_tE ?_|refine st_bN ?_|refine st_bH ?_)
  all_goals try (exfalso;omega)
  have hB4:BdZ h h2 lb (b0 ++ (S.ws.take (i+1)).flatMap wkT):=by rw [flat_take (d:=⟨false,false,false⟩) hil,← List.append_assoc];exact hB3
  have hk4:h.clk≤h2.clk:=Nat.le_trans (Nat.le_trans hk2 (Nat.le_trans hc2 (by simp only[go_sem];omega))) hk3
  refine ⟨(i+1,_),(by exact ⟨by show i+1≤S.ws.length;omega,hB4,ha3.trans ha2,by show h.clk≤_;try simp only[go_sem];omega,hg3.trans hg2⟩),(by show S.ws.length - (i+1) < S.ws.length - i;omega),(by repeat' (first|exact trivial|refine And.intro ?_ ?_|rfl|(simp (disch:=omega) only[go_sem,if_yes,if_no,if_no];rfl)|(simp (disch:=omega) only[go_sem,if_yes,if_no,if_no]))),(by repeat' (first|exact trivial|refine And.intro ?_ ?_|rfl|(simp (disch:=omega) only[go_sem,if_yes,if_no,if_no];rfl)|(simp (disch:=omega) only[go_sem,if_yes,if_no,if_no]))),rfl,HOld.refl _⟩
 obtain rfl:i=S.ws.length:=by omega
 rw [List.take_length] at hB2
 have hfw:(S.ws.flatMap wkT).length≤80 * 4:=Nat.le_trans (flat_len (fun x _=>wkT_len x)) (Nat.mul_le_mul_left _ h4)
 repeat' (first|refine st_seq_reg rfl (by first|(simp only[go_sem,length_map];rfl)|rfl) (by first|(simp only[go_sem,length_map];rfl)|rfl) ?_|refine st_op ?_|refine st_det rfl (by simp (disch:=omega) only[go_sem,wr_i64,length_map];rfl) ?_|refine st_loc rfl (by simp (disch:=omega) only[go_sem,wr_i64,length_map];rfl) ?_|refine st_store (by simp (disch:=omega) only[go_sem,wr_i64,length_map];rfl) ?_|(refine st_condS rfl ?_ ?_ <;> intro hg <;> (try simp only[dcT,dcF,bnT,bnF] at hg))|refine st_nil ?_|refine st_tN ?_|refine st_seq ?_|refine st_block ?_|refine st_skip ?_|refine st_exit ?_|refine st_tE ?_|refine st_bH ?_)
 all_goals try (exfalso;omega)
 obtain ⟨b1,hb1⟩:∃ b1,b1=b0 ++ S.ws.flatMap wkT:=⟨_,rfl⟩
 have hl1:b1.length≤420:=by rw [hb1,List.length_append];omega
 rw [← hb1] at hB2
 have hjl:∀ x ∈ S.js,(jbT x).length≤80:=fun x hx=>jbT_len (hS.job x hx)
 refine asem_seq (fi:=⟨66,[8,11],[1,22,43,60],none,[]⟩) tab mixed (by decide) ?_
 repeat' (first|refine st_seq_reg rfl (by first|(simp only[go_sem,length_map];rfl)|rfl) (by first|(simp only[go_sem,length_map];rfl)|rfl) ?_|refine st_op ?_|refine st_det rfl (by simp (disch:=omega) only[go_sem,wr_i64,length_map];rfl) ?_|refine st_nil ?_|refine st_block ?_)
 refine st_loopH (α:=Nat × AH) tab mixed [] [] (by repeat (first|exact trivial|refine ⟨rfl,?_⟩)) [] [] (by repeat (first|exact trivial|refine ⟨rfl,?_⟩)) (fun a=>[(49,.int .i64 (a.1:Nat))]) [(1,_),(2,_),(3,_),(6,_),(47,_),(48,_),(5,_)] (fun _=>[]) [] (fun a=>a.2) (fun a=>a.1≤S.js.length∧BdZ h a.2 lb (b1 ++ (S.js.take a.1).flatMap jbT)∧a.2.at_=h.at_∧h.clk≤a.2.clk∧a.2.gl=gT) (fun a=>S.js.length - a.1) (by decide) (0,_) (by exact ⟨Nat.zero_le _,by show BdZ h g2 lb _;simpa using hB2,ha2,by show h.clk≤_;try simp only[go_sem];omega,hg2⟩) (by (try simp only[go_sem]);repeat' (first|exact trivial|refine And.intro ?_ ?_|rfl|(simp (disch:=omega) only[go_sem,if_yes,if_no,if_no];rfl)|(simp (disch:=omega) only[go_sem,if_yes,if_no,if_no]))) (by (try simp only[go_sem]);repeat' (first|exact trivial|refine And.intro ?_ ?_|rfl|(simp (disch:=omega) only[go_sem,if_yes,if_no,if_no];rfl)|(simp (disch:=omega) only[go_sem,if_yes,if_no,if_no]))) (HOld.refl _) ?_
 rintro ⟨j,g3⟩ c3 ⟨hj,hB5,ha5,hk5,hg5⟩ hc3
 dsimp only at hj hB5 ha5 hk5 hg5 hc3
 simp only[go_sem]
 by_cases hjs:j < S.js.length
 case pos =>
  have hfl:((S.js.take j).flatMap jbT).length≤80 * 7:=Nat.le_trans (flat_len (fun x hx=>hjl x (List.mem_of_mem_take hx))) (Nat.mul_le_mul_left _ (by rw [List.length_take];omega))
  obtain ⟨q1,q2,q3,q4,q5,q6⟩:=hS.j hjs
  have ej:S.j j=jOf S.js j:=rfl
  rw [ej] at q1 q2 q3 q4 q5 q6
  repeat' (first|refine st_seq_reg rfl (by first|(simp only[go_sem,length_map];rfl)|rfl) (by first|(simp only[go_sem,length_map];rfl)|rfl) ?_|refine st_reg rfl (by first|(simp only[go_sem,length_map];rfl)|rfl) (by first|(simp only[go_sem,length_map];rfl)|rfl) ?_|refine st_op ?_|refine st_det rfl (by simp (disch:=omega) only[go_sem,wr_i64,length_map];rfl) ?_|refine st_loc rfl (by simp (disch:=omega) only[go_sem,wr_i64,length_map];rfl) ?_|refine st_store (by simp (disch:=omega) only[go_sem,wr_i64,length_map];rfl) ?_|(refine st_call rfl rfl rfl (c77 wJob [(jOf S.js j).f,(jOf S.js j).s,(jOf S.js j).d] lb _ h _ (by exact hg5) (by exact hB5) (num3 (by omega) (by omega) (by omega)) (by rw [List.length_append];omega) (by decide)) ?_;rintro v' h2 ⟨rfl,hB3,ha3,hk3,hg3⟩)|(refine st_condS rfl ?_ ?_ <;> intro hg <;> (try simp only[dcT,dcF,bnT,bnF] at hg))|refine st_nil ?_|refine st_tN ?_|refine st_seq ?_|refine st_block ?_|refine st_skip ?_|refine st_exit ?_|refine st_tE ?_|refine st_bN ?_|refine st_bH ?_)
  all_goals try (exfalso;omega)
  have hB4:BdZ h h2 lb (b1 ++ (S.js.take (j+1)).flatMap jbT):=by rw [flat_take (d:=⟨0,0,0⟩) hjs,← List.append_assoc];exact hB3
  have hk4:h.clk≤h2.clk:=Nat.le_trans (Nat.le_trans hk5 (Nat.le_trans hc3 (by simp only[go_sem];omega))) hk3
  refine ⟨(j+1,_),(by exact ⟨by show j+1≤S.js.length;omega,hB4,ha3.trans ha5,by show h.clk≤_;try simp only[go_sem];omega,hg3.trans hg5⟩),(by show S.js.length - (j+1) < S.js.length - j;omega),(by repeat' (first|exact trivial|refine And.intro ?_ ?_|rfl|(simp (disch:=omega) only[go_sem,if_yes,if_no,if_no];rfl)|(simp (disch:=omega) only[go_sem,if_yes,if_no,if_no]))),(by repeat' (first|exact trivial|refine And.intro ?_ ?_|rfl|(simp (disch:=omega) only[go_sem,if_yes,if_no,if_no];rfl)|(simp (disch:=omega) only[go_sem,if_yes,if_no,if_no]))),rfl,HOld.refl _⟩
 obtain rfl:j=S.js.length:=by omega
 rw [List.take_length] at hB5
 have hfj:(S.js.flatMap jbT).length≤80 * 7:=Nat.le_trans (flat_len hjl) (Nat.mul_le_mul_left _ h7)
 repeat' (first|refine st_seq_reg rfl (by first|(simp only[go_sem,length_map];rfl)|rfl) (by first|(simp only[go_sem,length_map];rfl)|rfl) ?_|refine st_reg rfl (by first|(simp only[go_sem,length_map];rfl)|rfl) (by first|(simp only[go_sem,length_map];rfl)|rfl) ?_|refine st_op ?_|refine st_det rfl (by simp (disch:=omega) only[go_sem,wr_i64,length_map];rfl) ?_|refine st_loc rfl (by simp (disch:=omega) only[go_sem,wr_i64,length_map];rfl) ?_|refine st_store (by simp (disch:=omega) only[go_sem,wr_i64,length_map];rfl) ?_|(refine st_condS rfl ?_ ?_ <;> intro hg <;> (try simp only[dcT,dcF,bnT,bnF] at hg))|refine st_nil ?_|refine st_tN ?_|refine st_seq ?_|refine st_block ?_|refine st_skip ?_|refine st_exit ?_|refine st_tE ?_|refine st_bH ?_)
 all_goals try (exfalso;omega)
 refine asem_seq (fi:=⟨66,[8,11],[1,22,43,60],none,[]⟩) tab mixed (by decide) ?_
 repeat' (first|refine st_reg rfl (by first|(simp only[go_sem];rfl)|rfl) (by first|(simp only[go_sem];rfl)|rfl) ?_|refine st_op ?_|refine st_det rfl (by simp (disch:=omega) only[go_sem,wr_i64];rfl) ?_|(refine st_call rfl rfl rfl (c77n wEnd lb _ h _ (by exact hg5) (by exact hB5) (by rw [List.length_append];omega) (by decide)) ?_;rintro v' h2 ⟨rfl,hB3,ha3,hk3,hg3⟩)|refine st_nil ?_|refine st_tN ?_)
 have eT:b1 ++ S.js.flatMap jbT ++ rowT wEnd []=brdT S:=by rw [hb1,hb0];unfold brdT;simp only[List.append_assoc]
 rw [eT] at hB3
 have hne:brdT S ≠ []:=by
  rw [← eT];unfold rowT;simp
 refine asem_seq (fi:=⟨66,[8,11],[1,22,43,60],none,[]⟩) tab mixed (by decide) ?_
 repeat' (first|refine st_reg rfl (by first|(simp only[go_sem];rfl)|rfl) (by first|(simp only[go_sem];rfl)|rfl) ?_|refine st_op ?_|refine st_det rfl (by simp (disch:=omega) only[go_sem,wr_i64];rfl) ?_|(refine st_callf rfl rfl (c81 (by exact hB3) hne) ?_;rintro v' h4 ⟨rfl,hlp,ha4,hk4,hg4⟩)|refine st_nil ?_|refine st_tN ?_)
 refine asem_awp (fi:=⟨66,[8,11],[1,22,43,60],none,[]⟩) tab mixed (by decide) ?_
 repeat' (first|refine st_ret ?_)
 simp (disch:=omega) only[AEnd,Tryz.results36,aresK,fin,go_sem,implies_true,true_and,and_true,List.reverse_cons,List.reverse_nil]
 refine ⟨fun b hb=>?_,hlp,by unfold wrV;rw [if_pos hE]⟩
 rw [ha4]
 show h2.at_ b=_
 rw [ha3]
 exact congrFun ha5 b
end Go.Proofs.YtaijkalhkgjakaaGreatDoor

namespace Go.Proofs.YtaijkalhkgjakaaGreatDoor
open Go.Av Go.Txt Go.Lib
attribute [local irreducible] thenA blockA awp awpOps awpD awp1
attribute [local go_sem_proc] Nat.reduceAdd Nat.reduceMul Nat.reduceEqDiff Nat.reduceBEq Nat.reduceLeDiff
attribute [local go_sem_proc ↓] reduceIte
attribute [local go_sem] if_yes if_no
set_option maxHeartbeats 8000000
set_option maxRecDepth 20000
def accT {α:Type} (b:List UInt8) (f:α→List UInt8) (l:List α) (d:α):Nat→List UInt8
 | 0=>b
 | i+1=>accT b f l d i ++ f (l.getD i d)
theorem accT_eq {α:Type} {b:List UInt8} {f:α→List UInt8} {l:List α} {d:α}:∀ {i:Nat},i≤l.length→accT b f l d i=b ++ (l.take i).flatMap f
 | 0,_=>by simp [accT]
 | i+1,h=>by rw [accT,accT_eq (Nat.le_of_lt h),flat_take (d:=d) h,List.append_assoc]
theorem accT_len {α:Type} {b:List UInt8} {f:α→List UInt8} {l:List α} {d:α} {n i:Nat} (hi:i≤l.length) (h:∀ x ∈ l,(f x).length≤n):(accT b f l d i).length≤b.length+n * l.length:=by
 rw [accT_eq hi,List.length_append]
 have h1:=flat_len (f:=f) (l:=l.take i) (fun x hx=>h x (List.mem_of_mem_take hx))
 have h2:n * (l.take i).length≤n * l.length:=Nat.mul_le_mul_left _ (by rw [List.length_take];omega)
 omega
theorem c39 (S:Sp):PureG gT Tryz.prog 39 [S.av] (fun v=>v=wrV S):=by
 intro h hgl
 refine ACalls.forget (ACalls.of tab mixed Tryz.call39 Tryz.func39 rfl (fi:=⟨75,[7],[1,17,41,70],none,[(9,[0,0,2,6,0,16,62,0,128,510,1022,2046,4095,8191],[(0,false),(1,false),(2,true),(4,false),(5,true),(7,false),(8,true),(3,false),(6,false),(9,false),(10,false),(11,false),(12,false),(13,false)]),(13,[0,0,2,0,14,30,62,0,128,0,896,1920,3968,0,8192,0,57344,122880,253952,524286,1048574,2097151,4194303],[(0,false),(1,false),(2,true),(3,false),(4,false),(5,false),(6,true),(7,false),(8,true),(9,false),(10,false),(11,false),(12,true),(13,false),(14,true),(15,false),(16,false),(17,false),(18,true),(19,false),(20,false),(21,false),(22,false)])]⟩) rfl rfl (Nat.le_of_ble_eq_true rfl) (by decide) ?_)
 unfold startA
 try simp only[go_sem]
 by_cases hE:shopE S=0
 case neg =>
  repeat' (first|refine st_seq_reg rfl (by first|(simp only[go_sem];rfl)|rfl) (by first|(simp only[go_sem];rfl)|rfl) ?_|refine st_op ?_|refine st_det rfl (by simp (disch:=omega) only[go_sem,wr_i64];rfl) ?_|(refine st_pureE (by first|(simp (disch:=omega) only[go_sem];rfl)|rfl) rfl (c82 S) (by first|(simp only[go_sem];rfl)|rfl) (by intro n;first|(simp (disch:=omega) only[go_sem];rfl)|rfl) ?_;intro n hn)|(refine st_condS rfl ?_ ?_ <;> intro hg <;> (try simp only[dcT,dcF,bnT,bnF] at hg))|refine st_nil ?_|refine st_tN ?_|refine st_seq ?_|refine st_skip ?_|refine st_ret ?_|refine st_tR ?_)
  all_goals try (exfalso;omega)
  simp (disch:=omega) only[AEnd,Tryz.results39,aresK,fin,go_sem,implies_true,true_and,and_true,List.reverse_cons,List.reverse_nil]
  unfold wrV;rw [if_neg hE]
 have hS:=shop_ok hE
 have h4:=hS.m4
 have h7:=hS.n7
 have hlS:(rowT wShop [(S.js.length:Int)]).length≤100:=by
  have:=rowT_len (w:=wShop) (l:=[(S.js.length:Int)]) (fun x hx=>by simp at hx;omega)
  have e:wShop.length=4:=rfl
  simp only[List.length_cons,List.length_nil] at this;omega
 have k83:=c83 wShop [(S.js.length:Int)] ⟨by simp,fun x hx=>by simp at hx;omega⟩ (by decide)
 repeat' (first|refine st_seq_reg rfl (by first|(simp only[go_sem,length_map];rfl)|rfl) (by first|(simp only[go_sem,length_map];rfl)|rfl) ?_|refine st_op ?_|refine st_det rfl (by simp (disch:=omega) only[go_sem,wr_i64,length_map];rfl) ?_|(refine st_pureE (by first|(simp (disch:=omega) only[go_sem,length_map];rfl)|rfl) rfl (c82 S) (by first|(simp only[go_sem,length_map];rfl)|rfl) (by intro n;first|(simp (disch:=omega) only[go_sem];rfl)|rfl) ?_;intro n hn)|(refine st_pureGE (by first|(simp (disch:=omega) only[go_sem,length_map];rfl)|rfl) rfl (k83) (by exact hgl) (by first|(simp only[go_sem,length_map];rfl)|rfl) (by intro n;first|(simp (disch:=omega) only[go_sem];rfl)|rfl) ?_;intro n hn)|(refine st_condS rfl ?_ ?_ <;> intro hg <;> (try simp only[dcT,dcF,bnT,bnF] at hg))|refine st_nil ?_|refine st_tN ?_|refine st_seq ?_|refine st_block ?_|refine st_skip ?_|refine st_ret ?_|refine st_tR ?_)
 all_goals try (exfalso;omega)
 obtain ⟨b0,hb0⟩:∃ b0,b0=rowT wShop [(S.js.length:Int)]:=⟨_,rfl⟩
 rw [← hb0] at hlS ⊢
 refine st_loopC (α:=Nat) tab mixed [] [] (by repeat (first|exact trivial|refine ⟨rfl,?_⟩)) [] [] (by repeat (first|exact trivial|refine ⟨rfl,?_⟩)) (fun i=>[(6,.int .i64 (i:Nat)),(5,.str (accT b0 wkT S.ws ⟨false,false,false⟩ i))]) [(1,_),(2,_),(3,_)] (fun _=>[]) [] (fun i=>i≤S.ws.length) (fun i=>S.ws.length - i) (by decide) 0 (Nat.zero_le _) (by (try simp only[go_sem]);repeat' (first|exact trivial|refine And.intro ?_ ?_|rfl|(simp (disch:=omega) only[go_sem,if_yes,if_no,if_no];rfl)|(simp (disch:=omega) only[go_sem,if_yes,if_no,if_no]))) (by (try simp only[go_sem]);repeat' (first|exact trivial|refine And.intro ?_ ?_|rfl|(simp (disch:=omega) only[go_sem,if_yes,if_no,if_no];rfl)|(simp (disch:=omega) only[go_sem,if_yes,if_no,if_no]))) (by first|(simp only[go_sem];rfl)|rfl) (by intro n;simp only[go_sem];rfl) ?_
 rintro i c2 hi hc2
 simp only[go_sem]
 have hal:=accT_len (b:=b0) (f:=wkT) (d:=⟨false,false,false⟩) (n:=80) hi (fun x _=>wkT_len x)
 by_cases hil:i < S.ws.length
 case pos =>
  have hwl:(rowT wWorker [bi (wOf S.ws i).a,bi (wOf S.ws i).b,bi (wOf S.ws i).c]).length≤80:=wkT_len (wOf S.ws i)
  have k83w:=c83 wWorker [bi (wOf S.ws i).a,bi (wOf S.ws i).b,bi (wOf S.ws i).c] (num3 (bi_ok _) (bi_ok _) (bi_ok _)) (by decide)
  repeat' (first|refine st_seq_reg rfl (by first|(simp only[go_sem,length_map,add_str];rfl)|rfl) (by first|(simp only[go_sem,length_map,add_str];rfl)|rfl) ?_|refine st_reg rfl (by first|(simp only[go_sem,length_map,add_str];rfl)|rfl) (by first|(simp only[go_sem,length_map,add_str];rfl)|rfl) ?_|refine st_draw rfl (by first|(simp only[go_sem,length_map,add_str];rfl)|rfl) (by first|(simp only[go_sem,length_map,add_str];rfl)|rfl) ?_|refine st_op ?_|refine st_det rfl (by simp (disch:=omega) only[go_sem,wr_i64,length_map,add_str];rfl) ?_|refine st_dop rfl ?_|refine st_loc rfl (by simp (disch:=omega) only[go_sem,wr_i64,length_map,add_str];rfl) ?_|refine st_store (by simp (disch:=omega) only[go_sem,wr_i64,length_map,add_str];rfl) ?_|(refine st_pureE (by first|(simp (disch:=omega) only[go_sem,length_map,add_str];rfl)|rfl) rfl (c84 (wOf S.ws i).a) (by first|(simp only[go_sem,length_map,add_str];rfl)|rfl) (by intro n;first|(simp (disch:=omega) only[go_sem];rfl)|rfl) ?_;intro n hn)|(refine st_pureE (by first|(simp (disch:=omega) only[go_sem,length_map,add_str];rfl)|rfl) rfl (c84 (wOf S.ws i).b) (by first|(simp only[go_sem,length_map,add_str];rfl)|rfl) (by intro n;first|(simp (disch:=omega) only[go_sem];rfl)|rfl) ?_;intro n hn)|(refine st_pureE (by first|(simp (disch:=omega) only[go_sem,length_map,add_str];rfl)|rfl) rfl (c84 (wOf S.ws i).c) (by first|(simp only[go_sem,length_map,add_str];rfl)|rfl) (by intro n;first|(simp (disch:=omega) only[go_sem];rfl)|rfl) ?_;intro n hn)|(refine st_pureGE (by first|(simp (disch:=omega) only[go_sem,length_map,add_str];rfl)|rfl) rfl (k83w) (by exact hgl) (by first|(simp only[go_sem,length_map,add_str];rfl)|rfl) (by intro n;first|(simp (disch:=omega) only[go_sem];rfl)|rfl) ?_;intro n hn)|(refine st_condS rfl ?_ ?_ <;> intro hg <;> (try simp only[dcT,dcF,bnT,bnF] at hg))|refine st_nil ?_|refine st_dnil ?_|refine st_tN ?_|refine st_seq ?_|refine st_block ?_|refine st_skip ?_|refine st_exit ?_|refine st_tE ?_|refine st_bN ?_|refine st_bH ?_)
  all_goals try (exfalso;omega)
  refine ⟨i+1,(by omega),by omega,(by repeat' (first|exact trivial|refine And.intro ?_ ?_|rfl|(simp (disch:=omega) only[go_sem,if_yes,if_no,if_no];rfl)|(simp (disch:=omega) only[go_sem,if_yes,if_no,if_no]))),(by repeat' (first|exact trivial|refine And.intro ?_ ?_|rfl|(simp (disch:=omega) only[go_sem,if_yes,if_no,if_no];rfl)|(simp (disch:=omega) only[go_sem,if_yes,if_no,if_no]))),rfl,(by first|exact HOld.of _ (by omega)|exact HOld.put _ _ _ (by omega))⟩
 obtain rfl:i=S.ws.length:=by omega
 repeat' (first|refine st_seq_reg rfl (by first|(simp only[go_sem,length_map];rfl)|rfl) (by first|(simp only[go_sem,length_map];rfl)|rfl) ?_|refine st_draw rfl (by first|(simp only[go_sem,length_map];rfl)|rfl) (by first|(simp only[go_sem,length_map];rfl)|rfl) ?_|refine st_op ?_|refine st_det rfl (by simp (disch:=omega) only[go_sem,wr_i64,length_map];rfl) ?_|refine st_dop rfl ?_|refine st_loc rfl (by simp (disch:=omega) only[go_sem,wr_i64,length_map];rfl) ?_|refine st_store (by simp (disch:=omega) only[go_sem,wr_i64,length_map];rfl) ?_|(refine st_condS rfl ?_ ?_ <;> intro hg <;> (try simp only[dcT,dcF,bnT,bnF] at hg))|refine st_nil ?_|refine st_tN ?_|refine st_seq ?_|refine st_block ?_|refine st_skip ?_|refine st_exit ?_|refine st_tE ?_|refine st_bH ?_)
 all_goals try (exfalso;omega)
 obtain ⟨b1,hb1⟩:∃ b1,b1=accT b0 wkT S.ws ⟨false,false,false⟩ S.ws.length:=⟨_,rfl⟩
 rw [← hb1] at hal ⊢
 have hjl:∀ x ∈ S.js,(jbT x).length≤80:=fun x hx=>jbT_len (hS.job x hx)
 refine st_loopC (α:=Nat) tab mixed [] [] (by repeat (first|exact trivial|refine ⟨rfl,?_⟩)) [] [] (by repeat (first|exact trivial|refine ⟨rfl,?_⟩)) (fun i=>[(8,.int .i64 (i:Nat)),(5,.str (accT b1 jbT S.js ⟨0,0,0⟩ i))]) [(1,_),(2,_),(3,_)] (fun _=>[]) [] (fun i=>i≤S.js.length) (fun i=>S.js.length - i) (by decide) 0 (Nat.zero_le _) (by (try simp only[go_sem]);repeat' (first|exact trivial|refine And.intro ?_ ?_|rfl|(simp (disch:=omega) only[go_sem,if_yes,if_no,if_no];rfl)|(simp (disch:=omega) only[go_sem,if_yes,if_no,if_no]))) (by (try simp only[go_sem]);repeat' (first|exact trivial|refine And.intro ?_ ?_|rfl|(simp (disch:=omega) only[go_sem,if_yes,if_no,if_no];rfl)|(simp (disch:=omega) only[go_sem,if_yes,if_no,if_no]))) (by first|(simp only[go_sem];rfl)|rfl) (by intro n;simp only[go_sem];rfl) ?_
 rintro j c3 hj hc3
 simp only[go_sem]
 have hal2:=accT_len (b:=b1) (f:=jbT) (d:=⟨0,0,0⟩) (n:=80) hj hjl
 by_cases hjs:j < S.js.length
 case pos =>
  obtain ⟨q1,q2,q3,q4,q5,q6⟩:=hS.j hjs
  have ej:S.j j=jOf S.js j:=rfl
  have hjw:(rowT wJob [(jOf S.js j).f,(jOf S.js j).s,(jOf S.js j).d]).length≤80:=jbT_len (hS.j hjs)
  rw [ej] at q1 q2 q3 q4 q5 q6
  have k83j:=c83 wJob [(jOf S.js j).f,(jOf S.js j).s,(jOf S.js j).d] (num3 (by omega) (by omega) (by omega)) (by decide)
  repeat' (first|refine st_seq_reg rfl (by first|(simp only[go_sem,length_map,add_str];rfl)|rfl) (by first|(simp only[go_sem,length_map,add_str];rfl)|rfl) ?_|refine st_reg rfl (by first|(simp only[go_sem,length_map,add_str];rfl)|rfl) (by first|(simp only[go_sem,length_map,add_str];rfl)|rfl) ?_|refine st_draw rfl (by first|(simp only[go_sem,length_map,add_str];rfl)|rfl) (by first|(simp only[go_sem,length_map,add_str];rfl)|rfl) ?_|refine st_op ?_|refine st_det rfl (by simp (disch:=omega) only[go_sem,wr_i64,length_map,add_str];rfl) ?_|refine st_dop rfl ?_|(refine st_pureGE (by first|(simp (disch:=omega) only[go_sem,length_map,add_str];rfl)|rfl) rfl (k83j) (by exact hgl) (by first|(simp only[go_sem,length_map,add_str];rfl)|rfl) (by intro n;first|(simp (disch:=omega) only[go_sem];rfl)|rfl) ?_;intro n hn)|(refine st_condS rfl ?_ ?_ <;> intro hg <;> (try simp only[dcT,dcF,bnT,bnF] at hg))|refine st_nil ?_|refine st_dnil ?_|refine st_tN ?_|refine st_seq ?_|refine st_block ?_|refine st_skip ?_|refine st_exit ?_|refine st_ret ?_|refine st_tE ?_|refine st_bN ?_|refine st_bH ?_)
  all_goals try (exfalso;omega)
  refine ⟨j+1,(by omega),by omega,(by repeat' (first|exact trivial|refine And.intro ?_ ?_|rfl|(simp (disch:=omega) only[go_sem,if_yes,if_no,if_no];rfl)|(simp (disch:=omega) only[go_sem,if_yes,if_no,if_no]))),(by repeat' (first|exact trivial|refine And.intro ?_ ?_|rfl|(simp (disch:=omega) only[go_sem,if_yes,if_no,if_no];rfl)|(simp (disch:=omega) only[go_sem,if_yes,if_no,if_no]))),rfl,(by first|exact HOld.of _ (by omega)|exact HOld.put _ _ _ (by omega))⟩
 obtain rfl:j=S.js.length:=by omega
 repeat' (first|refine st_seq_reg rfl (by first|(simp only[go_sem,length_map,add_str,List.length_cons,List.length_nil];rfl)|rfl) (by first|(simp only[go_sem,length_map,add_str,List.length_cons,List.length_nil];rfl)|rfl) ?_|refine st_draw rfl (by first|(simp only[go_sem,length_map,add_str,List.length_cons,List.length_nil];rfl)|rfl) (by first|(simp only[go_sem,length_map,add_str,List.length_cons,List.length_nil];rfl)|rfl) ?_|refine st_op ?_|refine st_det rfl (by simp (disch:=omega) only[go_sem,wr_i64,length_map,add_str,List.length_cons,List.length_nil];rfl) ?_|refine st_dop rfl ?_|(refine st_condS rfl ?_ ?_ <;> intro hg <;> (try simp only[dcT,dcF,bnT,bnF] at hg))|refine st_nil ?_|refine st_tN ?_|refine st_seq ?_|refine st_block ?_|refine st_skip ?_|refine st_exit ?_|refine st_ret ?_|refine st_tE ?_|refine st_bH ?_)
 all_goals try (exfalso;omega)
 simp (disch:=omega) only[AEnd,Tryz.results39,aresK,fin,go_sem,implies_true,true_and,and_true,List.reverse_cons,List.reverse_nil]
 unfold wrV
 rw [if_pos hE]
 have e1:accT b1 jbT S.js ⟨0,0,0⟩ S.js.length=b1 ++ S.js.flatMap jbT:=by rw [accT_eq (Nat.le_refl _),List.take_length]
 have e2:b1=b0 ++ S.ws.flatMap wkT:=by rw [hb1,accT_eq (Nat.le_refl _),List.take_length]
 rw [e1,e2,hb0]
 rfl
end Go.Proofs.YtaijkalhkgjakaaGreatDoor

namespace Go.Proofs.YtaijkalhkgjakaaGreatDoor
open Go.Av Go.Txt Go.Lib
set_option maxRecDepth 20000
structure BSt where
 S:Sp
 m:Int
 e:Bool
def nth (l:List Int) (i:Nat):Int:=l.getD i 0
def stepB (i:Nat) (st:BSt) (row:List UInt8):Option BSt:=match rowP 3 row with
 | none=>none
 | some (w,l) =>
  if st.e=true then none
  else if ¬ (w=wShop ↔ i=0) then none
  else if w=wShop then (if l.length=1 then some ⟨st.S,nth l 0,st.e⟩ else none)
  else if w=wWorker then (if l.length=3∧allIn 0 1 l=true∧st.S.js.length=0 then some ⟨⟨st.S.ws ++ [⟨decide (nth l 0=1),decide (nth l 1=1),decide (nth l 2=1)⟩],st.S.js⟩,st.m,st.e⟩ else none)
  else if w=wJob then (if l.length=3 then some ⟨⟨st.S.ws,st.S.js ++ [⟨nth l 0,nth l 1,nth l 2⟩]⟩,st.m,st.e⟩ else none)
  else if w=wEnd then (if l.length=0 then some ⟨st.S,st.m,true⟩ else none)
  else none
def runR:Nat→BSt→List (List UInt8)→Nat ⊕ BSt
 | _,st,[]=>.inr st
 | i,st,r :: rs=>match stepB i st r with
  | none=>.inl (i+1)
  | some st'=>runR (i+1) st' rs
def st0:BSt:=⟨⟨[],[]⟩,0,false⟩
def badV (k:Nat) (e:Int):AV:=.tup [.agg [.lst 3 [],.lst 3 []],.int .i64 (k:Nat),.int .i64 e]
def rdV (text:List UInt8):AV :=
 if 1000 < text.length then badV 0 6 else
 match runR 0 st0 ((splitL 10 text).take ((splitL 10 text).length - 1)) with
 | .inl k=>badV k 1
 | .inr st =>
  if st.e=false then badV (splitL 10 text).length 1
  else if (splitL 10 text).getD ((splitL 10 text).length - 1) [] ≠ [] then badV (splitL 10 text).length 1
  else if st.m ≠ st.S.js.length then badV 1 1
  else if shopE st.S ≠ 0 then badV 0 (shopE st.S)
  else .tup [st.S.av,.int .i64 0,.int .i64 0]
theorem run_drop {i:Nat} {st:BSt} {l:List (List UInt8)} (h:i < l.length):runR i st (l.drop i)=match stepB i st (l.getD i []) with
  | none=>.inl (i+1)
  | some st'=>runR (i+1) st' (l.drop (i+1)):=by
 rw [List.drop_eq_getElem_cons h,runR,List.getD_eq_getElem?_getD,List.getElem?_eq_getElem h]
 rfl
theorem bad_le {k:Nat} {e:Int}:VLe (.tup [.agg [.nils,.nils],.int .i64 (k:Nat),.int .i64 e]) (badV k e) :=
 VLe.tup (VLes.mid (pre:=[]) (post:=[.int .i64 (k:Nat),.int .i64 e]) (VLe.agg (by simp only[VLes];exact ⟨_,_,rfl,VLe.nils 3,_,_,rfl,VLe.nils 3,rfl⟩) rfl))
theorem SlA.cells {h0 z:Nat} {g:AH} {v:AV} {l:List (List AV)} (h:SlA h0 g v z l):v.cells=[v]:=by
 rcases h with ⟨rfl,rfl⟩|⟨b,rfl,h2⟩
 ·rfl
 ·rfl
theorem SlA.len {h0 z:Nat} {g:AH} {v:AV} {l:List (List AV)} (h:SlA h0 g v z l) {ti:TI} {el:Nat} (hk:ti.k=.slice el):alen ti v=some (l.length:Int):=by
 rcases h with ⟨rfl,rfl⟩|⟨b,rfl,h2⟩
 ·unfold alen;rw [hk];rfl
 ·unfold alen;rw [hk]
theorem frzss_wk {b:Bid} {k:Blk}:∀ (l:List Wk),frzss b k (l.map Wk.row)=l.map Wk.row
 | []=>by simp only[List.map_nil,frzss]
 | x :: l=>by simp only[List.map_cons,frzss,frzss_wk l,Wk.row,frzs,frz]
structure RdS where
 i:Nat
 v1:AV
 v2:AV
 st:BSt
 g:AH
end Go.Proofs.YtaijkalhkgjakaaGreatDoor

namespace Go.Proofs.YtaijkalhkgjakaaGreatDoor
open Go.Av Go.Txt Go.Lib
theorem rowP_end {row w:List UInt8} {l:List Int} (h:rowP 3 row=some (w,l)):row=wEnd ↔ (w=wEnd∧l.length=0):=by
 constructor
 ·rintro rfl
  have e:rowP 3 wEnd=some (wEnd,[]):=by
   unfold rowP
   rw [splitL_none (by decide)];rfl
  rw [e] at h
  injection h with h
  injection h with h1 h2
  subst h1;subst h2
  exact ⟨rfl,rfl⟩
 ·rintro ⟨rfl,hl⟩
  unfold rowP at h
  split at h
  ·cases h
  ·rename_i w' ws hw
   cases hn:numsP 3 ws with
   | none=>rw [hn] at h;cases h
   | some r =>
    rw [hn] at h
    injection h with h
    injection h with h1 h2
    subst h2
    have:=numsP_len hn
    have hws:ws=[]:=List.length_eq_zero_iff.1 (by omega)
    have e:=join_split 32 row
    rw [hw,hws,h1] at e
    rw [← e];rfl
theorem rowP_none {row:List UInt8} (h:rowP 3 row=none):row ≠ wEnd:=by
 rintro rfl
 have e:rowP 3 wEnd=some (wEnd,[]):=by
  unfold rowP
  rw [splitL_none (by decide)];rfl
 rw [e] at h;cases h
theorem numsP_nn {k:Nat}:∀ {l:List (List UInt8)} {r:List Int},numsP k l=some r→∀ x ∈ r,0≤x
 | [],r,h,x,hx=>by simp [numsP] at h;subst h;cases hx
 | y :: l,r,h,x,hx=>by
  simp only[numsP] at h
  split at h
  ·rename_i n q h1 h2
   cases h
   rcases List.mem_cons.1 hx with rfl|hx
   ·omega
   ·exact numsP_nn h2 x hx
  ·cases h
theorem rowP_nn {k:Nat} {row w:List UInt8} {l:List Int} (h:rowP k row=some (w,l)):∀ x ∈ l,0≤x:=by
 unfold rowP at h
 split at h
 ·cases h
 ·rename_i w' ws hw
  cases hn:numsP k ws with
  | none=>rw [hn] at h;cases h
  | some r =>
   rw [hn] at h
   injection h with h
   injection h with h1 h2
   subst h2
   exact numsP_nn hn
theorem all3 {l:List Int} (hl:l.length=3) (h:∀ x ∈ l,0≤x):allIn 0 1 l=true ↔ (nth l 0 < 2∧nth l 1 < 2∧nth l 2 < 2):=by
 match l,hl with
 | [a,b,c],_ =>
  have h1:=h a (by simp)
  have h2:=h b (by simp)
  have h3:=h c (by simp)
  simp [allIn,nth]
  omega
end Go.Proofs.YtaijkalhkgjakaaGreatDoor
