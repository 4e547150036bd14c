/- Contracts of functions that the claim reaches: what each call gives, told in our own logic. Conditions: those of each theorem. -/
import Derived.Test.YtoafigpikgigaaaGreatDoorWR
import Derived.Test.YtoafigpikgigaaaGreatDoorW6
import Derived.Test.YtoafigpikgigaaaGreatDoorY5a
import Derived.Test.YtoafigpikgigaaaGreatDoorQ6
import Derived.Test.YtoafigpikgigaaaGreatDoorV3
open List (length_map)
set_option linter.all false
set_option linter.unusedSimpArgs false
set_option linter.unusedVariables false
namespace Go.Proofs.YtoafigpikgigaaaGreatDoor
open Go.Av Go.Txt Go.Lib
attribute [local irreducible] thenA blockA awp awpOps awpD awp1
attribute [local go_sem_proc] Nat.reduceAdd Nat.reduceMul Nat.reduceEqDiff Nat.reduceBEq Nat.reduceLeDiff
attribute [local go_sem_proc ↓] reduceIte
attribute [local go_sem] if_yes if_no
set_option maxHeartbeats 8000000
set_option maxRecDepth 20000
def accT {α:Type} (b:List UInt8) (f:α→List UInt8) (l:List α) (d:α):Nat→List UInt8
 | 0=>b
 | i+1=>accT b f l d i ++ f (l.getD i d)
theorem accT_eq {α:Type} {b:List UInt8} {f:α→List UInt8} {l:List α} {d:α}:∀ {i:Nat},i≤l.length→accT b f l d i=b ++ (l.take i).flatMap f
 | 0,_=>by simp [accT]
 | i+1,h=>by rw [accT,accT_eq (Nat.le_of_lt h),flat_take (d:=d) h,List.append_assoc]
theorem accT_len {α:Type} {b:List UInt8} {f:α→List UInt8} {l:List α} {d:α} {n i:Nat} (hi:i≤l.length) (h:∀ x ∈ l,(f x).length≤n):(accT b f l d i).length≤b.length+n * l.length:=by
 rw [accT_eq hi,List.length_append]
 have h1:=flat_len (f:=f) (l:=l.take i) (fun x hx=>h x (List.mem_of_mem_take hx))
 have h2:n * (l.take i).length≤n * l.length:=Nat.mul_le_mul_left _ (by rw [List.length_take];omega)
 omega
theorem c10 (t:Tw):PureG gT Tryz.prog 10 [t.av] (fun v=>v=wrV t):=by
 intro h hgl
 refine ACalls.forget (ACalls.of tab mixed Tryz.call10 Tryz.func10 rfl (fi:=⟨102,[9,87],[1,18,33,56,87,99],none,[(12,[0,0,2,0,14,30,62,0,128,0,896,1920,3968,8190,16382,32767,65535],[(0,false),(1,false),(2,true),(3,false),(4,false),(5,false),(6,true),(7,false),(8,true),(9,false),(10,false),(11,false),(12,true),(13,false),(14,false),(15,false),(16,false)])]⟩) rfl rfl (Nat.le_of_ble_eq_true rfl) (by decide) ?_)
 unfold startA
 try simp only[go_sem]
 by_cases hE:chkE t=0
 case neg =>
  repeat' (first|refine st_seq_reg rfl (by first|(simp only[go_sem];rfl)|rfl) (by first|(simp only[go_sem];rfl)|rfl) ?_|refine st_op ?_|refine st_det rfl (by simp (disch:=omega) only[go_sem,wr_i64];rfl) ?_|(refine st_pureE (by first|(simp (disch:=omega) only[go_sem];rfl)|rfl) rfl (c15 t) (by first|(simp only[go_sem];rfl)|rfl) (by intro n;first|(simp (disch:=omega) only[go_sem];rfl)|rfl) ?_;intro n hn)|(refine st_condS rfl ?_ ?_ <;> intro hg <;> (try simp only[dcT,dcF,bnT,bnF] at hg))|refine st_nil ?_|refine st_tN ?_|refine st_seq ?_|refine st_skip ?_|refine st_ret ?_|refine st_tR ?_)
  all_goals try (exfalso;omega)
  simp (disch:=omega) only[AEnd,Tryz.results10,aresK,fin,go_sem,implies_true,true_and,and_true,List.reverse_cons,List.reverse_nil]
  unfold wrV;rw [if_neg hE]
 have hO:=townOk hE
 have hrn:=hO.rn
 have hsn:=hO.sn
 have hgn:=hO.gn
 have hrl:∀ x ∈ t.rooms,(rmT x).length≤15:=fun x hx=>rmT_len hO hx
 have hsl:∀ x ∈ t.sts,(sxT x).length≤23:=fun x hx=>sxT_len hO hx
 have hgl2:∀ x ∈ t.gs,(gpT x).length≤150:=fun x hx=>gpT_len hO hx
 have hlS:(rowT wTown [t.steps]).length≤20:=Nat.le_trans (rowT_sm (w:=wTown) (sp_sm hO)) (show 13≤20 by decide)
 obtain ⟨b0,hb0⟩:∃ b0,b0=rowT wTown [t.steps]:=⟨_,rfl⟩
 have k38t:PureG gT Tryz.prog 38 [.str wTown,.lst 1 [[.int .i64 t.steps]]] (fun v=>v=.str b0):=by rw [hb0];exact c38 wTown [t.steps] ((sp_sm hO).ok (by simp)) (by decide)
 rw [← hb0] at hlS
 repeat' (first|refine st_seq_reg rfl (by first|(simp only[go_sem,Lm];rfl)|rfl) (by first|(simp only[go_sem,Lm];rfl)|rfl) ?_|refine st_op ?_|refine st_det rfl (by simp (disch:=omega) only[go_sem,wr_i64,Lm];rfl) ?_|(refine st_pureE (by first|(simp (disch:=omega) only[go_sem,Lm];rfl)|rfl) rfl (c15 t) (by first|(simp only[go_sem,Lm];rfl)|rfl) (by intro n;first|(simp (disch:=omega) only[go_sem];rfl)|rfl) ?_;intro n hn)|(refine st_pureGE (by first|(simp (disch:=omega) only[go_sem,Lm];rfl)|rfl) rfl (k38t) (by exact hgl) (by first|(simp only[go_sem,Lm];rfl)|rfl) (by intro n;first|(simp (disch:=omega) only[go_sem];rfl)|rfl) ?_;intro n hn)|(refine st_condS rfl ?_ ?_ <;> intro hg <;> (try simp only[dcT,dcF,bnT,bnF] at hg))|refine st_nil ?_|refine st_tN ?_|refine st_seq ?_|refine st_block ?_|refine st_skip ?_|refine st_ret ?_|refine st_tR ?_)
 all_goals try (exfalso;omega)
 refine st_loopC (α:=Nat) tab mixed [] [] (by repeat (first|exact trivial|refine ⟨rfl,?_⟩)) [] [] (by repeat (first|exact trivial|refine ⟨rfl,?_⟩)) (fun i=>[(6,.int .i64 (i:Nat)),(5,.str (accT b0 rmT t.rooms 0 i))]) [(1,_),(2,_),(3,_)] (fun _=>[]) [] (fun i=>i≤t.rooms.length) (fun i=>t.rooms.length - i) (by decide) 0 (Nat.zero_le _) (by (try simp only[go_sem]);repeat' (first|exact trivial|refine And.intro ?_ ?_|rfl|(simp (disch:=omega) only[go_sem,if_yes,if_no,if_no];rfl)|(simp (disch:=omega) only[go_sem,if_yes,if_no,if_no]))) (by (try simp only[go_sem]);repeat' (first|exact trivial|refine And.intro ?_ ?_|rfl|(simp (disch:=omega) only[go_sem,if_yes,if_no,if_no];rfl)|(simp (disch:=omega) only[go_sem,if_yes,if_no,if_no]))) (by first|(simp only[go_sem];rfl)|rfl) (by intro n;simp only[go_sem];rfl) ?_
 rintro i c2 hi hc2
 simp only[go_sem]
 have hal:=accT_len (b:=b0) (f:=rmT) (d:=0) (n:=15) hi hrl
 by_cases hil:i < t.rooms.length
 case pos =>
  have hwl:(rowT wSq [elt t.rooms i]).length≤15:=hrl _ (elt_mem hil)
  have k38:=c38 wSq [elt t.rooms i] ((rm_sm hO (elt_mem hil)).ok (by simp)) (by decide)
  repeat' (first|refine st_seq_reg rfl (by first|(simp only[go_sem,Lm,add_str];rfl)|rfl) (by first|(simp only[go_sem,Lm,add_str];rfl)|rfl) ?_|refine st_reg rfl (by first|(simp only[go_sem,Lm,add_str];rfl)|rfl) (by first|(simp only[go_sem,Lm,add_str];rfl)|rfl) ?_|refine st_op ?_|refine st_det rfl (by simp (disch:=omega) only[go_sem,wr_i64,Lm,add_str];rfl) ?_|(refine st_pureGE (by first|(simp (disch:=omega) only[go_sem,Lm,add_str];rfl)|rfl) rfl (k38) (by exact hgl) (by first|(simp only[go_sem,Lm,add_str];rfl)|rfl) (by intro n;first|(simp (disch:=omega) only[go_sem];rfl)|rfl) ?_;intro n hn)|(refine st_condS rfl ?_ ?_ <;> intro hg <;> (try simp only[dcT,dcF,bnT,bnF] at hg))|refine st_nil ?_|refine st_tN ?_|refine st_seq ?_|refine st_block ?_|refine st_skip ?_|refine st_exit ?_|refine st_tE ?_|refine st_bN ?_|refine st_bH ?_)
  all_goals try (exfalso;omega)
  refine ⟨i+1,(by omega),by omega,(by repeat' (first|exact trivial|refine And.intro ?_ ?_|rfl|(simp (disch:=omega) only[go_sem,if_yes,if_no,if_no];rfl)|(simp (disch:=omega) only[go_sem,if_yes,if_no,if_no]))),(by repeat' (first|exact trivial|refine And.intro ?_ ?_|rfl|(simp (disch:=omega) only[go_sem,if_yes,if_no,if_no];rfl)|(simp (disch:=omega) only[go_sem,if_yes,if_no,if_no]))),rfl,(by first|exact HOld.of _ (by omega)|exact HOld.put _ _ _ (by omega))⟩
 obtain rfl:i=t.rooms.length:=by omega
 obtain ⟨b1,hb1⟩:∃ b1,b1=accT b0 rmT t.rooms 0 t.rooms.length:=⟨_,rfl⟩
 rw [← hb1] at hal ⊢
 repeat' (first|refine st_seq_reg rfl (by first|(simp only[go_sem,Lm];rfl)|rfl) (by first|(simp only[go_sem,Lm];rfl)|rfl) ?_|refine st_reg rfl (by first|(simp only[go_sem,Lm];rfl)|rfl) (by first|(simp only[go_sem,Lm];rfl)|rfl) ?_|refine st_op ?_|refine st_det rfl (by simp (disch:=omega) only[go_sem,wr_i64,Lm];rfl) ?_|(refine st_condS rfl ?_ ?_ <;> intro hg <;> (try simp only[dcT,dcF,bnT,bnF] at hg))|refine st_nil ?_|refine st_tN ?_|refine st_seq ?_|refine st_block ?_|refine st_skip ?_|refine st_exit ?_|refine st_tE ?_|refine st_bH ?_)
 all_goals try (exfalso;omega)
 refine st_loopC (α:=Nat) tab mixed [] [] (by repeat (first|exact trivial|refine ⟨rfl,?_⟩)) [] [] (by repeat (first|exact trivial|refine ⟨rfl,?_⟩)) (fun i=>[(7,.int .i64 (i:Nat)),(5,.str (accT b1 sxT t.sts ⟨0,0⟩ i))]) [(1,_),(2,_),(3,_)] (fun _=>[]) [] (fun i=>i≤t.sts.length) (fun i=>t.sts.length - i) (by decide) 0 (Nat.zero_le _) (by (try simp only[go_sem]);repeat' (first|exact trivial|refine And.intro ?_ ?_|rfl|(simp (disch:=omega) only[go_sem,if_yes,if_no,if_no];rfl)|(simp (disch:=omega) only[go_sem,if_yes,if_no,if_no]))) (by (try simp only[go_sem]);repeat' (first|exact trivial|refine And.intro ?_ ?_|rfl|(simp (disch:=omega) only[go_sem,if_yes,if_no,if_no];rfl)|(simp (disch:=omega) only[go_sem,if_yes,if_no,if_no]))) (by first|(simp only[go_sem];rfl)|rfl) (by intro n;simp only[go_sem];rfl) ?_
 rintro j c3 hj hc3
 simp only[go_sem]
 have hbal:=accT_len (b:=b1) (f:=sxT) (d:=⟨0,0⟩) (n:=23) hj hsl
 by_cases hjl:j < t.sts.length
 case pos =>
  have hwl:(rowT wSt [(sx t.sts j).a,(sx t.sts j).b]).length≤23:=hsl _ (sx_mem hjl)
  have k38:=c38 wSt [(sx t.sts j).a,(sx t.sts j).b] ((sx_sm hO (sx_mem hjl)).ok (by simp [sxN])) (by decide)
  repeat' (first|refine st_seq_reg rfl (by first|(simp only[go_sem,Lm,add_str];rfl)|rfl) (by first|(simp only[go_sem,Lm,add_str];rfl)|rfl) ?_|refine st_reg rfl (by first|(simp only[go_sem,Lm,add_str];rfl)|rfl) (by first|(simp only[go_sem,Lm,add_str];rfl)|rfl) ?_|refine st_draw rfl (by first|(simp only[go_sem,Lm,add_str];rfl)|rfl) (by first|(simp only[go_sem,Lm,add_str];rfl)|rfl) ?_|refine st_op ?_|refine st_det rfl (by simp (disch:=omega) only[go_sem,wr_i64,Lm,add_str];rfl) ?_|refine st_dop rfl ?_|(refine st_pureGE (by first|(simp (disch:=omega) only[go_sem,Lm,add_str];rfl)|rfl) rfl (k38) (by exact hgl) (by first|(simp only[go_sem,Lm,add_str];rfl)|rfl) (by intro n;first|(simp (disch:=omega) only[go_sem];rfl)|rfl) ?_;intro n hn)|(refine st_condS rfl ?_ ?_ <;> intro hg <;> (try simp only[dcT,dcF,bnT,bnF] at hg))|refine st_nil ?_|refine st_dnil ?_|refine st_tN ?_|refine st_seq ?_|refine st_block ?_|refine st_skip ?_|refine st_exit ?_|refine st_tE ?_|refine st_bN ?_|refine st_bH ?_)
  all_goals try (exfalso;omega)
  refine ⟨j+1,(by omega),by omega,(by repeat' (first|exact trivial|refine And.intro ?_ ?_|rfl|(simp (disch:=omega) only[go_sem,if_yes,if_no,if_no];rfl)|(simp (disch:=omega) only[go_sem,if_yes,if_no,if_no]))),(by repeat' (first|exact trivial|refine And.intro ?_ ?_|rfl|(simp (disch:=omega) only[go_sem,if_yes,if_no,if_no];rfl)|(simp (disch:=omega) only[go_sem,if_yes,if_no,if_no]))),rfl,(by first|exact HOld.of _ (by omega)|exact HOld.put _ _ _ (by omega))⟩
 obtain rfl:j=t.sts.length:=by omega
 obtain ⟨b2,hb2⟩:∃ b2,b2=accT b1 sxT t.sts ⟨0,0⟩ t.sts.length:=⟨_,rfl⟩
 rw [← hb2] at hbal ⊢
 repeat' (first|refine st_seq_reg rfl (by first|(simp only[go_sem,Lm];rfl)|rfl) (by first|(simp only[go_sem,Lm];rfl)|rfl) ?_|refine st_draw rfl (by first|(simp only[go_sem,Lm];rfl)|rfl) (by first|(simp only[go_sem,Lm];rfl)|rfl) ?_|refine st_op ?_|refine st_det rfl (by simp (disch:=omega) only[go_sem,wr_i64,Lm];rfl) ?_|refine st_dop rfl ?_|(refine st_condS rfl ?_ ?_ <;> intro hg <;> (try simp only[dcT,dcF,bnT,bnF] at hg))|refine st_nil ?_|refine st_tN ?_|refine st_seq ?_|refine st_block ?_|refine st_skip ?_|refine st_exit ?_|refine st_tE ?_|refine st_bH ?_)
 all_goals try (exfalso;omega)
 refine st_loopC (α:=Nat) tab mixed [] [] (by repeat (first|exact trivial|refine ⟨rfl,?_⟩)) [] [] (by repeat (first|exact trivial|refine ⟨rfl,?_⟩)) (fun i=>[(8,.int .i64 (i:Nat)),(5,.str (accT b2 gpT t.gs ⟨0,0,0,0,0,0,[]⟩ i))]) [(1,_),(2,_),(3,_)] (fun _=>[]) [] (fun i=>i≤t.gs.length) (fun i=>t.gs.length - i) (by decide) 0 (Nat.zero_le _) (by (try simp only[go_sem]);repeat' (first|exact trivial|refine And.intro ?_ ?_|rfl|(simp (disch:=omega) only[go_sem,if_yes,if_no,if_no];rfl)|(simp (disch:=omega) only[go_sem,if_yes,if_no,if_no]))) (by (try simp only[go_sem]);repeat' (first|exact trivial|refine And.intro ?_ ?_|rfl|(simp (disch:=omega) only[go_sem,if_yes,if_no,if_no];rfl)|(simp (disch:=omega) only[go_sem,if_yes,if_no,if_no]))) (by first|(simp only[go_sem];rfl)|rfl) (by intro n;simp only[go_sem];rfl) ?_
 rintro k c4 hk hc4
 simp only[go_sem]
 have hcal:=accT_len (b:=b2) (f:=gpT) (d:=⟨0,0,0,0,0,0,[]⟩) (n:=150) hk hgl2
 by_cases hkl:k < t.gs.length
 case pos =>
  have hx:=gp_sm hO (gp_mem hkl)
  have hu:=(hO.g k hkl).many
  obtain ⟨rw1,hrw⟩:∃ rw1,rw1=gpT (gp t.gs k):=⟨_,rfl⟩
  have hwl:rw1.length≤150:=by rw [hrw];exact gpT_len hO (gp_mem hkl)
  have k38w:PureG gT Tryz.prog 38 [.str wGr,.lst 1 ([[.int .i64 (gp t.gs k).lo],[.int .i64 (gp t.gs k).hi],[.int .i64 (gp t.gs k).alo],[.int .i64 (gp t.gs k).ahi],[.int .i64 (gp t.gs k).stay],[.int .i64 (gp t.gs k).first]] ++ (gp t.gs k).path.map iv)] (fun v=>v=.str rw1):=by rw [hrw];exact c38 wGr (gpN (gp t.gs k)) (hx.1.ok (by omega)) (by decide)
  repeat' (first|refine st_seq_reg rfl (by first|(simp only[go_sem,Lm,add_str,List.length_cons,List.length_nil,big];rfl)|rfl) (by first|(simp only[go_sem,Lm,add_str,List.length_cons,List.length_nil,big];rfl)|rfl) ?_|refine st_reg rfl (by first|(simp only[go_sem,Lm,add_str,List.length_cons,List.length_nil,big];rfl)|rfl) (by first|(simp only[go_sem,Lm,add_str,List.length_cons,List.length_nil,big];rfl)|rfl) ?_|refine st_op ?_|refine st_det rfl (by simp (disch:=omega) only[go_sem,wr_i64,Lm,add_str,List.length_cons,List.length_nil,big];rfl) ?_|refine st_loc rfl (by simp (disch:=omega) only[go_sem,wr_i64,Lm,add_str,List.length_cons,List.length_nil,big];rfl) ?_|refine st_store (by simp (disch:=omega) only[go_sem,wr_i64,Lm,add_str,List.length_cons,List.length_nil,big];rfl) ?_|(refine st_appI (m:=8) (by first|(simp only[go_sem,Lm,add_str,List.length_cons,List.length_nil,big];rfl)|rfl) rfl (by first|(simp only[go_sem,Lm,add_str,List.length_cons,List.length_nil,big];rfl)|rfl) (by rfl) (by first|(simp only[go_sem,Lm,add_str,List.length_cons,List.length_nil,big];rfl)|rfl) (by simp only[Lm,List.length_cons,List.length_nil,big,Lm,add_str,List.length_cons,List.length_nil,big];omega) ?_)|(refine st_pureGE (by first|(simp (disch:=omega) only[go_sem,Lm,add_str,List.length_cons,List.length_nil,big];rfl)|rfl) rfl (k38w) (by exact hgl) (by first|(simp only[go_sem,Lm,add_str,List.length_cons,List.length_nil,big];rfl)|rfl) (by intro n;first|(simp (disch:=omega) only[go_sem];rfl)|rfl) ?_;intro n hn)|(refine st_condS rfl ?_ ?_ <;> intro hg <;> (try simp only[dcT,dcF,bnT,bnF] at hg))|refine st_nil ?_|refine st_tN ?_|refine st_seq ?_|refine st_block ?_|refine st_skip ?_|refine st_exit ?_|refine st_tE ?_|refine st_bN ?_|refine st_bH ?_)
  all_goals try (exfalso;omega)
  refine ⟨k+1,(by omega),(by omega),(by (try (rw [hrw]));repeat' (first|exact trivial|refine And.intro ?_ ?_|rfl|(simp (disch:=omega) only[go_sem,if_yes,if_no,if_no];rfl)|(simp (disch:=omega) only[go_sem,if_yes,if_no,if_no]))),(by (try (rw [hrw]));repeat' (first|exact trivial|refine And.intro ?_ ?_|rfl|(simp (disch:=omega) only[go_sem,if_yes,if_no,if_no];rfl)|(simp (disch:=omega) only[go_sem,if_yes,if_no,if_no]))),rfl,(by first|exact HOld.of _ (by omega)|exact HOld.put _ _ _ (by omega))⟩
 obtain rfl:k=t.gs.length:=by omega
 have hel:(rowT wEnd [(t.gs.length:Int)]).length≤20:=by
  have:=rowT_sm (w:=wEnd) (sm_len (n:=t.gs.length) (by omega))
  have e:wEnd.length=3:=rfl
  simp only[List.length_cons,List.length_nil] at this;omega
 have k38e:=c38 wEnd [(t.gs.length:Int)] ((sm_len (n:=t.gs.length) (by omega)).ok (by simp)) (by decide)
 repeat' (first|refine st_seq_reg rfl (by first|(simp only[go_sem,Lm,add_str];rfl)|rfl) (by first|(simp only[go_sem,Lm,add_str];rfl)|rfl) ?_|refine st_reg rfl (by first|(simp only[go_sem,Lm,add_str];rfl)|rfl) (by first|(simp only[go_sem,Lm,add_str];rfl)|rfl) ?_|refine st_op ?_|refine st_det rfl (by simp (disch:=omega) only[go_sem,wr_i64,Lm,add_str];rfl) ?_|refine st_loc rfl (by simp (disch:=omega) only[go_sem,wr_i64,Lm,add_str];rfl) ?_|refine st_store (by simp (disch:=omega) only[go_sem,wr_i64,Lm,add_str];rfl) ?_|refine st_append (by simp (disch:=omega) only[go_sem,wr_i64,Lm,add_str];rfl) ?_|(refine st_pureGE (by first|(simp (disch:=omega) only[go_sem,Lm,add_str];rfl)|rfl) rfl (k38e) (by exact hgl) (by first|(simp only[go_sem,Lm,add_str];rfl)|rfl) (by intro n;first|(simp (disch:=omega) only[go_sem];rfl)|rfl) ?_;intro n hn)|(refine st_condS rfl ?_ ?_ <;> intro hg <;> (try simp only[dcT,dcF,bnT,bnF] at hg))|refine st_nil ?_|refine st_tN ?_|refine st_seq ?_|refine st_block ?_|refine st_skip ?_|refine st_exit ?_|refine st_ret ?_|refine st_tE ?_|refine st_bH ?_)
 all_goals try (exfalso;omega)
 simp (disch:=omega) only[AEnd,Tryz.results10,aresK,fin,go_sem,implies_true,true_and,and_true,List.reverse_cons,List.reverse_nil]
 unfold wrV
 rw [if_pos hE]
 have e3:accT b2 gpT t.gs ⟨0,0,0,0,0,0,[]⟩ t.gs.length=b2 ++ t.gs.flatMap gpT:=by rw [accT_eq (Nat.le_refl _),List.take_length]
 have e2:b2=b1 ++ t.sts.flatMap sxT:=by rw [hb2,accT_eq (Nat.le_refl _),List.take_length]
 have e1:b1=b0 ++ t.rooms.flatMap rmT:=by rw [hb1,accT_eq (Nat.le_refl _),List.take_length]
 rw [e3,e2,e1,hb0]
 rfl
end Go.Proofs.YtoafigpikgigaaaGreatDoor

namespace Go.Proofs.YtoafigpikgigaaaGreatDoor
open Go.Av
attribute [local irreducible] thenA blockA awp awpOps awpD awp1
attribute [local go_sem_proc] Nat.reduceAdd Nat.reduceMul Nat.reduceEqDiff Nat.reduceBEq Nat.reduceLeDiff
attribute [local go_sem_proc ↓] reduceIte
attribute [local go_sem] if_yes if_no
set_option maxHeartbeats 8000000
set_option maxRecDepth 20000
def fitV (x n:Int):Int:=if n < 2 then 0 else if x.tmod n < 0 then x.tmod n+n else x.tmod n
theorem fitV_bd {x n:Int} (h:1≤n):0≤fitV x n∧fitV x n < n:=by
 unfold fitV
 by_cases h2:n < 2
 ·rw [if_pos h2];omega
 ·rw [if_neg h2]
  have h3:x.tmod n < n:=Int.tmod_lt_of_pos _ (by omega)
  have h4:-n < x.tmod n:=Int.lt_tmod_of_pos _ (by omega)
  split <;> omega
theorem fitV_ne {a m n:Int} (ha:0≤a∧a < n) (hm:1≤m∧m≤n - 1):fitV (a+m) n ≠ a:=by
 unfold fitV
 rw [if_neg (by omega)]
 have h0:(a+m).tmod n=(a+m) % n:=Int.tmod_eq_emod_of_nonneg (by omega)
 rw [h0]
 have h1:=Int.emod_nonneg (a+m) (by omega:n ≠ 0)
 rw [if_neg (by omega)]
 by_cases h2:a+m < n
 ·rw [Int.emod_eq_of_lt (by omega) h2];omega
 ·have:(a+m) % n=a+m - n:=by
   rw [← Int.sub_emod_right,Int.emod_eq_of_lt (by omega) (by omega)]
  rw [this];omega
theorem c28 (x n:Int) (hn:-1000000000≤n∧n≤1000000000) (hx:-9223372036854775808≤x∧x≤9223372036854775807):Pure Tryz.prog 28 [.int .i64 x,.int .i64 n] (fun v=>v=.int .i64 (fitV x n)):=by
 intro h
 by_cases h2:n < 2
 ·refine ACalls.forget (ACalls.of tab mixed Tryz.call28 Tryz.func28 rfl (fi:=⟨16,[],[],none,[]⟩) rfl rfl (Nat.le_of_ble_eq_true rfl) (by decide) ?_)
  unfold startA
  repeat' (first|refine st_seq_reg rfl (by first|(simp only[go_sem];rfl)|rfl) (by first|(simp only[go_sem];rfl)|rfl) ?_|refine st_reg rfl (by first|(simp only[go_sem];rfl)|rfl) (by first|(simp only[go_sem];rfl)|rfl) ?_|refine st_op ?_|refine st_det rfl (by simp (disch:=omega) only[go_sem,wr_i64];rfl) ?_|refine st_condT rfl ?_|refine st_condF rfl ?_|(refine st_condS rfl ?_ ?_ <;> intro hg <;> (try simp only[dcT,dcF,bnT,bnF] at hg))|refine st_nil ?_|refine st_tN ?_|refine st_seq ?_|refine st_skip ?_|refine st_ret ?_|refine st_tE ?_|refine st_tR ?_)
  all_goals try (exfalso;omega)
  simp (disch:=omega) only[AEnd,Tryz.results28,aresK,fin,go_sem,implies_true,true_and,and_true,List.reverse_cons,List.reverse_nil]
  unfold fitV;rw [if_pos h2]
 have h3:x.tmod n < n:=Int.tmod_lt_of_pos _ (by omega)
 have h4:-n < x.tmod n:=Int.lt_tmod_of_pos _ (by omega)
 have e:fitV x n=if x.tmod n < 0 then x.tmod n+n else x.tmod n:=by unfold fitV;rw [if_neg h2]
 refine ACalls.forget (ACalls.of tab mixed Tryz.call28 Tryz.func28 rfl (fi:=⟨16,[],[],none,[]⟩) rfl rfl (Nat.le_of_ble_eq_true rfl) (by decide) ?_)
 unfold startA
 repeat' (first|refine st_seq_reg rfl (by first|(simp only[go_sem];rfl)|rfl) (by first|(simp only[go_sem];rfl)|rfl) ?_|refine st_reg rfl (by first|(simp only[go_sem];rfl)|rfl) (by first|(simp only[go_sem];rfl)|rfl) ?_|refine st_op ?_|refine st_det rfl (by simp (disch:=omega) only[go_sem,wr_i64];rfl) ?_|refine st_condT rfl ?_|refine st_condF rfl ?_|(refine st_condS rfl ?_ ?_ <;> intro hg <;> (try simp only[dcT,dcF,bnT,bnF] at hg))|refine st_nil ?_|refine st_tN ?_|refine st_seq ?_|refine st_skip ?_|refine st_ret ?_|refine st_tE ?_|refine st_tR ?_)
 all_goals try (exfalso;omega)
 all_goals
  simp (disch:=omega) only[AEnd,Tryz.results28,aresK,fin,go_sem,implies_true,true_and,and_true,List.reverse_cons,List.reverse_nil]
  first|(rw [e,if_pos (by omega)];done)|(rw [e,if_neg (by omega)];done)
theorem c29 (b:Nat × Nat) (lo hi:Int) (h1:-100000000≤lo) (h2:lo≤hi∧hi≤100000000):Drum Tryz.prog 29 [.ptr b 0 0,.int .i64 lo,.int .i64 hi] b (fun v=>∃ r s,v=.agg [.int .i64 r,.int .i64 s]∧lo≤r∧r≤s∧s≤hi):=by
 refine Drum.of Tryz.call29 fun h x hx hu hold=>?_
 refine ACalls.of tab mixed Tryz.call29 Tryz.func29 rfl (fi:=⟨36,[6],[],none,[]⟩) rfl rfl (Nat.le_of_ble_eq_true rfl) (by decide) ?_
 unfold startA
 repeat' (first|refine st_seq_reg rfl (by first|(simp only[go_sem,hx];rfl)|rfl) (by first|(simp only[go_sem,hx];rfl)|rfl) ?_|refine st_reg rfl (by first|(simp only[go_sem,hx];rfl)|rfl) (by first|(simp only[go_sem,hx];rfl)|rfl) ?_|refine st_op ?_|refine st_det rfl (by simp (disch:=omega) only[go_sem,wr_i64,hx];rfl) ?_|refine st_loc rfl (by simp (disch:=omega) only[go_sem,wr_i64,hx];rfl) ?_|refine st_heap rfl (by simp (disch:=omega) only[go_sem,wr_i64,hx];rfl) ?_|refine st_store (by simp (disch:=omega) only[go_sem,wr_i64,hx];rfl) ?_|(refine st_drum (by first|(simp (disch:=omega) only[go_sem,hx];rfl)|rfl) rfl (c27' b lo hi (by omega) (by omega)) (by first|(simp (disch:=omega) only[go_sem,hx];rfl)|rfl|exact put_same _ _ _) (by assumption) (by first|(simp only[go_sem,hx];rfl)|rfl) (by intro x' n;first|(simp (disch:=omega) only[go_sem];rfl)|rfl) ?_;rintro v x' n hu' ⟨r,rfl,hr⟩ hn)|(refine st_drum (by first|(simp (disch:=omega) only[go_sem,hx];rfl)|rfl) rfl (c25' b 3 (by omega)) (by first|(simp (disch:=omega) only[go_sem,hx];rfl)|rfl|exact put_same _ _ _) (by assumption) (by first|(simp only[go_sem,hx];rfl)|rfl) (by intro x' n;first|(simp (disch:=omega) only[go_sem];rfl)|rfl) ?_;rintro v x' n hu' ⟨s,rfl,hs⟩ hn)|refine st_condT rfl ?_|refine st_condF rfl ?_|(refine st_condS rfl ?_ ?_ <;> intro hg <;> (try simp only[dcT,dcF,bnT,bnF] at hg))|refine st_nil ?_|refine st_tN ?_|refine st_seq ?_|refine st_block ?_|refine st_skip ?_|refine st_exit ?_|refine st_ret ?_|refine st_tE ?_|refine st_tR ?_|refine st_bN ?_|refine st_bR ?_|refine st_bH ?_|refine st_bM rfl ?_)
 ·simp (disch:=omega) only[AEnd,Tryz.results29,aresK,fin,go_sem,implies_true,true_and,and_true,List.reverse_cons,List.reverse_nil]
  exact ⟨fun b' _ h2=>if_neg h2,⟨_,rfl,by assumption⟩,⟨_,_,rfl,by omega,by omega,by omega⟩⟩
 ·repeat' (first|refine st_seq_reg rfl (by first|(simp only[go_sem];rfl)|rfl) (by first|(simp only[go_sem];rfl)|rfl) ?_|refine st_reg rfl (by first|(simp only[go_sem];rfl)|rfl) (by first|(simp only[go_sem];rfl)|rfl) ?_|refine st_op ?_|refine st_det rfl (by simp (disch:=omega) only[go_sem,wr_i64];rfl) ?_|refine st_loc rfl (by simp (disch:=omega) only[go_sem,wr_i64];rfl) ?_|refine st_heap rfl (by simp (disch:=omega) only[go_sem,wr_i64];rfl) ?_|refine st_store (by simp (disch:=omega) only[go_sem,wr_i64];rfl) ?_|(refine st_drum (by first|(simp (disch:=omega) only[go_sem];rfl)|rfl) rfl (c27' b r (min hi (r+3)) (by omega) (by omega)) (by first|(simp (disch:=omega) only[go_sem];rfl)|rfl|exact put_same _ _ _) (by assumption) (by first|(simp only[go_sem];rfl)|rfl) (by intro x' n;first|(simp (disch:=omega) only[go_sem];rfl)|rfl) ?_;rintro v x' n hu' ⟨r2,rfl,hr2⟩ hn)|refine st_condT rfl ?_|refine st_condF rfl ?_|(refine st_condS rfl ?_ ?_ <;> intro hg <;> (try simp only[dcT,dcF,bnT,bnF] at hg))|refine st_nil ?_|refine st_tN ?_|refine st_seq ?_|refine st_block ?_|refine st_skip ?_|refine st_exit ?_|refine st_ret ?_|refine st_tE ?_|refine st_tR ?_|refine st_bN ?_|refine st_bR ?_|refine st_bH ?_|refine st_bM rfl ?_)
  simp (disch:=omega) only[AEnd,Tryz.results29,aresK,fin,go_sem,implies_true,true_and,and_true,List.reverse_cons,List.reverse_nil]
  exact ⟨fun b' _ h2=>if_neg h2,⟨_,rfl,by assumption⟩,⟨_,_,rfl,by omega,by omega,by omega⟩⟩
 ·repeat' (first|refine st_seq_reg rfl (by first|(simp only[go_sem];rfl)|rfl) (by first|(simp only[go_sem];rfl)|rfl) ?_|refine st_reg rfl (by first|(simp only[go_sem];rfl)|rfl) (by first|(simp only[go_sem];rfl)|rfl) ?_|refine st_op ?_|refine st_det rfl (by simp (disch:=omega) only[go_sem,wr_i64];rfl) ?_|refine st_loc rfl (by simp (disch:=omega) only[go_sem,wr_i64];rfl) ?_|refine st_heap rfl (by simp (disch:=omega) only[go_sem,wr_i64];rfl) ?_|refine st_store (by simp (disch:=omega) only[go_sem,wr_i64];rfl) ?_|(refine st_drum (by first|(simp (disch:=omega) only[go_sem];rfl)|rfl) rfl (c27' b r hi (by omega) (by omega)) (by first|(simp (disch:=omega) only[go_sem];rfl)|rfl|exact put_same _ _ _) (by assumption) (by first|(simp only[go_sem];rfl)|rfl) (by intro x' n;first|(simp (disch:=omega) only[go_sem];rfl)|rfl) ?_;rintro v x' n hu' ⟨r2,rfl,hr2⟩ hn)|refine st_condT rfl ?_|refine st_condF rfl ?_|(refine st_condS rfl ?_ ?_ <;> intro hg <;> (try simp only[dcT,dcF,bnT,bnF] at hg))|refine st_nil ?_|refine st_tN ?_|refine st_seq ?_|refine st_block ?_|refine st_skip ?_|refine st_exit ?_|refine st_ret ?_|refine st_tE ?_|refine st_tR ?_|refine st_bN ?_|refine st_bR ?_|refine st_bH ?_|refine st_bM rfl ?_)
  simp (disch:=omega) only[AEnd,Tryz.results29,aresK,fin,go_sem,implies_true,true_and,and_true,List.reverse_cons,List.reverse_nil]
  exact ⟨fun b' _ h2=>if_neg h2,⟨_,rfl,by assumption⟩,⟨_,_,rfl,by omega,by omega,by omega⟩⟩
end Go.Proofs.YtoafigpikgigaaaGreatDoor

namespace Go.Proofs.YtoafigpikgigaaaGreatDoor
open Go.Av Go.Txt Go.Lib
attribute [local irreducible] thenA blockA awp awpOps awpD awp1
attribute [local go_sem_proc] Nat.reduceAdd Nat.reduceMul Nat.reduceEqDiff Nat.reduceBEq Nat.reduceLeDiff
attribute [local go_sem_proc ↓] reduceIte
attribute [local go_sem] if_yes if_no
set_option maxHeartbeats 8000000
set_option maxRecDepth 20000
-- Fit
theorem c28b (x n:Int) (hx:-9223372036854775808≤x∧x≤9223372036854775807) (hn:0≤n∧n≤1000000):Pure Tryz.prog 28 [.int .i64 x,.int .i64 n] (fun v=>∃ r,v=.int .i64 r∧0≤r∧(1≤n→r < n)):=by
 have b1:2≤n→-n < x.tmod n∧x.tmod n < n:=fun h=>⟨Int.lt_tmod_of_pos x (by omega),Int.tmod_lt_of_pos x (by omega)⟩
 by_cases h2:2≤n
 ·have b2:=b1 h2
  intro h
  refine ACalls.forget (ACalls.of tab mixed Tryz.call28 Tryz.func28 rfl (fi:=⟨16,[],[],none,[]⟩) rfl rfl (Nat.le_of_ble_eq_true rfl) (by decide) ?_)
  unfold startA
  repeat' (first|refine st_seq_reg rfl (by first|(simp only[go_sem];rfl)|rfl) (by first|(simp only[go_sem];rfl)|rfl) ?_|refine st_reg rfl (by first|(simp only[go_sem];rfl)|rfl) (by first|(simp only[go_sem];rfl)|rfl) ?_|refine st_op ?_|refine st_det rfl (by simp (disch:=omega) only[go_sem,wr_i64];rfl) ?_|(refine st_condS rfl ?_ ?_ <;> intro hg <;> (try simp only[dcT,dcF,bnT,bnF] at hg))|refine st_nil ?_|refine st_tN ?_|refine st_seq ?_|refine st_skip ?_|refine st_ret ?_|refine st_tR ?_)
  all_goals try (exfalso;omega)
  all_goals
   simp (disch:=omega) only[AEnd,Tryz.results28,aresK,fin,go_sem,implies_true,true_and,and_true,List.reverse_cons,List.reverse_nil]
   exact ⟨_,rfl,by omega,by omega⟩
 ·intro h
  refine ACalls.forget (ACalls.of tab mixed Tryz.call28 Tryz.func28 rfl (fi:=⟨16,[],[],none,[]⟩) rfl rfl (Nat.le_of_ble_eq_true rfl) (by decide) ?_)
  unfold startA
  repeat' (first|refine st_seq_reg rfl (by first|(simp only[go_sem];rfl)|rfl) (by first|(simp only[go_sem];rfl)|rfl) ?_|refine st_op ?_|refine st_det rfl (by simp (disch:=omega) only[go_sem,wr_i64];rfl) ?_|(refine st_condS rfl ?_ ?_ <;> intro hg <;> (try simp only[dcT,dcF,bnT,bnF] at hg))|refine st_nil ?_|refine st_tN ?_|refine st_seq ?_|refine st_skip ?_|refine st_ret ?_|refine st_tR ?_)
  all_goals try (exfalso;omega)
  simp (disch:=omega) only[AEnd,Tryz.results28,aresK,fin,go_sem,implies_true,true_and,and_true,List.reverse_cons,List.reverse_nil]
  exact ⟨_,rfl,by omega,by omega⟩
theorem conv1 (b:Int):aconvB tt 73 9 (.lst 1 [[.int .u8 b]])=some (.str [UInt8.ofNat b.toNat]):=rfl
theorem add_str2 {tt:Nat→TI} {t:Nat} {c:Bool} {a b:List UInt8} (h:a.length+b.length≤4611686018427387904):abin (tt t) .add c (.str a) (.str b)=some (.str (a ++ b)):=by
 unfold abin;dsimp only;rw [if_pos h]
theorem c11 (s:List UInt8) (at_ how b:Int) (hs:s.length≤1000000) (ha:-9223372036854775808≤at_∧at_≤9223372036854775807) (hh:-9223372036854775808≤how∧how≤9223372036854775807) :
  Pure Tryz.prog 11 [.str s,.int .i64 at_,.int .i64 how,.int .u8 b] (fun v=>∃ t,v=.str t∧t.length≤s.length+1):=by
 intro h
 by_cases h0:s=[]
 ·subst h0
  refine ACalls.forget (ACalls.of tab mixed Tryz.call11 Tryz.func11 rfl (fi:=⟨53,[],[18],none,[(7,[0,0,3,0,15,0,0,64,224,511,1023],[(0,false),(1,false),(2,false),(3,false),(4,false),(5,false),(6,false),(7,false),(8,false),(9,false),(10,false)]),(9,[0,0,3,0,0,16,56,127,255],[(0,false),(1,false),(2,false),(3,false),(4,false),(5,false),(6,false),(7,false),(8,false)]),(10,[0,0,3,0,15,0,0,96,255,511],[(0,false),(1,false),(2,false),(3,false),(4,false),(5,false),(6,false),(7,false),(8,false),(9,false)])]⟩) rfl rfl (Nat.le_of_ble_eq_true rfl) (by decide) ?_)
  unfold startA
  try simp only[go_sem]
  repeat' (first|refine st_seq_reg rfl (by first|(simp only[go_sem];rfl)|rfl) (by first|(simp only[go_sem];rfl)|rfl) ?_|refine st_op ?_|refine st_det rfl (by simp (disch:=omega) only[go_sem,wr_i64];rfl) ?_|refine st_condT rfl ?_|refine st_nil ?_|refine st_seq ?_|refine st_ret ?_|refine st_tR ?_)
  all_goals try (exfalso;omega)
  simp (disch:=omega) only[AEnd,Tryz.results11,aresK,fin,go_sem,implies_true,true_and,and_true,List.reverse_cons,List.reverse_nil]
  exact ⟨_,rfl,by simp⟩
 have hf:(s=[])=False:=eq_false h0
 have hpos:1≤s.length:=List.length_pos_iff.2 h0
 refine ACalls.forget (ACalls.of tab mixed Tryz.call11 Tryz.func11 rfl (fi:=⟨53,[],[18],none,[(7,[0,0,3,0,15,0,0,64,224,511,1023],[(0,false),(1,false),(2,false),(3,false),(4,false),(5,false),(6,false),(7,false),(8,false),(9,false),(10,false)]),(9,[0,0,3,0,0,16,56,127,255],[(0,false),(1,false),(2,false),(3,false),(4,false),(5,false),(6,false),(7,false),(8,false)]),(10,[0,0,3,0,15,0,0,96,255,511],[(0,false),(1,false),(2,false),(3,false),(4,false),(5,false),(6,false),(7,false),(8,false),(9,false)])]⟩) rfl rfl (Nat.le_of_ble_eq_true rfl) (by decide) ?_)
 unfold startA
 try simp only[go_sem]
 repeat' (first|refine st_seq_reg rfl (by first|(simp only[go_sem,hf,conv1,add_str2,List.length_append,List.length_cons,List.length_nil,List.length_take,List.length_drop];rfl)|rfl) (by first|(simp only[go_sem,hf,conv1,add_str2,List.length_append,List.length_cons,List.length_nil,List.length_take,List.length_drop];rfl)|rfl) ?_|refine st_seq_draw rfl (by first|(simp only[go_sem,hf,conv1,add_str2,List.length_append,List.length_cons,List.length_nil,List.length_take,List.length_drop];rfl)|rfl) (by first|(simp only[go_sem,hf,conv1,add_str2,List.length_append,List.length_cons,List.length_nil,List.length_take,List.length_drop];rfl)|rfl) ?_|refine st_op ?_|refine st_det rfl (by simp (disch:=omega) only[go_sem,wr_i64,hf,conv1,add_str2,List.length_append,List.length_cons,List.length_nil,List.length_take,List.length_drop];rfl) ?_|refine st_dop rfl ?_|(refine st_pure (by first|(simp (disch:=omega) only[go_sem,hf,conv1,add_str2,List.length_append,List.length_cons,List.length_nil,List.length_take,List.length_drop];rfl)|rfl) rfl (c28b _ _ ha (by omega)) (by first|(simp only[go_sem,hf,conv1,add_str2,List.length_append,List.length_cons,List.length_nil,List.length_take,List.length_drop];rfl)|rfl) (by intro n;first|(simp (disch:=omega) only[go_sem];rfl)|rfl) ?_;rintro v n ⟨r,rfl,r1,r2⟩ hn)|(refine st_pure (by first|(simp (disch:=omega) only[go_sem,hf,conv1,add_str2,List.length_append,List.length_cons,List.length_nil,List.length_take,List.length_drop];rfl)|rfl) rfl (c28b _ _ hh (by omega)) (by first|(simp only[go_sem,hf,conv1,add_str2,List.length_append,List.length_cons,List.length_nil,List.length_take,List.length_drop];rfl)|rfl) (by intro n;first|(simp (disch:=omega) only[go_sem];rfl)|rfl) ?_;rintro v n ⟨q,rfl,q1,q2⟩ hn)|refine st_condF rfl ?_|(refine st_condS rfl ?_ ?_ <;> intro hg <;> (try simp only[dcT,dcF,bnT,bnF] at hg))|refine st_nil ?_|refine st_dnil ?_|refine st_tN ?_|refine st_seq ?_|refine st_block ?_|refine st_skip ?_|refine st_ret ?_|refine st_tR ?_|refine st_bN ?_|refine st_bR ?_)
 all_goals try (exfalso;omega)
 all_goals
  simp (disch:=omega) only[AEnd,Tryz.results11,aresK,fin,go_sem,implies_true,true_and,and_true,List.reverse_cons,List.reverse_nil]
  exact ⟨_,rfl,by simp only[List.length_append,List.length_cons,List.length_nil,List.length_take,List.length_drop];omega⟩
end Go.Proofs.YtoafigpikgigaaaGreatDoor
