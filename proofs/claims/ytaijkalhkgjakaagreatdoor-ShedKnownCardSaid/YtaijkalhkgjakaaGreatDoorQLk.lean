/- Contracts of functions that the claim reaches: what each call gives, told in our own logic. Conditions: those of each theorem. -/
import Derived.Test.YtaijkalhkgjakaaGreatDoorPB4
import Derived.Test.YtaijkalhkgjakaaGreatDoorF5
import Derived.Test.YtaijkalhkgjakaaGreatDoorRows
import Derived.LaidLaws
import Derived.LaidHandle
import Derived.FnData
import Derived.Lib.LaidTab
import Derived.Shelf.Vars
import Derived.Handed
import Derived.HandedShaped
set_option linter.all false
set_option linter.unusedSimpArgs false
set_option linter.unusedVariables false
namespace Go.Proofs.YtaijkalhkgjakaaGreatDoor
open Go.Av Go.Txt Go.Lib
attribute [local irreducible] thenA blockA awp awpOps awpD awp1
attribute [local go_sem_proc] Nat.reduceAdd Nat.reduceMul Nat.reduceEqDiff Nat.reduceBEq Nat.reduceLeDiff
attribute [local go_sem_proc ↓] reduceIte
attribute [local go_sem] if_yes if_no
set_option maxHeartbeats 16000000
set_option maxRecDepth 20000
theorem law4:LawG gT Tryz.prog 4 []:=by
 intro h hgl
 have k8:=PureG.wider gBT c8
 have e25:=c25
 have s0:=c26 exShop
 rw [x_s0] at s0
 have sN:Pure Tryz.prog 26 [.agg [.nils,.lst 3 (exShop.js.map Jb.row)]] (fun v=>v=.int .i64 4):=by
  have k:=c26 shopN
  rw [x_sN] at k
  exact Pure.le (le1 (VLe.agg (le1 (VLe.nils 3) (VLes.refl _)) rfl) (VLes.refl _)) k
 have sK:=c26 shopK
 rw [x_sK] at sK
 refine ACalls.ofS tab Tryz.call4 Tryz.func4 rfl (fi:=⟨217,[1,2,3,4],[78,95,96,97,103,109,114,119,136,210,2024002,2026003,2029004,2032001,2035003],none,[(2,[0,1,0,4,12,0,32,96,0,256,771,1795,3843,7967,16159,32767,65535],[(0,false),(1,true),(2,false),(3,true),(4,false),(5,false),(6,true),(7,false),(8,false),(9,true),(10,false),(11,false),(12,true),(13,false),(14,true),(15,false),(16,false)]),(6,[0,1,1,5,15,31,63,63,127,511],[(0,false),(1,false),(2,false),(3,false),(4,false),(5,false),(6,false),(7,false),(8,false),(9,false)]),(7,[0,1,1,5,13,5,37,101,253,37,1023,2047,4095,4095,8191,32767],[(0,false),(1,false),(2,false),(3,false),(4,true),(5,false),(6,false),(7,true),(8,false),(9,false),(10,false),(11,false),(12,false),(13,false),(14,false),(15,false)])]⟩) rfl rfl (Nat.le_of_ble_eq_true rfl) ?_
 unfold startA
 try simp only[go_sem]
 refine asem_seq (fi:=⟨217,[1,2,3,4],[78,95,96,97,103,109,114,119,136,210,2024002,2026003,2029004,2032001,2035003],none,[(2,[0,1,0,4,12,0,32,96,0,256,771,1795,3843,7967,16159,32767,65535],[(0,false),(1,true),(2,false),(3,true),(4,false),(5,false),(6,true),(7,false),(8,false),(9,true),(10,false),(11,false),(12,true),(13,false),(14,true),(15,false),(16,false)]),(6,[0,1,1,5,15,31,63,63,127,511],[(0,false),(1,false),(2,false),(3,false),(4,false),(5,false),(6,false),(7,false),(8,false),(9,false)]),(7,[0,1,1,5,13,5,37,101,253,37,1023,2047,4095,4095,8191,32767],[(0,false),(1,false),(2,false),(3,false),(4,true),(5,false),(6,false),(7,true),(8,false),(9,false),(10,false),(11,false),(12,false),(13,false),(14,false),(15,false)])]⟩) tab mixed (by decide) ?_
 repeat' (first|refine st_reg rfl (by first|(simp only[go_sem];rfl)|rfl) (by first|(simp only[go_sem];rfl)|rfl) ?_|refine st_op ?_|refine st_det rfl (by simp (disch:=omega) only[go_sem,wr_i64];rfl) ?_|refine st_nil ?_|refine st_tN ?_)
 refine asem_seq (fi:=⟨217,[1,2,3,4],[78,95,96,97,103,109,114,119,136,210,2024002,2026003,2029004,2032001,2035003],none,[(2,[0,1,0,4,12,0,32,96,0,256,771,1795,3843,7967,16159,32767,65535],[(0,false),(1,true),(2,false),(3,true),(4,false),(5,false),(6,true),(7,false),(8,false),(9,true),(10,false),(11,false),(12,true),(13,false),(14,true),(15,false),(16,false)]),(6,[0,1,1,5,15,31,63,63,127,511],[(0,false),(1,false),(2,false),(3,false),(4,false),(5,false),(6,false),(7,false),(8,false),(9,false)]),(7,[0,1,1,5,13,5,37,101,253,37,1023,2047,4095,4095,8191,32767],[(0,false),(1,false),(2,false),(3,false),(4,true),(5,false),(6,false),(7,true),(8,false),(9,false),(10,false),(11,false),(12,false),(13,false),(14,false),(15,false)])]⟩) tab mixed (by decide) ?_
 repeat' (first|refine st_reg rfl (by first|(simp only[go_sem];rfl)|rfl) (by first|(simp only[go_sem];rfl)|rfl) ?_|refine st_op ?_|refine st_loc rfl (by simp (disch:=omega) only[go_sem,wr_i64];rfl) ?_|refine st_store (by simp (disch:=omega) only[go_sem,wr_i64];rfl) ?_|(refine st_callf (d:=21) rfl rfl (ACalls.keepGl (c25j _)) ?_;rintro v h2 ⟨gl2,b2,rfl,p1,p2,p3,p4,p5⟩)|(refine st_pureE (by first|(simp (disch:=omega) only[go_sem];rfl)|rfl) rfl (e25) (by first|(simp only[go_sem];rfl)|rfl) (by intro n;first|(simp (disch:=omega) only[go_sem];rfl)|rfl) ?_;intro n hn)|refine st_nil ?_|refine st_tN ?_)
 simp only[go_sem] at p1 p2 p3 p4 p5 gl2
 refine asem_seq (fi:=⟨217,[1,2,3,4],[78,95,96,97,103,109,114,119,136,210,2024002,2026003,2029004,2032001,2035003],none,[(2,[0,1,0,4,12,0,32,96,0,256,771,1795,3843,7967,16159,32767,65535],[(0,false),(1,true),(2,false),(3,true),(4,false),(5,false),(6,true),(7,false),(8,false),(9,true),(10,false),(11,false),(12,true),(13,false),(14,true),(15,false),(16,false)]),(6,[0,1,1,5,15,31,63,63,127,511],[(0,false),(1,false),(2,false),(3,false),(4,false),(5,false),(6,false),(7,false),(8,false),(9,false)]),(7,[0,1,1,5,13,5,37,101,253,37,1023,2047,4095,4095,8191,32767],[(0,false),(1,false),(2,false),(3,false),(4,true),(5,false),(6,false),(7,true),(8,false),(9,false),(10,false),(11,false),(12,false),(13,false),(14,false),(15,false)])]⟩) tab mixed (by decide) ?_
 repeat' (first|refine st_draw rfl (by first|(simp only[go_sem,p3,Lm];rfl)|rfl) (by first|(simp only[go_sem,p3,Lm];rfl)|rfl) ?_|refine st_det rfl (by simp (disch:=omega) only[go_sem,wr_i64,p3,Lm];rfl) ?_|refine st_dop rfl ?_|refine st_store (by simp (disch:=omega) only[go_sem,wr_i64,p3,Lm];rfl) ?_|refine st_dnil ?_|refine st_tN ?_)
 all_goals try (exfalso;omega)
 refine (fun (P:∀ H:AH,H.at_ b2=some ⟨3,shopK.js.map Jb.row⟩→b2.1 < H.clk→H.gl=gT→ASem _ _ _ _ _ ⟨_,_,_,H⟩)=>P _ ?_ ?_ ?_) ?_
 ·simp only[go_sem];rfl
 ·simp only[go_sem];omega
 ·simp only[go_sem];rw [gl2];exact hgl
 intro H u1 uc ugl
 refine ASem.cutWg (h0:=0) (h.clk+1,2) [.lst 3 (exShop.ws.map Wk.row)] [] (.slc b2 3 0 4) 3 (shopK.js.map Jb.row) (by simp [upd]) (.inr ⟨b2,rfl,u1,Nat.zero_le _,by omega⟩) (fun b k q=>⟨by simp only[frzs,frz,frzss_wk],rfl⟩) fun g1 hk1 hc1 hl1 hg1=>?_
 have hgl1:g1.gl=gT:=by rw [hg1];exact ugl
 clear hk1 hl1 hg1 u1
 have hgl:=hgl1
 have f16:=c16 exR exF exD (by decide) (by decide)
 rw [if_neg (by decide +kernel),x_fit] at f16
 have m1:=c18 exR exF1 exD (by decide) (by decide)
 rw [x_m1] at m1
 have m2:=c18 exR exF0 exD2 (by decide) (by decide)
 rw [x_m2] at m2
 have k27:=c27
 have k28:=c28
 have k29:=c29
 have k20:=c20s [[true,true],[true,false]] (by decide) (by decide)
 have k21:=c21 [0,-1] [0,-1] (by decide) (by decide)
 rw [decide_eq_true rfl] at k21
 have j1:=c30 [1,-1] 3 2 1 (by decide)
 rw [x_j1] at j1
 have j2:=c30 [-1,-1,-1] 1 1 1 (by decide)
 rw [x_j2] at j2
 have k31:=c31 jobsX jobsX (by decide) (by decide)
 rw [decide_eq_true rfl] at k31
 have t1:=PureG.wider gBT (c32 exShop (plX 2 3) (by decide))
 rw [x_t1] at t1
 have t2:=PureG.wider gBT (c32 exShop (plX 2 2) (by decide))
 rw [x_t2] at t2
 have t3:=PureG.wider gBT (c32 exShop (plX 1 3) (by decide))
 rw [x_t3] at t3
 have k34:=PureG.wider gBT (c34 shopF)
 rw [x_b] at k34
 have k35:=PureG.wider gBT (c35 shopL)
 rw [x_d] at k35
 have k36:=c36 exShop
 rw [x_wr] at k36
 have k37:=c37 plF plF (by decide) (by decide)
 rw [decide_eq_true rfl] at k37
 refine asem_seq (fi:=⟨217,[1,2,3,4],[78,95,96,97,103,109,114,119,136,210,2024002,2026003,2029004,2032001,2035003],none,[(2,[0,1,0,4,12,0,32,96,0,256,771,1795,3843,7967,16159,32767,65535],[(0,false),(1,true),(2,false),(3,true),(4,false),(5,false),(6,true),(7,false),(8,false),(9,true),(10,false),(11,false),(12,true),(13,false),(14,true),(15,false),(16,false)]),(6,[0,1,1,5,15,31,63,63,127,511],[(0,false),(1,false),(2,false),(3,false),(4,false),(5,false),(6,false),(7,false),(8,false),(9,false)]),(7,[0,1,1,5,13,5,37,101,253,37,1023,2047,4095,4095,8191,32767],[(0,false),(1,false),(2,false),(3,false),(4,true),(5,false),(6,false),(7,true),(8,false),(9,false),(10,false),(11,false),(12,false),(13,false),(14,false),(15,false)])]⟩) tab mixed (by decide) ?_
 repeat' (first|refine st_seq_reg rfl (by first|(simp only[go_sem];rfl)|rfl) (by first|(simp only[go_sem];rfl)|rfl) ?_|refine st_op ?_|refine st_det rfl (by simp (disch:=omega) only[go_sem,wr_i64];rfl) ?_|(refine st_pureGE (by first|(simp (disch:=omega) only[go_sem];rfl)|rfl) rfl (k8) (by exact hgl) (by first|(simp only[go_sem];rfl)|rfl) (by intro n;first|(simp (disch:=omega) only[go_sem];rfl)|rfl) ?_;intro n hn)|(refine st_pureE (by first|(simp (disch:=omega) only[go_sem];rfl)|rfl) rfl (e25) (by first|(simp only[go_sem];rfl)|rfl) (by intro n;first|(simp (disch:=omega) only[go_sem];rfl)|rfl) ?_;intro n hn)|(refine st_pureE (by first|(simp (disch:=omega) only[go_sem];rfl)|rfl) rfl (s0) (by first|(simp only[go_sem];rfl)|rfl) (by intro n;first|(simp (disch:=omega) only[go_sem];rfl)|rfl) ?_;intro n hn)|(refine st_pureE (by first|(simp (disch:=omega) only[go_sem];rfl)|rfl) rfl (sN) (by first|(simp only[go_sem];rfl)|rfl) (by intro n;first|(simp (disch:=omega) only[go_sem];rfl)|rfl) ?_;intro n hn)|(refine st_pureE (by first|(simp (disch:=omega) only[go_sem];rfl)|rfl) rfl (sK) (by first|(simp only[go_sem];rfl)|rfl) (by intro n;first|(simp (disch:=omega) only[go_sem];rfl)|rfl) ?_;intro n hn)|refine st_gT rfl rfl rfl ?_|refine st_condF rfl ?_|refine st_nil ?_|refine st_tN ?_|refine st_skip ?_)
 all_goals try (exfalso;omega)
 refine asem_seq (fi:=⟨217,[1,2,3,4],[78,95,96,97,103,109,114,119,136,210,2024002,2026003,2029004,2032001,2035003],none,[(2,[0,1,0,4,12,0,32,96,0,256,771,1795,3843,7967,16159,32767,65535],[(0,false),(1,true),(2,false),(3,true),(4,false),(5,false),(6,true),(7,false),(8,false),(9,true),(10,false),(11,false),(12,true),(13,false),(14,true),(15,false),(16,false)]),(6,[0,1,1,5,15,31,63,63,127,511],[(0,false),(1,false),(2,false),(3,false),(4,false),(5,false),(6,false),(7,false),(8,false),(9,false)]),(7,[0,1,1,5,13,5,37,101,253,37,1023,2047,4095,4095,8191,32767],[(0,false),(1,false),(2,false),(3,false),(4,true),(5,false),(6,false),(7,true),(8,false),(9,false),(10,false),(11,false),(12,false),(13,false),(14,false),(15,false)])]⟩) tab mixed (by decide) ?_
 repeat' (first|refine st_reg rfl (by first|(simp only[go_sem];rfl)|rfl) (by first|(simp only[go_sem];rfl)|rfl) ?_|refine st_op ?_|refine st_det rfl (by simp (disch:=omega) only[go_sem,wr_i64];rfl) ?_|(refine st_pureE (by first|(simp (disch:=omega) only[go_sem];rfl)|rfl) rfl (k27) (by first|(simp only[go_sem];rfl)|rfl) (by intro n;first|(simp (disch:=omega) only[go_sem];rfl)|rfl) ?_;intro n hn)|(refine st_pureE (by first|(simp (disch:=omega) only[go_sem];rfl)|rfl) rfl (k28) (by first|(simp only[go_sem];rfl)|rfl) (by intro n;first|(simp (disch:=omega) only[go_sem];rfl)|rfl) ?_;intro n hn)|(refine st_pureE (by first|(simp (disch:=omega) only[go_sem];rfl)|rfl) rfl (k29) (by first|(simp only[go_sem];rfl)|rfl) (by intro n;first|(simp (disch:=omega) only[go_sem];rfl)|rfl) ?_;intro n hn)|(refine st_pureE (by first|(simp (disch:=omega) only[go_sem];rfl)|rfl) rfl (f16) (by first|(simp only[go_sem];rfl)|rfl) (by intro n;first|(simp (disch:=omega) only[go_sem];rfl)|rfl) ?_;intro n hn)|refine st_nil ?_|refine st_tN ?_)
 refine asem_seq (fi:=⟨217,[1,2,3,4],[78,95,96,97,103,109,114,119,136,210,2024002,2026003,2029004,2032001,2035003],none,[(2,[0,1,0,4,12,0,32,96,0,256,771,1795,3843,7967,16159,32767,65535],[(0,false),(1,true),(2,false),(3,true),(4,false),(5,false),(6,true),(7,false),(8,false),(9,true),(10,false),(11,false),(12,true),(13,false),(14,true),(15,false),(16,false)]),(6,[0,1,1,5,15,31,63,63,127,511],[(0,false),(1,false),(2,false),(3,false),(4,false),(5,false),(6,false),(7,false),(8,false),(9,false)]),(7,[0,1,1,5,13,5,37,101,253,37,1023,2047,4095,4095,8191,32767],[(0,false),(1,false),(2,false),(3,false),(4,true),(5,false),(6,false),(7,true),(8,false),(9,false),(10,false),(11,false),(12,false),(13,false),(14,false),(15,false)])]⟩) tab mixed (by decide) ?_
 repeat' (first|refine st_draw rfl (by first|(simp only[go_sem];rfl)|rfl) (by first|(simp only[go_sem];rfl)|rfl) ?_|refine st_det rfl (by simp (disch:=omega) only[go_sem,wr_i64];rfl) ?_|refine st_dop rfl ?_|(refine st_pureE (by first|(simp (disch:=omega) only[go_sem];rfl)|rfl) rfl (k27) (by first|(simp only[go_sem];rfl)|rfl) (by intro n;first|(simp (disch:=omega) only[go_sem];rfl)|rfl) ?_;intro n hn)|(refine st_pureE (by first|(simp (disch:=omega) only[go_sem];rfl)|rfl) rfl (k28) (by first|(simp only[go_sem];rfl)|rfl) (by intro n;first|(simp (disch:=omega) only[go_sem];rfl)|rfl) ?_;intro n hn)|(refine st_pureE (by first|(simp (disch:=omega) only[go_sem];rfl)|rfl) rfl (k29) (by first|(simp only[go_sem];rfl)|rfl) (by intro n;first|(simp (disch:=omega) only[go_sem];rfl)|rfl) ?_;intro n hn)|(refine st_pureE (by first|(simp (disch:=omega) only[go_sem];rfl)|rfl) rfl (m1) (by first|(simp only[go_sem];rfl)|rfl) (by intro n;first|(simp (disch:=omega) only[go_sem];rfl)|rfl) ?_;intro n hn)|refine st_dnil ?_|refine st_tN ?_)
 refine asem_seq (fi:=⟨217,[1,2,3,4],[78,95,96,97,103,109,114,119,136,210,2024002,2026003,2029004,2032001,2035003],none,[(2,[0,1,0,4,12,0,32,96,0,256,771,1795,3843,7967,16159,32767,65535],[(0,false),(1,true),(2,false),(3,true),(4,false),(5,false),(6,true),(7,false),(8,false),(9,true),(10,false),(11,false),(12,true),(13,false),(14,true),(15,false),(16,false)]),(6,[0,1,1,5,15,31,63,63,127,511],[(0,false),(1,false),(2,false),(3,false),(4,false),(5,false),(6,false),(7,false),(8,false),(9,false)]),(7,[0,1,1,5,13,5,37,101,253,37,1023,2047,4095,4095,8191,32767],[(0,false),(1,false),(2,false),(3,false),(4,true),(5,false),(6,false),(7,true),(8,false),(9,false),(10,false),(11,false),(12,false),(13,false),(14,false),(15,false)])]⟩) tab mixed (by decide) ?_
 repeat' (first|refine st_draw rfl (by first|(simp only[go_sem];rfl)|rfl) (by first|(simp only[go_sem];rfl)|rfl) ?_|refine st_det rfl (by simp (disch:=omega) only[go_sem,wr_i64];rfl) ?_|refine st_dop rfl ?_|(refine st_pureE (by first|(simp (disch:=omega) only[go_sem];rfl)|rfl) rfl (k27) (by first|(simp only[go_sem];rfl)|rfl) (by intro n;first|(simp (disch:=omega) only[go_sem];rfl)|rfl) ?_;intro n hn)|(refine st_pureE (by first|(simp (disch:=omega) only[go_sem];rfl)|rfl) rfl (k28) (by first|(simp only[go_sem];rfl)|rfl) (by intro n;first|(simp (disch:=omega) only[go_sem];rfl)|rfl) ?_;intro n hn)|(refine st_pureE (by first|(simp (disch:=omega) only[go_sem];rfl)|rfl) rfl (k29) (by first|(simp only[go_sem];rfl)|rfl) (by intro n;first|(simp (disch:=omega) only[go_sem];rfl)|rfl) ?_;intro n hn)|(refine st_pureE (by first|(simp (disch:=omega) only[go_sem];rfl)|rfl) rfl (m2) (by first|(simp only[go_sem];rfl)|rfl) (by intro n;first|(simp (disch:=omega) only[go_sem];rfl)|rfl) ?_;intro n hn)|refine st_dnil ?_|refine st_tN ?_)
 refine asem_seq (fi:=⟨217,[1,2,3,4],[78,95,96,97,103,109,114,119,136,210,2024002,2026003,2029004,2032001,2035003],none,[(2,[0,1,0,4,12,0,32,96,0,256,771,1795,3843,7967,16159,32767,65535],[(0,false),(1,true),(2,false),(3,true),(4,false),(5,false),(6,true),(7,false),(8,false),(9,true),(10,false),(11,false),(12,true),(13,false),(14,true),(15,false),(16,false)]),(6,[0,1,1,5,15,31,63,63,127,511],[(0,false),(1,false),(2,false),(3,false),(4,false),(5,false),(6,false),(7,false),(8,false),(9,false)]),(7,[0,1,1,5,13,5,37,101,253,37,1023,2047,4095,4095,8191,32767],[(0,false),(1,false),(2,false),(3,false),(4,true),(5,false),(6,false),(7,true),(8,false),(9,false),(10,false),(11,false),(12,false),(13,false),(14,false),(15,false)])]⟩) tab mixed (by decide) ?_
 repeat' (first|refine st_seq_reg rfl (by first|(simp only[go_sem];rfl)|rfl) (by first|(simp only[go_sem];rfl)|rfl) ?_|refine st_op ?_|refine st_det rfl (by simp (disch:=omega) only[go_sem,wr_i64];rfl) ?_|(refine st_pureE (by first|(simp (disch:=omega) only[go_sem];rfl)|rfl) rfl (k20) (by first|(simp only[go_sem];rfl)|rfl) (by intro n;first|(simp (disch:=omega) only[go_sem];rfl)|rfl) ?_;intro n hn)|(refine st_pureE (by first|(simp (disch:=omega) only[go_sem];rfl)|rfl) rfl (k21) (by first|(simp only[go_sem];rfl)|rfl) (by intro n;first|(simp (disch:=omega) only[go_sem];rfl)|rfl) ?_;intro n hn)|refine st_gT rfl rfl rfl ?_|refine st_condF rfl ?_|refine st_nil ?_|refine st_tN ?_|refine st_skip ?_)
 all_goals try (exfalso;omega)
 refine asem_seq (fi:=⟨217,[1,2,3,4],[78,95,96,97,103,109,114,119,136,210,2024002,2026003,2029004,2032001,2035003],none,[(2,[0,1,0,4,12,0,32,96,0,256,771,1795,3843,7967,16159,32767,65535],[(0,false),(1,true),(2,false),(3,true),(4,false),(5,false),(6,true),(7,false),(8,false),(9,true),(10,false),(11,false),(12,true),(13,false),(14,true),(15,false),(16,false)]),(6,[0,1,1,5,15,31,63,63,127,511],[(0,false),(1,false),(2,false),(3,false),(4,false),(5,false),(6,false),(7,false),(8,false),(9,false)]),(7,[0,1,1,5,13,5,37,101,253,37,1023,2047,4095,4095,8191,32767],[(0,false),(1,false),(2,false),(3,false),(4,true),(5,false),(6,false),(7,true),(8,false),(9,false),(10,false),(11,false),(12,false),(13,false),(14,false),(15,false)])]⟩) tab mixed (by decide) ?_
 repeat' (first|refine st_reg rfl (by first|(simp only[go_sem];rfl)|rfl) (by first|(simp only[go_sem];rfl)|rfl) ?_|refine st_op ?_|refine st_det rfl (by simp (disch:=omega) only[go_sem,wr_i64];rfl) ?_|(refine st_pureE (by first|(simp (disch:=omega) only[go_sem];rfl)|rfl) rfl (j1) (by first|(simp only[go_sem];rfl)|rfl) (by intro n;first|(simp (disch:=omega) only[go_sem];rfl)|rfl) ?_;intro n hn)|refine st_nil ?_|refine st_tN ?_)
 refine asem_seq (fi:=⟨217,[1,2,3,4],[78,95,96,97,103,109,114,119,136,210,2024002,2026003,2029004,2032001,2035003],none,[(2,[0,1,0,4,12,0,32,96,0,256,771,1795,3843,7967,16159,32767,65535],[(0,false),(1,true),(2,false),(3,true),(4,false),(5,false),(6,true),(7,false),(8,false),(9,true),(10,false),(11,false),(12,true),(13,false),(14,true),(15,false),(16,false)]),(6,[0,1,1,5,15,31,63,63,127,511],[(0,false),(1,false),(2,false),(3,false),(4,false),(5,false),(6,false),(7,false),(8,false),(9,false)]),(7,[0,1,1,5,13,5,37,101,253,37,1023,2047,4095,4095,8191,32767],[(0,false),(1,false),(2,false),(3,false),(4,true),(5,false),(6,false),(7,true),(8,false),(9,false),(10,false),(11,false),(12,false),(13,false),(14,false),(15,false)])]⟩) tab mixed (by decide) ?_
 repeat' (first|refine st_reg rfl (by first|(simp only[go_sem];rfl)|rfl) (by first|(simp only[go_sem];rfl)|rfl) ?_|refine st_op ?_|refine st_det rfl (by simp (disch:=omega) only[go_sem,wr_i64];rfl) ?_|(refine st_pureE (by first|(simp (disch:=omega) only[go_sem];rfl)|rfl) rfl (j2) (by first|(simp only[go_sem];rfl)|rfl) (by intro n;first|(simp (disch:=omega) only[go_sem];rfl)|rfl) ?_;intro n hn)|refine st_nil ?_|refine st_tN ?_)
 refine asem_seq (fi:=⟨217,[1,2,3,4],[78,95,96,97,103,109,114,119,136,210,2024002,2026003,2029004,2032001,2035003],none,[(2,[0,1,0,4,12,0,32,96,0,256,771,1795,3843,7967,16159,32767,65535],[(0,false),(1,true),(2,false),(3,true),(4,false),(5,false),(6,true),(7,false),(8,false),(9,true),(10,false),(11,false),(12,true),(13,false),(14,true),(15,false),(16,false)]),(6,[0,1,1,5,15,31,63,63,127,511],[(0,false),(1,false),(2,false),(3,false),(4,false),(5,false),(6,false),(7,false),(8,false),(9,false)]),(7,[0,1,1,5,13,5,37,101,253,37,1023,2047,4095,4095,8191,32767],[(0,false),(1,false),(2,false),(3,false),(4,true),(5,false),(6,false),(7,true),(8,false),(9,false),(10,false),(11,false),(12,false),(13,false),(14,false),(15,false)])]⟩) tab mixed (by decide) ?_
 repeat' (first|refine st_seq_reg rfl (by first|(simp only[go_sem];rfl)|rfl) (by first|(simp only[go_sem];rfl)|rfl) ?_|refine st_op ?_|refine st_det rfl (by simp (disch:=omega) only[go_sem,wr_i64];rfl) ?_|(refine st_pureE (by first|(simp (disch:=omega) only[go_sem];rfl)|rfl) rfl (k31) (by first|(simp only[go_sem];rfl)|rfl) (by intro n;first|(simp (disch:=omega) only[go_sem];rfl)|rfl) ?_;intro n hn)|refine st_gT rfl rfl rfl ?_|refine st_condF rfl ?_|refine st_nil ?_|refine st_tN ?_|refine st_skip ?_)
 all_goals try (exfalso;omega)
 refine asem_seq (fi:=⟨217,[1,2,3,4],[78,95,96,97,103,109,114,119,136,210,2024002,2026003,2029004,2032001,2035003],none,[(2,[0,1,0,4,12,0,32,96,0,256,771,1795,3843,7967,16159,32767,65535],[(0,false),(1,true),(2,false),(3,true),(4,false),(5,false),(6,true),(7,false),(8,false),(9,true),(10,false),(11,false),(12,true),(13,false),(14,true),(15,false),(16,false)]),(6,[0,1,1,5,15,31,63,63,127,511],[(0,false),(1,false),(2,false),(3,false),(4,false),(5,false),(6,false),(7,false),(8,false),(9,false)]),(7,[0,1,1,5,13,5,37,101,253,37,1023,2047,4095,4095,8191,32767],[(0,false),(1,false),(2,false),(3,false),(4,true),(5,false),(6,false),(7,true),(8,false),(9,false),(10,false),(11,false),(12,false),(13,false),(14,false),(15,false)])]⟩) tab mixed (by decide) ?_
 repeat' (first|refine st_reg rfl (by first|(simp only[go_sem];rfl)|rfl) (by first|(simp only[go_sem];rfl)|rfl) ?_|refine st_op ?_|refine st_det rfl (by simp (disch:=omega) only[go_sem,wr_i64];rfl) ?_|(refine st_pureE (by first|(simp (disch:=omega) only[go_sem];rfl)|rfl) rfl (e25) (by first|(simp only[go_sem];rfl)|rfl) (by intro n;first|(simp (disch:=omega) only[go_sem];rfl)|rfl) ?_;intro n hn)|(refine st_pureE (by first|(simp (disch:=omega) only[go_sem];rfl)|rfl) rfl (c33 2 3) (by first|(simp only[go_sem];rfl)|rfl) (by intro n;first|(simp (disch:=omega) only[go_sem];rfl)|rfl) ?_;intro n hn)|(refine st_pureGE (by first|(simp (disch:=omega) only[go_sem];rfl)|rfl) rfl (t1) (by exact hgl) (by first|(simp only[go_sem];rfl)|rfl) (by intro n;first|(simp (disch:=omega) only[go_sem];rfl)|rfl) ?_;intro n hn)|refine st_nil ?_|refine st_tN ?_)
 refine asem_seq (fi:=⟨217,[1,2,3,4],[78,95,96,97,103,109,114,119,136,210,2024002,2026003,2029004,2032001,2035003],none,[(2,[0,1,0,4,12,0,32,96,0,256,771,1795,3843,7967,16159,32767,65535],[(0,false),(1,true),(2,false),(3,true),(4,false),(5,false),(6,true),(7,false),(8,false),(9,true),(10,false),(11,false),(12,true),(13,false),(14,true),(15,false),(16,false)]),(6,[0,1,1,5,15,31,63,63,127,511],[(0,false),(1,false),(2,false),(3,false),(4,false),(5,false),(6,false),(7,false),(8,false),(9,false)]),(7,[0,1,1,5,13,5,37,101,253,37,1023,2047,4095,4095,8191,32767],[(0,false),(1,false),(2,false),(3,false),(4,true),(5,false),(6,false),(7,true),(8,false),(9,false),(10,false),(11,false),(12,false),(13,false),(14,false),(15,false)])]⟩) tab mixed (by decide) ?_
 repeat' (first|refine st_reg rfl (by first|(simp only[go_sem];rfl)|rfl) (by first|(simp only[go_sem];rfl)|rfl) ?_|refine st_op ?_|refine st_det rfl (by simp (disch:=omega) only[go_sem,wr_i64];rfl) ?_|(refine st_pureE (by first|(simp (disch:=omega) only[go_sem];rfl)|rfl) rfl (e25) (by first|(simp only[go_sem];rfl)|rfl) (by intro n;first|(simp (disch:=omega) only[go_sem];rfl)|rfl) ?_;intro n hn)|(refine st_pureE (by first|(simp (disch:=omega) only[go_sem];rfl)|rfl) rfl (c33 2 2) (by first|(simp only[go_sem];rfl)|rfl) (by intro n;first|(simp (disch:=omega) only[go_sem];rfl)|rfl) ?_;intro n hn)|(refine st_pureGE (by first|(simp (disch:=omega) only[go_sem];rfl)|rfl) rfl (t2) (by exact hgl) (by first|(simp only[go_sem];rfl)|rfl) (by intro n;first|(simp (disch:=omega) only[go_sem];rfl)|rfl) ?_;intro n hn)|refine st_nil ?_|refine st_tN ?_)
 refine asem_seq (fi:=⟨217,[1,2,3,4],[78,95,96,97,103,109,114,119,136,210,2024002,2026003,2029004,2032001,2035003],none,[(2,[0,1,0,4,12,0,32,96,0,256,771,1795,3843,7967,16159,32767,65535],[(0,false),(1,true),(2,false),(3,true),(4,false),(5,false),(6,true),(7,false),(8,false),(9,true),(10,false),(11,false),(12,true),(13,false),(14,true),(15,false),(16,false)]),(6,[0,1,1,5,15,31,63,63,127,511],[(0,false),(1,false),(2,false),(3,false),(4,false),(5,false),(6,false),(7,false),(8,false),(9,false)]),(7,[0,1,1,5,13,5,37,101,253,37,1023,2047,4095,4095,8191,32767],[(0,false),(1,false),(2,false),(3,false),(4,true),(5,false),(6,false),(7,true),(8,false),(9,false),(10,false),(11,false),(12,false),(13,false),(14,false),(15,false)])]⟩) tab mixed (by decide) ?_
 repeat' (first|refine st_reg rfl (by first|(simp only[go_sem];rfl)|rfl) (by first|(simp only[go_sem];rfl)|rfl) ?_|refine st_op ?_|refine st_det rfl (by simp (disch:=omega) only[go_sem,wr_i64];rfl) ?_|(refine st_pureE (by first|(simp (disch:=omega) only[go_sem];rfl)|rfl) rfl (e25) (by first|(simp only[go_sem];rfl)|rfl) (by intro n;first|(simp (disch:=omega) only[go_sem];rfl)|rfl) ?_;intro n hn)|(refine st_pureE (by first|(simp (disch:=omega) only[go_sem];rfl)|rfl) rfl (c33 1 3) (by first|(simp only[go_sem];rfl)|rfl) (by intro n;first|(simp (disch:=omega) only[go_sem];rfl)|rfl) ?_;intro n hn)|(refine st_pureGE (by first|(simp (disch:=omega) only[go_sem];rfl)|rfl) rfl (t3) (by exact hgl) (by first|(simp only[go_sem];rfl)|rfl) (by intro n;first|(simp (disch:=omega) only[go_sem];rfl)|rfl) ?_;intro n hn)|refine st_nil ?_|refine st_tN ?_)
 refine asem_seq (fi:=⟨217,[1,2,3,4],[78,95,96,97,103,109,114,119,136,210,2024002,2026003,2029004,2032001,2035003],none,[(2,[0,1,0,4,12,0,32,96,0,256,771,1795,3843,7967,16159,32767,65535],[(0,false),(1,true),(2,false),(3,true),(4,false),(5,false),(6,true),(7,false),(8,false),(9,true),(10,false),(11,false),(12,true),(13,false),(14,true),(15,false),(16,false)]),(6,[0,1,1,5,15,31,63,63,127,511],[(0,false),(1,false),(2,false),(3,false),(4,false),(5,false),(6,false),(7,false),(8,false),(9,false)]),(7,[0,1,1,5,13,5,37,101,253,37,1023,2047,4095,4095,8191,32767],[(0,false),(1,false),(2,false),(3,false),(4,true),(5,false),(6,false),(7,true),(8,false),(9,false),(10,false),(11,false),(12,false),(13,false),(14,false),(15,false)])]⟩) tab mixed (by decide) ?_
 repeat' (first|refine st_reg rfl (by first|(simp only[go_sem];rfl)|rfl) (by first|(simp only[go_sem];rfl)|rfl) ?_|refine st_op ?_|refine st_det rfl (by simp (disch:=omega) only[go_sem,wr_i64];rfl) ?_|(refine st_pureGE (by first|(simp (disch:=omega) only[go_sem];rfl)|rfl) rfl (k34) (by exact hgl) (by first|(simp only[go_sem];rfl)|rfl) (by intro n;first|(simp (disch:=omega) only[go_sem];rfl)|rfl) ?_;intro n hn)|refine st_nil ?_|refine st_tN ?_)
 refine asem_seq (fi:=⟨217,[1,2,3,4],[78,95,96,97,103,109,114,119,136,210,2024002,2026003,2029004,2032001,2035003],none,[(2,[0,1,0,4,12,0,32,96,0,256,771,1795,3843,7967,16159,32767,65535],[(0,false),(1,true),(2,false),(3,true),(4,false),(5,false),(6,true),(7,false),(8,false),(9,true),(10,false),(11,false),(12,true),(13,false),(14,true),(15,false),(16,false)]),(6,[0,1,1,5,15,31,63,63,127,511],[(0,false),(1,false),(2,false),(3,false),(4,false),(5,false),(6,false),(7,false),(8,false),(9,false)]),(7,[0,1,1,5,13,5,37,101,253,37,1023,2047,4095,4095,8191,32767],[(0,false),(1,false),(2,false),(3,false),(4,true),(5,false),(6,false),(7,true),(8,false),(9,false),(10,false),(11,false),(12,false),(13,false),(14,false),(15,false)])]⟩) tab mixed (by decide) ?_
 repeat' (first|refine st_reg rfl (by first|(simp only[go_sem];rfl)|rfl) (by first|(simp only[go_sem];rfl)|rfl) ?_|refine st_op ?_|refine st_det rfl (by simp (disch:=omega) only[go_sem,wr_i64];rfl) ?_|(refine st_pureGE (by first|(simp (disch:=omega) only[go_sem];rfl)|rfl) rfl (k35) (by exact hgl) (by first|(simp only[go_sem];rfl)|rfl) (by intro n;first|(simp (disch:=omega) only[go_sem];rfl)|rfl) ?_;intro n hn)|refine st_nil ?_|refine st_tN ?_)
 refine asem_seq (fi:=⟨217,[1,2,3,4],[78,95,96,97,103,109,114,119,136,210,2024002,2026003,2029004,2032001,2035003],none,[(2,[0,1,0,4,12,0,32,96,0,256,771,1795,3843,7967,16159,32767,65535],[(0,false),(1,true),(2,false),(3,true),(4,false),(5,false),(6,true),(7,false),(8,false),(9,true),(10,false),(11,false),(12,true),(13,false),(14,true),(15,false),(16,false)]),(6,[0,1,1,5,15,31,63,63,127,511],[(0,false),(1,false),(2,false),(3,false),(4,false),(5,false),(6,false),(7,false),(8,false),(9,false)]),(7,[0,1,1,5,13,5,37,101,253,37,1023,2047,4095,4095,8191,32767],[(0,false),(1,false),(2,false),(3,false),(4,true),(5,false),(6,false),(7,true),(8,false),(9,false),(10,false),(11,false),(12,false),(13,false),(14,false),(15,false)])]⟩) tab mixed (by decide) ?_
 repeat' (first|refine st_reg rfl (by first|(simp only[go_sem];rfl)|rfl) (by first|(simp only[go_sem];rfl)|rfl) ?_|refine st_op ?_|refine st_det rfl (by simp (disch:=omega) only[go_sem,wr_i64];rfl) ?_|(refine st_pureE (by first|(simp (disch:=omega) only[go_sem];rfl)|rfl) rfl (e25) (by first|(simp only[go_sem];rfl)|rfl) (by intro n;first|(simp (disch:=omega) only[go_sem];rfl)|rfl) ?_;intro n hn)|(refine st_pureGE (by first|(simp (disch:=omega) only[go_sem];rfl)|rfl) rfl (k36) (by exact hgl) (by first|(simp only[go_sem];rfl)|rfl) (by intro n;first|(simp (disch:=omega) only[go_sem];rfl)|rfl) ?_;intro n hn)|refine st_nil ?_|refine st_tN ?_)
 refine asem_awp (fi:=⟨217,[1,2,3,4],[78,95,96,97,103,109,114,119,136,210,2024002,2026003,2029004,2032001,2035003],none,[(2,[0,1,0,4,12,0,32,96,0,256,771,1795,3843,7967,16159,32767,65535],[(0,false),(1,true),(2,false),(3,true),(4,false),(5,false),(6,true),(7,false),(8,false),(9,true),(10,false),(11,false),(12,true),(13,false),(14,true),(15,false),(16,false)]),(6,[0,1,1,5,15,31,63,63,127,511],[(0,false),(1,false),(2,false),(3,false),(4,false),(5,false),(6,false),(7,false),(8,false),(9,false)]),(7,[0,1,1,5,13,5,37,101,253,37,1023,2047,4095,4095,8191,32767],[(0,false),(1,false),(2,false),(3,false),(4,true),(5,false),(6,false),(7,true),(8,false),(9,false),(10,false),(11,false),(12,false),(13,false),(14,false),(15,false)])]⟩) tab mixed (by decide) ?_
 repeat' (first|refine st_seq_reg rfl (by first|(simp only[go_sem];rfl)|rfl) (by first|(simp only[go_sem];rfl)|rfl) ?_|refine st_op ?_|refine st_det rfl (by simp (disch:=omega) only[go_sem,wr_i64];rfl) ?_|(refine st_pureE (by first|(simp (disch:=omega) only[go_sem];rfl)|rfl) rfl (k37) (by first|(simp only[go_sem];rfl)|rfl) (by intro n;first|(simp (disch:=omega) only[go_sem];rfl)|rfl) ?_;intro n hn)|refine st_gT rfl rfl rfl ?_|refine st_nil ?_|refine st_ret ?_)
 all_goals try (exfalso;omega)
 simp (disch:=omega) only[AEnd,Tryz.results4,aresK,fin,go_sem,implies_true,true_and,and_true,List.reverse_cons,List.reverse_nil]
 first|rfl|(refine congrArg AV.bool ?_;decide +kernel)|(refine congrArg AV.bool ?_;simp)
end Go.Proofs.YtaijkalhkgjakaaGreatDoor

namespace Go.Proofs.YtaijkalhkgjakaaGreatDoor
open Go.Av Go.ChangeShapes Go.WideShapes Go.ChangeAt Go.RowKit
abbrev laidL : List (String × DataW Unit) := [("math/bits.deBruijn32tab", Rows.laid_math_bits_deBruijn32tab), ("math/bits.deBruijn64tab", Rows.laid_math_bits_deBruijn64tab), ("internal/strconv.uint64pow10", Rows.laid_internal_strconv_uint64pow10), ("bateria/shed.bitOf", Rows.laid_bateria_shed_bitOf)]
theorem ga : Tryz.prog.globalNamed "internal/strconv.uint64pow10" = some 1 := by kernel_rfl
theorem ta:(Tryz.prog.globals[1]?).map (·.type)=some 229:=by kernel_rfl
theorem gb : Tryz.prog.globalNamed "bateria/shed.bitOf" = some 0 := by kernel_rfl
theorem tb:(Tryz.prog.globals[0]?).map (·.type)=some 169:=by kernel_rfl
theorem uP10:Tryz.prog.underlying 229=some (.array 20 90):=by kernel_rfl
theorem uU:Tryz.prog.underlying 90=some (.int .u64):=by kernel_rfl
theorem uBit:Tryz.prog.underlying 169=some (.array 4 3):=by kernel_rfl
theorem uI:Tryz.prog.underlying 3=some (.int .i64):=by kernel_rfl
theorem gl_of {W:World} {n:String} {g:Nat} {cs:Array Value} {avs:List AV} (hg:Tryz.prog.globalNamed n=some g) (hv:W.var? Tryz.prog n=some cs) (h1:VRs (c00 W) avs cs.toList) (h2:avs.all AV.cell=true) :
  (c00 W).im g∧avs.all AV.cell=true∧∃ xs,(c00 W).w.rangeAt g 0 xs∧VRs (c00 W) avs xs∧∃ ty fz,(c00 W).w.heap[g]?=some (.cells xs.toArray ty fz):=by
 have hb:∃ ty fz,W.heap[g]?=some (.cells cs ty fz):=by
  unfold World.var? at hv
  rw [hg] at hv
  simp only[Option.bind_some] at hv
  split at hv
  ·rename_i c a b e
   injection hv with hv
   subst hv
   exact ⟨a,b,e⟩
  ·cases hv
 obtain ⟨ty,fz,hb⟩:=hb
 have hlt:g < W.heap.size:=by
  rcases Nat.lt_or_ge g W.heap.size with h|h
  ·exact h
  ·rw [Array.getElem?_eq_none h] at hb;cases hb
 refine ⟨hlt,h2,cs.toList,fun j v hj=>?_,h1,ty,fz,by rw [show cs.toList.toArray=cs by simp];exact hb⟩
 rw [Nat.zero_add]
 show W.cell? ⟨g,j,none⟩=some v
 rw [World.var?_cell hg hv j,← Array.getElem?_toList];exact hj
theorem vrs_ints {c:Cx} {k:IntKind}:∀ (l:List Int),VRs c (l.map fun z=>AV.int k z) (l.map fun z=>Value.int k z)
 | []=>by simp [VRs]
 | x :: l=>by simp only[List.map_cons,VRs];exact ⟨_,_,rfl,by simp [VR],vrs_ints l⟩
theorem glB {W:World} (h:laidMetH Tryz.prog laidL W):GL (c00 W) gT:=by
 have h':laidMet Tryz.prog laidL W:=h
 obtain ⟨ps,hL,_⟩:=h'
 obtain ⟨_,_,_,_,_,_,_,_,_,_,hL,_⟩:=hL
 obtain ⟨_,_,_,_,_,_,_,_,_,_,hL,_⟩:=hL
 obtain ⟨ga',ta',ca,fa,pa,qa,a1,a2,a3,a4,hL,_⟩:=hL
 obtain ⟨gb',tb',cb,fb,pb,qb,b1,b2,b3,b4,_,_⟩:=hL
 obtain rfl:=Option.some.inj (ga.symm.trans a1)
 obtain rfl:=Option.some.inj (ta.symm.trans a2)
 have a5:=Lib.cells_of_tab (k:=.u64) (zs:=[1,10,100,1000,10000,100000,1000000,10000000,100000000,1000000000,10000000000,100000000000,1000000000000,10000000000000,100000000000000,1000000000000000,10000000000000000,100000000000000000,1000000000000000000,10000000000000000000]) uP10 uU (by kernel_rfl) (by kernel_rfl) a4
 obtain rfl:=Option.some.inj (gb.symm.trans b1)
 obtain rfl:=Option.some.inj (tb.symm.trans b2)
 have b5:=Lib.cells_of_tab (k:=.i64) (zs:=[0,1,2,4]) uBit uI (by kernel_rfl) (by kernel_rfl) b4
 intro i row hi
 unfold gT at hi
 split at hi
 ·rename_i e;subst e;cases hi
  exact gl_of gb b3 (by rw [b5];exact vrs_ints [0,1,2,4]) rfl
 split at hi
 ·rename_i e;subst e;cases hi
  exact gl_of ga a3 (by rw [a5];exact vrs_ints _) rfl
 ·cases hi
def fl1:DataW Unit→List Value
 | .lit (.int k n)=>[.int k n]
 | _=>[]
def fl2:DataW Unit→List Value
 | .agg ps=>ps.flatMap fl1
 | d=>fl1 d
def fl3:DataW Unit→List Value
 | .agg ps=>ps.flatMap fl2
 | d=>fl1 d
def setCs (cs:List Value):Obj→Obj
 | .cells _ t frozen=>.cells cs.toArray t frozen
 | o=>o
noncomputable def laidWorld (os:Os):World :=
 let w0:=World.holding Tryz.prog os ⟨#[],#[],[]⟩
 { w0 with heap:=((((w0.heap.modify 7 (setCs (fl3 Rows.laid_math_bits_deBruijn32tab))).modify 8 (setCs (fl3 Rows.laid_math_bits_deBruijn64tab))).modify 1 (setCs (fl3 Rows.laid_internal_strconv_uint64pow10))).modify 0 (setCs (fl3 Rows.laid_bateria_shed_bitOf))) }
theorem laidWorld_met (os:Os) (args:Array Value):laidMetH Tryz.prog laidL ((laidWorld os).forCall (fun _ _=>0) ⟨#[],args,[]⟩).memory :=
 show laidMet _ _ _ from laidMet_of_run' 8 (by kernel_rfl) (by kernel_rfl)
end Go.Proofs.YtaijkalhkgjakaaGreatDoor
