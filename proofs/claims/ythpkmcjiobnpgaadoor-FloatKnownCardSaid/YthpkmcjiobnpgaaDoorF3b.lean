/- strings.Builder's copyCheck, WriteString and WriteByte, walked in the concrete world. -/
import Derived.Test.YthpkmcjiobnpgaaDoorPB3
import Derived.Test.YthpkmcjiobnpgaaDoorProg
import Derived.Shelf.Strings.Builder1
import Derived.Shelf.LaysM
import Derived.Test.YthpkmcjiobnpgaaDoorAvT
set_option linter.all false
set_option linter.unusedSimpArgs false
set_option linter.unusedVariables false
namespace Go.Proofs.YthpkmcjiobnpgaaDoor
open Go.Shelf Go.RowKit Go.Lib Go.Txt Go.Av
theorem sizeBuilder:(Tryd.prog.info? 91).map (·.size)=some 2:=by kernel_rfl
theorem liesBuilder:liesAt Tryd.prog Tryd.prog.depth 91 (2 / Tryd.prog.cellsOf 91) 0 91 1=true:=by kernel_rfl
theorem infoByte:(Tryd.prog.info? 5).map (fun i=>(i.zero,i.size,i.bytes))=some (some (.int .u8 0),1,1):=by kernel_rfl
theorem info_parts {t:TypeId} {z:Value} {s b:Nat} (h:(Tryd.prog.info? t).map (fun i=>(i.zero,i.size,i.bytes))=some (some z,s,b)):∃ i,Tryd.prog.info? t=some i∧i.zero=some z∧i.size=s∧i.bytes=b:=by
 obtain ⟨i,hi,h2⟩:=Option.map_eq_some_iff.1 h
 simp only[Prod.mk.injEq] at h2
 exact ⟨i,hi,h2.1,h2.2.1,h2.2.2⟩
set_option maxHeartbeats 1000000 in
set_option maxRecDepth 100000 in
theorem cc_used (b:Nat) (w:World) (h0:w.cell? ⟨b,0,none⟩=some (.pointer (some ⟨b,0,none⟩))) :
  Calls Tryd.prog 61 #[.pointer (some ⟨b,0,none⟩)] w fun e w'=>e=.returned (.tuple #[])∧w'=w:=by
 obtain ⟨j,hj,_⟩:=Option.map_eq_some_iff.1 sizeBuilder
 go_enter Tryd.func61,Tryd.ntmps61
 go_wp2
 rw [Lib.run_neq_ptr_same w _ Tryd.underlying88 hj]
 go_wp2
 go_end0
 exact ⟨rfl,rfl⟩
set_option maxHeartbeats 1000000 in
set_option maxRecDepth 100000 in
theorem cc_fresh (b:Nat) (w:World) (h0:w.cell? ⟨b,0,none⟩=some (.pointer none)) (hsh:w.shape? b=some (91,2)) (hfz:w.frozen? ⟨b,0,none⟩=false) :
  Calls Tryd.prog 61 #[.pointer (some ⟨b,0,none⟩)] w fun e w'=>e=.returned (.tuple #[])∧w'=w.setCell ⟨b,0,none⟩ (.pointer (some ⟨b,0,none⟩)):=by
 obtain ⟨j,hj,hjs⟩:=Option.map_eq_some_iff.1 sizeBuilder
 go_enter Tryd.func61,Tryd.ntmps61
 go_wp2
 rw [Lib.run_to_unsafe w ⟨b,0,none⟩ Tryd.underlying88 Tryd.underlying109 hj (by rw [hjs];decide) hsh (Nat.zero_lt_succ 1)]
 simp only[Result.andThen]
 rw [Oper.upon_value]
 go_wp2
 rw [run_callFunc_extern Tryd.func66 (by kernel_rfl) (by kernel_rfl) (by kernel_rfl) (e:=Extern.AbiNoEscape.same) (by kernel_rfl)]
 rw [Lib.run_noEscape]
 simp only[Result.andThen]
 rw [Oper.upon_value]
 go_wp2
 rw [Lib.run_from_unsafe w ⟨b,0,none⟩ Tryd.underlying109 Tryd.underlying88 hj hsh liesBuilder]
 simp only[Result.andThen]
 rw [Oper.upon_value]
 go_wp2
 go_end0
 exact ⟨rfl,rfl⟩
theorem cc_at (b:Nat) (p v:Value) (bs:List Value) (w:World) (hp:p=.pointer none ∨ p=.pointer (some ⟨b,0,none⟩)) (h:BAt 91 5 b p v bs w) :
  Calls Tryd.prog 61 #[.pointer (some ⟨b,0,none⟩)] w fun e w'=>e=.returned (.tuple #[])∧BAt 91 5 b (.pointer (some ⟨b,0,none⟩)) v bs w' ∧
   w'.heap.size=w.heap.size∧w'.os=w.os∧w'.tape=w.tape∧w'.output=w.output∧∀ k,k ≠ b→w'.heap[k]?=w.heap[k]?:=by
 obtain ⟨h1,h2,h3⟩:=h
 have c0:w.cell? ⟨b,0,none⟩=some p:=by rw [Lib.cell_of_heap h1];rfl
 rcases hp with rfl|rfl
 ·refine (cc_fresh b w c0 (by simp [World.shape?,h1]) (Lib.frozen_of_heap h1 0)).mono ?_
  rintro e w' ⟨rfl,rfl⟩
  have hk:∀ k,k ≠ b→(w.setCell ⟨b,0,none⟩ (.pointer (some ⟨b,0,none⟩))).heap[k]?=w.heap[k]?:=fun k hk=>Below.heap_setCell _ _ _ _ hk
  refine ⟨rfl,⟨?_,owns_of h2 (fun g hg=>hk g (fun e=>h3 (by rw [hg,e]))),h3⟩,?_,rfl,rfl,rfl,hk⟩
  ·simp only[World.setCell,Array.getElem?_modify,if_true,h1]
   rfl
  ·simp [World.setCell]
 ·refine (cc_used b w c0).mono ?_
  rintro e w' ⟨rfl,rfl⟩
  exact ⟨rfl,⟨h1,h2,h3⟩,rfl,rfl,rfl,rfl,fun _ _=>rfl⟩
set_option maxHeartbeats 2000000 in
set_option maxRecDepth 100000 in
theorem Wr_String (b:Nat) (p v:Value) (bs:List Value) (s:ByteArray) (w:World) (hp:p=.pointer none ∨ p=.pointer (some ⟨b,0,none⟩)) (h:BAt 91 5 b p v bs w) (hlen:bs.length+s.size≤140737488355328) :
  Calls Tryd.prog 50 #[.pointer (some ⟨b,0,none⟩),.string s] w fun e w'=>e=.returned (.tuple #[.int .i64 s.size,.nilIface])∧∃ v',BAt 91 5 b (.pointer (some ⟨b,0,none⟩)) v' (bs ++ strCells s) w'∧Fr b v w w'∧At w v v':=by
 obtain ⟨i0,hi,hz0,hz1,hz2⟩:=info_parts infoByte
 go_enter Tryd.func50,Tryd.ntmps50
 go_wp2_with (go_at_call 61;refine (cc_at b p v bs _ hp h).mono ?_)
 rintro e w1 ⟨rfl,hw1,hsz,hos,htp,hou,hk1⟩
 obtain ⟨b1,b2,b3⟩:=hw1
 have c0:w1.cell? ⟨b,0,none⟩=some (.pointer (some ⟨b,0,none⟩)):=by rw [Lib.cell_of_heap b1];rfl
 have c1:w1.cell? ⟨b,1,none⟩=some v:=by rw [Lib.cell_of_heap b1];rfl
 obtain ⟨v',w2,hr,hown',hgrow,hat⟩:=app_str_at (P:=Tryd.prog) 89 9 89 5 i0 Tryd.underlying89 Tryd.underlying9 hi hz0 hz1 hz2 v bs.length bs b2 s (by unfold maxLen;omega) hlen
 have hlt:b < w1.heap.size:=(Array.getElem?_eq_some_iff.1 b1).1
 have hb2:w2.heap[b]?=some (.cells #[.pointer (some ⟨b,0,none⟩),v] 91 (0,0)):=(hgrow.block b hlt (fun e=>b3 e.symm)).trans b1
 have d0:w2.cell? ⟨b,0,none⟩=some (.pointer (some ⟨b,0,none⟩)):=by rw [Lib.cell_of_heap hb2];rfl
 have d1:w2.cell? ⟨b,1,none⟩=some v:=by rw [Lib.cell_of_heap hb2];rfl
 have f1:w2.frozen? ⟨b,1,none⟩=false:=Lib.frozen_of_heap hb2 1
 obtain ⟨ao,n',cap,rfl⟩:∃ ao n' cap,v'=.slice ao n' cap:=by
  rcases hown'.2 with ⟨hv,_⟩|⟨g,cap,cur,hv,_⟩
  ·exact ⟨_,_,_,hv⟩
  ·exact ⟨_,_,_,hv⟩
 go_wp2_with (at_builtin;refine wpList_app rfl _ _ 89 9 rfl v (.string s) (.slice ao n' cap) w2 rfl rfl hr ?_)
 go_ret2
 exact ⟨rfl,wr_fin (w1:=w1) (w2:=w2) (v':=.slice ao n' cap) (by decide) ⟨b1,b2,b3⟩ hsz hos htp hou hk1 hb2 hgrow (by simpa [strCells_length] using hown') hat⟩
set_option maxHeartbeats 2000000 in
set_option maxRecDepth 100000 in
theorem Wr_Byte (b:Nat) (p v:Value) (bs:List Value) (c:Int) (w:World) (hp:p=.pointer none ∨ p=.pointer (some ⟨b,0,none⟩)) (h:BAt 91 5 b p v bs w) (hlen:bs.length+1≤140737488355328) :
  Calls Tryd.prog 52 #[.pointer (some ⟨b,0,none⟩),.int .u8 c] w fun e w'=>e=.returned .nilIface∧∃ v',BAt 91 5 b (.pointer (some ⟨b,0,none⟩)) v' (bs ++ [.int .u8 c]) w'∧Fr b v w w'∧At w v v':=by
 obtain ⟨i0,hi,hz0,hz1,hz2⟩:=info_parts infoByte
 go_enter Tryd.func52,Tryd.ntmps52
 go_wp2_with (go_at_call 61;refine (cc_at b p v bs _ hp h).mono ?_)
 rintro e w1 ⟨rfl,hw1,hsz,hos,htp,hou,hk1⟩
 have hs1:w1.heap.size≤w.heap.size:=Nat.le_of_eq hsz
 have hs2:w.heap.size≤w1.heap.size:=Nat.le_of_eq hsz.symm
 clear hsz
 obtain ⟨b1,b2,b3⟩:=hw1
 have c0:w1.cell? ⟨b,0,none⟩=some (.pointer (some ⟨b,0,none⟩)):=by rw [Lib.cell_of_heap b1];rfl
 have c1:w1.cell? ⟨b,1,none⟩=some v:=by rw [Lib.cell_of_heap b1];rfl
 have hlt:b < w1.heap.size:=(Array.getElem?_eq_some_iff.1 b1).1
 have hown1:(w1.alloc (.cells #[.int .u8 c] 5)).ownsRow 0 5 1 v bs.length bs:=owns_of b2 (fun g hg=>Lib.alloc_old w1 _ g (owns_lt b2 hg))
 obtain ⟨v',w2,hr,hown',hgrow,hat⟩:=app_one_at (P:=Tryd.prog) (w:=w1.alloc (.cells #[.int .u8 c] 5)) 89 89 5 i0 Tryd.underlying89 hi hz0 hz1 hz2 v bs.length bs hown1 ⟨w1.heap.size,0,none⟩ c (by simp) hlen
 have hb2:w2.heap[b]?=some (.cells #[.pointer (some ⟨b,0,none⟩),v] 91 (0,0)):=by
  rw [hgrow.block b (by simp;omega) (fun e=>b3 e.symm),Lib.alloc_old w1 _ b hlt]
  exact b1
 have d0:w2.cell? ⟨b,0,none⟩=some (.pointer (some ⟨b,0,none⟩)):=by rw [Lib.cell_of_heap hb2];rfl
 have d1:w2.cell? ⟨b,1,none⟩=some v:=by rw [Lib.cell_of_heap hb2];rfl
 have f1:w2.frozen? ⟨b,1,none⟩=false:=Lib.frozen_of_heap hb2 1
 obtain ⟨ao,n',cap,rfl⟩:∃ ao n' cap,v'=.slice ao n' cap:=by
  rcases hown'.2 with ⟨hv,_⟩|⟨g,cap,cur,hv,_⟩
  ·exact ⟨_,_,_,hv⟩
  ·exact ⟨_,_,_,hv⟩
 go_wp2_with (at_builtin;refine wpList_app rfl _ _ 89 89 rfl v (.slice (some ⟨w1.heap.size,0,none⟩) 1 1) (.slice ao n' cap) w2 rfl rfl hr ?_)
 go_ret
 have hg2:w1.grownBy w2 v.ownBlock:=⟨hgrow.os,hgrow.tape,hgrow.output,Nat.le_trans (by simp) hgrow.size,fun k hk hn=>(hgrow.block k (by simp;omega) hn).trans (Lib.alloc_old w1 _ k hk)⟩
 have hat2:At w1 v (.slice ao n' cap):=hat.imp id fun ⟨g,h1,h2⟩=>⟨g,h1,Nat.le_trans (by simp) h2⟩
 exact ⟨rfl,wr_fin (w1:=w1) (w2:=w2) (v':=.slice ao n' cap) (by decide) ⟨b1,b2,b3⟩ (Nat.le_antisymm hs1 hs2) hos htp hou hk1 hb2 hg2 (by simpa using hown') hat2⟩
theorem wStr:WStr Tryd.prog 91 5 50:=Wr_String
theorem wByte:WByte Tryd.prog 91 5 52:=Wr_Byte
end Go.Proofs.YthpkmcjiobnpgaaDoor

namespace Go.Proofs.YthpkmcjiobnpgaaDoor
open Go.Shelf
def lays169_ren:Go.Shelf.Ren:=⟨fun|169=>53|n=>n,fun|70=>88|9=>9|0=>0|72=>91|37=>89|127=>106|3=>3|5=>5|n=>n,fun|n=>n⟩
theorem lays169:Go.Proofs.Lays.n169 Tryd.prog lays169_ren:={
 mixed:=by kernel_rfl
 f169:=Tryd.func53.trans (congrArg some (by kernel_rfl))
 t0:=Tryd.underlying0
 a0:=Tryd.isAgg0
 z0:=Tryd.sizeOf0
 v0:=Tryd.zeroValue0
 t3:=Tryd.underlying3
 a3:=Tryd.isAgg3
 z3:=Tryd.sizeOf3
 v3:=Tryd.zeroValue3
 t9:=Tryd.underlying9
 a9:=Tryd.isAgg9
 z9:=Tryd.sizeOf9
 v9:=Tryd.zeroValue9
 t37:=Tryd.underlying89
 a37:=Tryd.isAgg89
 z37:=Tryd.sizeOf89
 v37:=Tryd.zeroValue89
 t70:=Tryd.underlying88
 a70:=Tryd.isAgg88
 z70:=Tryd.sizeOf88
 v70:=Tryd.zeroValue88
 t72:=Tryd.underlying91
 a72:=Tryd.isAgg91
 z72:=Tryd.sizeOf91
 v72:=Tryd.zeroValue91
 t127:=Tryd.underlying106
 a127:=Tryd.isAgg106
 z127:=Tryd.sizeOf106
 v127:=Tryd.zeroValue106 }
theorem Builder_Extra_169:Builder.Extra Tryd.prog lays169_ren:={
 sizeBuilder:=by kernel_rfl
 liesBuilder:=by kernel_rfl
 t5:=Tryd.underlying5
 a5:=Tryd.isAgg5
 z5:=Tryd.sizeOf5
 v5:=Tryd.zeroValue5
 infoByte:=by kernel_rfl
 cellsByte:=by kernel_rfl
 sizeByte:=by kernel_rfl
 neB5:=by decide }
set_option maxRecDepth 8000
def laysM171_ren:Go.Shelf.Ren:=⟨fun|171=>51|243=>62|246=>67|283=>69|284=>70|285=>71|286=>72|129=>74|317=>73|318=>75|319=>76|320=>77|337=>78|338=>79|n=>n,fun|3=>3|9=>9|2=>2|4=>4|171=>112|0=>0|53=>113|37=>89|5=>5|173=>116|212=>119|51=>120|20=>20|213=>121|46=>103|232=>124|233=>125|n=>n,fun|17=>0|18=>1|19=>2|n=>n⟩
theorem laysM171:Go.Proofs.LaysM.n171 Tryd.prog laysM171_ren:={
 mixed:=by kernel_rfl
 f129:=Tryd.func74.trans (congrArg some (by kernel_rfl))
 f171:=Tryd.func51.trans (congrArg some (by kernel_rfl))
 f243:=Tryd.func62.trans (congrArg some (by kernel_rfl))
 f246:=Tryd.func67.trans (congrArg some (by kernel_rfl))
 f283:=Tryd.func69.trans (congrArg some (by kernel_rfl))
 f284:=Tryd.func70.trans (congrArg some (by kernel_rfl))
 f285:=Tryd.func71.trans (congrArg some (by kernel_rfl))
 f286:=Tryd.func72.trans (congrArg some (by kernel_rfl))
 f317:=Tryd.func73.trans (congrArg some (by kernel_rfl))
 f318:=Tryd.func75.trans (congrArg some (by kernel_rfl))
 f319:=Tryd.func76.trans (congrArg some (by kernel_rfl))
 f320:=Tryd.func77.trans (congrArg some (by kernel_rfl))
 f337:=Tryd.func78.trans (congrArg some (by kernel_rfl))
 f338:=Tryd.func79.trans (congrArg some (by kernel_rfl))
 t0:=Tryd.underlying0
 a0:=Tryd.isAgg0
 z0:=Tryd.sizeOf0
 v0:=Tryd.zeroValue0
 t2:=Tryd.underlying2
 a2:=Tryd.isAgg2
 z2:=Tryd.sizeOf2
 v2:=Tryd.zeroValue2
 t3:=Tryd.underlying3
 a3:=Tryd.isAgg3
 z3:=Tryd.sizeOf3
 v3:=Tryd.zeroValue3
 t4:=Tryd.underlying4
 a4:=Tryd.isAgg4
 z4:=Tryd.sizeOf4
 v4:=Tryd.zeroValue4
 t5:=Tryd.underlying5
 a5:=Tryd.isAgg5
 z5:=Tryd.sizeOf5
 v5:=Tryd.zeroValue5
 t9:=Tryd.underlying9
 a9:=Tryd.isAgg9
 z9:=Tryd.sizeOf9
 v9:=Tryd.zeroValue9
 t20:=Tryd.underlying20
 a20:=Tryd.isAgg20
 z20:=Tryd.sizeOf20
 v20:=Tryd.zeroValue20
 t37:=Tryd.underlying89
 a37:=Tryd.isAgg89
 z37:=Tryd.sizeOf89
 v37:=Tryd.zeroValue89
 t46:=Tryd.underlying113
 a46:=Tryd.isAgg113
 z46:=Tryd.sizeOf113
 v46:=Tryd.zeroValue113
 t51:=Tryd.underlying120
 a51:=Tryd.isAgg120
 z51:=Tryd.sizeOf120
 v51:=Tryd.zeroValue120
 t53:=Tryd.underlying103
 a53:=Tryd.isAgg103
 z53:=Tryd.sizeOf103
 v53:=Tryd.zeroValue103
 t171:=Tryd.underlying112
 a171:=Tryd.isAgg112
 z171:=Tryd.sizeOf112
 v171:=Tryd.zeroValue112
 t173:=Tryd.underlying116
 a173:=Tryd.isAgg116
 z173:=Tryd.sizeOf116
 v173:=Tryd.zeroValue116
 t212:=Tryd.underlying119
 a212:=Tryd.isAgg119
 z212:=Tryd.sizeOf119
 v212:=Tryd.zeroValue119
 t213:=Tryd.underlying121
 a213:=Tryd.isAgg121
 z213:=Tryd.sizeOf121
 t232:=Tryd.underlying124
 a232:=Tryd.isAgg124
 z232:=Tryd.sizeOf124
 v232:=Tryd.zeroValue124
 t233:=Tryd.underlying125
 a233:=Tryd.isAgg125
 z233:=Tryd.sizeOf125
 v233:=Tryd.zeroValue125
 g17:=by kernel_rfl
 g18:=by kernel_rfl
 g19:=by kernel_rfl
 i0:=by kernel_rfl
 i2:=by kernel_rfl
 i3:=by kernel_rfl
 i4:=by kernel_rfl
 i5:=by kernel_rfl
 i9:=by kernel_rfl
 i20:=by kernel_rfl
 i37:=by kernel_rfl
 i46:=by kernel_rfl
 i51:=by kernel_rfl
 i53:=by kernel_rfl
 i171:=by kernel_rfl
 i173:=by kernel_rfl
 i212:=by kernel_rfl
 i232:=by kernel_rfl
 i233:=by kernel_rfl
 m17:=by kernel_rfl
 m18:=by kernel_rfl
 m19:=by kernel_rfl }
end Go.Proofs.YthpkmcjiobnpgaaDoor

namespace Go.Proofs.YthpkmcjiobnpgaaDoor
open Go.Av
attribute [local irreducible] thenA blockA awp awpOps awpD awp1
attribute [local go_sem_proc] Nat.reduceAdd Nat.reduceMul Nat.reduceEqDiff Nat.reduceBEq Nat.reduceLeDiff
attribute [local go_sem_proc ↓] reduceIte
attribute [local go_sem] if_yes if_no
set_option maxHeartbeats 4000000
set_option maxRecDepth 20000
theorem mixed:Tryd.prog.follows .mixedOrders=true:=by decide
def iv (n:Int):List AV:=[.int .i64 n]
@[go_sem] theorem iv_eq (n:Int):iv n=[.int .i64 n]:=rfl
@[go_sem] theorem map_len {α β:Type} (f:α→β) (l:List α):(l.map f).length=l.length:=Lm f
@[go_sem] theorem ivs_getD {l:List Int} {i:Nat} (h:i < l.length):(l.map iv).getD i []=[.int .i64 (l.getD i 0)]:=by
 simp [List.getD_eq_getElem?_getD,h,iv]
@[go_sem] theorem toNat_cast (n:Nat):((n:Nat):Int).toNat=n:=rfl
def allIn (lo hi:Int) (l:List Int):Bool:=l.all fun a=>decide (lo≤a∧a≤hi)
theorem drop_getD {α:Type} {l:List α} {i:Nat} (d:α) (h:i < l.length):l.drop i=l.getD i d :: l.drop (i+1):=by
 rw [List.drop_eq_getElem_cons h,List.getD_eq_getElem?_getD,List.getElem?_eq_getElem h];rfl
theorem c20 (lo hi:Int) (es:List Int) (hl:(es.length:Int) < 1000000):Pure Tryd.prog 20 [.int .i64 lo,.int .i64 hi,.lst 1 (es.map iv)] (fun v=>v=.bool (allIn lo hi es)):=by
 intro h
 refine ACalls.forget (ACalls.of tab mixed Tryd.call20 Tryd.func20 rfl (fi:=⟨24,[],[],none,[]⟩) rfl rfl (Nat.le_of_ble_eq_true rfl) (by decide) ?_)
 unfold startA
 repeat' (first|refine st_seq_reg rfl (by first|(simp only[go_sem];rfl)|rfl) (by first|(simp only[go_sem];rfl)|rfl) ?_|refine st_reg rfl (by first|(simp only[go_sem];rfl)|rfl) (by first|(simp only[go_sem];rfl)|rfl) ?_|refine st_op ?_|refine st_det rfl (by simp (disch:=omega) only[go_sem,wr_i64];rfl) ?_|refine st_gT rfl rfl rfl ?_|refine st_gF rfl rfl rfl ?_|(refine st_gS rfl rfl ?_ ?_ <;> intro hg <;> (try simp only[dcT,dcF,bnT,bnF] at hg))|refine st_condT rfl ?_|refine st_condF rfl ?_|(refine st_condS rfl ?_ ?_ <;> intro hg <;> (try simp only[dcT,dcF,bnT,bnF] at hg))|refine st_nil ?_|refine st_tN ?_|refine st_seq ?_|refine st_block ?_|refine st_skip ?_|refine st_exit ?_|refine st_ret ?_|refine st_tE ?_|refine st_tR ?_|refine st_bN ?_|refine st_bR ?_|refine st_bH ?_|refine st_bM rfl ?_)
 refine st_loopC (α:=Nat) tab mixed [] [] (by repeat (first|exact trivial|refine ⟨rfl,?_⟩)) [] [] (by repeat (first|exact trivial|refine ⟨rfl,?_⟩)) (fun i=>[(11,.int .i64 i)]) [(0,_),(1,_),(6,_),(9,_),(10,_)] (fun _=>[]) [] (fun i=>i≤es.length∧allIn lo hi (es.drop i)=allIn lo hi es) (fun i=>es.length - i) (by decide) 0 ⟨by omega,rfl⟩ (by (try simp only[go_sem]);repeat' (first|exact trivial|refine And.intro ?_ ?_|rfl|(simp (disch:=omega) only[go_sem,if_yes,if_no,if_no];rfl)|(simp (disch:=omega) only[go_sem,if_yes,if_no,if_no]))) (by (try simp only[go_sem]);repeat' (first|exact trivial|refine And.intro ?_ ?_|rfl|(simp (disch:=omega) only[go_sem,if_yes,if_no,if_no];rfl)|(simp (disch:=omega) only[go_sem,if_yes,if_no,if_no]))) (by first|(simp only[go_sem];rfl)|rfl) (by intro n;simp only[go_sem];rfl) ?_
 rintro i c ⟨hi',hall⟩ hc
 simp only[go_sem]
 repeat' (first|refine st_seq_reg rfl (by first|(simp only[go_sem];rfl)|rfl) (by first|(simp only[go_sem];rfl)|rfl) ?_|refine st_reg rfl (by first|(simp only[go_sem];rfl)|rfl) (by first|(simp only[go_sem];rfl)|rfl) ?_|refine st_op ?_|refine st_det rfl (by simp (disch:=omega) only[go_sem,wr_i64];rfl) ?_|refine st_gT rfl rfl rfl ?_|refine st_gF rfl rfl rfl ?_|(refine st_gS rfl rfl ?_ ?_ <;> intro hg <;> (try simp only[dcT,dcF,bnT,bnF] at hg))|refine st_condT rfl ?_|refine st_condF rfl ?_|(refine st_condS rfl ?_ ?_ <;> intro hg <;> (try simp only[dcT,dcF,bnT,bnF] at hg))|refine st_nil ?_|refine st_tN ?_|refine st_seq ?_|refine st_block ?_|refine st_skip ?_|refine st_exit ?_|refine st_ret ?_|refine st_tE ?_|refine st_tR ?_|refine st_bN ?_|refine st_bR ?_|refine st_bH ?_|refine st_bM rfl ?_)
 ·simp (disch:=omega) only[AEnd,Tryd.results20,aresK,fin,go_sem,implies_true,true_and,and_true,List.reverse_cons,List.reverse_nil]
  rw [← hall,drop_getD 0 (by omega)];simp [allIn,-List.getD_eq_getElem?_getD];omega
 ·simp (disch:=omega) only[AEnd,Tryd.results20,aresK,fin,go_sem,implies_true,true_and,and_true,List.reverse_cons,List.reverse_nil]
  rw [← hall,drop_getD 0 (by omega)];simp [allIn,-List.getD_eq_getElem?_getD];omega
 ·refine ⟨i+1,⟨by omega,by rw [← hall,drop_getD 0 (by omega:i < es.length)];simp [allIn,-List.getD_eq_getElem?_getD];omega⟩,by omega,(by repeat' (first|exact trivial|refine And.intro ?_ ?_|rfl|(simp (disch:=omega) only[go_sem,if_yes,if_no,if_no];rfl)|(simp (disch:=omega) only[go_sem,if_yes,if_no,if_no]))),(by repeat' (first|exact trivial|refine And.intro ?_ ?_|rfl|(simp (disch:=omega) only[go_sem,if_yes,if_no,if_no];rfl)|(simp (disch:=omega) only[go_sem,if_yes,if_no,if_no]))),rfl,(by first|exact HOld.of _ (by omega)|exact HOld.put _ _ _ (by omega))⟩
 ·simp (disch:=omega) only[AEnd,Tryd.results20,aresK,fin,go_sem,implies_true,true_and,and_true,List.reverse_cons,List.reverse_nil]
  rw [← hall,List.drop_eq_nil_of_le (by omega)];rfl
end Go.Proofs.YthpkmcjiobnpgaaDoor

namespace Go.Proofs.YthpkmcjiobnpgaaDoor
open Go.Av Go.Txt Go.Lib
set_option maxRecDepth 20000
def gT:Nat→Option (List AV):=fun g=>if g=0 then some powAV else none
theorem c51 (n:Int) (h0:-9223372036854775808≤n) (h1:n≤9223372036854775807):PureG gT Tryd.prog 51 [.int .i64 n] (fun v=>v=.str (itoa n)) :=
 cItoa (ρ:=laysM171_ren) (g:=0) laysM171 Tryd.call51 rfl (by kernel_rfl) n h0 h1
abbrev BdZ:=Bd 91 5
theorem c50 {h0 h:AH} {l:Nat} {bs s:List UInt8} (hB:BdZ h0 h l bs) (hl:bs.length+s.length≤140737488355328) :
  ACalls Tryd.prog 50 [.gptr l 0,.str s] h (fun r h'=>r=.tup [.int .i64 s.length,.nilif]∧BdZ h0 h' l (bs ++ s)∧h'.at_=h.at_∧h'.clk=h.clk∧h'.gl=h.gl):=cWriteString wStr Tryd.call50 hB hl
theorem c52 {h0 h:AH} {l:Nat} {bs:List UInt8} (b:UInt8) (hB:BdZ h0 h l bs) (hl:bs.length+1≤140737488355328) :
  ACalls Tryd.prog 52 [.gptr l 0,.int .u8 b.toNat] h (fun r h'=>r=.nilif∧BdZ h0 h' l (bs ++ [b])∧h'.at_=h.at_∧h'.clk=h.clk∧h'.gl=h.gl):=cWriteByte wByte Tryd.call52 b hB hl
theorem c53 {h0 h:AH} {l:Nat} {bs:List UInt8} (hB:BdZ h0 h l bs) (hl:bs ≠ []) :
  ACalls Tryd.prog 53 [.gptr l 0] h (fun r h'=>r=.str bs∧(∀ i r,h0.lp i=some r→h'.lp i=some r)∧h'.at_=h.at_∧h'.clk=h.clk∧h'.gl=h.gl):=cString (ρ:=lays169_ren) lays169 Builder_Extra_169 Tryd.call53 hB hl
end Go.Proofs.YthpkmcjiobnpgaaDoor

namespace Go.Proofs.YthpkmcjiobnpgaaDoor
open Go.Av
attribute [local irreducible] thenA blockA awp awpOps awpD awp1
attribute [local go_sem_proc] Nat.reduceAdd Nat.reduceMul Nat.reduceEqDiff Nat.reduceBEq Nat.reduceLeDiff
attribute [local go_sem_proc ↓] reduceIte
attribute [local go_sem] if_yes if_no
set_option maxHeartbeats 4000000
set_option maxRecDepth 20000
theorem c20a (lo hi a:Int):Pure Tryd.prog 20 [.int .i64 lo,.int .i64 hi,.lst 1 [[.int .i64 a]]] (fun v=>v=.bool (decide (lo≤a∧a≤hi))):=by
 have h:=c20 lo hi [a] (by simp)
 have e:allIn lo hi [a]=decide (lo≤a∧a≤hi):=by simp [allIn]
 rw [e] at h;exact h
theorem c20b (lo hi a b:Int):Pure Tryd.prog 20 [.int .i64 lo,.int .i64 hi,.lst 1 [[.int .i64 a],[.int .i64 b]]] (fun v=>v=.bool (decide (lo≤a∧a≤hi∧lo≤b∧b≤hi))):=by
 have h:=c20 lo hi [a,b] (by simp)
 have e:allIn lo hi [a,b]=decide (lo≤a∧a≤hi∧lo≤b∧b≤hi):=by simp [allIn,Bool.decide_and,Bool.and_assoc]
 rw [e] at h;exact h
structure Ld where
 at_:Int
 lo:Int
 hi:Int
 tlo:Int
 thi:Int
 kind:Int
 watts:Int
def Ld.row (x:Ld):List AV:=[.int .i64 x.at_,.int .i64 x.lo,.int .i64 x.hi,.int .i64 x.tlo,.int .i64 x.thi,.int .i64 x.kind,.int .i64 x.watts]
@[go_sem] theorem Ld.row_eq (x:Ld):x.row=[.int .i64 x.at_,.int .i64 x.lo,.int .i64 x.hi,.int .i64 x.tlo,.int .i64 x.thi,.int .i64 x.kind,.int .i64 x.watts]:=rfl
structure Fl where
 len:Int
 wid:Int
 front:Int
 rear:Int
 turn:Int
 kilos:Int
 mid:Int
 high:Int
 loads:List Ld
def Fl.av (f:Fl):AV:=.agg [.int .i64 f.len,.int .i64 f.wid,.int .i64 f.front,.int .i64 f.rear,.int .i64 f.turn,.int .i64 f.kilos,.int .i64 f.mid,.int .i64 f.high,.lst 7 (f.loads.map Ld.row)]
@[go_sem] theorem Fl.av_eq (f:Fl):f.av=.agg [.int .i64 f.len,.int .i64 f.wid,.int .i64 f.front,.int .i64 f.rear,.int .i64 f.turn,.int .i64 f.kilos,.int .i64 f.mid,.int .i64 f.high,.lst 7 (f.loads.map Ld.row)]:=rfl
def Tk.av (f:Fl) (p m:Int):AV:=.agg [.int .i64 f.len,.int .i64 f.wid,.int .i64 f.front,.int .i64 f.rear,.int .i64 f.turn,.int .i64 f.kilos,.int .i64 f.mid,.int .i64 f.high,.lst 7 (f.loads.map Ld.row),.int .i64 p,.int .i64 m]
@[go_sem] theorem Tk.av_eq (f:Fl) (p m:Int):Tk.av f p m=.agg [.int .i64 f.len,.int .i64 f.wid,.int .i64 f.front,.int .i64 f.rear,.int .i64 f.turn,.int .i64 f.kilos,.int .i64 f.mid,.int .i64 f.high,.lst 7 (f.loads.map Ld.row),.int .i64 p,.int .i64 m]:=rfl
structure Hu where
 kind:Int
 a:Int
 b:Int
def Hu.row (x:Hu):List AV:=[.int .i64 x.kind,.int .i64 x.a,.int .i64 x.b]
@[go_sem] theorem Hu.row_eq (x:Hu):x.row=[.int .i64 x.kind,.int .i64 x.a,.int .i64 x.b]:=rfl
def Hu.av (x:Hu):AV:=.agg [.int .i64 x.kind,.int .i64 x.a,.int .i64 x.b]
@[go_sem] theorem Hu.av_eq (x:Hu):x.av=.agg [.int .i64 x.kind,.int .i64 x.a,.int .i64 x.b]:=rfl
def rav (l:List Hu):AV:=.lst 3 (l.map Hu.row)
@[go_sem] theorem rav_eq (l:List Hu):rav l=.lst 3 (l.map Hu.row):=rfl
def ld (l:List Ld) (i:Nat):Ld:=l.getD i ⟨0,0,0,0,0,0,0⟩
def hu (l:List Hu) (i:Nat):Hu:=l.getD i ⟨0,0,0⟩
@[go_sem] theorem lrow_getD {l:List Ld} {i:Nat} (h:i < l.length):(l.map Ld.row).getD i []=(ld l i).row:=by
 simp [List.getD_eq_getElem?_getD,h,ld]
@[go_sem] theorem hrow_getD {l:List Hu} {i:Nat} (h:i < l.length):(l.map Hu.row).getD i []=(hu l i).row:=by
 simp [List.getD_eq_getElem?_getD,h,hu]
theorem drop_ld {l:List Ld} {i:Nat} (h:i < l.length):l.drop i=ld l i :: l.drop (i+1):=drop_getD _ h
theorem drop_hu {l:List Hu} {i:Nat} (h:i < l.length):l.drop i=hu l i :: l.drop (i+1):=drop_getD _ h
def spanE (lo hi top:Int):Int:=if ¬ (0≤lo∧lo≤top∧0≤hi∧hi≤top) then 2 else if lo > hi then 9 else 0
theorem c43 (lo hi top:Int):Pure Tryd.prog 43 [.agg [.int .i64 lo,.int .i64 hi],.int .i64 top] (fun v=>v=.int .i64 (spanE lo hi top)):=by
 intro h
 refine ACalls.forget (ACalls.of tab mixed Tryd.call43 Tryd.func43 rfl (fi:=⟨20,[],[2,11],none,[]⟩) rfl rfl (Nat.le_of_ble_eq_true rfl) (by decide) ?_)
 unfold startA
 repeat' (first|refine st_seq_reg rfl (by first|(simp only[go_sem];rfl)|rfl) (by first|(simp only[go_sem];rfl)|rfl) ?_|refine st_reg rfl (by first|(simp only[go_sem];rfl)|rfl) (by first|(simp only[go_sem];rfl)|rfl) ?_|refine st_op ?_|refine st_det rfl (by simp (disch:=omega) only[go_sem,wr_i64];rfl) ?_|refine st_loc rfl (by simp (disch:=omega) only[go_sem,wr_i64];rfl) ?_|refine st_heap rfl (by simp (disch:=omega) only[go_sem,wr_i64];rfl) ?_|(refine st_pureE (by first|(simp (disch:=omega) only[go_sem];rfl)|rfl) rfl (c20b _ _ _ _) (by first|(simp only[go_sem];rfl)|rfl) (by intro n;first|(simp (disch:=omega) only[go_sem];rfl)|rfl) ?_;intro n hn)|refine st_condT rfl ?_|refine st_condF rfl ?_|(refine st_condS rfl ?_ ?_ <;> intro hg <;> (try simp only[dcT,dcF,bnT,bnF] at hg))|refine st_nil ?_|refine st_tN ?_|refine st_seq ?_|refine st_block ?_|refine st_skip ?_|refine st_exit ?_|refine st_ret ?_|refine st_tE ?_|refine st_tR ?_|refine st_bN ?_|refine st_bR ?_|refine st_bH ?_|refine st_bM rfl ?_)
 all_goals
  simp (disch:=omega) only[AEnd,Tryd.results43,aresK,fin,go_sem,implies_true,true_and,and_true,List.reverse_cons,List.reverse_nil]
  simp [spanE] <;> omega
def loadE (f:Fl) (x:Ld):Int :=
 if ¬ (f.front≤x.at_∧x.at_≤f.rear) then 2 else if spanE x.lo x.hi 100000 ≠ 0 then spanE x.lo x.hi 100000 else if spanE x.tlo x.thi 2000 ≠ 0 then spanE x.tlo x.thi 2000
 else if ¬ (1≤x.kind∧x.kind≤4) then 3 else if ¬ (0≤x.watts∧x.watts≤1000000) then 2 else if 0 < x.watts∧¬ (x.kind=2 ∨ x.kind=3) then 1 else 0
theorem c21 (f:Fl) (x:Ld):Pure Tryd.prog 21 [f.av,.agg x.row] (fun v=>v=.int .i64 (loadE f x)):=by
 intro h
 refine ACalls.forget (ACalls.of tab mixed Tryd.call21 Tryd.func21 rfl (fi:=⟨52,[],[2,3,14,41],none,[]⟩) rfl rfl (Nat.le_of_ble_eq_true rfl) (by decide) ?_)
 unfold startA
 simp only[go_sem]
 repeat' (first|refine st_seq_reg rfl (by first|(simp only[go_sem];rfl)|rfl) (by first|(simp only[go_sem];rfl)|rfl) ?_|refine st_reg rfl (by first|(simp only[go_sem];rfl)|rfl) (by first|(simp only[go_sem];rfl)|rfl) ?_|refine st_op ?_|refine st_det rfl (by simp (disch:=omega) only[go_sem,wr_i64];rfl) ?_|refine st_loc rfl (by simp (disch:=omega) only[go_sem,wr_i64];rfl) ?_|refine st_heap rfl (by simp (disch:=omega) only[go_sem,wr_i64];rfl) ?_|(refine st_pureE (by first|(simp (disch:=omega) only[go_sem];rfl)|rfl) rfl (c20a _ _ _) (by first|(simp only[go_sem];rfl)|rfl) (by intro n;first|(simp (disch:=omega) only[go_sem];rfl)|rfl) ?_;intro n hn)|(refine st_pureE (by first|(simp (disch:=omega) only[go_sem];rfl)|rfl) rfl (c43 _ _ _) (by first|(simp only[go_sem];rfl)|rfl) (by intro n;first|(simp (disch:=omega) only[go_sem];rfl)|rfl) ?_;intro n hn)|refine st_gT rfl rfl rfl ?_|refine st_gF rfl rfl rfl ?_|(refine st_gS rfl rfl ?_ ?_ <;> intro hg <;> (try simp only[dcT,dcF,bnT,bnF] at hg))|refine st_condT rfl ?_|refine st_condF rfl ?_|(refine st_condS rfl ?_ ?_ <;> intro hg <;> (try simp only[dcT,dcF,bnT,bnF] at hg))|refine st_nil ?_|refine st_tN ?_|refine st_seq ?_|refine st_block ?_|refine st_skip ?_|refine st_exit ?_|refine st_ret ?_|refine st_tE ?_|refine st_tR ?_|refine st_bN ?_|refine st_bR ?_|refine st_bH ?_|refine st_bM rfl ?_)
 all_goals
  simp (disch:=omega) only[AEnd,Tryd.results21,aresK,fin,go_sem,implies_true,true_and,and_true,List.reverse_cons,List.reverse_nil]
  simp [loadE] <;> omega
def hurdleE (x:Hu):Int :=
 if x.kind=1 then (if ¬ (0≤x.a∧x.a≤20000∧0≤x.b∧x.b≤20000) then 2 else if x.a ≥ x.b then 9 else 0)
 else if x.kind=2 then (if ¬ (0≤x.a∧x.a≤2000) then 2 else if x.b ≠ 0 then 1 else 0)
 else if x.kind=3 then (if ¬ (0≤x.a∧x.a≤10000000∧0≤x.b∧x.b≤10000000) then 2 else 0) else 3
theorem c63 (x:Hu):Pure Tryd.prog 63 [x.av] (fun v=>v=.int .i64 (hurdleE x)):=by
 intro h
 refine ACalls.forget (ACalls.of tab mixed Tryd.call63 Tryd.func63 rfl (fi:=⟨42,[],[1,12,26,39],none,[]⟩) rfl rfl (Nat.le_of_ble_eq_true rfl) (by decide) ?_)
 unfold startA
 simp only[go_sem]
 repeat' (first|refine st_seq_reg rfl (by first|(simp only[go_sem];rfl)|rfl) (by first|(simp only[go_sem];rfl)|rfl) ?_|refine st_reg rfl (by first|(simp only[go_sem];rfl)|rfl) (by first|(simp only[go_sem];rfl)|rfl) ?_|refine st_op ?_|refine st_det rfl (by simp (disch:=omega) only[go_sem,wr_i64];rfl) ?_|refine st_loc rfl (by simp (disch:=omega) only[go_sem,wr_i64];rfl) ?_|refine st_heap rfl (by simp (disch:=omega) only[go_sem,wr_i64];rfl) ?_|(refine st_pureE (by first|(simp (disch:=omega) only[go_sem];rfl)|rfl) rfl (c20a _ _ _) (by first|(simp only[go_sem];rfl)|rfl) (by intro n;first|(simp (disch:=omega) only[go_sem];rfl)|rfl) ?_;intro n hn)|(refine st_pureE (by first|(simp (disch:=omega) only[go_sem];rfl)|rfl) rfl (c20b _ _ _ _) (by first|(simp only[go_sem];rfl)|rfl) (by intro n;first|(simp (disch:=omega) only[go_sem];rfl)|rfl) ?_;intro n hn)|refine st_condT rfl ?_|refine st_condF rfl ?_|(refine st_condS rfl ?_ ?_ <;> intro hg <;> (try simp only[dcT,dcF,bnT,bnF] at hg))|refine st_nil ?_|refine st_tN ?_|refine st_seq ?_|refine st_block ?_|refine st_skip ?_|refine st_exit ?_|refine st_ret ?_|refine st_tE ?_|refine st_tR ?_|refine st_bN ?_|refine st_bR ?_|refine st_bH ?_|refine st_bM rfl ?_)
 all_goals
  simp (disch:=omega) only[AEnd,Tryd.results63,aresK,fin,go_sem,implies_true,true_and,and_true,List.reverse_cons,List.reverse_nil]
  simp [hurdleE] <;> omega
end Go.Proofs.YthpkmcjiobnpgaaDoor

namespace Go.Proofs.YthpkmcjiobnpgaaDoor
open Go.Av
attribute [local irreducible] thenA blockA awp awpOps awpD awp1
attribute [local go_sem_proc] Nat.reduceAdd Nat.reduceMul Nat.reduceEqDiff Nat.reduceBEq Nat.reduceLeDiff
attribute [local go_sem_proc ↓] reduceIte
attribute [local go_sem] if_yes if_no
set_option maxHeartbeats 8000000
set_option maxRecDepth 20000
def hurdlesE:List Hu→Int
 | []=>0
 | x :: l=>if hurdleE x ≠ 0 then hurdleE x else hurdlesE l
def routeE (l:List Hu):Int:=if (l.length:Int) > 40 then 5 else hurdlesE l
theorem c56 (r:List Hu):Pure Tryd.prog 56 [.lst 3 (r.map Hu.row)] (fun v=>v=.int .i64 (routeE r)):=by
 intro h
 refine ACalls.forget (ACalls.of tab mixed Tryd.call56 Tryd.func56 rfl (fi:=⟨21,[4],[],none,[]⟩) rfl rfl (Nat.le_of_ble_eq_true rfl) (by decide) ?_)
 unfold startA
 try simp only[go_sem]
 repeat' (first|refine st_seq_reg rfl (by first|(simp only[go_sem];rfl)|rfl) (by first|(simp only[go_sem];rfl)|rfl) ?_|refine st_reg rfl (by first|(simp only[go_sem];rfl)|rfl) (by first|(simp only[go_sem];rfl)|rfl) ?_|refine st_op ?_|refine st_det rfl (by simp (disch:=omega) only[go_sem,wr_i64];rfl) ?_|refine st_loc rfl (by simp (disch:=omega) only[go_sem,wr_i64];rfl) ?_|refine st_heap rfl (by simp (disch:=omega) only[go_sem,wr_i64];rfl) ?_|refine st_store (by simp (disch:=omega) only[go_sem,wr_i64];rfl) ?_|refine st_condT rfl ?_|refine st_condF rfl ?_|(refine st_condS rfl ?_ ?_ <;> intro hg <;> (try simp only[dcT,dcF,bnT,bnF] at hg))|refine st_nil ?_|refine st_tN ?_|refine st_seq ?_|refine st_block ?_|refine st_skip ?_|refine st_exit ?_|refine st_ret ?_|refine st_tE ?_|refine st_tR ?_|refine st_bN ?_|refine st_bR ?_|refine st_bH ?_|refine st_bM rfl ?_)
 ·simp (disch:=omega) only[AEnd,Tryd.results56,aresK,fin,go_sem,implies_true,true_and,and_true,List.reverse_cons,List.reverse_nil]
  simp [routeE] <;> omega
 refine st_loopC (α:=Nat) tab mixed [] [] (by repeat (first|exact trivial|refine ⟨rfl,?_⟩)) [] [] (by repeat (first|exact trivial|refine ⟨rfl,?_⟩)) (fun i=>[(11,.int .i64 i)]) [(0,_),(2,_),(9,_),(10,_)] (fun _=>[]) [] (fun i=>i≤r.length∧hurdlesE (r.drop i)=hurdlesE r) (fun i=>r.length - i) (by decide) 0 ⟨by omega,rfl⟩ (by (try simp only[go_sem]);repeat' (first|exact trivial|refine And.intro ?_ ?_|rfl|(simp (disch:=omega) only[go_sem,if_yes,if_no,if_no];rfl)|(simp (disch:=omega) only[go_sem,if_yes,if_no,if_no]))) (by (try simp only[go_sem]);repeat' (first|exact trivial|refine And.intro ?_ ?_|rfl|(simp (disch:=omega) only[go_sem,if_yes,if_no,if_no];rfl)|(simp (disch:=omega) only[go_sem,if_yes,if_no,if_no]))) (by first|(simp only[go_sem];rfl)|rfl) (by intro n;simp only[go_sem];rfl) ?_
 rintro i c ⟨hi',hall⟩ hc
 simp only[go_sem]
 repeat' (first|refine st_seq_reg rfl (by first|(simp only[go_sem];rfl)|rfl) (by first|(simp only[go_sem];rfl)|rfl) ?_|refine st_reg rfl (by first|(simp only[go_sem];rfl)|rfl) (by first|(simp only[go_sem];rfl)|rfl) ?_|refine st_op ?_|refine st_det rfl (by simp (disch:=omega) only[go_sem,wr_i64];rfl) ?_|refine st_loc rfl (by simp (disch:=omega) only[go_sem,wr_i64];rfl) ?_|refine st_heap rfl (by simp (disch:=omega) only[go_sem,wr_i64];rfl) ?_|refine st_store (by simp (disch:=omega) only[go_sem,wr_i64];rfl) ?_|(refine st_pureE (by first|(simp (disch:=omega) only[go_sem];rfl)|rfl) rfl (c63 (hu r i)) (by first|(simp only[go_sem];rfl)|rfl) (by intro n;first|(simp (disch:=omega) only[go_sem];rfl)|rfl) ?_;intro n hn)|refine st_condT rfl ?_|refine st_condF rfl ?_|(refine st_condS rfl ?_ ?_ <;> intro hg <;> (try simp only[dcT,dcF,bnT,bnF] at hg))|refine st_nil ?_|refine st_tN ?_|refine st_seq ?_|refine st_block ?_|refine st_skip ?_|refine st_exit ?_|refine st_ret ?_|refine st_tE ?_|refine st_tR ?_|refine st_bN ?_|refine st_bR ?_|refine st_bH ?_|refine st_bM rfl ?_)
 ·simp (disch:=omega) only[AEnd,Tryd.results56,aresK,fin,go_sem,implies_true,true_and,and_true,List.reverse_cons,List.reverse_nil]
  rw [drop_hu (by omega)] at hall
  rw [hurdlesE,if_pos (by assumption)] at hall
  simp [routeE] <;> omega
 ·refine ⟨i+1,⟨by omega,by rw [drop_hu (by omega),hurdlesE,if_neg (by assumption)] at hall;exact hall⟩,by omega,(by repeat' (first|exact trivial|refine And.intro ?_ ?_|rfl|(simp (disch:=omega) only[go_sem,if_yes,if_no,if_no];rfl)|(simp (disch:=omega) only[go_sem,if_yes,if_no,if_no]))),(by repeat' (first|exact trivial|refine And.intro ?_ ?_|rfl|(simp (disch:=omega) only[go_sem,if_yes,if_no,if_no];rfl)|(simp (disch:=omega) only[go_sem,if_yes,if_no,if_no]))),rfl,(by first|exact HOld.of _ (by omega)|exact HOld.put _ _ _ (by omega))⟩
 ·simp (disch:=omega) only[AEnd,Tryd.results56,aresK,fin,go_sem,implies_true,true_and,and_true,List.reverse_cons,List.reverse_nil]
  rw [List.drop_eq_nil_of_le (by omega),hurdlesE] at hall
  simp [routeE] <;> omega
theorem c59 (es:List Int) (hl:(es.length:Int) < 1000000) (hb:∀ i≤es.length,-4611686018427387904≤(es.take i).sum∧(es.take i).sum≤4611686018427387904):Pure Tryd.prog 59 [.lst 1 (es.map iv)] (fun v=>v=.int .i64 es.sum):=by
 intro h
 refine ACalls.forget (ACalls.of tab mixed Tryd.call59 Tryd.func59 rfl (fi:=⟨17,[],[],none,[]⟩) rfl rfl (Nat.le_of_ble_eq_true rfl) (by decide) ?_)
 unfold startA
 repeat' (first|refine st_seq_reg rfl (by first|(simp only[go_sem];rfl)|rfl) (by first|(simp only[go_sem];rfl)|rfl) ?_|refine st_reg rfl (by first|(simp only[go_sem];rfl)|rfl) (by first|(simp only[go_sem];rfl)|rfl) ?_|refine st_op ?_|refine st_det rfl (by simp (disch:=omega) only[go_sem,wr_i64];rfl) ?_|refine st_condT rfl ?_|refine st_condF rfl ?_|(refine st_condS rfl ?_ ?_ <;> intro hg <;> (try simp only[dcT,dcF,bnT,bnF] at hg))|refine st_nil ?_|refine st_tN ?_|refine st_seq ?_|refine st_block ?_|refine st_skip ?_|refine st_exit ?_|refine st_ret ?_|refine st_tE ?_|refine st_tR ?_|refine st_bN ?_|refine st_bR ?_|refine st_bH ?_|refine st_bM rfl ?_)
 refine st_loopC (α:=Nat) tab mixed [] [] (by repeat (first|exact trivial|refine ⟨rfl,?_⟩)) [] [] (by repeat (first|exact trivial|refine ⟨rfl,?_⟩)) (fun i=>[(8,.int .i64 i),(3,.int .i64 (es.take i).sum)]) [(2,_),(6,_),(7,_)] (fun _=>[]) [] (fun i=>i≤es.length) (fun i=>es.length - i) (by decide) 0 (by omega) (by (try simp only[go_sem]);repeat' (first|exact trivial|refine And.intro ?_ ?_|rfl|(simp (disch:=omega) only[go_sem,if_yes,if_no,if_no];rfl)|(simp (disch:=omega) only[go_sem,if_yes,if_no,if_no]))) (by (try simp only[go_sem]);repeat' (first|exact trivial|refine And.intro ?_ ?_|rfl|(simp (disch:=omega) only[go_sem,if_yes,if_no,if_no];rfl)|(simp (disch:=omega) only[go_sem,if_yes,if_no,if_no]))) (by first|(simp only[go_sem];rfl)|rfl) (by intro n;simp only[go_sem];rfl) ?_
 rintro i c hi' hc
 simp only[go_sem]
 have e:i < es.length→(es.take (i+1)).sum=(es.take i).sum+es.getD i 0:=fun h=>by
  rw [List.take_succ_eq_append_getElem h,List.sum_append,List.getD_eq_getElem?_getD,List.getElem?_eq_getElem h];simp
 have b1:=hb i hi'
 have b2:i < es.length→_:=fun h=>hb (i+1) h
 repeat' (first|refine st_seq_reg rfl (by first|(simp only[go_sem];rfl)|rfl) (by first|(simp only[go_sem];rfl)|rfl) ?_|refine st_reg rfl (by first|(simp only[go_sem];rfl)|rfl) (by first|(simp only[go_sem];rfl)|rfl) ?_|refine st_op ?_|refine st_det rfl (by simp (disch:=omega) only[go_sem,wr_i64];rfl) ?_|refine st_condT rfl ?_|refine st_condF rfl ?_|(refine st_condS rfl ?_ ?_ <;> intro hg <;> (try simp only[dcT,dcF,bnT,bnF] at hg))|refine st_nil ?_|refine st_tN ?_|refine st_seq ?_|refine st_block ?_|refine st_skip ?_|refine st_exit ?_|refine st_ret ?_|refine st_tE ?_|refine st_tR ?_|refine st_bN ?_|refine st_bR ?_|refine st_bH ?_|refine st_bM rfl ?_)
 ·refine ⟨i+1,(by omega),by omega,(by (try (rw [e (by omega)]));repeat' (first|exact trivial|refine And.intro ?_ ?_|rfl|(simp (disch:=omega) only[go_sem,if_yes,if_no,if_no];rfl)|(simp (disch:=omega) only[go_sem,if_yes,if_no,if_no]))),(by (try (rw [e (by omega)]));repeat' (first|exact trivial|refine And.intro ?_ ?_|rfl|(simp (disch:=omega) only[go_sem,if_yes,if_no,if_no];rfl)|(simp (disch:=omega) only[go_sem,if_yes,if_no,if_no]))),rfl,(by first|exact HOld.of _ (by omega)|exact HOld.put _ _ _ (by omega))⟩
 ·rw [List.take_of_length_le (by omega)]
  simp (disch:=omega) only[AEnd,Tryd.results59,aresK,fin,go_sem,implies_true,true_and,and_true,List.reverse_cons,List.reverse_nil]
theorem sum2 (a b:Int) (ha:-2305843009213693952≤a∧a≤2305843009213693952) (hb:-2305843009213693952≤b∧b≤2305843009213693952):Pure Tryd.prog 59 [.lst 1 [[.int .i64 a],[.int .i64 b]]] (fun v=>v=.int .i64 (a+b)):=by
 have h:=c59 [a,b] (by simp) (by
  intro i hi
  rcases i with _|_|_|i
  ·simp
  ·simp;omega
  ·simp;omega
  ·simp at hi)
 simpa [iv] using h
end Go.Proofs.YthpkmcjiobnpgaaDoor
