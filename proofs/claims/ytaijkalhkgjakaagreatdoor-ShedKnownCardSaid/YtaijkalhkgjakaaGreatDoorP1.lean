/- strings.Builder's copyCheck, WriteString and WriteByte, walked in the concrete world. -/
import Derived.Test.YtaijkalhkgjakaaGreatDoorPB3
import Derived.Test.YtaijkalhkgjakaaGreatDoorProg
import Derived.Shelf.Strings.Builder1
import Derived.Shelf.LaysM
import Derived.Shelf.LaysC
import Derived.Shelf.Strings.Split
import Derived.Test.YtaijkalhkgjakaaGreatDoorAvT
import Derived.Test.YtaijkalhkgjakaaGreatDoorBaseD
set_option linter.all false
set_option linter.unusedSimpArgs false
set_option linter.unusedVariables false
namespace Go.Proofs.YtaijkalhkgjakaaGreatDoor
open Go.Shelf Go.RowKit Go.Lib Go.Txt Go.Av
theorem sizeBuilder:(Tryz.prog.info? 139).map (·.size)=some 2:=by kernel_rfl
theorem liesBuilder:liesAt Tryz.prog Tryz.prog.depth 139 (2 / Tryz.prog.cellsOf 139) 0 139 1=true:=by kernel_rfl
theorem infoByte:(Tryz.prog.info? 5).map (fun i=>(i.zero,i.size,i.bytes))=some (some (.int .u8 0),1,1):=by kernel_rfl
theorem info_parts {t:TypeId} {z:Value} {s b:Nat} (h:(Tryz.prog.info? t).map (fun i=>(i.zero,i.size,i.bytes))=some (some z,s,b)):∃ i,Tryz.prog.info? t=some i∧i.zero=some z∧i.size=s∧i.bytes=b:=by
 obtain ⟨i,hi,h2⟩:=Option.map_eq_some_iff.1 h
 simp only[Prod.mk.injEq] at h2
 exact ⟨i,hi,h2.1,h2.2.1,h2.2.2⟩
set_option maxHeartbeats 1000000 in
set_option maxRecDepth 100000 in
theorem cc_used (b:Nat) (w:World) (h0:w.cell? ⟨b,0,none⟩=some (.pointer (some ⟨b,0,none⟩))) :
  Calls Tryz.prog 110 #[.pointer (some ⟨b,0,none⟩)] w fun e w'=>e=.returned (.tuple #[])∧w'=w:=by
 obtain ⟨j,hj,_⟩:=Option.map_eq_some_iff.1 sizeBuilder
 go_enter Tryz.func110,Tryz.ntmps110
 go_wp2
 rw [Lib.run_neq_ptr_same w _ Tryz.underlying136 hj]
 go_wp2
 go_end0
 exact ⟨rfl,rfl⟩
set_option maxHeartbeats 1000000 in
set_option maxRecDepth 100000 in
theorem cc_fresh (b:Nat) (w:World) (h0:w.cell? ⟨b,0,none⟩=some (.pointer none)) (hsh:w.shape? b=some (139,2)) (hfz:w.frozen? ⟨b,0,none⟩=false) :
  Calls Tryz.prog 110 #[.pointer (some ⟨b,0,none⟩)] w fun e w'=>e=.returned (.tuple #[])∧w'=w.setCell ⟨b,0,none⟩ (.pointer (some ⟨b,0,none⟩)):=by
 obtain ⟨j,hj,hjs⟩:=Option.map_eq_some_iff.1 sizeBuilder
 go_enter Tryz.func110,Tryz.ntmps110
 go_wp2
 rw [Lib.run_to_unsafe w ⟨b,0,none⟩ Tryz.underlying136 Tryz.underlying201 hj (by rw [hjs];decide) hsh (Nat.zero_lt_succ 1)]
 simp only[Result.andThen]
 rw [Oper.upon_value]
 go_wp2
 rw [run_callFunc_extern Tryz.func137 (by kernel_rfl) (by kernel_rfl) (by kernel_rfl) (e:=Extern.AbiNoEscape.same) (by kernel_rfl)]
 rw [Lib.run_noEscape]
 simp only[Result.andThen]
 rw [Oper.upon_value]
 go_wp2
 rw [Lib.run_from_unsafe w ⟨b,0,none⟩ Tryz.underlying201 Tryz.underlying136 hj hsh liesBuilder]
 simp only[Result.andThen]
 rw [Oper.upon_value]
 go_wp2
 go_end0
 exact ⟨rfl,rfl⟩
theorem cc_at (b:Nat) (p v:Value) (bs:List Value) (w:World) (hp:p=.pointer none ∨ p=.pointer (some ⟨b,0,none⟩)) (h:BAt 139 5 b p v bs w) :
  Calls Tryz.prog 110 #[.pointer (some ⟨b,0,none⟩)] w fun e w'=>e=.returned (.tuple #[])∧BAt 139 5 b (.pointer (some ⟨b,0,none⟩)) v bs w' ∧
   w'.heap.size=w.heap.size∧w'.os=w.os∧w'.tape=w.tape∧w'.output=w.output∧∀ k,k ≠ b→w'.heap[k]?=w.heap[k]?:=by
 obtain ⟨h1,h2,h3⟩:=h
 have c0:w.cell? ⟨b,0,none⟩=some p:=by rw [Lib.cell_of_heap h1];rfl
 rcases hp with rfl|rfl
 ·refine (cc_fresh b w c0 (by simp [World.shape?,h1]) (Lib.frozen_of_heap h1 0)).mono ?_
  rintro e w' ⟨rfl,rfl⟩
  have hk:∀ k,k ≠ b→(w.setCell ⟨b,0,none⟩ (.pointer (some ⟨b,0,none⟩))).heap[k]?=w.heap[k]?:=fun k hk=>Below.heap_setCell _ _ _ _ hk
  refine ⟨rfl,⟨?_,owns_of h2 (fun g hg=>hk g (fun e=>h3 (by rw [hg,e]))),h3⟩,?_,rfl,rfl,rfl,hk⟩
  ·simp only[World.setCell,Array.getElem?_modify,if_true,h1]
   rfl
  ·simp [World.setCell]
 ·refine (cc_used b w c0).mono ?_
  rintro e w' ⟨rfl,rfl⟩
  exact ⟨rfl,⟨h1,h2,h3⟩,rfl,rfl,rfl,rfl,fun _ _=>rfl⟩
set_option maxHeartbeats 2000000 in
set_option maxRecDepth 100000 in
theorem Wr_String (b:Nat) (p v:Value) (bs:List Value) (s:ByteArray) (w:World) (hp:p=.pointer none ∨ p=.pointer (some ⟨b,0,none⟩)) (h:BAt 139 5 b p v bs w) (hlen:bs.length+s.size≤140737488355328) :
  Calls Tryz.prog 78 #[.pointer (some ⟨b,0,none⟩),.string s] w fun e w'=>e=.returned (.tuple #[.int .i64 s.size,.nilIface])∧∃ v',BAt 139 5 b (.pointer (some ⟨b,0,none⟩)) v' (bs ++ strCells s) w'∧Fr b v w w'∧At w v v':=by
 obtain ⟨i0,hi,hz0,hz1,hz2⟩:=info_parts infoByte
 go_enter Tryz.func78,Tryz.ntmps78
 go_wp2_with (go_at_call 110;refine (cc_at b p v bs _ hp h).mono ?_)
 rintro e w1 ⟨rfl,hw1,hsz,hos,htp,hou,hk1⟩
 obtain ⟨b1,b2,b3⟩:=hw1
 have c0:w1.cell? ⟨b,0,none⟩=some (.pointer (some ⟨b,0,none⟩)):=by rw [Lib.cell_of_heap b1];rfl
 have c1:w1.cell? ⟨b,1,none⟩=some v:=by rw [Lib.cell_of_heap b1];rfl
 obtain ⟨v',w2,hr,hown',hgrow,hat⟩:=app_str_at (P:=Tryz.prog) 137 9 137 5 i0 Tryz.underlying137 Tryz.underlying9 hi hz0 hz1 hz2 v bs.length bs b2 s (by unfold maxLen;omega) hlen
 have hlt:b < w1.heap.size:=(Array.getElem?_eq_some_iff.1 b1).1
 have hb2:w2.heap[b]?=some (.cells #[.pointer (some ⟨b,0,none⟩),v] 139 (0,0)):=(hgrow.block b hlt (fun e=>b3 e.symm)).trans b1
 have d0:w2.cell? ⟨b,0,none⟩=some (.pointer (some ⟨b,0,none⟩)):=by rw [Lib.cell_of_heap hb2];rfl
 have d1:w2.cell? ⟨b,1,none⟩=some v:=by rw [Lib.cell_of_heap hb2];rfl
 have f1:w2.frozen? ⟨b,1,none⟩=false:=Lib.frozen_of_heap hb2 1
 obtain ⟨ao,n',cap,rfl⟩:∃ ao n' cap,v'=.slice ao n' cap:=by
  rcases hown'.2 with ⟨hv,_⟩|⟨g,cap,cur,hv,_⟩
  ·exact ⟨_,_,_,hv⟩
  ·exact ⟨_,_,_,hv⟩
 go_wp2_with (at_builtin;refine wpList_app rfl _ _ 137 9 rfl v (.string s) (.slice ao n' cap) w2 rfl rfl hr ?_)
 go_ret2
 exact ⟨rfl,wr_fin (w1:=w1) (w2:=w2) (v':=.slice ao n' cap) (by decide) ⟨b1,b2,b3⟩ hsz hos htp hou hk1 hb2 hgrow (by simpa [strCells_length] using hown') hat⟩
set_option maxHeartbeats 2000000 in
set_option maxRecDepth 100000 in
theorem Wr_Byte (b:Nat) (p v:Value) (bs:List Value) (c:Int) (w:World) (hp:p=.pointer none ∨ p=.pointer (some ⟨b,0,none⟩)) (h:BAt 139 5 b p v bs w) (hlen:bs.length+1≤140737488355328) :
  Calls Tryz.prog 80 #[.pointer (some ⟨b,0,none⟩),.int .u8 c] w fun e w'=>e=.returned .nilIface∧∃ v',BAt 139 5 b (.pointer (some ⟨b,0,none⟩)) v' (bs ++ [.int .u8 c]) w'∧Fr b v w w'∧At w v v':=by
 obtain ⟨i0,hi,hz0,hz1,hz2⟩:=info_parts infoByte
 go_enter Tryz.func80,Tryz.ntmps80
 go_wp2_with (go_at_call 110;refine (cc_at b p v bs _ hp h).mono ?_)
 rintro e w1 ⟨rfl,hw1,hsz,hos,htp,hou,hk1⟩
 have hs1:w1.heap.size≤w.heap.size:=Nat.le_of_eq hsz
 have hs2:w.heap.size≤w1.heap.size:=Nat.le_of_eq hsz.symm
 clear hsz
 obtain ⟨b1,b2,b3⟩:=hw1
 have c0:w1.cell? ⟨b,0,none⟩=some (.pointer (some ⟨b,0,none⟩)):=by rw [Lib.cell_of_heap b1];rfl
 have c1:w1.cell? ⟨b,1,none⟩=some v:=by rw [Lib.cell_of_heap b1];rfl
 have hlt:b < w1.heap.size:=(Array.getElem?_eq_some_iff.1 b1).1
 have hown1:(w1.alloc (.cells #[.int .u8 c] 5)).ownsRow 0 5 1 v bs.length bs:=owns_of b2 (fun g hg=>Lib.alloc_old w1 _ g (owns_lt b2 hg))
 obtain ⟨v',w2,hr,hown',hgrow,hat⟩:=app_one_at (P:=Tryz.prog) (w:=w1.alloc (.cells #[.int .u8 c] 5)) 137 137 5 i0 Tryz.underlying137 hi hz0 hz1 hz2 v bs.length bs hown1 ⟨w1.heap.size,0,none⟩ c (by simp) hlen
 have hb2:w2.heap[b]?=some (.cells #[.pointer (some ⟨b,0,none⟩),v] 139 (0,0)):=by
  rw [hgrow.block b (by simp;omega) (fun e=>b3 e.symm),Lib.alloc_old w1 _ b hlt]
  exact b1
 have d0:w2.cell? ⟨b,0,none⟩=some (.pointer (some ⟨b,0,none⟩)):=by rw [Lib.cell_of_heap hb2];rfl
 have d1:w2.cell? ⟨b,1,none⟩=some v:=by rw [Lib.cell_of_heap hb2];rfl
 have f1:w2.frozen? ⟨b,1,none⟩=false:=Lib.frozen_of_heap hb2 1
 obtain ⟨ao,n',cap,rfl⟩:∃ ao n' cap,v'=.slice ao n' cap:=by
  rcases hown'.2 with ⟨hv,_⟩|⟨g,cap,cur,hv,_⟩
  ·exact ⟨_,_,_,hv⟩
  ·exact ⟨_,_,_,hv⟩
 go_wp2_with (at_builtin;refine wpList_app rfl _ _ 137 137 rfl v (.slice (some ⟨w1.heap.size,0,none⟩) 1 1) (.slice ao n' cap) w2 rfl rfl hr ?_)
 go_ret
 have hg2:w1.grownBy w2 v.ownBlock:=⟨hgrow.os,hgrow.tape,hgrow.output,Nat.le_trans (by simp) hgrow.size,fun k hk hn=>(hgrow.block k (by simp;omega) hn).trans (Lib.alloc_old w1 _ k hk)⟩
 have hat2:At w1 v (.slice ao n' cap):=hat.imp id fun ⟨g,h1,h2⟩=>⟨g,h1,Nat.le_trans (by simp) h2⟩
 exact ⟨rfl,wr_fin (w1:=w1) (w2:=w2) (v':=.slice ao n' cap) (by decide) ⟨b1,b2,b3⟩ (Nat.le_antisymm hs1 hs2) hos htp hou hk1 hb2 hg2 (by simpa using hown') hat2⟩
theorem wStr:WStr Tryz.prog 139 5 78:=Wr_String
theorem wByte:WByte Tryz.prog 139 5 80:=Wr_Byte
end Go.Proofs.YtaijkalhkgjakaaGreatDoor

namespace Go.Proofs.YtaijkalhkgjakaaGreatDoor
open Go.Shelf
def lays169_ren:Go.Shelf.Ren:=⟨fun|169=>81|n=>n,fun|70=>136|9=>9|0=>0|72=>139|37=>137|127=>181|3=>3|5=>5|n=>n,fun|n=>n⟩
theorem lays169:Go.Proofs.Lays.n169 Tryz.prog lays169_ren:={
 mixed:=by kernel_rfl
 f169:=Tryz.func81.trans (congrArg some (by kernel_rfl))
 t0:=Tryz.underlying0
 a0:=Tryz.isAgg0
 z0:=Tryz.sizeOf0
 v0:=Tryz.zeroValue0
 t3:=Tryz.underlying3
 a3:=Tryz.isAgg3
 z3:=Tryz.sizeOf3
 v3:=Tryz.zeroValue3
 t9:=Tryz.underlying9
 a9:=Tryz.isAgg9
 z9:=Tryz.sizeOf9
 v9:=Tryz.zeroValue9
 t37:=Tryz.underlying137
 a37:=Tryz.isAgg137
 z37:=Tryz.sizeOf137
 v37:=Tryz.zeroValue137
 t70:=Tryz.underlying136
 a70:=Tryz.isAgg136
 z70:=Tryz.sizeOf136
 v70:=Tryz.zeroValue136
 t72:=Tryz.underlying139
 a72:=Tryz.isAgg139
 z72:=Tryz.sizeOf139
 v72:=Tryz.zeroValue139
 t127:=Tryz.underlying181
 a127:=Tryz.isAgg181
 z127:=Tryz.sizeOf181
 v127:=Tryz.zeroValue181 }
theorem Builder_Extra_169:Builder.Extra Tryz.prog lays169_ren:={
 sizeBuilder:=by kernel_rfl
 liesBuilder:=by kernel_rfl
 t5:=Tryz.underlying5
 a5:=Tryz.isAgg5
 z5:=Tryz.sizeOf5
 v5:=Tryz.zeroValue5
 infoByte:=by kernel_rfl
 cellsByte:=by kernel_rfl
 sizeByte:=by kernel_rfl
 neB5:=by decide }
def laysM171_ren:Go.Shelf.Ren:=⟨fun|171=>79|243=>111|246=>138|283=>157|284=>158|285=>159|286=>160|129=>176|317=>175|318=>177|319=>178|320=>179|337=>192|338=>193|n=>n,fun|3=>3|9=>9|2=>2|4=>4|171=>213|0=>0|53=>90|37=>137|5=>5|173=>216|212=>229|51=>230|20=>20|213=>231|46=>156|232=>253|233=>254|n=>n,fun|17=>1|18=>7|19=>8|n=>n⟩
theorem laysM171:Go.Proofs.LaysM.n171 Tryz.prog laysM171_ren:={
 mixed:=by kernel_rfl
 f129:=Tryz.func176.trans (congrArg some (by kernel_rfl))
 f171:=Tryz.func79.trans (congrArg some (by kernel_rfl))
 f243:=Tryz.func111.trans (congrArg some (by kernel_rfl))
 f246:=Tryz.func138.trans (congrArg some (by kernel_rfl))
 f283:=Tryz.func157.trans (congrArg some (by kernel_rfl))
 f284:=Tryz.func158.trans (congrArg some (by kernel_rfl))
 f285:=Tryz.func159.trans (congrArg some (by kernel_rfl))
 f286:=Tryz.func160.trans (congrArg some (by kernel_rfl))
 f317:=Tryz.func175.trans (congrArg some (by kernel_rfl))
 f318:=Tryz.func177.trans (congrArg some (by kernel_rfl))
 f319:=Tryz.func178.trans (congrArg some (by kernel_rfl))
 f320:=Tryz.func179.trans (congrArg some (by kernel_rfl))
 f337:=Tryz.func192.trans (congrArg some (by kernel_rfl))
 f338:=Tryz.func193.trans (congrArg some (by kernel_rfl))
 t0:=Tryz.underlying0
 a0:=Tryz.isAgg0
 z0:=Tryz.sizeOf0
 v0:=Tryz.zeroValue0
 t2:=Tryz.underlying2
 a2:=Tryz.isAgg2
 z2:=Tryz.sizeOf2
 v2:=Tryz.zeroValue2
 t3:=Tryz.underlying3
 a3:=Tryz.isAgg3
 z3:=Tryz.sizeOf3
 v3:=Tryz.zeroValue3
 t4:=Tryz.underlying4
 a4:=Tryz.isAgg4
 z4:=Tryz.sizeOf4
 v4:=Tryz.zeroValue4
 t5:=Tryz.underlying5
 a5:=Tryz.isAgg5
 z5:=Tryz.sizeOf5
 v5:=Tryz.zeroValue5
 t9:=Tryz.underlying9
 a9:=Tryz.isAgg9
 z9:=Tryz.sizeOf9
 v9:=Tryz.zeroValue9
 t20:=Tryz.underlying20
 a20:=Tryz.isAgg20
 z20:=Tryz.sizeOf20
 v20:=Tryz.zeroValue20
 t37:=Tryz.underlying137
 a37:=Tryz.isAgg137
 z37:=Tryz.sizeOf137
 v37:=Tryz.zeroValue137
 t46:=Tryz.underlying156
 a46:=Tryz.isAgg156
 z46:=Tryz.sizeOf156
 v46:=Tryz.zeroValue156
 t51:=Tryz.underlying230
 a51:=Tryz.isAgg230
 z51:=Tryz.sizeOf230
 v51:=Tryz.zeroValue230
 t53:=Tryz.underlying90
 a53:=Tryz.isAgg90
 z53:=Tryz.sizeOf90
 v53:=Tryz.zeroValue90
 t171:=Tryz.underlying213
 a171:=Tryz.isAgg213
 z171:=Tryz.sizeOf213
 v171:=Tryz.zeroValue213
 t173:=Tryz.underlying216
 a173:=Tryz.isAgg216
 z173:=Tryz.sizeOf216
 v173:=Tryz.zeroValue216
 t212:=Tryz.underlying229
 a212:=Tryz.isAgg229
 z212:=Tryz.sizeOf229
 v212:=Tryz.zeroValue229
 t213:=Tryz.underlying231
 a213:=Tryz.isAgg231
 z213:=Tryz.sizeOf231
 t232:=Tryz.underlying253
 a232:=Tryz.isAgg253
 z232:=Tryz.sizeOf253
 v232:=Tryz.zeroValue253
 t233:=Tryz.underlying254
 a233:=Tryz.isAgg254
 z233:=Tryz.sizeOf254
 v233:=Tryz.zeroValue254
 g17:=by kernel_rfl
 g18:=by kernel_rfl
 g19:=by kernel_rfl
 i0:=by kernel_rfl
 i2:=by kernel_rfl
 i3:=by kernel_rfl
 i4:=by kernel_rfl
 i5:=by kernel_rfl
 i9:=by kernel_rfl
 i20:=by kernel_rfl
 i37:=by kernel_rfl
 i46:=by kernel_rfl
 i51:=by kernel_rfl
 i53:=by kernel_rfl
 i171:=by kernel_rfl
 i173:=by kernel_rfl
 i212:=by kernel_rfl
 i232:=by kernel_rfl
 i233:=by kernel_rfl
 m17:=by kernel_rfl
 m18:=by kernel_rfl
 m19:=by kernel_rfl }
end Go.Proofs.YtaijkalhkgjakaaGreatDoor

namespace Go.Proofs.YtaijkalhkgjakaaGreatDoor
open Go.Av
attribute [local irreducible] thenA blockA awp awpOps awpD awp1
attribute [local go_sem_proc] Nat.reduceAdd Nat.reduceMul Nat.reduceEqDiff Nat.reduceBEq Nat.reduceLeDiff
attribute [local go_sem_proc ↓] reduceIte
attribute [local go_sem] if_yes if_no
set_option maxHeartbeats 4000000
set_option maxRecDepth 20000
theorem mixed:Tryz.prog.follows .mixedOrders=true:=by decide
def iv (n:Int):List AV:=[.int .i64 n]
@[go_sem] theorem iv_eq (n:Int):iv n=[.int .i64 n]:=rfl
@[go_sem] theorem map_len {α β:Type} (f:α→β) (l:List α):(l.map f).length=l.length:=Lm f
@[go_sem] theorem ivs_getD {l:List Int} {i:Nat} (h:i < l.length):(l.map iv).getD i []=[.int .i64 (l.getD i 0)]:=by
 simp [List.getD_eq_getElem?_getD,h,iv]
@[go_sem] theorem toNat_cast (n:Nat):((n:Nat):Int).toNat=n:=rfl
def allIn (lo hi:Int) (l:List Int):Bool:=l.all fun a=>decide (lo≤a∧a≤hi)
theorem drop_getD {α:Type} {l:List α} {i:Nat} (d:α) (h:i < l.length):l.drop i=l.getD i d :: l.drop (i+1):=by
 rw [List.drop_eq_getElem_cons h,List.getD_eq_getElem?_getD,List.getElem?_eq_getElem h];rfl
theorem c116 (lo hi:Int) (es:List Int) (hl:(es.length:Int) < 1000000):Pure Tryz.prog 116 [.int .i64 lo,.int .i64 hi,.lst 1 (es.map iv)] (fun v=>v=.bool (allIn lo hi es)):=by
 intro h
 refine ACalls.forget (ACalls.of tab mixed Tryz.call116 Tryz.func116 rfl (fi:=⟨24,[],[],none,[]⟩) rfl rfl (Nat.le_of_ble_eq_true rfl) (by decide) ?_)
 unfold startA
 repeat' (first|refine st_seq_reg rfl (by first|(simp only[go_sem];rfl)|rfl) (by first|(simp only[go_sem];rfl)|rfl) ?_|refine st_reg rfl (by first|(simp only[go_sem];rfl)|rfl) (by first|(simp only[go_sem];rfl)|rfl) ?_|refine st_op ?_|refine st_det rfl (by simp (disch:=omega) only[go_sem,wr_i64];rfl) ?_|refine st_gT rfl rfl rfl ?_|refine st_gF rfl rfl rfl ?_|(refine st_gS rfl rfl ?_ ?_ <;> intro hg <;> (try simp only[dcT,dcF,bnT,bnF] at hg))|refine st_condT rfl ?_|refine st_condF rfl ?_|(refine st_condS rfl ?_ ?_ <;> intro hg <;> (try simp only[dcT,dcF,bnT,bnF] at hg))|refine st_nil ?_|refine st_tN ?_|refine st_seq ?_|refine st_block ?_|refine st_skip ?_|refine st_exit ?_|refine st_ret ?_|refine st_tE ?_|refine st_tR ?_|refine st_bN ?_|refine st_bR ?_|refine st_bH ?_|refine st_bM rfl ?_)
 refine st_loopC (α:=Nat) tab mixed [] [] (by repeat (first|exact trivial|refine ⟨rfl,?_⟩)) [] [] (by repeat (first|exact trivial|refine ⟨rfl,?_⟩)) (fun i=>[(11,.int .i64 i)]) [(0,_),(1,_),(6,_),(9,_),(10,_)] (fun _=>[]) [] (fun i=>i≤es.length∧allIn lo hi (es.drop i)=allIn lo hi es) (fun i=>es.length - i) (by decide) 0 ⟨by omega,rfl⟩ (by (try simp only[go_sem]);repeat' (first|exact trivial|refine And.intro ?_ ?_|rfl|(simp (disch:=omega) only[go_sem,if_yes,if_no,if_no];rfl)|(simp (disch:=omega) only[go_sem,if_yes,if_no,if_no]))) (by (try simp only[go_sem]);repeat' (first|exact trivial|refine And.intro ?_ ?_|rfl|(simp (disch:=omega) only[go_sem,if_yes,if_no,if_no];rfl)|(simp (disch:=omega) only[go_sem,if_yes,if_no,if_no]))) (by first|(simp only[go_sem];rfl)|rfl) (by intro n;simp only[go_sem];rfl) ?_
 rintro i c ⟨hi',hall⟩ hc
 simp only[go_sem]
 repeat' (first|refine st_seq_reg rfl (by first|(simp only[go_sem];rfl)|rfl) (by first|(simp only[go_sem];rfl)|rfl) ?_|refine st_reg rfl (by first|(simp only[go_sem];rfl)|rfl) (by first|(simp only[go_sem];rfl)|rfl) ?_|refine st_op ?_|refine st_det rfl (by simp (disch:=omega) only[go_sem,wr_i64];rfl) ?_|refine st_gT rfl rfl rfl ?_|refine st_gF rfl rfl rfl ?_|(refine st_gS rfl rfl ?_ ?_ <;> intro hg <;> (try simp only[dcT,dcF,bnT,bnF] at hg))|refine st_condT rfl ?_|refine st_condF rfl ?_|(refine st_condS rfl ?_ ?_ <;> intro hg <;> (try simp only[dcT,dcF,bnT,bnF] at hg))|refine st_nil ?_|refine st_tN ?_|refine st_seq ?_|refine st_block ?_|refine st_skip ?_|refine st_exit ?_|refine st_ret ?_|refine st_tE ?_|refine st_tR ?_|refine st_bN ?_|refine st_bR ?_|refine st_bH ?_|refine st_bM rfl ?_)
 ·simp (disch:=omega) only[AEnd,Tryz.results116,aresK,fin,go_sem,implies_true,true_and,and_true,List.reverse_cons,List.reverse_nil]
  rw [← hall,drop_getD 0 (by omega)];simp [allIn,-List.getD_eq_getElem?_getD];omega
 ·simp (disch:=omega) only[AEnd,Tryz.results116,aresK,fin,go_sem,implies_true,true_and,and_true,List.reverse_cons,List.reverse_nil]
  rw [← hall,drop_getD 0 (by omega)];simp [allIn,-List.getD_eq_getElem?_getD];omega
 ·refine ⟨i+1,⟨by omega,by rw [← hall,drop_getD 0 (by omega:i < es.length)];simp [allIn,-List.getD_eq_getElem?_getD];omega⟩,by omega,(by repeat' (first|exact trivial|refine And.intro ?_ ?_|rfl|(simp (disch:=omega) only[go_sem,if_yes,if_no,if_no];rfl)|(simp (disch:=omega) only[go_sem,if_yes,if_no,if_no]))),(by repeat' (first|exact trivial|refine And.intro ?_ ?_|rfl|(simp (disch:=omega) only[go_sem,if_yes,if_no,if_no];rfl)|(simp (disch:=omega) only[go_sem,if_yes,if_no,if_no]))),rfl,(by first|exact HOld.of _ (by omega)|exact HOld.put _ _ _ (by omega))⟩
 ·simp (disch:=omega) only[AEnd,Tryz.results116,aresK,fin,go_sem,implies_true,true_and,and_true,List.reverse_cons,List.reverse_nil]
  rw [← hall,List.drop_eq_nil_of_le (by omega)];rfl
end Go.Proofs.YtaijkalhkgjakaaGreatDoor

namespace Go.Proofs.YtaijkalhkgjakaaGreatDoor
open Go.Av
attribute [local irreducible] thenA blockA awp awpOps awpD awp1
attribute [local go_sem_proc] Nat.reduceAdd Nat.reduceMul Nat.reduceEqDiff Nat.reduceBEq Nat.reduceLeDiff
attribute [local go_sem_proc ↓] reduceIte
attribute [local go_sem] if_yes if_no
set_option maxHeartbeats 4000000
set_option maxRecDepth 20000
theorem c116a (lo hi a:Int):Pure Tryz.prog 116 [.int .i64 lo,.int .i64 hi,.lst 1 [[.int .i64 a]]] (fun v=>v=.bool (decide (lo≤a∧a≤hi))):=by
 have h:=c116 lo hi [a] (by simp)
 have e:allIn lo hi [a]=decide (lo≤a∧a≤hi):=by simp [allIn]
 rw [e] at h;exact h
theorem c116b (lo hi a b:Int):Pure Tryz.prog 116 [.int .i64 lo,.int .i64 hi,.lst 1 [[.int .i64 a],[.int .i64 b]]] (fun v=>v=.bool (decide (lo≤a∧a≤hi∧lo≤b∧b≤hi))):=by
 have h:=c116 lo hi [a,b] (by simp)
 have e:allIn lo hi [a,b]=decide (lo≤a∧a≤hi∧lo≤b∧b≤hi):=by simp [allIn,Bool.decide_and,Bool.and_assoc]
 rw [e] at h;exact h
structure Ld where
 at_:Int
 lo:Int
 hi:Int
 tlo:Int
 thi:Int
 kind:Int
 watts:Int
def Ld.row (x:Ld):List AV:=[.int .i64 x.at_,.int .i64 x.lo,.int .i64 x.hi,.int .i64 x.tlo,.int .i64 x.thi,.int .i64 x.kind,.int .i64 x.watts]
@[go_sem] theorem Ld.row_eq (x:Ld):x.row=[.int .i64 x.at_,.int .i64 x.lo,.int .i64 x.hi,.int .i64 x.tlo,.int .i64 x.thi,.int .i64 x.kind,.int .i64 x.watts]:=rfl
structure Fl where
 len:Int
 wid:Int
 front:Int
 rear:Int
 turn:Int
 kilos:Int
 mid:Int
 high:Int
 loads:List Ld
def Fl.av (f:Fl):AV:=.agg [.int .i64 f.len,.int .i64 f.wid,.int .i64 f.front,.int .i64 f.rear,.int .i64 f.turn,.int .i64 f.kilos,.int .i64 f.mid,.int .i64 f.high,.lst 7 (f.loads.map Ld.row)]
@[go_sem] theorem Fl.av_eq (f:Fl):f.av=.agg [.int .i64 f.len,.int .i64 f.wid,.int .i64 f.front,.int .i64 f.rear,.int .i64 f.turn,.int .i64 f.kilos,.int .i64 f.mid,.int .i64 f.high,.lst 7 (f.loads.map Ld.row)]:=rfl
def Tk.av (f:Fl) (p m:Int):AV:=.agg [.int .i64 f.len,.int .i64 f.wid,.int .i64 f.front,.int .i64 f.rear,.int .i64 f.turn,.int .i64 f.kilos,.int .i64 f.mid,.int .i64 f.high,.lst 7 (f.loads.map Ld.row),.int .i64 p,.int .i64 m]
@[go_sem] theorem Tk.av_eq (f:Fl) (p m:Int):Tk.av f p m=.agg [.int .i64 f.len,.int .i64 f.wid,.int .i64 f.front,.int .i64 f.rear,.int .i64 f.turn,.int .i64 f.kilos,.int .i64 f.mid,.int .i64 f.high,.lst 7 (f.loads.map Ld.row),.int .i64 p,.int .i64 m]:=rfl
structure Hu where
 kind:Int
 a:Int
 b:Int
def Hu.row (x:Hu):List AV:=[.int .i64 x.kind,.int .i64 x.a,.int .i64 x.b]
@[go_sem] theorem Hu.row_eq (x:Hu):x.row=[.int .i64 x.kind,.int .i64 x.a,.int .i64 x.b]:=rfl
def Hu.av (x:Hu):AV:=.agg [.int .i64 x.kind,.int .i64 x.a,.int .i64 x.b]
@[go_sem] theorem Hu.av_eq (x:Hu):x.av=.agg [.int .i64 x.kind,.int .i64 x.a,.int .i64 x.b]:=rfl
def rav (l:List Hu):AV:=.lst 3 (l.map Hu.row)
@[go_sem] theorem rav_eq (l:List Hu):rav l=.lst 3 (l.map Hu.row):=rfl
def ld (l:List Ld) (i:Nat):Ld:=l.getD i ⟨0,0,0,0,0,0,0⟩
def hu (l:List Hu) (i:Nat):Hu:=l.getD i ⟨0,0,0⟩
@[go_sem] theorem lrow_getD {l:List Ld} {i:Nat} (h:i < l.length):(l.map Ld.row).getD i []=(ld l i).row:=by
 simp [List.getD_eq_getElem?_getD,h,ld]
@[go_sem] theorem hrow_getD {l:List Hu} {i:Nat} (h:i < l.length):(l.map Hu.row).getD i []=(hu l i).row:=by
 simp [List.getD_eq_getElem?_getD,h,hu]
theorem drop_ld {l:List Ld} {i:Nat} (h:i < l.length):l.drop i=ld l i :: l.drop (i+1):=drop_getD _ h
theorem drop_hu {l:List Hu} {i:Nat} (h:i < l.length):l.drop i=hu l i :: l.drop (i+1):=drop_getD _ h
def spanE (lo hi top:Int):Int:=if ¬ (0≤lo∧lo≤top∧0≤hi∧hi≤top) then 2 else if lo > hi then 9 else 0
theorem c144 (lo hi top:Int):Pure Tryz.prog 144 [.agg [.int .i64 lo,.int .i64 hi],.int .i64 top] (fun v=>v=.int .i64 (spanE lo hi top)):=by
 intro h
 refine ACalls.forget (ACalls.of tab mixed Tryz.call144 Tryz.func144 rfl (fi:=⟨20,[],[2,11],none,[]⟩) rfl rfl (Nat.le_of_ble_eq_true rfl) (by decide) ?_)
 unfold startA
 repeat' (first|refine st_seq_reg rfl (by first|(simp only[go_sem];rfl)|rfl) (by first|(simp only[go_sem];rfl)|rfl) ?_|refine st_op ?_|refine st_det rfl (by simp (disch:=omega) only[go_sem,wr_i64];rfl) ?_|(refine st_pureE (by first|(simp (disch:=omega) only[go_sem];rfl)|rfl) rfl (c116b _ _ _ _) (by first|(simp only[go_sem];rfl)|rfl) (by intro n;first|(simp (disch:=omega) only[go_sem];rfl)|rfl) ?_;intro n hn)|(refine st_condS rfl ?_ ?_ <;> intro hg <;> (try simp only[dcT,dcF,bnT,bnF] at hg))|refine st_nil ?_|refine st_tN ?_|refine st_seq ?_|refine st_block ?_|refine st_skip ?_|refine st_ret ?_|refine st_tR ?_|refine st_bN ?_|refine st_bR ?_)
 all_goals
  simp (disch:=omega) only[AEnd,Tryz.results144,aresK,fin,go_sem,implies_true,true_and,and_true,List.reverse_cons,List.reverse_nil]
  simp [spanE] <;> omega
def loadE (f:Fl) (x:Ld):Int :=
 if ¬ (f.front≤x.at_∧x.at_≤f.rear) then 2 else if spanE x.lo x.hi 100000 ≠ 0 then spanE x.lo x.hi 100000 else if spanE x.tlo x.thi 2000 ≠ 0 then spanE x.tlo x.thi 2000
 else if ¬ (1≤x.kind∧x.kind≤4) then 3 else if ¬ (0≤x.watts∧x.watts≤1000000) then 2 else if 0 < x.watts∧¬ (x.kind=2 ∨ x.kind=3) then 1 else 0
theorem c117 (f:Fl) (x:Ld):Pure Tryz.prog 117 [f.av,.agg x.row] (fun v=>v=.int .i64 (loadE f x)):=by
 intro h
 refine ACalls.forget (ACalls.of tab mixed Tryz.call117 Tryz.func117 rfl (fi:=⟨52,[],[2,3,14,41],none,[]⟩) rfl rfl (Nat.le_of_ble_eq_true rfl) (by decide) ?_)
 unfold startA
 simp only[go_sem]
 repeat' (first|refine st_seq_reg rfl (by first|(simp only[go_sem];rfl)|rfl) (by first|(simp only[go_sem];rfl)|rfl) ?_|refine st_reg rfl (by first|(simp only[go_sem];rfl)|rfl) (by first|(simp only[go_sem];rfl)|rfl) ?_|refine st_op ?_|refine st_det rfl (by simp (disch:=omega) only[go_sem,wr_i64];rfl) ?_|(refine st_pureE (by first|(simp (disch:=omega) only[go_sem];rfl)|rfl) rfl (c116a _ _ _) (by first|(simp only[go_sem];rfl)|rfl) (by intro n;first|(simp (disch:=omega) only[go_sem];rfl)|rfl) ?_;intro n hn)|(refine st_pureE (by first|(simp (disch:=omega) only[go_sem];rfl)|rfl) rfl (c144 _ _ _) (by first|(simp only[go_sem];rfl)|rfl) (by intro n;first|(simp (disch:=omega) only[go_sem];rfl)|rfl) ?_;intro n hn)|refine st_gT rfl rfl rfl ?_|refine st_gF rfl rfl rfl ?_|(refine st_gS rfl rfl ?_ ?_ <;> intro hg <;> (try simp only[dcT,dcF,bnT,bnF] at hg))|refine st_condT rfl ?_|refine st_condF rfl ?_|(refine st_condS rfl ?_ ?_ <;> intro hg <;> (try simp only[dcT,dcF,bnT,bnF] at hg))|refine st_nil ?_|refine st_tN ?_|refine st_seq ?_|refine st_block ?_|refine st_skip ?_|refine st_exit ?_|refine st_ret ?_|refine st_tE ?_|refine st_tR ?_|refine st_bN ?_|refine st_bR ?_|refine st_bH ?_|refine st_bM rfl ?_)
 all_goals
  simp (disch:=omega) only[AEnd,Tryz.results117,aresK,fin,go_sem,implies_true,true_and,and_true,List.reverse_cons,List.reverse_nil]
  simp [loadE] <;> omega
def hurdleE (x:Hu):Int :=
 if x.kind=1 then (if ¬ (0≤x.a∧x.a≤20000∧0≤x.b∧x.b≤20000) then 2 else if x.a ≥ x.b then 9 else 0)
 else if x.kind=2 then (if ¬ (0≤x.a∧x.a≤2000) then 2 else if x.b ≠ 0 then 1 else 0)
 else if x.kind=3 then (if ¬ (0≤x.a∧x.a≤10000000∧0≤x.b∧x.b≤10000000) then 2 else 0) else 3
theorem c90 (x:Hu):Pure Tryz.prog 90 [x.av] (fun v=>v=.int .i64 (hurdleE x)):=by
 intro h
 refine ACalls.forget (ACalls.of tab mixed Tryz.call90 Tryz.func90 rfl (fi:=⟨42,[],[1,12,26,39],none,[]⟩) rfl rfl (Nat.le_of_ble_eq_true rfl) (by decide) ?_)
 unfold startA
 simp only[go_sem]
 repeat' (first|refine st_seq_reg rfl (by first|(simp only[go_sem];rfl)|rfl) (by first|(simp only[go_sem];rfl)|rfl) ?_|refine st_op ?_|refine st_det rfl (by simp (disch:=omega) only[go_sem,wr_i64];rfl) ?_|(refine st_pureE (by first|(simp (disch:=omega) only[go_sem];rfl)|rfl) rfl (c116a _ _ _) (by first|(simp only[go_sem];rfl)|rfl) (by intro n;first|(simp (disch:=omega) only[go_sem];rfl)|rfl) ?_;intro n hn)|(refine st_pureE (by first|(simp (disch:=omega) only[go_sem];rfl)|rfl) rfl (c116b _ _ _ _) (by first|(simp only[go_sem];rfl)|rfl) (by intro n;first|(simp (disch:=omega) only[go_sem];rfl)|rfl) ?_;intro n hn)|(refine st_condS rfl ?_ ?_ <;> intro hg <;> (try simp only[dcT,dcF,bnT,bnF] at hg))|refine st_nil ?_|refine st_tN ?_|refine st_seq ?_|refine st_block ?_|refine st_skip ?_|refine st_ret ?_|refine st_tR ?_|refine st_bN ?_|refine st_bR ?_)
 all_goals
  simp (disch:=omega) only[AEnd,Tryz.results90,aresK,fin,go_sem,implies_true,true_and,and_true,List.reverse_cons,List.reverse_nil]
  simp [hurdleE] <;> omega
end Go.Proofs.YtaijkalhkgjakaaGreatDoor

namespace Go.Proofs.YtaijkalhkgjakaaGreatDoor
open Go.Av
structure Sch where
 n:Nat
 m:Nat
 f:Nat→Nat
 d:Nat→Int
 can:Nat→Nat→Bool
structure Sch.Val (S:Sch) (W:Nat→Nat) (T:Nat→Int):Prop where
 w:∀ i,i < S.n→W i < S.m∧S.can (W i) i=true∧0≤T i
 ord:∀ k i,k < i→i < S.n→S.f k=S.f i→T k+S.d k≤T i
 clash:∀ k i,k < i→i < S.n→W k=W i→T k+S.d k≤T i ∨ T i+S.d i≤T k
theorem Sch.Val.apart {S:Sch} {W:Nat→Nat} {T:Nat→Int} (h:S.Val W T) {k i:Nat} (hk:k < S.n) (hi:i < S.n) (hne:k ≠ i) (hw:W k=W i):T k+S.d k≤T i ∨ T i+S.d i≤T k:=by
 rcases Nat.lt_or_ge k i with hlt|hge
 ·exact h.clash k i hlt hi hw
 ·exact (h.clash i k (by omega) hk hw.symm).symm
def Sch.SA (S:Sch) (W:Nat→Nat) (T:Nat→Int):Prop :=
 ∀ i,i < S.n→T i=0 ∨ ∃ k,k < S.n∧T k+S.d k=T i∧(W k=W i ∨ S.f k=S.f i)
def tot (T:Nat→Int):Nat→Nat
 | 0=>0
 | n+1=>tot T n+(T n).toNat
structure Sch.At (S:Sch) (W:Nat→Nat) (T:Nat→Int) (pl:Nat→Bool) (hands fl:Nat→Int) (last:Int):Prop where
 val:S.Val W T
 sa:S.SA W T
 pre:∀ k i,k < S.n→i < S.n→pl k=true→pl i=false→T k≤T i
 last:∀ i,i < S.n→pl i=false→last≤T i
 h1:∀ k,k < S.n→pl k=true→T k+S.d k≤hands (W k)
 h2:∀ w,w < S.m→hands w=0 ∨ ∃ k,k < S.n∧pl k=true∧W k=w∧T k+S.d k=hands w
 f1:∀ k,k < S.n→pl k=true→T k+S.d k≤fl (S.f k)
 f2:∀ i,i < S.n→fl (S.f i)=0 ∨ ∃ k,k < S.n∧pl k=true∧S.f k=S.f i∧T k+S.d k=fl (S.f i)
theorem Sch.At.hand {S:Sch} (hd:∀ i,i < S.n→1≤S.d i) {W:Nat→Nat} {T:Nat→Int} {pl:Nat→Bool} {hands fl:Nat→Int} {last:Int} (A:S.At W T pl hands fl last) {i:Nat} (hi:i < S.n) (hp:pl i=false):hands (W i)≤T i:=by
 obtain ⟨a,_,c⟩:=A.val.w i hi
 rcases A.h2 (W i) a with h|⟨k,hk,hpk,hw,he⟩
 ·omega
 ·have hne:k ≠ i:=by rintro rfl;rw [hp] at hpk;cases hpk
  have h1:=A.pre k i hk hi hpk hp
  have h2:=hd i hi
  rcases A.val.apart hk hi hne hw with h|h <;> omega
theorem Sch.At.float {S:Sch} (hd:∀ i,i < S.n→1≤S.d i) {W:Nat→Nat} {T:Nat→Int} {pl:Nat→Bool} {hands fl:Nat→Int} {last:Int} (A:S.At W T pl hands fl last) {i:Nat} (hi:i < S.n) (hp:pl i=false):fl (S.f i)≤T i:=by
 obtain ⟨_,_,c⟩:=A.val.w i hi
 rcases A.f2 i hi with h|⟨k,hk,hpk,hf,he⟩
 ·omega
 ·have hne:k ≠ i:=by rintro rfl;rw [hp] at hpk;cases hpk
  have h1:=A.pre k i hk hi hpk hp
  have h2:=hd i hi
  rcases Nat.lt_or_ge k i with hlt|hge
  ·have:=A.val.ord k i hlt hi hf;omega
  ·have:=A.val.ord i k (by omega) hk hf.symm;omega
theorem Sch.At.day {S:Sch} (hd:∀ i,i < S.n→1≤S.d i) {W:Nat→Nat} {T:Nat→Int} {pl:Nat→Bool} {hands fl:Nat→Int} {last:Int} (A:S.At W T pl hands fl last) {i:Nat} (hi:i < S.n) (hp:pl i=false) (hmin:∀ k,k < S.n→pl k=false→T i≤T k) (h0:0≤hands (W i)) :
  max (hands (W i)) (fl (S.f i))=T i:=by
 have h1:=A.hand hd hi hp
 have h2:=A.float hd hi hp
 rcases A.sa i hi with h|⟨k,hk,he,hr⟩
 ·omega
 ·have hdk:=hd k hk
  have hpk:pl k=true:=by
   cases hpk:pl k with
   | true=>rfl
   | false=>have:=hmin k hk hpk;omega
  rcases hr with hw|hf
  ·have:=A.h1 k hk hpk;rw [hw] at this;omega
  ·have:=A.f1 k hk hpk;rw [hf] at this;omega
theorem Sch.At.ready {S:Sch} (hd:∀ i,i < S.n→1≤S.d i) {W:Nat→Nat} {T:Nat→Int} {pl:Nat→Bool} {hands fl:Nat→Int} {last:Int} (A:S.At W T pl hands fl last) {i:Nat} (hi:i < S.n) (hmin:∀ k,k < S.n→pl k=false→T i≤T k) {k:Nat} (hk:k < i) (hf:S.f k=S.f i):pl k=true:=by
 cases hpk:pl k with
 | true=>rfl
 | false =>
  have h1:=hmin k (by omega) hpk
  have h2:=A.val.ord k i hk hi hf
  have h3:=hd k (by omega)
  omega
theorem Sch.At.next {S:Sch} (hd:∀ i,i < S.n→1≤S.d i) {W:Nat→Nat} {T:Nat→Int} {pl:Nat→Bool} {hands fl:Nat→Int} {last:Int} (A:S.At W T pl hands fl last) {i:Nat} (hi:i < S.n) (hp:pl i=false) (hmin:∀ k,k < S.n→pl k=false→T i≤T k) :
  S.At W T (upd pl i true) (upd hands (W i) (T i+S.d i)) (upd fl (S.f i) (T i+S.d i)) (T i):=by
 have e1:=A.hand hd hi hp
 have e2:=A.float hd hi hp
 have hdi:=hd i hi
 refine ⟨A.val,A.sa,?_,?_,?_,?_,?_,?_⟩
 ·intro k j hk hj hpk hpj
  rw [upd_apply] at hpk hpj
  split at hpj
  ·cases hpj
  ·split at hpk
   ·rename_i e;subst e;exact hmin j hj hpj
   ·exact A.pre k j hk hj hpk hpj
 ·intro j hj hpj
  rw [upd_apply] at hpj
  split at hpj
  ·cases hpj
  ·exact hmin j hj hpj
 ·intro k hk hpk
  rw [upd_apply] at hpk
  rw [upd_apply]
  split at hpk
  ·rename_i e;subst e;simp
  ·have:=A.h1 k hk hpk
   split
   ·rename_i e;rw [e] at this;omega
   ·exact this
 ·intro w hw
  rw [upd_apply]
  split
  ·rename_i e;exact .inr ⟨i,hi,upd_same _ _ _,e.symm,rfl⟩
  ·rcases A.h2 w hw with h|⟨k,hk,hpk,hwk,he⟩
   ·exact .inl h
   ·refine .inr ⟨k,hk,?_,hwk,he⟩
    rw [upd_apply];split
    ·rfl
    ·exact hpk
 ·intro k hk hpk
  rw [upd_apply] at hpk
  rw [upd_apply]
  split at hpk
  ·rename_i e;subst e;simp
  ·have:=A.f1 k hk hpk
   split
   ·rename_i e;rw [e] at this;omega
   ·exact this
 ·intro j hj
  rw [upd_apply]
  split
  ·rename_i e;exact .inr ⟨i,hi,upd_same _ _ _,e.symm,rfl⟩
  ·rcases A.f2 j hj with h|⟨k,hk,hpk,hfk,he⟩
   ·exact .inl h
   ·refine .inr ⟨k,hk,?_,hfk,he⟩
    rw [upd_apply];split
    ·rfl
    ·exact hpk
def swp (a b w:Nat):Nat:=if w=a then b else if w=b then a else w
theorem swp_inj {a b x y:Nat} (h:swp a b x=swp a b y):x=y:=by
 unfold swp at h
 repeat' split at h
 all_goals omega
theorem Sch.At.swap {S:Sch} (hd:∀ i,i < S.n→1≤S.d i) {W:Nat→Nat} {T:Nat→Int} {pl:Nat→Bool} {hands fl:Nat→Int} {last:Int} (A:S.At W T pl hands fl last) {a b:Nat} (ha:a < S.m) (hb:b < S.m) (hc:∀ i,S.can a i=S.can b i) (hh:hands a=hands b) :
  S.At (fun i=>if pl i=true then W i else swp a b (W i)) T pl hands fl last:=by
 have hs:∀ w,hands (swp a b w)=hands w:=by
  intro w;unfold swp;split
  ·rename_i e;rw [e,hh]
  ·split
   ·rename_i e;rw [e,hh]
   ·rfl
 have hcan:∀ w i,S.can (swp a b w) i=S.can w i:=by
  intro w i;unfold swp;split
  ·rename_i e;rw [e,hc]
  ·split
   ·rename_i e;rw [e,hc]
   ·rfl
 have hlt:∀ w,w < S.m→swp a b w < S.m:=by
  intro w hw;unfold swp;split
  ·exact hb
  ·split
   ·exact ha
   ·exact hw
 have pu:∀ k i,k < S.n→i < S.n→pl k=true→pl i=false→W k=swp a b (W i)→T k+S.d k≤T i:=by
  intro k i hk hi hpk hpi hw
  have h1:=A.h1 k hk hpk
  rw [hw,hs] at h1
  have:=A.hand hd hi hpi
  omega
 refine ⟨⟨?_,A.val.ord,?_⟩,?_,A.pre,A.last,?_,?_,A.f1,A.f2⟩
 ·intro i hi
  obtain ⟨x,y,z⟩:=A.val.w i hi
  skip
  split
  ·exact ⟨x,y,z⟩
  ·exact ⟨hlt _ x,by rw [hcan];exact y,z⟩
 ·intro k i hki hi hw
  skip
  cases hpk:pl k <;> cases hpi:pl i <;> simp only[hpk,hpi,if_true,Bool.false_eq_true,if_false] at hw
  ·exact A.val.clash k i hki hi (swp_inj hw)
  ·exact .inr (pu i k hi (by omega) hpi hpk hw.symm)
  ·exact .inl (pu k i (by omega) hi hpk hpi hw)
  ·exact A.val.clash k i hki hi hw
 ·intro i hi
  rcases A.sa i hi with h|⟨k,hk,he,hw|hf⟩
  ·exact .inl h
  ·have hdk:=hd k hk
   dsimp only
   cases hpi:pl i with
   | true =>
    cases hpk:pl k with
    | true=>exact .inr ⟨k,hk,he,.inl (by simp [hpk,hw])⟩
    | false=>have:=A.pre i k hi hk hpi hpk;omega
   | false =>
    cases hpk:pl k with
    | false=>exact .inr ⟨k,hk,he,.inl (by simp [hpk,hw])⟩
    | true =>
     have h1:=A.h1 k hk hpk
     have h2:=A.hand hd hi hpi
     rw [hw] at h1
     rcases A.h2 (swp a b (W i)) (hlt _ (A.val.w i hi).1) with h|⟨k2,hk2,hpk2,hw2,he2⟩
     ·left;rw [hs] at h;omega
     ·right
      refine ⟨k2,hk2,?_,.inl (by simp [hpk2,hw2])⟩
      rw [he2,hs];omega
  ·exact .inr ⟨k,hk,he,.inr hf⟩
 ·intro k hk hpk
  simp only[hpk,if_true]
  exact A.h1 k hk hpk
 ·intro w hw
  rcases A.h2 w hw with h|⟨k,hk,hpk,hwk,he⟩
  ·exact .inl h
  ·exact .inr ⟨k,hk,hpk,by simp [hpk,hwk],he⟩
theorem Sch.At.start {S:Sch} {W:Nat→Nat} {T:Nat→Int} (h:S.Val W T) (hs:S.SA W T):S.At W T (fun _=>false) (fun _=>0) (fun _=>0) 0 :=
 ⟨h,hs,fun _ _ _ _ h=>by simp at h,fun i hi _=>(h.w i hi).2.2,fun _ _ h=>by simp at h,fun _ _=>.inl rfl,fun _ _ h=>by simp at h,fun _ _=>.inl rfl⟩
theorem exists_first {n:Nat} {pl:Nat→Bool} {T:Nat→Int} (h:∃ i,i < n∧pl i=false):∃ i,i < n∧pl i=false∧∀ k,k < n→pl k=false→T i≤T k:=by
 induction n with
 | zero=>obtain ⟨i,hi,_⟩:=h;omega
 | succ n ih =>
  by_cases hx:∃ i,i < n∧pl i=false
  ·obtain ⟨i,hi,hp,hm⟩:=ih hx
   by_cases hn:pl n=false∧T n < T i
   ·refine ⟨n,by omega,hn.1,fun k hk hpk=>?_⟩
    by_cases hkn:k=n
    ·subst hkn;exact Int.le_refl _
    ·have:=hm k (by omega) hpk;omega
   ·refine ⟨i,by omega,hp,fun k hk hpk=>?_⟩
    by_cases hkn:k=n
    ·subst hkn
     have:¬ T k < T i:=fun hlt=>hn ⟨hpk,hlt⟩
     omega
    ·exact hm k (by omega) hpk
  ·obtain ⟨i,hi,hp⟩:=h
   have:i=n:=by
    apply Classical.byContradiction
    intro hne
    exact hx ⟨i,by omega,hp⟩
   subst this
   refine ⟨i,by omega,hp,fun k hk hpk=>?_⟩
   by_cases hkn:k=i
   ·subst hkn;exact Int.le_refl _
   ·exact absurd ⟨k,by omega,hpk⟩ hx
end Go.Proofs.YtaijkalhkgjakaaGreatDoor
