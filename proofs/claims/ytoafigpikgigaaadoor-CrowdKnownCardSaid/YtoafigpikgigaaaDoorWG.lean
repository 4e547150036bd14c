/- strings.Builder's copyCheck, WriteString and WriteByte, walked in the concrete world. -/
import Derived.Test.YtoafigpikgigaaaDoorPB3
import Derived.Test.YtoafigpikgigaaaDoorProg
import Derived.Shelf.Strings.Builder1
import Derived.Shelf.LaysM
import Derived.Test.YtoafigpikgigaaaDoorAvT
open List (length_map)
set_option linter.all false
set_option linter.unusedSimpArgs false
set_option linter.unusedVariables false
namespace Go.Proofs.YtoafigpikgigaaaDoor
open Go.Shelf Go.RowKit Go.Lib Go.Txt Go.Av
theorem sizeBuilder:(Tryd.prog.info? 105).map (·.size)=some 2:=by kernel_rfl
theorem liesBuilder:liesAt Tryd.prog Tryd.prog.depth 105 (2 / Tryd.prog.cellsOf 105) 0 105 1=true:=by kernel_rfl
theorem infoByte:(Tryd.prog.info? 5).map (fun i=>(i.zero,i.size,i.bytes))=some (some (.int .u8 0),1,1):=by kernel_rfl
theorem info_parts {t:TypeId} {z:Value} {s b:Nat} (h:(Tryd.prog.info? t).map (fun i=>(i.zero,i.size,i.bytes))=some (some z,s,b)):∃ i,Tryd.prog.info? t=some i∧i.zero=some z∧i.size=s∧i.bytes=b:=by
 obtain ⟨i,hi,h2⟩:=Option.map_eq_some_iff.1 h
 simp only[Prod.mk.injEq] at h2
 exact ⟨i,hi,h2.1,h2.2.1,h2.2.2⟩
set_option maxHeartbeats 1000000 in
set_option maxRecDepth 100000 in
theorem cc_used (b:Nat) (w:World) (h0:w.cell? ⟨b,0,none⟩=some (.pointer (some ⟨b,0,none⟩))) :
  Calls Tryd.prog 58 #[.pointer (some ⟨b,0,none⟩)] w fun e w'=>e=.returned (.tuple #[])∧w'=w:=by
 obtain ⟨j,hj,_⟩:=Option.map_eq_some_iff.1 sizeBuilder
 go_enter Tryd.func58,Tryd.ntmps58
 go_wp2
 rw [Lib.run_neq_ptr_same w _ Tryd.underlying102 hj]
 go_wp2
 go_end0
 exact ⟨rfl,rfl⟩
set_option maxHeartbeats 1000000 in
set_option maxRecDepth 100000 in
theorem cc_fresh (b:Nat) (w:World) (h0:w.cell? ⟨b,0,none⟩=some (.pointer none)) (hsh:w.shape? b=some (105,2)) (hfz:w.frozen? ⟨b,0,none⟩=false) :
  Calls Tryd.prog 58 #[.pointer (some ⟨b,0,none⟩)] w fun e w'=>e=.returned (.tuple #[])∧w'=w.setCell ⟨b,0,none⟩ (.pointer (some ⟨b,0,none⟩)):=by
 obtain ⟨j,hj,hjs⟩:=Option.map_eq_some_iff.1 sizeBuilder
 go_enter Tryd.func58,Tryd.ntmps58
 go_wp2
 rw [Lib.run_to_unsafe w ⟨b,0,none⟩ Tryd.underlying102 Tryd.underlying122 hj (by rw [hjs];decide) hsh (Nat.zero_lt_succ 1)]
 simp only[Result.andThen]
 rw [Oper.upon_value]
 go_wp2
 rw [run_callFunc_extern Tryd.func62 (by kernel_rfl) (by kernel_rfl) (by kernel_rfl) (e:=Extern.AbiNoEscape.same) (by kernel_rfl)]
 rw [Lib.run_noEscape]
 simp only[Result.andThen]
 rw [Oper.upon_value]
 go_wp2
 rw [Lib.run_from_unsafe w ⟨b,0,none⟩ Tryd.underlying122 Tryd.underlying102 hj hsh liesBuilder]
 simp only[Result.andThen]
 rw [Oper.upon_value]
 go_wp2
 go_end0
 exact ⟨rfl,rfl⟩
theorem cc_at (b:Nat) (p v:Value) (bs:List Value) (w:World) (hp:p=.pointer none ∨ p=.pointer (some ⟨b,0,none⟩)) (h:BAt 105 5 b p v bs w) :
  Calls Tryd.prog 58 #[.pointer (some ⟨b,0,none⟩)] w fun e w'=>e=.returned (.tuple #[])∧BAt 105 5 b (.pointer (some ⟨b,0,none⟩)) v bs w' ∧
   w'.heap.size=w.heap.size∧w'.os=w.os∧w'.tape=w.tape∧w'.output=w.output∧∀ k,k ≠ b→w'.heap[k]?=w.heap[k]?:=by
 obtain ⟨h1,h2,h3⟩:=h
 have c0:w.cell? ⟨b,0,none⟩=some p:=by rw [Lib.cell_of_heap h1];rfl
 rcases hp with rfl|rfl
 ·refine (cc_fresh b w c0 (by simp [World.shape?,h1]) (Lib.frozen_of_heap h1 0)).mono ?_
  rintro e w' ⟨rfl,rfl⟩
  have hk:∀ k,k ≠ b→(w.setCell ⟨b,0,none⟩ (.pointer (some ⟨b,0,none⟩))).heap[k]?=w.heap[k]?:=fun k hk=>Below.heap_setCell _ _ _ _ hk
  refine ⟨rfl,⟨?_,owns_of h2 (fun g hg=>hk g (fun e=>h3 (by rw [hg,e]))),h3⟩,?_,rfl,rfl,rfl,hk⟩
  ·simp only[World.setCell,Array.getElem?_modify,if_true,h1]
   rfl
  ·simp [World.setCell]
 ·refine (cc_used b w c0).mono ?_
  rintro e w' ⟨rfl,rfl⟩
  exact ⟨rfl,⟨h1,h2,h3⟩,rfl,rfl,rfl,rfl,fun _ _=>rfl⟩
set_option maxHeartbeats 2000000 in
set_option maxRecDepth 100000 in
theorem Wr_String (b:Nat) (p v:Value) (bs:List Value) (s:ByteArray) (w:World) (hp:p=.pointer none ∨ p=.pointer (some ⟨b,0,none⟩)) (h:BAt 105 5 b p v bs w) (hlen:bs.length+s.size≤140737488355328) :
  Calls Tryd.prog 50 #[.pointer (some ⟨b,0,none⟩),.string s] w fun e w'=>e=.returned (.tuple #[.int .i64 s.size,.nilIface])∧∃ v',BAt 105 5 b (.pointer (some ⟨b,0,none⟩)) v' (bs ++ strCells s) w'∧Fr b v w w'∧At w v v':=by
 obtain ⟨i0,hi,hz0,hz1,hz2⟩:=info_parts infoByte
 go_enter Tryd.func50,Tryd.ntmps50
 go_wp2_with (go_at_call 58;refine (cc_at b p v bs _ hp h).mono ?_)
 rintro e w1 ⟨rfl,hw1,hsz,hos,htp,hou,hk1⟩
 obtain ⟨b1,b2,b3⟩:=hw1
 have c0:w1.cell? ⟨b,0,none⟩=some (.pointer (some ⟨b,0,none⟩)):=by rw [Lib.cell_of_heap b1];rfl
 have c1:w1.cell? ⟨b,1,none⟩=some v:=by rw [Lib.cell_of_heap b1];rfl
 obtain ⟨v',w2,hr,hown',hgrow,hat⟩:=app_str_at (P:=Tryd.prog) 103 9 103 5 i0 Tryd.underlying103 Tryd.underlying9 hi hz0 hz1 hz2 v bs.length bs b2 s (by unfold maxLen;omega) hlen
 have hlt:b < w1.heap.size:=(Array.getElem?_eq_some_iff.1 b1).1
 have hb2:w2.heap[b]?=some (.cells #[.pointer (some ⟨b,0,none⟩),v] 105 (0,0)):=(hgrow.block b hlt (fun e=>b3 e.symm)).trans b1
 have d0:w2.cell? ⟨b,0,none⟩=some (.pointer (some ⟨b,0,none⟩)):=by rw [Lib.cell_of_heap hb2];rfl
 have d1:w2.cell? ⟨b,1,none⟩=some v:=by rw [Lib.cell_of_heap hb2];rfl
 have f1:w2.frozen? ⟨b,1,none⟩=false:=Lib.frozen_of_heap hb2 1
 obtain ⟨ao,n',cap,rfl⟩:∃ ao n' cap,v'=.slice ao n' cap:=by
  rcases hown'.2 with ⟨hv,_⟩|⟨g,cap,cur,hv,_⟩
  ·exact ⟨_,_,_,hv⟩
  ·exact ⟨_,_,_,hv⟩
 go_wp2_with (at_builtin;refine wpList_app rfl _ _ 103 9 rfl v (.string s) (.slice ao n' cap) w2 rfl rfl hr ?_)
 go_ret2
 exact ⟨rfl,wr_fin (w1:=w1) (w2:=w2) (v':=.slice ao n' cap) (by decide) ⟨b1,b2,b3⟩ hsz hos htp hou hk1 hb2 hgrow (by simpa [strCells_length] using hown') hat⟩
set_option maxHeartbeats 2000000 in
set_option maxRecDepth 100000 in
theorem Wr_Byte (b:Nat) (p v:Value) (bs:List Value) (c:Int) (w:World) (hp:p=.pointer none ∨ p=.pointer (some ⟨b,0,none⟩)) (h:BAt 105 5 b p v bs w) (hlen:bs.length+1≤140737488355328) :
  Calls Tryd.prog 52 #[.pointer (some ⟨b,0,none⟩),.int .u8 c] w fun e w'=>e=.returned .nilIface∧∃ v',BAt 105 5 b (.pointer (some ⟨b,0,none⟩)) v' (bs ++ [.int .u8 c]) w'∧Fr b v w w'∧At w v v':=by
 obtain ⟨i0,hi,hz0,hz1,hz2⟩:=info_parts infoByte
 go_enter Tryd.func52,Tryd.ntmps52
 go_wp2_with (go_at_call 58;refine (cc_at b p v bs _ hp h).mono ?_)
 rintro e w1 ⟨rfl,hw1,hsz,hos,htp,hou,hk1⟩
 have hs1:w1.heap.size≤w.heap.size:=Nat.le_of_eq hsz
 have hs2:w.heap.size≤w1.heap.size:=Nat.le_of_eq hsz.symm
 clear hsz
 obtain ⟨b1,b2,b3⟩:=hw1
 have c0:w1.cell? ⟨b,0,none⟩=some (.pointer (some ⟨b,0,none⟩)):=by rw [Lib.cell_of_heap b1];rfl
 have c1:w1.cell? ⟨b,1,none⟩=some v:=by rw [Lib.cell_of_heap b1];rfl
 have hlt:b < w1.heap.size:=(Array.getElem?_eq_some_iff.1 b1).1
 have hown1:(w1.alloc (.cells #[.int .u8 c] 5)).ownsRow 0 5 1 v bs.length bs:=owns_of b2 (fun g hg=>Lib.alloc_old w1 _ g (owns_lt b2 hg))
 obtain ⟨v',w2,hr,hown',hgrow,hat⟩:=app_one_at (P:=Tryd.prog) (w:=w1.alloc (.cells #[.int .u8 c] 5)) 103 103 5 i0 Tryd.underlying103 hi hz0 hz1 hz2 v bs.length bs hown1 ⟨w1.heap.size,0,none⟩ c (by simp) hlen
 have hb2:w2.heap[b]?=some (.cells #[.pointer (some ⟨b,0,none⟩),v] 105 (0,0)):=by
  rw [hgrow.block b (by simp;omega) (fun e=>b3 e.symm),Lib.alloc_old w1 _ b hlt]
  exact b1
 have d0:w2.cell? ⟨b,0,none⟩=some (.pointer (some ⟨b,0,none⟩)):=by rw [Lib.cell_of_heap hb2];rfl
 have d1:w2.cell? ⟨b,1,none⟩=some v:=by rw [Lib.cell_of_heap hb2];rfl
 have f1:w2.frozen? ⟨b,1,none⟩=false:=Lib.frozen_of_heap hb2 1
 obtain ⟨ao,n',cap,rfl⟩:∃ ao n' cap,v'=.slice ao n' cap:=by
  rcases hown'.2 with ⟨hv,_⟩|⟨g,cap,cur,hv,_⟩
  ·exact ⟨_,_,_,hv⟩
  ·exact ⟨_,_,_,hv⟩
 go_wp2_with (at_builtin;refine wpList_app rfl _ _ 103 103 rfl v (.slice (some ⟨w1.heap.size,0,none⟩) 1 1) (.slice ao n' cap) w2 rfl rfl hr ?_)
 go_ret
 have hg2:w1.grownBy w2 v.ownBlock:=⟨hgrow.os,hgrow.tape,hgrow.output,Nat.le_trans (by simp) hgrow.size,fun k hk hn=>(hgrow.block k (by simp;omega) hn).trans (Lib.alloc_old w1 _ k hk)⟩
 have hat2:At w1 v (.slice ao n' cap):=hat.imp id fun ⟨g,h1,h2⟩=>⟨g,h1,Nat.le_trans (by simp) h2⟩
 exact ⟨rfl,wr_fin (w1:=w1) (w2:=w2) (v':=.slice ao n' cap) (by decide) ⟨b1,b2,b3⟩ (Nat.le_antisymm hs1 hs2) hos htp hou hk1 hb2 hg2 (by simpa using hown') hat2⟩
theorem wStr:WStr Tryd.prog 105 5 50:=Wr_String
theorem wByte:WByte Tryd.prog 105 5 52:=Wr_Byte
end Go.Proofs.YtoafigpikgigaaaDoor

namespace Go.Proofs.YtoafigpikgigaaaDoor
open Go.Shelf
def lays169_ren:Go.Shelf.Ren:=⟨fun|169=>53|n=>n,fun|70=>102|9=>9|0=>0|72=>105|37=>103|127=>120|3=>3|5=>5|n=>n,fun|n=>n⟩
theorem lays169:Go.Proofs.Lays.n169 Tryd.prog lays169_ren:={
 mixed:=by kernel_rfl
 f169:=Tryd.func53.trans (congrArg some (by kernel_rfl))
 t0:=Tryd.underlying0
 a0:=Tryd.isAgg0
 z0:=Tryd.sizeOf0
 v0:=Tryd.zeroValue0
 t3:=Tryd.underlying3
 a3:=Tryd.isAgg3
 z3:=Tryd.sizeOf3
 v3:=Tryd.zeroValue3
 t9:=Tryd.underlying9
 a9:=Tryd.isAgg9
 z9:=Tryd.sizeOf9
 v9:=Tryd.zeroValue9
 t37:=Tryd.underlying103
 a37:=Tryd.isAgg103
 z37:=Tryd.sizeOf103
 v37:=Tryd.zeroValue103
 t70:=Tryd.underlying102
 a70:=Tryd.isAgg102
 z70:=Tryd.sizeOf102
 v70:=Tryd.zeroValue102
 t72:=Tryd.underlying105
 a72:=Tryd.isAgg105
 z72:=Tryd.sizeOf105
 v72:=Tryd.zeroValue105
 t127:=Tryd.underlying120
 a127:=Tryd.isAgg120
 z127:=Tryd.sizeOf120
 v127:=Tryd.zeroValue120 }
theorem Builder_Extra_169:Builder.Extra Tryd.prog lays169_ren:={
 sizeBuilder:=by kernel_rfl
 liesBuilder:=by kernel_rfl
 t5:=Tryd.underlying5
 a5:=Tryd.isAgg5
 z5:=Tryd.sizeOf5
 v5:=Tryd.zeroValue5
 infoByte:=by kernel_rfl
 cellsByte:=by kernel_rfl
 sizeByte:=by kernel_rfl
 neB5:=by decide }
def laysM171_ren:Go.Shelf.Ren:=⟨fun|171=>51|243=>59|246=>63|283=>64|284=>65|285=>66|286=>67|129=>69|317=>68|318=>70|319=>71|320=>72|337=>73|338=>74|n=>n,fun|3=>3|9=>9|2=>2|4=>4|171=>125|0=>0|53=>126|37=>103|5=>5|173=>129|212=>133|51=>134|20=>20|213=>135|46=>136|232=>139|233=>140|n=>n,fun|17=>0|18=>1|19=>2|n=>n⟩
theorem laysM171:Go.Proofs.LaysM.n171 Tryd.prog laysM171_ren:={
 mixed:=by kernel_rfl
 f129:=Tryd.func69.trans (congrArg some (by kernel_rfl))
 f171:=Tryd.func51.trans (congrArg some (by kernel_rfl))
 f243:=Tryd.func59.trans (congrArg some (by kernel_rfl))
 f246:=Tryd.func63.trans (congrArg some (by kernel_rfl))
 f283:=Tryd.func64.trans (congrArg some (by kernel_rfl))
 f284:=Tryd.func65.trans (congrArg some (by kernel_rfl))
 f285:=Tryd.func66.trans (congrArg some (by kernel_rfl))
 f286:=Tryd.func67.trans (congrArg some (by kernel_rfl))
 f317:=Tryd.func68.trans (congrArg some (by kernel_rfl))
 f318:=Tryd.func70.trans (congrArg some (by kernel_rfl))
 f319:=Tryd.func71.trans (congrArg some (by kernel_rfl))
 f320:=Tryd.func72.trans (congrArg some (by kernel_rfl))
 f337:=Tryd.func73.trans (congrArg some (by kernel_rfl))
 f338:=Tryd.func74.trans (congrArg some (by kernel_rfl))
 t0:=Tryd.underlying0
 a0:=Tryd.isAgg0
 z0:=Tryd.sizeOf0
 v0:=Tryd.zeroValue0
 t2:=Tryd.underlying2
 a2:=Tryd.isAgg2
 z2:=Tryd.sizeOf2
 v2:=Tryd.zeroValue2
 t3:=Tryd.underlying3
 a3:=Tryd.isAgg3
 z3:=Tryd.sizeOf3
 v3:=Tryd.zeroValue3
 t4:=Tryd.underlying4
 a4:=Tryd.isAgg4
 z4:=Tryd.sizeOf4
 v4:=Tryd.zeroValue4
 t5:=Tryd.underlying5
 a5:=Tryd.isAgg5
 z5:=Tryd.sizeOf5
 v5:=Tryd.zeroValue5
 t9:=Tryd.underlying9
 a9:=Tryd.isAgg9
 z9:=Tryd.sizeOf9
 v9:=Tryd.zeroValue9
 t20:=Tryd.underlying20
 a20:=Tryd.isAgg20
 z20:=Tryd.sizeOf20
 v20:=Tryd.zeroValue20
 t37:=Tryd.underlying103
 a37:=Tryd.isAgg103
 z37:=Tryd.sizeOf103
 v37:=Tryd.zeroValue103
 t46:=Tryd.underlying136
 a46:=Tryd.isAgg136
 z46:=Tryd.sizeOf136
 v46:=Tryd.zeroValue136
 t51:=Tryd.underlying134
 a51:=Tryd.isAgg134
 z51:=Tryd.sizeOf134
 v51:=Tryd.zeroValue134
 t53:=Tryd.underlying126
 a53:=Tryd.isAgg126
 z53:=Tryd.sizeOf126
 v53:=Tryd.zeroValue126
 t171:=Tryd.underlying125
 a171:=Tryd.isAgg125
 z171:=Tryd.sizeOf125
 v171:=Tryd.zeroValue125
 t173:=Tryd.underlying129
 a173:=Tryd.isAgg129
 z173:=Tryd.sizeOf129
 v173:=Tryd.zeroValue129
 t212:=Tryd.underlying133
 a212:=Tryd.isAgg133
 z212:=Tryd.sizeOf133
 v212:=Tryd.zeroValue133
 t213:=Tryd.underlying135
 a213:=Tryd.isAgg135
 z213:=Tryd.sizeOf135
 t232:=Tryd.underlying139
 a232:=Tryd.isAgg139
 z232:=Tryd.sizeOf139
 v232:=Tryd.zeroValue139
 t233:=Tryd.underlying140
 a233:=Tryd.isAgg140
 z233:=Tryd.sizeOf140
 v233:=Tryd.zeroValue140
 g17:=by kernel_rfl
 g18:=by kernel_rfl
 g19:=by kernel_rfl
 i0:=by kernel_rfl
 i2:=by kernel_rfl
 i3:=by kernel_rfl
 i4:=by kernel_rfl
 i5:=by kernel_rfl
 i9:=by kernel_rfl
 i20:=by kernel_rfl
 i37:=by kernel_rfl
 i46:=by kernel_rfl
 i51:=by kernel_rfl
 i53:=by kernel_rfl
 i171:=by kernel_rfl
 i173:=by kernel_rfl
 i212:=by kernel_rfl
 i232:=by kernel_rfl
 i233:=by kernel_rfl
 m17:=by kernel_rfl
 m18:=by kernel_rfl
 m19:=by kernel_rfl }
end Go.Proofs.YtoafigpikgigaaaDoor

namespace Go.Proofs.YtoafigpikgigaaaDoor
open Go.Av
set_option maxRecDepth 20000
theorem mixed:Tryd.prog.follows .mixedOrders=true:=by decide
theorem drop_getD {α:Type} {l:List α} {i:Nat} (d:α) (h:i < l.length):l.drop i=l.getD i d :: l.drop (i+1):=by
 rw [List.drop_eq_getElem_cons h,List.getD_eq_getElem?_getD,List.getElem?_eq_getElem h];rfl
def iv (n:Int):List AV:=[.int .i64 n]
@[go_sem] theorem iv_eq (n:Int):iv n=[.int .i64 n]:=rfl
@[go_sem] theorem map_len {α β:Type} (f:α→β) (l:List α):(l.map f).length=l.length:=length_map f
@[go_sem] theorem toNat_cast (n:Nat):((n:Nat):Int).toNat=n:=rfl
structure Sx where
 a:Int
 b:Int
structure Gp where
 lo:Int
 hi:Int
 alo:Int
 ahi:Int
 stay:Int
 first:Int
 path:List Int
structure Tw where
 rooms:List Int
 sts:List Sx
 gs:List Gp
 steps:Int
def Sx.row (x:Sx):List AV:=[.int .i64 x.a,.int .i64 x.b]
@[go_sem] theorem Sx.row_eq (x:Sx):x.row=[.int .i64 x.a,.int .i64 x.b]:=rfl
def Gp.row (g:Gp):List AV:=[.int .i64 g.lo,.int .i64 g.hi,.int .i64 g.alo,.int .i64 g.ahi,.int .i64 g.stay,.int .i64 g.first,.lst 1 (g.path.map iv)]
@[go_sem] theorem Gp.row_eq (g:Gp):g.row=[.int .i64 g.lo,.int .i64 g.hi,.int .i64 g.alo,.int .i64 g.ahi,.int .i64 g.stay,.int .i64 g.first,.lst 1 (g.path.map iv)]:=rfl
def Tw.av (t:Tw):AV:=.agg [.lst 1 (t.rooms.map iv),.lst 2 (t.sts.map Sx.row),.lst 7 (t.gs.map Gp.row),.int .i64 t.steps]
@[go_sem] theorem Tw.av_eq (t:Tw):t.av=.agg [.lst 1 (t.rooms.map iv),.lst 2 (t.sts.map Sx.row),.lst 7 (t.gs.map Gp.row),.int .i64 t.steps]:=rfl
def elt (l:List Int) (i:Nat):Int:=l.getD i 0
@[go_sem] theorem ivs_getD {l:List Int} {i:Nat} (h:i < l.length):(l.map iv).getD i []=[.int .i64 (elt l i)]:=by
 simp [List.getD_eq_getElem?_getD,h,iv,elt]
def sx (l:List Sx) (i:Nat):Sx:=l.getD i ⟨0,0⟩
def gp (l:List Gp) (i:Nat):Gp:=l.getD i ⟨0,0,0,0,0,0,[]⟩
@[go_sem] theorem srow_getD {l:List Sx} {i:Nat} (h:i < l.length):(l.map Sx.row).getD i []=(sx l i).row:=by
 simp [List.getD_eq_getElem?_getD,h,sx]
@[go_sem] theorem grow_getD {l:List Gp} {i:Nat} (h:i < l.length):(l.map Gp.row).getD i []=(gp l i).row:=by
 simp [List.getD_eq_getElem?_getD,h,gp]
theorem elt_mem {l:List Int} {i:Nat} (h:i < l.length):elt l i ∈ l:=by
 unfold elt;rw [List.getD_eq_getElem?_getD,List.getElem?_eq_getElem h];exact List.getElem_mem h
theorem sx_mem {l:List Sx} {i:Nat} (h:i < l.length):sx l i ∈ l:=by
 unfold sx;rw [List.getD_eq_getElem?_getD,List.getElem?_eq_getElem h];exact List.getElem_mem h
theorem gp_mem {l:List Gp} {i:Nat} (h:i < l.length):gp l i ∈ l:=by
 unfold gp;rw [List.getD_eq_getElem?_getD,List.getElem?_eq_getElem h];exact List.getElem_mem h
def errN (f:Nat→Int):Nat→Int
 | 0=>0
 | n+1=>if errN f n ≠ 0 then errN f n else f n
theorem errN_next {f:Nat→Int} {i:Nat} (h:errN f i=0):errN f (i+1)=f i:=by
 show (if errN f i ≠ 0 then errN f i else f i)=f i
 rw [if_neg (fun e=>e h)]
theorem errN_keep {f:Nat→Int} {i:Nat} (h:errN f i ≠ 0):∀ {n:Nat},i≤n→errN f n=errN f i
  | 0, hn => by obtain rfl : i = 0 := by omega
                rfl
  | n+1,hn=>by
    by_cases e:i=n+1
    · rw [e]
    · have ih:=errN_keep h (n:=n) (by omega)
      show (if errN f n ≠ 0 then errN f n else f n)=_
      rw [ih,if_pos h]
theorem errN_stop {f:Nat→Int} {i n:Nat} (h:errN f i=0) (hf:f i ≠ 0) (hi:i < n):errN f n=f i:=by
 have e:=errN_next h
 rw [← e]
 exact errN_keep (by rw [e];exact hf) (by omega)
theorem errN_zero {f:Nat→Int}:∀ {n:Nat},errN f n=0→∀ i,i < n→f i=0
 | 0,_,i,hi=>absurd hi (Nat.not_lt_zero _)
 | n+1,h,i,hi=>by
  have h':(if errN f n ≠ 0 then errN f n else f n)=0:=h
  by_cases e:errN f n=0
  ·rw [if_neg (fun h=>h e)] at h'
   by_cases e2:i=n
   ·rw [e2];exact h'
   ·exact errN_zero e i (by omega)
  ·rw [if_pos e] at h';exact absurd h' e
theorem errN_all {f:Nat→Int}:∀ {n:Nat},(∀ i,i < n→f i=0)→errN f n=0
 | 0,_=>rfl
 | n+1,h=>by
  have ih:=errN_all (f:=f) (n:=n) fun i hi=>h i (by omega)
  rw [errN_next ih];exact h n (by omega)
def allIn (lo hi:Int) (l:List Int):Bool:=l.all fun a=>decide (lo≤a∧a≤hi)
theorem allIn_elt {lo hi:Int} {l:List Int} (h:allIn lo hi l=true) (i:Nat) (hi':i < l.length):lo≤elt l i∧elt l i≤hi :=
 of_decide_eq_true (List.all_eq_true.1 h (elt l i) (elt_mem hi'))
def oth (s:Sx) (q:Int):Int:=if q=s.a then s.b else if q=s.b then s.a else -1
def spanE (lo hi m:Int):Int:=if ¬ (0≤lo∧lo≤m∧0≤hi∧hi≤m) then 2 else if hi < lo then 9 else 0
def wayN (t:Tw) (p:List Int) (q:Int):Nat→Int
 | 0=>q
 | i+1=>oth (sx t.sts (elt p i).toNat) (wayN t p q i)
def pathF (t:Tw) (p:List Int) (q:Int) (i:Nat):Int:=if ¬ (0≤elt p i∧elt p i < t.sts.length) then 7 else if wayN t p q (i+1) < 0 then 1 else 0
def grpE (t:Tw) (g:Gp):Int :=
 if spanE g.lo g.hi 1000000 ≠ 0 then spanE g.lo g.hi 1000000 else if spanE g.alo g.ahi 96 ≠ 0 then spanE g.alo g.ahi 96 else if ¬ (1≤g.stay∧g.stay≤96) then 2
 else if ¬ (0≤g.first∧g.first < t.rooms.length) then 7 else if 12 < g.path.length then 5 else errN (pathF t g.path g.first) g.path.length
def stE (t:Tw) (i:Nat):Int:=if ¬ (0≤(sx t.sts i).a∧(sx t.sts i).a < t.rooms.length∧0≤(sx t.sts i).b∧(sx t.sts i).b < t.rooms.length) then 7 else if (sx t.sts i).a=(sx t.sts i).b then 1 else 0
def chkE (t:Tw):Int :=
 if t.rooms.length=0 then 4 else if 12 < t.rooms.length then 5 else if allIn 0 1000000 t.rooms=false then 2 else if 12 < t.sts.length then 5
 else if errN (stE t) t.sts.length ≠ 0 then errN (stE t) t.sts.length else if ¬ (0≤t.steps∧t.steps≤96) then 2 else if 12 < t.gs.length then 5 else errN (fun i=>grpE t (gp t.gs i)) t.gs.length
def cloF (t:Tw) (c:List Int) (i:Nat):Int:=if ¬ (0≤elt c i∧elt c i < t.sts.length) then 7 else if 0 < i∧elt c i≤elt c (i - 1) then 9 else 0
def cloE (t:Tw) (c:List Int):Int:=if chkE t ≠ 0 then chkE t else errN (cloF t c) c.length
structure GpOk (t:Tw) (g:Gp):Prop where
 size:0≤g.lo∧g.lo≤g.hi∧g.hi≤1000000
 at_:0≤g.alo∧g.alo≤g.ahi∧g.ahi≤96
 stay:1≤g.stay∧g.stay≤96
 first:0≤g.first∧g.first < t.rooms.length
 many:g.path.length≤12
 st:∀ i,i < g.path.length→0≤elt g.path i∧elt g.path i < t.sts.length
 way:∀ i,i≤g.path.length→0≤wayN t g.path g.first i
structure TwOk (t:Tw):Prop where
 r0:0 < t.rooms.length
 rn:t.rooms.length≤12
 room:∀ i,i < t.rooms.length→0≤elt t.rooms i∧elt t.rooms i≤1000000
 sn:t.sts.length≤12
 st:∀ i,i < t.sts.length→0≤(sx t.sts i).a∧(sx t.sts i).a < t.rooms.length∧0≤(sx t.sts i).b∧(sx t.sts i).b < t.rooms.length∧(sx t.sts i).a ≠ (sx t.sts i).b
 steps:0≤t.steps∧t.steps≤96
 gn:t.gs.length≤12
 g:∀ i,i < t.gs.length→GpOk t (gp t.gs i)
theorem spanE_zero {lo hi m:Int} (h:spanE lo hi m=0):0≤lo∧lo≤hi∧hi≤m:=by
 unfold spanE at h
 split at h
 ·omega
 ·split at h <;> omega
theorem grpOk {t:Tw} {g:Gp} (h:grpE t g=0):GpOk t g:=by
 unfold grpE at h
 by_cases h1:spanE g.lo g.hi 1000000=0
 case neg=>rw [if_pos h1] at h;exact absurd h h1
 rw [if_neg (fun e=>e h1)] at h
 by_cases h2:spanE g.alo g.ahi 96=0
 case neg=>rw [if_pos h2] at h;exact absurd h h2
 rw [if_neg (fun e=>e h2)] at h
 by_cases h3:1≤g.stay∧g.stay≤96
 case neg=>rw [if_pos h3] at h;cases h
 rw [if_neg (fun e=>e h3)] at h
 by_cases h4:0≤g.first∧g.first < t.rooms.length
 case neg=>rw [if_pos h4] at h;cases h
 rw [if_neg (fun e=>e h4)] at h
 by_cases h5:12 < g.path.length
 ·rw [if_pos h5] at h;cases h
 rw [if_neg h5] at h
 have hz:=errN_zero h
 have hst:∀ i,i < g.path.length→0≤elt g.path i∧elt g.path i < t.sts.length:=fun i hi=>by
  have:=hz i hi
  unfold pathF at this
  by_cases c:0≤elt g.path i∧elt g.path i < t.sts.length
  ·exact c
  ·rw [if_pos c] at this;cases this
 refine ⟨spanE_zero h1,spanE_zero h2,h3,h4,by omega,hst,fun i hi=>?_⟩
 cases i with
 | zero=>exact h4.1
 | succ i =>
  have:=hz i (by omega)
  unfold pathF at this
  rw [if_neg (fun e=>e (hst i (by omega)))] at this
  by_cases c:wayN t g.path g.first (i+1) < 0
  ·rw [if_pos c] at this;cases this
  ·omega
theorem townOk {t:Tw} (h:chkE t=0):TwOk t:=by
 unfold chkE at h
 by_cases h1:t.rooms.length=0
 ·rw [if_pos h1] at h;cases h
 rw [if_neg h1] at h
 by_cases h2:12 < t.rooms.length
 ·rw [if_pos h2] at h;cases h
 rw [if_neg h2] at h
 cases h3:allIn 0 1000000 t.rooms
 ·rw [h3] at h;simp at h
 rw [h3,if_neg (by simp)] at h
 by_cases h4:12 < t.sts.length
 ·rw [if_pos h4] at h;cases h
 rw [if_neg h4] at h
 by_cases h5:errN (stE t) t.sts.length=0
 case neg=>rw [if_pos h5] at h;exact absurd h h5
 rw [if_neg (fun e=>e h5)] at h
 by_cases h6:0≤t.steps∧t.steps≤96
 case neg=>rw [if_pos h6] at h;cases h
 rw [if_neg (fun e=>e h6)] at h
 by_cases h7:12 < t.gs.length
 ·rw [if_pos h7] at h;cases h
 rw [if_neg h7] at h
 refine ⟨by omega,by omega,fun i hi=>allIn_elt h3 i hi,by omega,fun i hi=>?_,h6,by omega,fun i hi=>grpOk (errN_zero h i hi)⟩
 have:=errN_zero h5 i hi
 unfold stE at this
 by_cases c:0≤(sx t.sts i).a∧(sx t.sts i).a < t.rooms.length∧0≤(sx t.sts i).b∧(sx t.sts i).b < t.rooms.length
 ·rw [if_neg (fun e=>e c)] at this
  by_cases c2:(sx t.sts i).a=(sx t.sts i).b
  ·rw [if_pos c2] at this;cases this
  ·exact ⟨c.1,c.2.1,c.2.2.1,c.2.2.2,c2⟩
 ·rw [if_pos c] at this;cases this
def wlk (t:Tw) (s:Nat→Int):List Int→Nat→Int→Int
 | [],k,q=>if 0 < k then -1 else q
 | _ :: _,0,q=>q
 | p :: ps,k+1,q=>if s p.toNat=0 then -2 else if s p.toNat=2 then q else wlk t s ps k (oth (sx t.sts p.toNat) q)
def plc (t:Tw) (s:Nat→Int) (g:Gp) (came step:Int):Int:=if step < came then -1 else wlk t s g.path ((step - came).tdiv g.stay).toNat g.first
def someB (t:Tw) (s:Nat→Int) (g:Gp) (q step:Int):Bool:=(List.range (g.ahi - g.alo+1).toNat).any fun i=>decide (plc t s g (g.alo+i) step=q)
def allB (t:Tw) (s:Nat→Int) (g:Gp) (q step:Int):Bool:=(List.range (g.ahi - g.alo+1).toNat).all fun i=>decide (plc t s g (g.alo+i) step=q)
def sumF (F:Nat→Int):Nat→Int
 | 0=>0
 | n+1=>sumF F n+F n
def loF (t:Tw) (s:Nat→Int) (q step:Int) (i:Nat):Int:=if allB t s (gp t.gs i) q step=true then (gp t.gs i).lo else 0
def hiF (t:Tw) (s:Nat→Int) (q step:Int) (i:Nat):Int:=if someB t s (gp t.gs i) q step=true then (gp t.gs i).hi else 0
def ldLo (t:Tw) (s:Nat→Int) (q step:Int):Int:=sumF (loF t s q step) t.gs.length
def ldHi (t:Tw) (s:Nat→Int) (q step:Int):Int:=sumF (hiF t s q step) t.gs.length
end Go.Proofs.YtoafigpikgigaaaDoor

namespace Go.Proofs.YtoafigpikgigaaaDoor
open Go.Av Go.Txt Go.Lib
set_option maxRecDepth 20000
def gT:Nat→Option (List AV):=fun g=>if g=0 then some powAV else none
theorem c51 (n:Int) (h0:-9223372036854775808≤n) (h1:n≤9223372036854775807):PureG gT Tryd.prog 51 [.int .i64 n] (fun v=>v=.str (itoa n)) :=
 cItoa (ρ:=laysM171_ren) (g:=0) laysM171 Tryd.call51 rfl (by kernel_rfl) n h0 h1
abbrev BdZ:=Bd 105 5
theorem c50 {h0 h:AH} {l:Nat} {bs s:List UInt8} (hB:BdZ h0 h l bs) (hl:bs.length+s.length≤140737488355328) :
  ACalls Tryd.prog 50 [.gptr l 0,.str s] h (fun r h'=>r=.tup [.int .i64 s.length,.nilif]∧BdZ h0 h' l (bs ++ s)∧h'.at_=h.at_∧h'.clk=h.clk∧h'.gl=h.gl):=cWriteString wStr Tryd.call50 hB hl
theorem c52 {h0 h:AH} {l:Nat} {bs:List UInt8} (b:UInt8) (hB:BdZ h0 h l bs) (hl:bs.length+1≤140737488355328) :
  ACalls Tryd.prog 52 [.gptr l 0,.int .u8 b.toNat] h (fun r h'=>r=.nilif∧BdZ h0 h' l (bs ++ [b])∧h'.at_=h.at_∧h'.clk=h.clk∧h'.gl=h.gl):=cWriteByte wByte Tryd.call52 b hB hl
theorem c53 {h0 h:AH} {l:Nat} {bs:List UInt8} (hB:BdZ h0 h l bs) (hl:bs ≠ []) :
  ACalls Tryd.prog 53 [.gptr l 0] h (fun r h'=>r=.str bs∧(∀ i r,h0.lp i=some r→h'.lp i=some r)∧h'.at_=h.at_∧h'.clk=h.clk∧h'.gl=h.gl):=cString (ρ:=lays169_ren) lays169 Builder_Extra_169 Tryd.call53 hB hl
end Go.Proofs.YtoafigpikgigaaaDoor

namespace Go.Proofs.YtoafigpikgigaaaDoor
open Go.Av Go.Txt Go.Lib
attribute [local irreducible] thenA blockA awp awpOps awpD awp1
attribute [local go_sem_proc] Nat.reduceAdd Nat.reduceMul Nat.reduceEqDiff Nat.reduceBEq Nat.reduceLeDiff
attribute [local go_sem_proc ↓] reduceIte
attribute [local go_sem] if_yes if_no
set_option maxHeartbeats 8000000
set_option maxRecDepth 20000
def numsT (l:List Int):List UInt8:=l.flatMap fun n=>32 :: itoa n
def rowT (w:List UInt8) (l:List Int):List UInt8:=w ++ numsT l ++ [10]
def NumOk (l:List Int):Prop:=l.length≤1000000∧∀ x ∈ l,-9223372036854775808≤x∧x≤9223372036854775807
theorem numsT_len {l:List Int} (h:∀ x ∈ l,-9223372036854775808≤x∧x≤9223372036854775807):(numsT l).length≤22 * l.length:=by
 induction l with
 | nil=>exact Nat.le_refl _
 | cons x l ih =>
  have h1:=h x (by simp)
  have h2:=itoa_length_le x h1.1 h1.2
  have h3:=ih (fun y hy=>h y (by simp [hy]))
  unfold numsT at h3 ⊢
  rw [List.flatMap_cons,List.length_append,List.length_cons,List.length_cons]
  omega
theorem numsT_take {l:List Int} {i:Nat} (h:i < l.length):numsT (l.take (i+1))=numsT (l.take i) ++ (32 :: itoa (l.getD i 0)):=by
 unfold numsT
 rw [List.take_succ,List.flatMap_append,List.getElem?_eq_getElem h,List.getD_eq_getElem?_getD,List.getElem?_eq_getElem h]
 simp
theorem iv_getD {l:List Int} {i:Nat} (h:i < l.length):(l.map iv).getD i []=[.int .i64 (l.getD i 0)]:=by
 rw [List.getD_eq_getElem?_getD,List.getElem?_map,List.getElem?_eq_getElem h,List.getD_eq_getElem?_getD,List.getElem?_eq_getElem h];rfl
theorem int_mem {l:List Int} {i:Nat} (h:i < l.length):l.getD i 0 ∈ l:=by
 rw [List.getD_eq_getElem?_getD,List.getElem?_eq_getElem h];exact List.getElem_mem h
theorem c49 (word:List UInt8) (l:List Int) (lb:Nat) (bs:List UInt8) (h0 h:AH) (hgl:h.gl=gT) (hB:BdZ h0 h lb bs) (hn:NumOk l) (hb:bs.length≤1000000000) (hw:word.length≤1000) :
  ACalls Tryd.prog 49 [.str word,.lst 1 (l.map iv),.gptr lb 0] h (fun v h'=>v=.tup []∧BdZ h0 h' lb (bs ++ rowT word l)∧h'.at_=h.at_∧h.clk≤h'.clk∧h'.gl=h.gl):=by
 obtain ⟨hn1,hn2⟩:=hn
 have hB0:BdZ h0 (h.tick (h.clk+1)) lb bs:=hB
 have hlen:∀ i,(numsT (l.take i)).length≤22000000:=fun i=>by
  have:=numsT_len (l:=l.take i) (fun x hx=>hn2 x (List.mem_of_mem_take hx))
  rw [List.length_take] at this
  omega
 refine ACalls.ofS tab Tryd.call49 Tryd.func49 rfl (fi:=⟨21,[],[],none,[]⟩) rfl rfl (Nat.le_of_ble_eq_true rfl) ?_
 unfold startA
 try simp only[go_sem]
 refine asem_awp (fi:=⟨21,[],[],none,[]⟩) tab mixed (by decide) ?_
 repeat' (first|refine st_seq_reg rfl (by first|(simp only[go_sem];rfl)|rfl) (by first|(simp only[go_sem];rfl)|rfl) ?_|refine st_reg rfl (by first|(simp only[go_sem];rfl)|rfl) (by first|(simp only[go_sem];rfl)|rfl) ?_|refine st_op ?_|refine st_det rfl (by simp (disch:=omega) only[go_sem,wr_i64];rfl) ?_|(refine st_callf rfl rfl (c50 hB0 (s:=word) (by omega)) ?_;rintro v' h1 ⟨rfl,hB1,ha1,hk1,hg1⟩)|refine st_condT rfl ?_|refine st_condF rfl ?_|(refine st_condS rfl ?_ ?_ <;> intro hg <;> (try simp only[dcT,dcF,bnT,bnF] at hg))|refine st_nil ?_|refine st_tN ?_|refine st_seq ?_|refine st_block ?_|refine st_skip ?_|refine st_exit ?_|refine st_ret ?_|refine st_tE ?_|refine st_tR ?_|refine st_bN ?_|refine st_bR ?_|refine st_bH ?_|refine st_bM rfl ?_)
 have hgl1:h1.gl=gT:=hg1.trans hgl
 repeat' (first|refine st_seq_reg rfl (by first|(simp only[go_sem,length_map];rfl)|rfl) (by first|(simp only[go_sem,length_map];rfl)|rfl) ?_|refine st_reg rfl (by first|(simp only[go_sem,length_map];rfl)|rfl) (by first|(simp only[go_sem,length_map];rfl)|rfl) ?_|refine st_op ?_|refine st_det rfl (by simp (disch:=omega) only[go_sem,wr_i64,length_map];rfl) ?_|refine st_condT rfl ?_|refine st_condF rfl ?_|(refine st_condS rfl ?_ ?_ <;> intro hg <;> (try simp only[dcT,dcF,bnT,bnF] at hg))|refine st_nil ?_|refine st_tN ?_|refine st_seq ?_|refine st_block ?_|refine st_skip ?_|refine st_exit ?_|refine st_ret ?_|refine st_tE ?_|refine st_tR ?_|refine st_bN ?_|refine st_bR ?_|refine st_bH ?_|refine st_bM rfl ?_)
 refine st_loopH (α:=Nat × AH) tab mixed [] [] (by repeat (first|exact trivial|refine ⟨rfl,?_⟩)) [] [] (by repeat (first|exact trivial|refine ⟨rfl,?_⟩)) (fun a=>[(11,.int .i64 (a.1:Nat))]) [(0,_),(1,_),(2,_),(9,_),(10,_)] (fun _=>[]) [] (fun a=>a.2) (fun a=>a.1≤l.length∧BdZ h0 a.2 lb (bs ++ word ++ numsT (l.take a.1))∧a.2.at_=h.at_∧h.clk≤a.2.clk∧a.2.gl=gT) (fun a=>l.length - a.1) (by decide) (0,_) (by exact ⟨Nat.zero_le _,by show BdZ h0 h1 lb _;simpa [numsT] using hB1,ha1,by simp only[go_sem] at hk1 ⊢;omega,hgl1⟩) (by (try simp only[go_sem]);repeat' (first|exact trivial|refine And.intro ?_ ?_|rfl|(simp (disch:=omega) only[go_sem,if_yes,if_no,if_no];rfl)|(simp (disch:=omega) only[go_sem,if_yes,if_no,if_no]))) (by (try simp only[go_sem]);repeat' (first|exact trivial|refine And.intro ?_ ?_|rfl|(simp (disch:=omega) only[go_sem,if_yes,if_no,if_no];rfl)|(simp (disch:=omega) only[go_sem,if_yes,if_no,if_no]))) (HOld.refl _) ?_
 rintro ⟨i,g2⟩ c2 ⟨hi,hB2,ha2,hk2,hg2⟩ hc2
 dsimp only at hi hB2 ha2 hk2 hg2 hc2
 simp only[go_sem]
 by_cases hil:i < l.length
 case neg =>
  obtain rfl:i=l.length:=by omega
  have hB3:BdZ h0 (g2.tick (c2+1+1)) lb (bs ++ word ++ numsT l):=by rw [List.take_length] at hB2;exact hB2
  have hlt:=hlen l.length
  rw [List.take_length] at hlt
  repeat' (first|refine st_seq_reg rfl (by first|(simp only[go_sem,length_map];rfl)|rfl) (by first|(simp only[go_sem,length_map];rfl)|rfl) ?_|refine st_reg rfl (by first|(simp only[go_sem,length_map];rfl)|rfl) (by first|(simp only[go_sem,length_map];rfl)|rfl) ?_|refine st_op ?_|refine st_det rfl (by simp (disch:=omega) only[go_sem,wr_i64,length_map];rfl) ?_|(refine st_callf rfl rfl (c52 10 hB3 (by simp only[List.length_append];omega)) ?_;rintro v' h2 ⟨rfl,hB4,ha4,hk4,hg4⟩)|refine st_condT rfl ?_|refine st_condF rfl ?_|(refine st_condS rfl ?_ ?_ <;> intro hg <;> (try simp only[dcT,dcF,bnT,bnF] at hg))|refine st_nil ?_|refine st_tN ?_|refine st_seq ?_|refine st_block ?_|refine st_skip ?_|refine st_exit ?_|refine st_ret ?_|refine st_tE ?_|refine st_tR ?_|refine st_bN ?_|refine st_bR ?_|refine st_bH ?_|refine st_bM rfl ?_)
  all_goals try (exfalso;omega)
  simp (disch:=omega) only[AEnd,Tryd.results49,aresK,fin,go_sem,implies_true,true_and,and_true,List.reverse_cons,List.reverse_nil]
  refine ⟨?_,ha4.trans ha2,?_,hg4.trans (hg2.trans hgl.symm)⟩
  ·show BdZ h0 h2 lb _
   have e:bs ++ rowT word l=bs ++ word ++ numsT l ++ [10]:=by unfold rowT;simp [List.append_assoc]
   rw [e];exact hB4
  ·show h.clk≤h2.clk
   have:h2.clk=c2+1+1:=hk4
   omega
 have hx:=hn2 _ (int_mem hil)
 have hit:=itoa_length_le _ hx.1 hx.2
 have hB3:∀ n,BdZ h0 (g2.tick n) lb (bs ++ word ++ numsT (l.take i)):=fun _=>hB2
 have hlt:=hlen i
 repeat' (first|refine st_seq_reg rfl (by first|(simp only[go_sem,length_map,iv_getD hil];rfl)|rfl) (by first|(simp only[go_sem,length_map,iv_getD hil];rfl)|rfl) ?_|refine st_reg rfl (by first|(simp only[go_sem,length_map,iv_getD hil];rfl)|rfl) (by first|(simp only[go_sem,length_map,iv_getD hil];rfl)|rfl) ?_|refine st_op ?_|refine st_det rfl (by simp (disch:=omega) only[go_sem,wr_i64,length_map,iv_getD hil];rfl) ?_|(refine st_pureGE rfl rfl (c51 (l.getD i 0) hx.1 hx.2) (by exact hg2) (by rfl) (by intro n;rfl) ?_;intro n hn)|(refine st_callf rfl rfl (c50 (hB3 _) (s:=32 :: itoa (l.getD i 0)) (by simp only[List.length_append,List.length_cons];omega)) ?_;rintro v' h2 ⟨rfl,hB4,ha4,hk4,hg4⟩)|refine st_condT rfl ?_|refine st_condF rfl ?_|(refine st_condS rfl ?_ ?_ <;> intro hg <;> (try simp only[dcT,dcF,bnT,bnF] at hg))|refine st_nil ?_|refine st_tN ?_|refine st_seq ?_|refine st_block ?_|refine st_skip ?_|refine st_exit ?_|refine st_ret ?_|refine st_tE ?_|refine st_tR ?_|refine st_bN ?_|refine st_bR ?_|refine st_bH ?_|refine st_bM rfl ?_)
 all_goals try (exfalso;omega)
 have hB5:BdZ h0 h2 lb (bs ++ word ++ numsT (l.take (i+1))):=by rw [numsT_take hil,← List.append_assoc];exact hB4
 refine ⟨(i+1,_),(by exact ⟨by show i+1≤l.length;omega,hB5,ha4.trans ha2,by (have e4:h2.clk=n:=hk4;have e5:c2≤n:=Nat.le_trans (Nat.le_add_right _ 3) hn;try simp only[go_sem];omega),hg4.trans hg2⟩),(by show l.length - (i+1) < l.length - i;omega),(by repeat' (first|exact trivial|refine And.intro ?_ ?_|rfl|(simp (disch:=omega) only[go_sem,if_yes,if_no,if_no];rfl)|(simp (disch:=omega) only[go_sem,if_yes,if_no,if_no]))),(by repeat' (first|exact trivial|refine And.intro ?_ ?_|rfl|(simp (disch:=omega) only[go_sem,if_yes,if_no,if_no];rfl)|(simp (disch:=omega) only[go_sem,if_yes,if_no,if_no]))),rfl,HOld.refl _⟩
end Go.Proofs.YtoafigpikgigaaaDoor

namespace Go.Av
theorem VLes.mid {pre post:List AV} {v v':AV} (h:VLe v v'):VLes (pre ++ v :: post) (pre ++ v' :: post):=by
 induction pre with
 | nil=>simp only[List.nil_append,VLes];exact ⟨_,_,rfl,h,VLes.refl _⟩
 | cons x pre ih=>simp only[List.cons_append,VLes];exact ⟨_,_,rfl,VLe.refl _,ih⟩
theorem frzs_app (b:Bid) (k:Blk):∀ (l r:List AV),frzs b k (l ++ r)=frzs b k l ++ frzs b k r
 | [],r=>by simp only[List.nil_append,frzs]
 | x :: l,r=>by simp only[List.cons_append,frzs,frzs_app b k l r]
end Go.Av
namespace Go.Av
variable {P:Program}
theorem ASem.cutWg {r:Option Nat} {n:Nat} {code:Code} {Q:Exit→AS→Prop} {T:Nat→AV} {B:Bid→Option (List AV)} {M:List Nat} {H:AH} (id:Bid) (pre post:List AV) (v:AV) (z:Nat) (l:List (List AV)) {h0:Nat} (hB:B id=some (pre ++ v :: post)) (hS:SlA h0 H v z l)
  (hst:∀ b m,v=.slc b z 0 m→frzs b ⟨z,l⟩ pre=pre∧frzs b ⟨z,l⟩ post=post)
  (h:∀ H',(∀ b',(∀ m,v ≠ .slc b' z 0 m)→H'.at_ b'=H.at_ b')→H'.clk=H.clk→H'.lp=H.lp→H'.gl=H.gl→ASem P r n code Q ⟨T,upd B id (some (pre ++ .lst z l :: post)),M,H'⟩):ASem P r n code Q ⟨T,B,M,H⟩:=by
 refine ASem.cutXg id (fun b=>∃ m,v=.slc b z 0 m) (cs':=pre ++ .lst z l :: post) hB ?_ fun H' h1 h2 h3 h4=>h H' (fun b' hb'=>h1 b' fun ⟨m,e⟩=>hb' m e) h2 h3 h4
 rcases hS with ⟨rfl,rfl⟩|⟨b1,rfl,h2,h3,h4⟩
 ·exact .inl ⟨VLes.pre (VLe.nils z),fun hall=>by simpa [AV.cell] using hall⟩
 ·obtain ⟨e1,e2⟩:=hst b1 _ rfl
  refine .inr ⟨b1,_,h2,?_,_,rfl⟩
  rw [frzs_app,e1]
  simp only[frzs,e2]
  rw [frz_lst]
def Dis (z z':Nat) (v v':AV):Prop:=∀ b m m',v=.slc b z 0 m→v'=.slc b z' 0 m'→False
theorem Dis.frz {z z':Nat} {v v':AV} {h0:Nat} {g:AH} {l':List (List AV)} (hd:Dis z z' v v') (hS:SlA h0 g v' z' l'):∀ b m k,v=.slc b z 0 m→frz b k v'=v':=by
 intro b m k e
 rcases hS with ⟨rfl,_⟩|⟨b2,rfl,_⟩
 ·rfl
 ·have hne:¬ b2=b:=fun q=>hd b m _ e (by rw [q])
  simp only[Av.frz,if_neg (fun q:b2=b∧_=>hne q.1)]
end Go.Av
namespace Go.Txt
open Go.Lib
end Go.Txt

namespace Go.Proofs.YtoafigpikgigaaaDoor
open Go.Av Go.Txt Go.Lib
theorem itoa_nat (n:Nat):itoa (n:Int)=decDigits n:=by
 unfold itoa
 rw [if_neg (by omega)]
 simp
theorem itoa_nn {x:Int} (h:0≤x):itoa x=decDigits x.toNat:=by
 have:=itoa_nat x.toNat
 rwa [Int.toNat_of_nonneg h] at this
theorem dec_len:∀ (k u:Nat),u < 10 ^ (k+1)→(decDigits u).length≤k+1
 | 0,u,h=>by rw [dS (by simpa using h)];simp
 | k+1,u,h=>by
  by_cases h1:u < 10
  ·rw [dS h1];simp
  ·rw [dB h1,List.length_append,List.length_singleton]
   have:=dec_len k (u / 10) (by rw [Nat.pow_succ] at h;omega)
   omega
end Go.Proofs.YtoafigpikgigaaaDoor
