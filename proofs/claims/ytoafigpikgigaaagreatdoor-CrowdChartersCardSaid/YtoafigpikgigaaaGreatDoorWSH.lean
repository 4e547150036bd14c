/- Library functions on texts, told in our own logic: what the kit's contracts say of the concrete world becomes contracts over abstract values. -/
import Derived.Test.YtoafigpikgigaaaGreatDoorPT1
import Derived.Shelf.Strings.Split
import Derived.Shelf.Strconv.Itoa3
import Derived.Shelf.Strconv.AtoiAll
import Derived.Lib.AtoiErrMem
import Derived.Test.YtoafigpikgigaaaGreatDoorProg
import Derived.Shelf.Strings.Builder1
import Derived.Shelf.LaysM
import Derived.Shelf.LaysC
set_option linter.all false
set_option linter.unusedSimpArgs false
set_option linter.unusedVariables false
namespace Go.Av
open Go.Shelf Go.RowKit Go.Proofs Go.Lib Go.Txt
variable {P:Program} {ρ:Ren}
def Cx.fresh (c:Cx) (w':World):Cx:={ c with w:=w',im:=fun i=>c.im i ∨ (c.w.heap.size≤i∧i < w'.heap.size) }
theorem PureG.ofWorld {G:Nat→Option (List AV)} {f:FuncId} {args:List AV} {R:AV→Prop} (he:Enters P f)
  (H:∀ (c:Cx) (xs:List Value),GL c G→VRs c args xs→Calls P f xs.toArray c.w fun e w'=>∃ x v,e=.returned x∧Below c.w.heap.size c.w w'∧R v∧VR (c.fresh w') v x):PureG G P f args R:=by
 intro h hgl
 refine ⟨he,fun c xs HR hv=>(callsIn_wide.2 (H c xs (by have:=HR.gl;rwa [hgl] at this) hv)).mono ?_⟩
 rintro e w' ⟨x,v,rfl,hB,hR,hx⟩
 have hk:∀ b,(RW c h b ∨ c.im b)→w'.heap[b]?=c.w.heap[b]?:=fun b hb=>hB.block b (hb.elim (RW.lt HR) (HR.imlt b))
 have hle:c.Le (c.fresh w'):=⟨fun _ h=>h,fun _ _=>rfl,fun _ h=>.inl h,fun b hb=>hk b (.inr hb)⟩
 refine ⟨v,x,c.fresh w',h,rfl,rfl,hx,⟨HR.clk,fun b k hb=>(HR.blk b k hb).mono hle (hk _ (.inl (.inl ⟨b,k,hb,rfl⟩))),HR.inj,?_,?_,fun l r hr=>(HR.lp l r hr).mono hle (hk l (.inl (.inr ⟨r,hr⟩))),?_,HR.lpat,HR.gl.mono hle⟩,
  ⟨hle,Nat.le_refl _,hB.size,fun b hb _=>hB.block b hb,fun b hb=>hb.imp id fun q=>.inl q.1,fun _ h=>.inr h,fun _ k h _=>⟨k,h⟩,hB.os,hB.output,hB.tape,rfl⟩,fun b hb=>.inl hb,⟨h.clk,Nat.le_refl _,rfl⟩,hR⟩
 ·rintro b k hb (q|q)
  ·exact HR.im b k hb q
  ·exact absurd (RW.lt HR (.inl ⟨b,k,hb,rfl⟩)) (Nat.not_lt.2 q.1)
 ·rintro b (q|q)
  ·exact Nat.lt_of_lt_of_le (HR.imlt b q) hB.size
  ·exact q.2
 ·rintro l r hr (q|q)
  ·exact HR.lpim l r hr q
  ·exact absurd (RW.lt HR (.inr ⟨r,hr⟩)) (Nat.not_lt.2 q.1)
theorem VRs_ints {c:Cx} {k:IntKind}:∀ {zs:List Int} {xs:List Value},VRs c (zs.map fun z=>AV.int k z) xs→xs=zs.map fun z=>Value.int k z
 | [],xs,h=>by simpa [VRs] using h
 | z :: zs,xs,h=>by
  simp only[List.map_cons,VRs,VR] at h
  obtain ⟨x,xs',rfl,rfl,h⟩:=h
  rw [VRs_ints h];rfl
def powAV:List AV:=pow10Tab.map fun z=>AV.int .u64 z
theorem tab_of {G : Nat → Option (List AV)} {c : Cx} {g : Nat} (hc : GL c G) (hg : G g = some powAV) (hn : P.globalNamed "internal/strconv.uint64pow10" = some g) : TabIs P c.w "internal/strconv.uint64pow10" .u64 pow10Tab := by
 obtain ⟨_,_,xs,_,hv,ty,fz,hb⟩:=hc g _ hg
 obtain rfl:=VRs_ints hv
 unfold TabIs World.var?
 rw [hn]
 simp only[Option.bind_some,hb]
theorem cItoa {G : Nat → Option (List AV)} {g : Nat} (L : LaysM.n171 P ρ) (he : Enters P (ρ.f 171)) (hg : G g = some powAV) (hn : P.globalNamed "internal/strconv.uint64pow10" = some g) (n : Int) (h0 : -9223372036854775808 ≤ n) (h1 : n ≤ 9223372036854775807) :
  PureG G P (ρ.f 171) [.int .i64 n] (fun v=>v=.str (itoa n)):=by
 refine PureG.ofWorld he fun c xs hG hv=>?_
 simp only[VRs,VR] at hv
 obtain ⟨x,_,rfl,rfl,rfl⟩:=hv
 refine (Any.strconv_Itoa L n h0 h1 c.w (tab_of hG hg hn)).mono ?_
 rintro e w' ⟨rfl,k,os,rfl⟩
 exact ⟨_,_,rfl,⟨rfl,rfl,rfl,by simp [Go.Sort.grow],fun b hb=>by simp only[Go.Sort.grow];exact Array.getElem?_append_left hb⟩,rfl,by simp [VR]⟩
def atoiV (s:List UInt8):AV:=match atoiAll s with
 | .ok v=>.tup [.int .i64 v,.nilif]
 | .range=>.tup [.int .i64 (atoiSat s),.ifc]
 | _=>.tup [.int .i64 0,.ifc]
theorem cAtoi {G:Nat→Option (List AV)} (L:LaysC.n172 P ρ) (he:Enters P (ρ.f 172)) (hg1:G (ρ.g 15)=some [.ifc]) (hg2:G (ρ.g 16)=some [.ifc]) (s:List UInt8) (hs:s.length≤281474976710656) :
  PureG G P (ρ.f 172) [.str s] (fun v=>v=atoiV s):=by
 refine PureG.ofWorld he fun c xs hG hv=>?_
 simp only[VRs,VR] at hv
 obtain ⟨x,_,rfl,rfl,rfl⟩:=hv
 have hsz:(⟨s.toArray⟩:ByteArray).size=s.length:=by simp [ByteArray.size]
 have ev:∀ g,G g=some [.ifc]→∃ v,c.w.cell? ⟨g,0,none⟩=some v∧(v=.nilIface ∨ ∃ te pe,v=.iface te pe):=by
  intro g hg
  obtain ⟨_,_,xs,hr,hv,_⟩:=hG g _ hg
  simp only[VRs,VR] at hv
  obtain ⟨x,_,rfl,⟨t,y,rfl⟩,rfl⟩:=hv
  exact ⟨_,by simpa using hr 0 _ rfl,.inr ⟨t,y,rfl⟩⟩
 rcases h:atoiAll s with v|_|_
 ·
  refine (Any.strconv_Atoi_ok L ⟨s.toArray⟩ (by rw [hsz];omega) v (by simpa using h) c.w).mono ?_
  rintro e w' ⟨rfl,hw⟩
  refine ⟨_,_,rfl,?_,rfl,by unfold atoiV;rw [h];simp [VR,VRs]⟩
  rcases hw with rfl|⟨t,rfl⟩
  ·exact Below.refl _ _
  ·exact bytesWorld_below _ _ _
 ·
  obtain ⟨v,h1,h2⟩:=ev _ hg1
  refine (Any.strconv_Atoi_syntax L ⟨s.toArray⟩ (by rw [hsz];omega) (by simpa using h) v c.w h1 h2).mono ?_
  rintro e w' ⟨N,rfl,_,_,hB⟩
  exact ⟨_,_,rfl,hB,rfl,by unfold atoiV;rw [h];simp only[VR,VRs];exact ⟨_,rfl,_,_,rfl,rfl,_,_,rfl,⟨_,_,rfl⟩,rfl⟩⟩
 ·
  obtain ⟨v,h1,h2⟩:=ev _ hg2
  refine (Any.strconv_Atoi_range L ⟨s.toArray⟩ (by rw [hsz];omega) (by simpa using h) v c.w h1 h2).mono ?_
  rintro e w' ⟨N,rfl,_,_,hB⟩
  exact ⟨_,_,rfl,hB,rfl,by unfold atoiV;rw [h];simp only[VR,VRs];exact ⟨_,rfl,_,_,rfl,rfl,_,_,rfl,⟨_,_,rfl⟩,rfl⟩⟩
def strs (l:List (List UInt8)):List (List AV):=l.map fun r=>[.str r]
theorem VRss_strs {c:Cx}:∀ {l:List (List UInt8)},VRss c (strs l) (l.map fun r=>[Value.string ⟨r.toArray⟩])
 | []=>by simp [strs,VRss]
 | r :: l=>by
  simp only[strs,List.map_cons,VRss]
  exact ⟨_,_,rfl,by simp [VRs,VR],VRss_strs⟩
theorem cSplit {G:Nat→Option (List AV)} (L:Lays.n146 P ρ) (he:Enters P (ρ.f 146)) (hi9:(P.info? (ρ.t 9)).map (fun i=>(i.zero,i.size,i.bytes))=some (some (.string ByteArray.empty),1,16)) (hg:G (ρ.g 1)=some [.ani])
  (s:List UInt8) (b:UInt8) (hs:s.length < 4294967281):PureG G P (ρ.f 146) [.str s,.str [b]] (fun v=>v=.lst 1 (strs (splitL b s))):=by
 refine PureG.ofWorld he fun c xs hG hv=>?_
 simp only[VRs,VR] at hv
 obtain ⟨x,_,rfl,rfl,x2,_,rfl,rfl,rfl⟩:=hv
 obtain ⟨m,hm⟩:∃ m,c.w.cell? ⟨ρ.g 1,0,none⟩=some (.int .i64 m):=by
  obtain ⟨_,_,xs,hr,hv,_⟩:=hG _ _ hg
  simp only[VRs,VR] at hv
  obtain ⟨x,_,rfl,⟨m,rfl⟩,rfl⟩:=hv
  exact ⟨m,by simpa using hr 0 _ rfl⟩
 have hsz:(⟨s.toArray⟩:ByteArray).size=s.length:=by simp [ByteArray.size]
 refine (Any.strings_Split L hi9 ⟨s.toArray⟩ ⟨#[b]⟩ m c.w (by rw [hsz];exact hs) hm (Nat.le_refl 1)).mono ?_
 rintro e w' ⟨rfl,rfl⟩
 have e1:=splitB_eq b s
 have e2:countB ⟨s.toArray⟩ ⟨#[b]⟩+1=(splitL b s).length:=by
  have:=splitB_all ⟨#[b]⟩ (Nat.le_refl 1) 0 _ (⟨s.toArray⟩:ByteArray) rfl
  rw [e1,List.length_map] at this;exact this.symm
 rw [e1,e2]
 refine ⟨_,_,rfl,⟨rfl,rfl,rfl,by simp,fun k hk=>heap_alloc_old' c.w _ k hk⟩,rfl,?_⟩
 simp only[VR]
 refine ⟨some ⟨c.w.heap.size,0,none⟩,(splitL b s).length,(splitL b s).map fun r=>[Value.string ⟨r.toArray⟩],by simp [strs],by simp [strs],by simp,?_,.inr ⟨c.w.heap.size,0,rfl,.inr ⟨Nat.le_refl _,by simp⟩,?_⟩,VRss_strs⟩
 ·intro r hr
  obtain ⟨q,_,rfl⟩:=List.mem_map.1 hr
  exact ⟨rfl,rfl⟩
 ·intro i row hi j v hj
  rw [List.getElem?_map] at hi
  cases hq:(splitL b s)[i]? with
  | none=>rw [hq] at hi;cases hi
  | some r =>
   rw [hq] at hi
   cases hi
   match j,hj with
   | 0,hj =>
    simp at hj
    subst hj
    have hnew:(c.w.alloc (.cells (((splitL b s).map fun r=>(⟨r.toArray⟩:ByteArray)).map Value.string).toArray (ρ.t 9))).heap[c.w.heap.size]?=some (.cells (((splitL b s).map fun r=>(⟨r.toArray⟩:ByteArray)).map Value.string).toArray (ρ.t 9) (0,0)):=heap_alloc_new c.w _
    show (c.w.alloc _).cell? ⟨c.w.heap.size,0+i * 1+0,none⟩=_
    rw [cell_of_row _ _ _ _ _ _ hnew]
    simp [hq]
theorem strCells_bytes (s:List UInt8):strCells ⟨s.toArray⟩=byteCells s:=by simp [strCells,byteCells]
def WStr (P:Program) (T e:TypeId) (f:FuncId):Prop:=∀ (b:Nat) (p v:Value) (bs:List Value) (s:ByteArray) (w:World),(p=.pointer none ∨ p=.pointer (some ⟨b,0,none⟩))→BAt T e b p v bs w→bs.length+s.size≤140737488355328 →
  Calls P f #[.pointer (some ⟨b,0,none⟩),.string s] w fun r w'=>r=.returned (.tuple #[.int .i64 s.size,.nilIface])∧∃ v',BAt T e b (.pointer (some ⟨b,0,none⟩)) v' (bs ++ strCells s) w'∧Fr b v w w'∧At w v v'
def WByte (P:Program) (T e:TypeId) (f:FuncId):Prop:=∀ (b:Nat) (p v:Value) (bs:List Value) (c:Int) (w:World),(p=.pointer none ∨ p=.pointer (some ⟨b,0,none⟩))→BAt T e b p v bs w→bs.length+1≤140737488355328 →
  Calls P f #[.pointer (some ⟨b,0,none⟩),.int .u8 c] w fun r w'=>r=.returned .nilIface∧∃ v',BAt T e b (.pointer (some ⟨b,0,none⟩)) v' (bs ++ [.int .u8 c]) w'∧Fr b v w w'∧At w v v'
theorem cWriteString {T e:TypeId} {f:FuncId} (W:WStr P T e f) (he:Enters P f) {h0 h:AH} {l:Nat} {bs s:List UInt8} (hB:Bd T e h0 h l bs) (hl:bs.length+s.length≤140737488355328) :
  ACalls P f [.gptr l 0,.str s] h (fun r h'=>r=.tup [.int .i64 s.length,.nilif]∧Bd T e h0 h' l (bs ++ s)∧h'.at_=h.at_∧h'.clk=h.clk∧h'.gl=h.gl):=by
 refine ACalls.bdWrite he hB fun c xs p v hv hp hb=>?_
 simp only[VRs,VR] at hv
 obtain ⟨x,_,rfl,rfl,x2,_,rfl,rfl,rfl⟩:=hv
 have hsz:(⟨s.toArray⟩:ByteArray).size=s.length:=by simp [ByteArray.size]
 refine (W l p v _ ⟨s.toArray⟩ c.w hp hb (by rw [Lib.byteCells_length,hsz];exact hl)).mono ?_
 rintro e w' ⟨rfl,v',h1,h2,h3⟩
 rw [strCells_bytes] at h1
 refine ⟨_,v',rfl,fun c'=>by simp [VR,VRs,hsz],?_,h2,h3⟩
 have e1:byteCells (bs ++ s)=byteCells bs ++ byteCells s:=by simp [byteCells]
 rw [e1];exact h1
theorem cWriteByte {T e:TypeId} {f:FuncId} (W:WByte P T e f) (he:Enters P f) {h0 h:AH} {l:Nat} {bs:List UInt8} (b:UInt8) (hB:Bd T e h0 h l bs) (hl:bs.length+1≤140737488355328) :
  ACalls P f [.gptr l 0,.int .u8 b.toNat] h (fun r h'=>r=.nilif∧Bd T e h0 h' l (bs ++ [b])∧h'.at_=h.at_∧h'.clk=h.clk∧h'.gl=h.gl):=by
 refine ACalls.bdWrite he hB fun c xs p v hv hp hb=>?_
 simp only[VRs,VR] at hv
 obtain ⟨x,_,rfl,rfl,x2,_,rfl,rfl,rfl⟩:=hv
 refine (W l p v _ b.toNat c.w hp hb (by rw [Lib.byteCells_length];exact hl)).mono ?_
 rintro e w' ⟨rfl,v',h1,h2,h3⟩
 refine ⟨_,v',rfl,fun c'=>by simp [VR],?_,h2,h3⟩
 have e1:byteCells (bs ++ [b])=byteCells bs ++ [.int .u8 b.toNat]:=by simp [byteCells]
 rw [e1];exact h1
theorem cString (L:Lays.n169 P ρ) (X:Builder.Extra P ρ) (he:Enters P (ρ.f 169)) {h0 h:AH} {l:Nat} {bs:List UInt8} (hB:Bd (ρ.t 72) (ρ.t 5) h0 h l bs) (hl:bs ≠ []) :
  ACalls P (ρ.f 169) [.gptr l 0] h (fun r h'=>r=.str bs∧(∀ i r,h0.lp i=some r→h'.lp i=some r)∧h'.at_=h.at_∧h'.clk=h.clk∧h'.gl=h.gl):=by
 refine ACalls.bdDone he hB fun c xs p v hv hb=>?_
 simp only[VRs,VR] at hv
 obtain ⟨x,_,rfl,rfl,rfl⟩:=hv
 refine (Wr_Done L X l p v bs c.w hb hl).mono ?_
 rintro e w' ⟨rfl,h2⟩
 exact ⟨_,rfl,fun c'=>by simp [VR],h2⟩
end Go.Av

namespace Go.Proofs.YtoafigpikgigaaaGreatDoor
open Go.Shelf Go.RowKit Go.Lib Go.Txt Go.Av
theorem sizeBuilder:(Tryz.prog.info? 75).map (·.size)=some 2:=by kernel_rfl
theorem liesBuilder:liesAt Tryz.prog Tryz.prog.depth 75 (2 / Tryz.prog.cellsOf 75) 0 75 1=true:=by kernel_rfl
theorem infoByte:(Tryz.prog.info? 5).map (fun i=>(i.zero,i.size,i.bytes))=some (some (.int .u8 0),1,1):=by kernel_rfl
theorem info_parts {t:TypeId} {z:Value} {s b:Nat} (h:(Tryz.prog.info? t).map (fun i=>(i.zero,i.size,i.bytes))=some (some z,s,b)):∃ i,Tryz.prog.info? t=some i∧i.zero=some z∧i.size=s∧i.bytes=b:=by
 obtain ⟨i,hi,h2⟩:=Option.map_eq_some_iff.1 h
 simp only[Prod.mk.injEq] at h2
 exact ⟨i,hi,h2.1,h2.2.1,h2.2.2⟩
set_option maxHeartbeats 1000000 in
set_option maxRecDepth 100000 in
theorem cc_used (b:Nat) (w:World) (h0:w.cell? ⟨b,0,none⟩=some (.pointer (some ⟨b,0,none⟩))) :
  Calls Tryz.prog 59 #[.pointer (some ⟨b,0,none⟩)] w fun e w'=>e=.returned (.tuple #[])∧w'=w:=by
 obtain ⟨j,hj,_⟩:=Option.map_eq_some_iff.1 sizeBuilder
 go_enter Tryz.func59,Tryz.ntmps59
 go_wp2
 rw [Lib.run_neq_ptr_same w _ Tryz.underlying72 hj]
 go_wp2
 go_end0
 exact ⟨rfl,rfl⟩
set_option maxHeartbeats 1000000 in
set_option maxRecDepth 100000 in
theorem cc_fresh (b:Nat) (w:World) (h0:w.cell? ⟨b,0,none⟩=some (.pointer none)) (hsh:w.shape? b=some (75,2)) (hfz:w.frozen? ⟨b,0,none⟩=false) :
  Calls Tryz.prog 59 #[.pointer (some ⟨b,0,none⟩)] w fun e w'=>e=.returned (.tuple #[])∧w'=w.setCell ⟨b,0,none⟩ (.pointer (some ⟨b,0,none⟩)):=by
 obtain ⟨j,hj,hjs⟩:=Option.map_eq_some_iff.1 sizeBuilder
 go_enter Tryz.func59,Tryz.ntmps59
 go_wp2
 rw [Lib.run_to_unsafe w ⟨b,0,none⟩ Tryz.underlying72 Tryz.underlying128 hj (by rw [hjs];decide) hsh (Nat.zero_lt_succ 1)]
 simp only[Result.andThen]
 rw [Oper.upon_value]
 go_wp2
 rw [run_callFunc_extern Tryz.func74 (by kernel_rfl) (by kernel_rfl) (by kernel_rfl) (e:=Extern.AbiNoEscape.same) (by kernel_rfl)]
 rw [Lib.run_noEscape]
 simp only[Result.andThen]
 rw [Oper.upon_value]
 go_wp2
 rw [Lib.run_from_unsafe w ⟨b,0,none⟩ Tryz.underlying128 Tryz.underlying72 hj hsh liesBuilder]
 simp only[Result.andThen]
 rw [Oper.upon_value]
 go_wp2
 go_end0
 exact ⟨rfl,rfl⟩
theorem cc_at (b:Nat) (p v:Value) (bs:List Value) (w:World) (hp:p=.pointer none ∨ p=.pointer (some ⟨b,0,none⟩)) (h:BAt 75 5 b p v bs w) :
  Calls Tryz.prog 59 #[.pointer (some ⟨b,0,none⟩)] w fun e w'=>e=.returned (.tuple #[])∧BAt 75 5 b (.pointer (some ⟨b,0,none⟩)) v bs w' ∧
   w'.heap.size=w.heap.size∧w'.os=w.os∧w'.tape=w.tape∧w'.output=w.output∧∀ k,k ≠ b→w'.heap[k]?=w.heap[k]?:=by
 obtain ⟨h1,h2,h3⟩:=h
 have c0:w.cell? ⟨b,0,none⟩=some p:=by rw [Lib.cell_of_heap h1];rfl
 rcases hp with rfl|rfl
 ·refine (cc_fresh b w c0 (by simp [World.shape?,h1]) (Lib.frozen_of_heap h1 0)).mono ?_
  rintro e w' ⟨rfl,rfl⟩
  have hk:∀ k,k ≠ b→(w.setCell ⟨b,0,none⟩ (.pointer (some ⟨b,0,none⟩))).heap[k]?=w.heap[k]?:=fun k hk=>Below.heap_setCell _ _ _ _ hk
  refine ⟨rfl,⟨?_,owns_of h2 (fun g hg=>hk g (fun e=>h3 (by rw [hg,e]))),h3⟩,?_,rfl,rfl,rfl,hk⟩
  ·simp only[World.setCell,Array.getElem?_modify,if_true,h1]
   rfl
  ·simp [World.setCell]
 ·refine (cc_used b w c0).mono ?_
  rintro e w' ⟨rfl,rfl⟩
  exact ⟨rfl,⟨h1,h2,h3⟩,rfl,rfl,rfl,rfl,fun _ _=>rfl⟩
set_option maxHeartbeats 2000000 in
set_option maxRecDepth 100000 in
theorem Wr_String (b:Nat) (p v:Value) (bs:List Value) (s:ByteArray) (w:World) (hp:p=.pointer none ∨ p=.pointer (some ⟨b,0,none⟩)) (h:BAt 75 5 b p v bs w) (hlen:bs.length+s.size≤140737488355328) :
  Calls Tryz.prog 34 #[.pointer (some ⟨b,0,none⟩),.string s] w fun e w'=>e=.returned (.tuple #[.int .i64 s.size,.nilIface])∧∃ v',BAt 75 5 b (.pointer (some ⟨b,0,none⟩)) v' (bs ++ strCells s) w'∧Fr b v w w'∧At w v v':=by
 obtain ⟨i0,hi,hz0,hz1,hz2⟩:=info_parts infoByte
 go_enter Tryz.func34,Tryz.ntmps34
 go_wp2_with (go_at_call 59;refine (cc_at b p v bs _ hp h).mono ?_)
 rintro e w1 ⟨rfl,hw1,hsz,hos,htp,hou,hk1⟩
 obtain ⟨b1,b2,b3⟩:=hw1
 have c0:w1.cell? ⟨b,0,none⟩=some (.pointer (some ⟨b,0,none⟩)):=by rw [Lib.cell_of_heap b1];rfl
 have c1:w1.cell? ⟨b,1,none⟩=some v:=by rw [Lib.cell_of_heap b1];rfl
 obtain ⟨v',w2,hr,hown',hgrow,hat⟩:=app_str_at (P:=Tryz.prog) 73 9 73 5 i0 Tryz.underlying73 Tryz.underlying9 hi hz0 hz1 hz2 v bs.length bs b2 s (by unfold maxLen;omega) hlen
 have hlt:b < w1.heap.size:=(Array.getElem?_eq_some_iff.1 b1).1
 have hb2:w2.heap[b]?=some (.cells #[.pointer (some ⟨b,0,none⟩),v] 75 (0,0)):=(hgrow.block b hlt (fun e=>b3 e.symm)).trans b1
 have d0:w2.cell? ⟨b,0,none⟩=some (.pointer (some ⟨b,0,none⟩)):=by rw [Lib.cell_of_heap hb2];rfl
 have d1:w2.cell? ⟨b,1,none⟩=some v:=by rw [Lib.cell_of_heap hb2];rfl
 have f1:w2.frozen? ⟨b,1,none⟩=false:=Lib.frozen_of_heap hb2 1
 obtain ⟨ao,n',cap,rfl⟩:∃ ao n' cap,v'=.slice ao n' cap:=by
  rcases hown'.2 with ⟨hv,_⟩|⟨g,cap,cur,hv,_⟩
  ·exact ⟨_,_,_,hv⟩
  ·exact ⟨_,_,_,hv⟩
 go_wp2_with (at_builtin;refine wpList_app rfl _ _ 73 9 rfl v (.string s) (.slice ao n' cap) w2 rfl rfl hr ?_)
 go_ret2
 exact ⟨rfl,wr_fin (w1:=w1) (w2:=w2) (v':=.slice ao n' cap) (by decide) ⟨b1,b2,b3⟩ hsz hos htp hou hk1 hb2 hgrow (by simpa [strCells_length] using hown') hat⟩
set_option maxHeartbeats 2000000 in
set_option maxRecDepth 100000 in
theorem Wr_Byte (b:Nat) (p v:Value) (bs:List Value) (c:Int) (w:World) (hp:p=.pointer none ∨ p=.pointer (some ⟨b,0,none⟩)) (h:BAt 75 5 b p v bs w) (hlen:bs.length+1≤140737488355328) :
  Calls Tryz.prog 36 #[.pointer (some ⟨b,0,none⟩),.int .u8 c] w fun e w'=>e=.returned .nilIface∧∃ v',BAt 75 5 b (.pointer (some ⟨b,0,none⟩)) v' (bs ++ [.int .u8 c]) w'∧Fr b v w w'∧At w v v':=by
 obtain ⟨i0,hi,hz0,hz1,hz2⟩:=info_parts infoByte
 go_enter Tryz.func36,Tryz.ntmps36
 go_wp2_with (go_at_call 59;refine (cc_at b p v bs _ hp h).mono ?_)
 rintro e w1 ⟨rfl,hw1,hsz,hos,htp,hou,hk1⟩
 have hs1:w1.heap.size≤w.heap.size:=Nat.le_of_eq hsz
 have hs2:w.heap.size≤w1.heap.size:=Nat.le_of_eq hsz.symm
 clear hsz
 obtain ⟨b1,b2,b3⟩:=hw1
 have c0:w1.cell? ⟨b,0,none⟩=some (.pointer (some ⟨b,0,none⟩)):=by rw [Lib.cell_of_heap b1];rfl
 have c1:w1.cell? ⟨b,1,none⟩=some v:=by rw [Lib.cell_of_heap b1];rfl
 have hlt:b < w1.heap.size:=(Array.getElem?_eq_some_iff.1 b1).1
 have hown1:(w1.alloc (.cells #[.int .u8 c] 5)).ownsRow 0 5 1 v bs.length bs:=owns_of b2 (fun g hg=>Lib.alloc_old w1 _ g (owns_lt b2 hg))
 obtain ⟨v',w2,hr,hown',hgrow,hat⟩:=app_one_at (P:=Tryz.prog) (w:=w1.alloc (.cells #[.int .u8 c] 5)) 73 73 5 i0 Tryz.underlying73 hi hz0 hz1 hz2 v bs.length bs hown1 ⟨w1.heap.size,0,none⟩ c (by simp) hlen
 have hb2:w2.heap[b]?=some (.cells #[.pointer (some ⟨b,0,none⟩),v] 75 (0,0)):=by
  rw [hgrow.block b (by simp;omega) (fun e=>b3 e.symm),Lib.alloc_old w1 _ b hlt]
  exact b1
 have d0:w2.cell? ⟨b,0,none⟩=some (.pointer (some ⟨b,0,none⟩)):=by rw [Lib.cell_of_heap hb2];rfl
 have d1:w2.cell? ⟨b,1,none⟩=some v:=by rw [Lib.cell_of_heap hb2];rfl
 have f1:w2.frozen? ⟨b,1,none⟩=false:=Lib.frozen_of_heap hb2 1
 obtain ⟨ao,n',cap,rfl⟩:∃ ao n' cap,v'=.slice ao n' cap:=by
  rcases hown'.2 with ⟨hv,_⟩|⟨g,cap,cur,hv,_⟩
  ·exact ⟨_,_,_,hv⟩
  ·exact ⟨_,_,_,hv⟩
 go_wp2_with (at_builtin;refine wpList_app rfl _ _ 73 73 rfl v (.slice (some ⟨w1.heap.size,0,none⟩) 1 1) (.slice ao n' cap) w2 rfl rfl hr ?_)
 go_ret
 have hg2:w1.grownBy w2 v.ownBlock:=⟨hgrow.os,hgrow.tape,hgrow.output,Nat.le_trans (by simp) hgrow.size,fun k hk hn=>(hgrow.block k (by simp;omega) hn).trans (Lib.alloc_old w1 _ k hk)⟩
 have hat2:At w1 v (.slice ao n' cap):=hat.imp id fun ⟨g,h1,h2⟩=>⟨g,h1,Nat.le_trans (by simp) h2⟩
 exact ⟨rfl,wr_fin (w1:=w1) (w2:=w2) (v':=.slice ao n' cap) (by decide) ⟨b1,b2,b3⟩ (Nat.le_antisymm hs1 hs2) hos htp hou hk1 hb2 hg2 (by simpa using hown') hat2⟩
theorem wStr:WStr Tryz.prog 75 5 34:=Wr_String
theorem wByte:WByte Tryz.prog 75 5 36:=Wr_Byte
end Go.Proofs.YtoafigpikgigaaaGreatDoor

namespace Go.Proofs.YtoafigpikgigaaaGreatDoor
open Go.Shelf
def lays169_ren:Go.Shelf.Ren:=⟨fun|169=>37|n=>n,fun|70=>72|9=>9|0=>0|72=>75|37=>73|127=>110|3=>3|5=>5|n=>n,fun|n=>n⟩
theorem lays169:Go.Proofs.Lays.n169 Tryz.prog lays169_ren:={
 mixed:=by kernel_rfl
 f169:=Tryz.func37.trans (congrArg some (by kernel_rfl))
 t0:=Tryz.underlying0
 a0:=Tryz.isAgg0
 z0:=Tryz.sizeOf0
 v0:=Tryz.zeroValue0
 t3:=Tryz.underlying3
 a3:=Tryz.isAgg3
 z3:=Tryz.sizeOf3
 v3:=Tryz.zeroValue3
 t9:=Tryz.underlying9
 a9:=Tryz.isAgg9
 z9:=Tryz.sizeOf9
 v9:=Tryz.zeroValue9
 t37:=Tryz.underlying73
 a37:=Tryz.isAgg73
 z37:=Tryz.sizeOf73
 v37:=Tryz.zeroValue73
 t70:=Tryz.underlying72
 a70:=Tryz.isAgg72
 z70:=Tryz.sizeOf72
 v70:=Tryz.zeroValue72
 t72:=Tryz.underlying75
 a72:=Tryz.isAgg75
 z72:=Tryz.sizeOf75
 v72:=Tryz.zeroValue75
 t127:=Tryz.underlying110
 a127:=Tryz.isAgg110
 z127:=Tryz.sizeOf110
 v127:=Tryz.zeroValue110 }
theorem Builder_Extra_169:Builder.Extra Tryz.prog lays169_ren:={
 sizeBuilder:=by kernel_rfl
 liesBuilder:=by kernel_rfl
 t5:=Tryz.underlying5
 a5:=Tryz.isAgg5
 z5:=Tryz.sizeOf5
 v5:=Tryz.zeroValue5
 infoByte:=by kernel_rfl
 cellsByte:=by kernel_rfl
 sizeByte:=by kernel_rfl
 neB5:=by decide }
def laysM171_ren:Go.Shelf.Ren:=⟨fun|171=>35|243=>60|246=>75|283=>86|284=>87|285=>88|286=>89|129=>101|317=>100|318=>102|319=>103|320=>104|337=>113|338=>114|n=>n,fun|3=>3|9=>9|2=>2|4=>4|171=>140|0=>0|53=>68|37=>73|5=>5|173=>143|212=>157|51=>158|20=>20|213=>159|46=>109|232=>179|233=>180|n=>n,fun|17=>0|18=>6|19=>7|n=>n⟩
theorem laysM171:Go.Proofs.LaysM.n171 Tryz.prog laysM171_ren:={
 mixed:=by kernel_rfl
 f129:=Tryz.func101.trans (congrArg some (by kernel_rfl))
 f171:=Tryz.func35.trans (congrArg some (by kernel_rfl))
 f243:=Tryz.func60.trans (congrArg some (by kernel_rfl))
 f246:=Tryz.func75.trans (congrArg some (by kernel_rfl))
 f283:=Tryz.func86.trans (congrArg some (by kernel_rfl))
 f284:=Tryz.func87.trans (congrArg some (by kernel_rfl))
 f285:=Tryz.func88.trans (congrArg some (by kernel_rfl))
 f286:=Tryz.func89.trans (congrArg some (by kernel_rfl))
 f317:=Tryz.func100.trans (congrArg some (by kernel_rfl))
 f318:=Tryz.func102.trans (congrArg some (by kernel_rfl))
 f319:=Tryz.func103.trans (congrArg some (by kernel_rfl))
 f320:=Tryz.func104.trans (congrArg some (by kernel_rfl))
 f337:=Tryz.func113.trans (congrArg some (by kernel_rfl))
 f338:=Tryz.func114.trans (congrArg some (by kernel_rfl))
 t0:=Tryz.underlying0
 a0:=Tryz.isAgg0
 z0:=Tryz.sizeOf0
 v0:=Tryz.zeroValue0
 t2:=Tryz.underlying2
 a2:=Tryz.isAgg2
 z2:=Tryz.sizeOf2
 v2:=Tryz.zeroValue2
 t3:=Tryz.underlying3
 a3:=Tryz.isAgg3
 z3:=Tryz.sizeOf3
 v3:=Tryz.zeroValue3
 t4:=Tryz.underlying4
 a4:=Tryz.isAgg4
 z4:=Tryz.sizeOf4
 v4:=Tryz.zeroValue4
 t5:=Tryz.underlying5
 a5:=Tryz.isAgg5
 z5:=Tryz.sizeOf5
 v5:=Tryz.zeroValue5
 t9:=Tryz.underlying9
 a9:=Tryz.isAgg9
 z9:=Tryz.sizeOf9
 v9:=Tryz.zeroValue9
 t20:=Tryz.underlying20
 a20:=Tryz.isAgg20
 z20:=Tryz.sizeOf20
 v20:=Tryz.zeroValue20
 t37:=Tryz.underlying73
 a37:=Tryz.isAgg73
 z37:=Tryz.sizeOf73
 v37:=Tryz.zeroValue73
 t46:=Tryz.underlying109
 a46:=Tryz.isAgg109
 z46:=Tryz.sizeOf109
 v46:=Tryz.zeroValue109
 t51:=Tryz.underlying158
 a51:=Tryz.isAgg158
 z51:=Tryz.sizeOf158
 v51:=Tryz.zeroValue158
 t53:=Tryz.underlying68
 a53:=Tryz.isAgg68
 z53:=Tryz.sizeOf68
 v53:=Tryz.zeroValue68
 t171:=Tryz.underlying140
 a171:=Tryz.isAgg140
 z171:=Tryz.sizeOf140
 v171:=Tryz.zeroValue140
 t173:=Tryz.underlying143
 a173:=Tryz.isAgg143
 z173:=Tryz.sizeOf143
 v173:=Tryz.zeroValue143
 t212:=Tryz.underlying157
 a212:=Tryz.isAgg157
 z212:=Tryz.sizeOf157
 v212:=Tryz.zeroValue157
 t213:=Tryz.underlying159
 a213:=Tryz.isAgg159
 z213:=Tryz.sizeOf159
 t232:=Tryz.underlying179
 a232:=Tryz.isAgg179
 z232:=Tryz.sizeOf179
 v232:=Tryz.zeroValue179
 t233:=Tryz.underlying180
 a233:=Tryz.isAgg180
 z233:=Tryz.sizeOf180
 v233:=Tryz.zeroValue180
 g17:=by kernel_rfl
 g18:=by kernel_rfl
 g19:=by kernel_rfl
 i0:=by kernel_rfl
 i2:=by kernel_rfl
 i3:=by kernel_rfl
 i4:=by kernel_rfl
 i5:=by kernel_rfl
 i9:=by kernel_rfl
 i20:=by kernel_rfl
 i37:=by kernel_rfl
 i46:=by kernel_rfl
 i51:=by kernel_rfl
 i53:=by kernel_rfl
 i171:=by kernel_rfl
 i173:=by kernel_rfl
 i212:=by kernel_rfl
 i232:=by kernel_rfl
 i233:=by kernel_rfl
 m17:=by kernel_rfl
 m18:=by kernel_rfl
 m19:=by kernel_rfl }
def laysC172_ren:Go.Shelf.Ren:=⟨fun|172=>62|244=>79|245=>80|247=>94|279=>95|280=>96|281=>97|282=>98|287=>110|316=>111|171=>35|205=>112|321=>117|322=>118|243=>60|246=>75|283=>86|284=>87|285=>88|286=>89|129=>101|317=>100|318=>102|319=>103|320=>104|337=>113|338=>114|n=>n,fun|9=>9|3=>3|75=>77|76=>78|4=>4|5=>5|167=>149|37=>73|0=>0|85=>150|2=>2|168=>152|53=>68|175=>161|46=>109|210=>165|127=>110|145=>178|143=>176|21=>21|171=>140|173=>143|212=>157|51=>158|20=>20|213=>159|232=>179|233=>180|80=>83|n=>n,fun|15=>2|16=>3|17=>0|18=>6|19=>7|n=>n⟩
theorem laysC172:Go.Proofs.LaysC.n172 Tryz.prog laysC172_ren:={
 mixed:=by kernel_rfl
 f129:=Tryz.func101.trans (congrArg some (by kernel_rfl))
 f171:=Tryz.func35.trans (congrArg some (by kernel_rfl))
 f172:=Tryz.func62.trans (congrArg some (by kernel_rfl))
 f205:=Tryz.func112.trans (congrArg some (by kernel_rfl))
 f243:=Tryz.func60.trans (congrArg some (by kernel_rfl))
 f244:=Tryz.func79.trans (congrArg some (by kernel_rfl))
 f245:=Tryz.func80.trans (congrArg some (by kernel_rfl))
 f246:=Tryz.func75.trans (congrArg some (by kernel_rfl))
 f247:=Tryz.func94.trans (congrArg some (by kernel_rfl))
 f279:=Tryz.func95.trans (congrArg some (by kernel_rfl))
 f280:=Tryz.func96.trans (congrArg some (by kernel_rfl))
 f281:=Tryz.func97.trans (congrArg some (by kernel_rfl))
 f282:=Tryz.func98.trans (congrArg some (by kernel_rfl))
 f283:=Tryz.func86.trans (congrArg some (by kernel_rfl))
 f284:=Tryz.func87.trans (congrArg some (by kernel_rfl))
 f285:=Tryz.func88.trans (congrArg some (by kernel_rfl))
 f286:=Tryz.func89.trans (congrArg some (by kernel_rfl))
 f287:=Tryz.func110.trans (congrArg some (by kernel_rfl))
 f316:=Tryz.func111.trans (congrArg some (by kernel_rfl))
 f317:=Tryz.func100.trans (congrArg some (by kernel_rfl))
 f318:=Tryz.func102.trans (congrArg some (by kernel_rfl))
 f319:=Tryz.func103.trans (congrArg some (by kernel_rfl))
 f320:=Tryz.func104.trans (congrArg some (by kernel_rfl))
 f321:=Tryz.func117.trans (congrArg some (by kernel_rfl))
 f322:=Tryz.func118.trans (congrArg some (by kernel_rfl))
 f337:=Tryz.func113.trans (congrArg some (by kernel_rfl))
 f338:=Tryz.func114.trans (congrArg some (by kernel_rfl))
 t0:=Tryz.underlying0
 a0:=Tryz.isAgg0
 z0:=Tryz.sizeOf0
 v0:=Tryz.zeroValue0
 t2:=Tryz.underlying2
 a2:=Tryz.isAgg2
 z2:=Tryz.sizeOf2
 v2:=Tryz.zeroValue2
 t3:=Tryz.underlying3
 a3:=Tryz.isAgg3
 z3:=Tryz.sizeOf3
 v3:=Tryz.zeroValue3
 t4:=Tryz.underlying4
 a4:=Tryz.isAgg4
 z4:=Tryz.sizeOf4
 v4:=Tryz.zeroValue4
 t5:=Tryz.underlying5
 a5:=Tryz.isAgg5
 z5:=Tryz.sizeOf5
 v5:=Tryz.zeroValue5
 t9:=Tryz.underlying9
 a9:=Tryz.isAgg9
 z9:=Tryz.sizeOf9
 v9:=Tryz.zeroValue9
 t20:=Tryz.underlying20
 a20:=Tryz.isAgg20
 z20:=Tryz.sizeOf20
 v20:=Tryz.zeroValue20
 t21:=Tryz.underlying21
 a21:=Tryz.isAgg21
 z21:=Tryz.sizeOf21
 v21:=Tryz.zeroValue21
 t37:=Tryz.underlying73
 a37:=Tryz.isAgg73
 z37:=Tryz.sizeOf73
 v37:=Tryz.zeroValue73
 t46:=Tryz.underlying109
 a46:=Tryz.isAgg109
 z46:=Tryz.sizeOf109
 v46:=Tryz.zeroValue109
 t51:=Tryz.underlying158
 a51:=Tryz.isAgg158
 z51:=Tryz.sizeOf158
 v51:=Tryz.zeroValue158
 t53:=Tryz.underlying68
 a53:=Tryz.isAgg68
 z53:=Tryz.sizeOf68
 v53:=Tryz.zeroValue68
 t75:=Tryz.underlying77
 a75:=Tryz.isAgg77
 z75:=Tryz.sizeOf77
 v75:=Tryz.zeroValue77
 t76:=Tryz.underlying78
 a76:=Tryz.isAgg78
 z76:=Tryz.sizeOf78
 v76:=Tryz.zeroValue78
 t85:=Tryz.underlying150
 a85:=Tryz.isAgg150
 z85:=Tryz.sizeOf150
 v85:=Tryz.zeroValue150
 t127:=Tryz.underlying110
 a127:=Tryz.isAgg110
 z127:=Tryz.sizeOf110
 v127:=Tryz.zeroValue110
 t143:=Tryz.underlying176
 a143:=Tryz.isAgg176
 z143:=Tryz.sizeOf176
 v143:=Tryz.zeroValue176
 t145:=Tryz.underlying178
 a145:=Tryz.isAgg178
 z145:=Tryz.sizeOf178
 v145:=Tryz.zeroValue178
 t167:=Tryz.underlying149
 a167:=Tryz.isAgg149
 z167:=Tryz.sizeOf149
 v167:=Tryz.zeroValue149
 t168:=Tryz.underlying152
 a168:=Tryz.isAgg152
 z168:=Tryz.sizeOf152
 v168:=Tryz.zeroValue152
 t171:=Tryz.underlying140
 a171:=Tryz.isAgg140
 z171:=Tryz.sizeOf140
 v171:=Tryz.zeroValue140
 t173:=Tryz.underlying143
 a173:=Tryz.isAgg143
 z173:=Tryz.sizeOf143
 v173:=Tryz.zeroValue143
 t175:=Tryz.underlying161
 a175:=Tryz.isAgg161
 z175:=Tryz.sizeOf161
 v175:=Tryz.zeroValue161
 t210:=Tryz.underlying165
 a210:=Tryz.isAgg165
 z210:=Tryz.sizeOf165
 v210:=Tryz.zeroValue165
 t212:=Tryz.underlying157
 a212:=Tryz.isAgg157
 z212:=Tryz.sizeOf157
 v212:=Tryz.zeroValue157
 t213:=Tryz.underlying159
 a213:=Tryz.isAgg159
 z213:=Tryz.sizeOf159
 t232:=Tryz.underlying179
 a232:=Tryz.isAgg179
 z232:=Tryz.sizeOf179
 v232:=Tryz.zeroValue179
 t233:=Tryz.underlying180
 a233:=Tryz.isAgg180
 z233:=Tryz.sizeOf180
 v233:=Tryz.zeroValue180
 g15:=by kernel_rfl
 g16:=by kernel_rfl
 g17:=by kernel_rfl
 g18:=by kernel_rfl
 g19:=by kernel_rfl
 t80:=Tryz.underlying83
 a80:=Tryz.isAgg83
 z80:=Tryz.sizeOf83
 v80:=Tryz.zeroValue83
 i0:=by kernel_rfl
 i2:=by kernel_rfl
 i3:=by kernel_rfl
 i4:=by kernel_rfl
 i5:=by kernel_rfl
 i9:=by kernel_rfl
 i20:=by kernel_rfl
 i21:=by kernel_rfl
 i37:=by kernel_rfl
 i46:=by kernel_rfl
 i51:=by kernel_rfl
 i53:=by kernel_rfl
 i75:=by kernel_rfl
 i76:=by kernel_rfl
 i80:=by kernel_rfl
 i85:=by kernel_rfl
 i127:=by kernel_rfl
 i143:=by kernel_rfl
 i145:=by kernel_rfl
 i167:=by kernel_rfl
 i168:=by kernel_rfl
 i171:=by kernel_rfl
 i173:=by kernel_rfl
 i175:=by kernel_rfl
 i210:=by kernel_rfl
 i212:=by kernel_rfl
 i232:=by kernel_rfl
 i233:=by kernel_rfl
 m15:=by kernel_rfl
 m16:=by kernel_rfl
 m17:=by kernel_rfl
 m18:=by kernel_rfl
 m19:=by kernel_rfl
 c0:=by kernel_rfl
 c2:=by kernel_rfl
 c3:=by kernel_rfl
 c4:=by kernel_rfl
 c5:=by kernel_rfl
 c9:=by kernel_rfl
 c20:=by kernel_rfl
 c21:=by kernel_rfl
 c37:=by kernel_rfl
 c46:=by kernel_rfl
 c51:=by kernel_rfl
 c53:=by kernel_rfl
 c75:=by kernel_rfl
 c76:=by kernel_rfl
 c80:=by kernel_rfl
 c85:=by kernel_rfl
 c127:=by kernel_rfl
 c143:=by kernel_rfl
 c145:=by kernel_rfl
 c167:=by kernel_rfl
 c168:=by kernel_rfl
 c171:=by kernel_rfl
 c173:=by kernel_rfl
 c175:=by kernel_rfl
 c210:=by kernel_rfl
 c212:=by kernel_rfl
 c213:=by kernel_rfl
 c232:=by kernel_rfl
 c233:=by kernel_rfl }
def lays146_ren:Go.Shelf.Ren:=⟨fun|146=>39|221=>61|268=>76|138=>77|143=>78|195=>90|197=>91|218=>92|219=>93|260=>105|217=>106|225=>107|224=>108|267=>109|266=>115|314=>116|n=>n,fun|9=>9|31=>33|3=>3|4=>4|0=>0|105=>146|21=>21|5=>5|46=>109|119=>168|139=>171|138=>170|146=>172|51=>158|n=>n,fun|1=>1|3=>4|4=>5|n=>n⟩
theorem lays146:Go.Proofs.Lays.n146 Tryz.prog lays146_ren:={
 mixed:=by kernel_rfl
 f138:=Tryz.func77.trans (congrArg some (by kernel_rfl))
 f143:=Tryz.func78.trans (congrArg some (by kernel_rfl))
 f146:=Tryz.func39.trans (congrArg some (by kernel_rfl))
 f195:=Tryz.func90.trans (congrArg some (by kernel_rfl))
 f197:=Tryz.func91.trans (congrArg some (by kernel_rfl))
 f217:=Tryz.func106.trans (congrArg some (by kernel_rfl))
 f218:=Tryz.func92.trans (congrArg some (by kernel_rfl))
 f219:=Tryz.func93.trans (congrArg some (by kernel_rfl))
 f221:=Tryz.func61.trans (congrArg some (by kernel_rfl))
 f224:=Tryz.func108.trans (congrArg some (by kernel_rfl))
 f225:=Tryz.func107.trans (congrArg some (by kernel_rfl))
 f260:=Tryz.func105.trans (congrArg some (by kernel_rfl))
 f266:=Tryz.func115.trans (congrArg some (by kernel_rfl))
 f267:=Tryz.func109.trans (congrArg some (by kernel_rfl))
 f268:=Tryz.func76.trans (congrArg some (by kernel_rfl))
 f314:=Tryz.func116.trans (congrArg some (by kernel_rfl))
 t0:=Tryz.underlying0
 a0:=Tryz.isAgg0
 z0:=Tryz.sizeOf0
 v0:=Tryz.zeroValue0
 t3:=Tryz.underlying3
 a3:=Tryz.isAgg3
 z3:=Tryz.sizeOf3
 v3:=Tryz.zeroValue3
 t4:=Tryz.underlying4
 a4:=Tryz.isAgg4
 z4:=Tryz.sizeOf4
 v4:=Tryz.zeroValue4
 t5:=Tryz.underlying5
 a5:=Tryz.isAgg5
 z5:=Tryz.sizeOf5
 v5:=Tryz.zeroValue5
 t9:=Tryz.underlying9
 a9:=Tryz.isAgg9
 z9:=Tryz.sizeOf9
 v9:=Tryz.zeroValue9
 t21:=Tryz.underlying21
 a21:=Tryz.isAgg21
 z21:=Tryz.sizeOf21
 v21:=Tryz.zeroValue21
 t31:=Tryz.underlying33
 a31:=Tryz.isAgg33
 z31:=Tryz.sizeOf33
 v31:=Tryz.zeroValue33
 t46:=Tryz.underlying109
 a46:=Tryz.isAgg109
 z46:=Tryz.sizeOf109
 v46:=Tryz.zeroValue109
 t51:=Tryz.underlying158
 a51:=Tryz.isAgg158
 z51:=Tryz.sizeOf158
 v51:=Tryz.zeroValue158
 t105:=Tryz.underlying146
 a105:=Tryz.isAgg146
 z105:=Tryz.sizeOf146
 v105:=Tryz.zeroValue146
 t119:=Tryz.underlying168
 a119:=Tryz.isAgg168
 z119:=Tryz.sizeOf168
 t138:=Tryz.underlying170
 a138:=Tryz.isAgg170
 z138:=Tryz.sizeOf170
 v138:=Tryz.zeroValue170
 t139:=Tryz.underlying171
 a139:=Tryz.isAgg171
 z139:=Tryz.sizeOf171
 v139:=Tryz.zeroValue171
 t146:=Tryz.underlying172
 a146:=Tryz.isAgg172
 z146:=Tryz.sizeOf172
 v146:=Tryz.zeroValue172
 g1:=by kernel_rfl
 g3:=by kernel_rfl
 g4:=by kernel_rfl }
end Go.Proofs.YtoafigpikgigaaaGreatDoor
