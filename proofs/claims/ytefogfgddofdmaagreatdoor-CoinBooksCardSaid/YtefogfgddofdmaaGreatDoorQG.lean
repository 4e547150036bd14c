/- Contracts of functions that the claim reaches: what each call gives, told in our own logic. Conditions: those of each theorem. -/
import Derived.Test.YtefogfgddofdmaaGreatDoorG2
import Derived.Test.YtefogfgddofdmaaGreatDoorRows
import Derived.LaidLaws
import Derived.LaidHandle
import Derived.FnData
import Derived.Lib.LaidTab
import Derived.Shelf.Vars
import Derived.Handed
import Derived.HandedShaped
import Derived.Test.YtefogfgddofdmaaGreatDoorBaseD
import Derived.Test.YtefogfgddofdmaaGreatDoorG6
set_option linter.all false
set_option linter.unusedSimpArgs false
set_option linter.unusedVariables false
namespace Go.Proofs.YtefogfgddofdmaaGreatDoor
open Go.Av Go.ChangeShapes Go.WideShapes Go.ChangeAt Go.RowKit
abbrev laidL : List (String × DataW Unit) := [("math/bits.deBruijn32tab", Rows.laid_math_bits_deBruijn32tab), ("math/bits.deBruijn64tab", Rows.laid_math_bits_deBruijn64tab), ("internal/strconv.uint64pow10", Rows.laid_internal_strconv_uint64pow10), ("unicode/utf8.acceptRanges", Rows.laid_unicode_utf8_acceptRanges), ("strconv.ErrRange", Rows.laid_strconv_ErrRange), ("strconv.ErrSyntax", Rows.laid_strconv_ErrSyntax), ("unicode/utf8.first", Rows.laid_unicode_utf8_first)]
theorem g1 : Tryz.prog.globalNamed "internal/strconv.uint64pow10" = some 3 := by kernel_rfl
theorem g3 : Tryz.prog.globalNamed "strconv.ErrSyntax" = some 1 := by kernel_rfl
theorem g4 : Tryz.prog.globalNamed "strconv.ErrRange" = some 2 := by kernel_rfl
theorem t1:(Tryz.prog.globals[3]?).map (·.type)=some 150:=by kernel_rfl
theorem t3:(Tryz.prog.globals[1]?).map (·.type)=some 101:=by kernel_rfl
theorem t4:(Tryz.prog.globals[2]?).map (·.type)=some 101:=by kernel_rfl
theorem uP10:Tryz.prog.underlying 150=some (.array 20 68):=by kernel_rfl
theorem uErr : Tryz.prog.underlying 101 = some (.interface #[("Error", 78)]) := by kernel_rfl
theorem uI:Tryz.prog.underlying 3=some (.int .i64):=by kernel_rfl
theorem uU:Tryz.prog.underlying 68=some (.int .u64):=by kernel_rfl
theorem gl_of {W:World} {n:String} {g:Nat} {cs:Array Value} {avs:List AV} (hg:Tryz.prog.globalNamed n=some g) (hv:W.var? Tryz.prog n=some cs) (h1:VRs (c00 W) avs cs.toList) (h2:avs.all AV.cell=true) :
    (c00 W).im g∧avs.all AV.cell=true∧∃ xs,(c00 W).w.rangeAt g 0 xs∧VRs (c00 W) avs xs∧∃ ty fz,(c00 W).w.heap[g]?=some (.cells xs.toArray ty fz):=by
  have hb:∃ ty fz,W.heap[g]?=some (.cells cs ty fz):=by
    unfold World.var? at hv
    rw [hg] at hv
    simp only[Option.bind_some] at hv
    split at hv
    · rename_i c a b e
      injection hv with hv
      subst hv
      exact ⟨a,b,e⟩
    · cases hv
  obtain ⟨ty,fz,hb⟩:=hb
  have hlt:g < W.heap.size:=by
    rcases Nat.lt_or_ge g W.heap.size with h|h
    · exact h
    · rw [Array.getElem?_eq_none h] at hb;cases hb
  refine ⟨hlt,h2,cs.toList,fun j v hj=>?_,h1,ty,fz,by rw [show cs.toList.toArray=cs by simp];exact hb⟩
  rw [Nat.zero_add]
  show W.cell? ⟨g,j,none⟩=some v
  rw [World.var?_cell hg hv j,← Array.getElem?_toList];exact hj
theorem vrs_ints {c:Cx} {k:IntKind}:∀ (l:List Int),VRs c (l.map fun z=>AV.int k z) (l.map fun z=>Value.int k z)
  | []=>by simp [VRs]
  | x :: l=>by simp only[List.map_cons,VRs];exact ⟨_,_,rfl,by simp [VR],vrs_ints l⟩
theorem ifc_of {W:World} {fuel:Nat} {cs:List Value} {nm:String} {d:DataW Unit} {p:List MemPlace} (h:DataW.trod (fun _=>()) Tryz.prog W 0 (fun _=>true) false fuel 101 cs=some (.iface nm d,p)):VRs (c00 W) [.ifc] cs:=by
  obtain ⟨_,u,v,e,_⟩:=iface_of_trod uErr h
  rw [e]
  simp only[VRs,VR]
  exact ⟨_,_,rfl,⟨_,_,rfl⟩,rfl⟩
def maxI (W:World):Prop:=∃ m ty fz,W.heap[0]?=some (.cells #[.int .i64 m] ty fz)
theorem glB {W:World} (h:laidMetH Tryz.prog laidL W) (hm:maxI W):GL (c00 W) gT:=by
  have h':laidMet Tryz.prog laidL W:=h
  obtain ⟨ps,hL,_⟩:=h'
  obtain ⟨_,_,_,_,_,_,_,_,_,_,hL,_⟩:=hL
  obtain ⟨_,_,_,_,_,_,_,_,_,_,hL,_⟩:=hL
  obtain ⟨ga,ta,ca,fa,pa,qa,a1,a2,a3,a4,hL,_⟩:=hL
  obtain ⟨_,_,_,_,_,_,_,_,_,_,hL,_⟩:=hL
  obtain ⟨gb,tb,cb,fb,pb,qb,b1,b2,b3,b4,hL,_⟩:=hL
  obtain ⟨gc,tc,cc,fc,pc,qc,c1,c2,c3,c4,hL,_⟩:=hL
  obtain rfl:=Option.some.inj (g1.symm.trans a1)
  obtain rfl:=Option.some.inj (g4.symm.trans b1)
  obtain rfl:=Option.some.inj (g3.symm.trans c1)
  obtain rfl:=Option.some.inj (t1.symm.trans a2)
  obtain rfl:=Option.some.inj (t4.symm.trans b2)
  obtain rfl:=Option.some.inj (t3.symm.trans c2)
  have a5:=Lib.cells_of_tab (k:=.u64) (zs:=[1,10,100,1000,10000,100000,1000000,10000000,100000000,1000000000,10000000000,100000000000,1000000000000,10000000000000,100000000000000,1000000000000000,10000000000000000,100000000000000000,1000000000000000000,10000000000000000000]) uP10 uU (by kernel_rfl) (by kernel_rfl) a4
  have b5:=ifc_of b4
  have c5:=ifc_of c4
  intro i row hi
  unfold gT at hi
  split at hi
  · rename_i e;subst e;cases hi
    exact gl_of g1 a3 (by rw [a5];exact vrs_ints _) rfl
  split at hi
  · rename_i e;subst e;cases hi
    obtain ⟨m,ty,fz,hb⟩:=hm
    have hv : W.var? Tryz.prog "internal/bytealg.MaxLen" = some #[.int .i64 m] := by
      unfold World.var?
      rw [show Tryz.prog.globalNamed "internal/bytealg.MaxLen" = some 0 by kernel_rfl]
      simp only[Option.bind_some,hb]
    exact gl_of (by kernel_rfl) hv (by simp only[VRs,VR];exact ⟨_,_,rfl,⟨_,rfl⟩,rfl⟩) rfl
  split at hi
  · rename_i e;subst e;cases hi
    exact gl_of g3 c3 c5 rfl
  split at hi
  · rename_i e;subst e;cases hi
    exact gl_of g4 b3 b5 rfl
  · cases hi
theorem max_of_shape {W:World} (h:W.ShapedOpen Tryz.prog):maxI W:=by
  have h0:((begin Tryz.prog (fun _ _=>0) default).world.heap[0]?).bind Obj.row?=some (#[.int .i64 0],3):=by kernel_rfl
  obtain ⟨m,hm⟩:=cell_of_shapedOpen_int (k:=.i64) h (of_decide_eq_true (show decide (0 < Tryz.prog.globals.size)=true by kernel_rfl)) h0 rfl (by kernel_rfl) (by kernel_rfl) uI
  obtain ⟨cs,hh,hs,_⟩:=h.1 0 _ _ (of_decide_eq_true (show decide (0 < Tryz.prog.globals.size)=true by kernel_rfl)) h0
  obtain ⟨l⟩:=cs
  match l,hs with
  | [x],_ =>
    have:W.cell? ⟨0,0,none⟩=some x:=by simp [World.cell?,hh]
    rw [this] at hm
    injection hm with hm
    subst hm
    exact ⟨m,_,_,hh⟩
theorem change_and_shaped {H:Type} {enc:TypeId × Value→H} {a:Assume} {C:Checked} {os:Os} {f:FuncId} {fn:Func} {s:ChangeSpec} {conds:List PathCond} {apart fresh handsOn again:Bool} {X:World→Array Value→Prop}
    (hX:∀ (w w':World) (args:Array Value),w.heap=w'.heap→X w args→X w' args)
    (own:ownKnob C.prog.godebug=none) (started:os.Started) (noInit:C.prog.inits.idxOf? f=none) (hfn:C.prog.funcs[f]?=some fn)
    (witness:∃ (w:World) (tape:Tape) (i:Input),w.os=os∧(w.forCall tape i).Shaped C.prog∧i.vars=[]∧Input.okWide C.prog (w.forCall tape i) .any w.heap.size f i ∧
      ((s.pre enc C.prog fn conds apart (w.forCall tape i).memory i.args∧X (w.forCall tape i).memory i.args)∧sizedMet enc C.prog fn (OpenSpec.ofChange s) apart (w.forCall tape i).memory i.args)∧a.holds C.prog (lone (Frame.enter C.prog f i.args .normal) [] (w.forCall tape i)))
    (contract:∀ (W:World) (base:Nat) (args:Array Value) (ds gs:List (DataW H)) (before:List MemPlace),
      (∀ (j:Nat) t v,fn.params[j]?=some t→args[j]?=some v→Value.okWide C.prog W .any base t v) →
      DataW.Whole enc C.prog fn.params.toList s.vars apart W args.toList ds gs before→X W args→W.ShapedOpen C.prog →
      Calls C.prog f args W fun e W'=>∃ v,e=.returned v∧s.post enc C.prog fn apart fresh handsOn again W args v W') :
    ReturnsInHanded a C os f .any (fun w args=>(s.pre enc C.prog fn conds apart w args∧X w args)∧sizedMet enc C.prog fn (OpenSpec.ofChange s) apart w args) (s.post enc C.prog fn apart fresh handsOn again):=by
  refine returnsInHanded_of_calls own started noInit witness ?_
  intro w tape i _ hsh _ hok hpre hholds
  obtain ⟨_,_,_,fn',hfn',_,_,_,_,hval⟩:=hok
  have e:fn'=fn:=Option.some.inj (hfn'.symm.trans hfn)
  subst e
  obtain ⟨⟨⟨ds,gs,before,hw,hc⟩,hx⟩,hz⟩:=hpre
  have hw':=DataW.Whole.of_heap (w':=w.forCall tape i) (by rfl) hw
  refine (contract (w.forCall tape i) w.heap.size i.args ds gs before hval hw' (hX _ _ _ (by rfl) hx) hsh).mono fun e W' ⟨v,he,hp⟩=>?_
  subst he
  exact ChangeSpec.post_blind hp
abbrev synS:ByteArray:={ data:=#[105,110,118,97,108,105,100,32,115,121,110,116,97,120] }
abbrev rngS:ByteArray:={ data:=#[118,97,108,117,101,32,111,117,116,32,111,102,32,114,97,110,103,101] }
def fl1:DataW Unit→List Value
  | .lit (.int k n)=>[.int k n]
  | _=>[]
def fl2:DataW Unit→List Value
  | .agg ps=>ps.flatMap fl1
  | d=>fl1 d
def fl3:DataW Unit→List Value
  | .agg ps=>ps.flatMap fl2
  | d=>fl1 d
def setCs (cs:List Value):Obj→Obj
  | .cells _ t frozen=>.cells cs.toArray t frozen
  | o=>o
noncomputable def low:Nat:=(World.holding Tryz.prog default ⟨#[],#[],[]⟩).heap.size
noncomputable def laidWorld (os:Os):World :=
  let w0:=World.holding Tryz.prog os ⟨#[.cells #[.string synS] 162,.cells #[.string rngS] 162],#[],[]⟩
  { w0 with heap:=((((((w0.heap.modify 3 (setCs (fl3 Rows.laid_internal_strconv_uint64pow10))).modify 1 (setCs [.iface 160 (.pointer (some ⟨low,0,none⟩))])).modify 2 (setCs [.iface 160 (.pointer (some ⟨low+1,0,none⟩))])).modify 4 (setCs (fl3 Rows.laid_unicode_utf8_first))).modify 5 (setCs (fl3 Rows.laid_unicode_utf8_acceptRanges))).modify 6 (setCs (fl3 Rows.laid_math_bits_deBruijn32tab))).modify 7 (setCs (fl3 Rows.laid_math_bits_deBruijn64tab)) }
theorem laidWorld_met (os:Os) (args:Array Value):laidMetH Tryz.prog laidL ((laidWorld os).forCall (fun _ _=>0) ⟨#[],args,[]⟩).memory :=
  show laidMet _ _ _ from laidMet_of_run' 8 (by kernel_rfl) (by kernel_rfl)
end Go.Proofs.YtefogfgddofdmaaGreatDoor

namespace Go.Proofs.YtefogfgddofdmaaGreatDoor
open Go.Av
attribute [local irreducible] Shp
set_option maxRecDepth 20000
def I64 (n:Int):Prop:=-9223372036854775808≤n∧n≤9223372036854775807
theorem shpInt {d:Nat} {vs:List AV} (h:Shp Tryz.prog (d+1) 3 vs):∃ n,vs=[.int .i64 n]∧I64 n:=by
  obtain ⟨n,e,hw⟩:=shp_int Tryz.underlying3 h
  exact ⟨n,e,wf_i64 hw⟩
theorem shpNums {d:Nat} {vs:List AV} (h:Shp Tryz.prog (d+2) 26 vs):∃ l:List Int,vs=[.lst 1 (l.map iv)]∧l.length≤maxLen:=by
  obtain ⟨l,e,h1,_⟩:=shp_slice (f:=iv) (q:=fun _=>True) Tryz.underlying26 (show Tryz.prog.cellsOf 3=1 by kernel_rfl) h fun r hr=>by
    obtain ⟨x,e,_⟩:=shpInt hr
    exact ⟨x,e,trivial⟩
  exact ⟨l,e,h1⟩
theorem shpFund {d:Nat} {vs:List AV} (h:Shp Tryz.prog (d+3) 44 vs):∃ x:Fd,vs=x.row:=by
  obtain ⟨parts,rfl,hl,hp⟩:=shp_struct Tryz.underlying44 h
  match parts,hl,hp with
  | [p0,p1,p2,p3],_,hp =>
    obtain ⟨a,rfl,_⟩:=shpInt (hp 0 _ p0 rfl rfl)
    obtain ⟨b,rfl,_⟩:=shpInt (hp 1 _ p1 rfl rfl)
    obtain ⟨c,rfl,_⟩:=shpInt (hp 2 _ p2 rfl rfl)
    obtain ⟨l,rfl,_⟩:=shpNums (hp 3 _ p3 rfl rfl)
    exact ⟨⟨a,b,c,l⟩,rfl⟩
theorem shpFunds {d:Nat} {vs:List AV} (h:Shp Tryz.prog (d+4) 22 vs):∃ l:List Fd,vs=[.lst 4 (l.map Fd.row)]∧l.length≤maxLen:=by
  obtain ⟨l,e,h1,_⟩:=shp_slice (f:=Fd.row) (q:=fun _=>True) Tryz.underlying22 cel44 h fun r hr=>by
    obtain ⟨x,e⟩:=shpFund hr
    exact ⟨x,e,trivial⟩
  exact ⟨l,e,h1⟩
theorem shpBill {d:Nat} {vs:List AV} (h:Shp Tryz.prog (d+2) 67 vs):∃ x:Bl,vs=x.row:=by
  obtain ⟨parts,rfl,hl,hp⟩:=shp_struct Tryz.underlying67 h
  match parts,hl,hp with
  | [p0,p1,p2],_,hp =>
    obtain ⟨a,rfl,_⟩:=shpInt (hp 0 _ p0 rfl rfl)
    obtain ⟨b,rfl,_⟩:=shpInt (hp 1 _ p1 rfl rfl)
    obtain ⟨c,rfl,_⟩:=shpInt (hp 2 _ p2 rfl rfl)
    exact ⟨⟨a,b,c⟩,rfl⟩
theorem shpBills {d:Nat} {vs:List AV} (h:Shp Tryz.prog (d+3) 23 vs):∃ l:List Bl,vs=[.lst 3 (l.map Bl.row)]:=by
  obtain ⟨l,e,h1,_⟩:=shp_slice (f:=Bl.row) (q:=fun _=>True) Tryz.underlying23 cel67 h fun r hr=>by
    obtain ⟨x,e⟩:=shpBill hr
    exact ⟨x,e,trivial⟩
  exact ⟨l,e⟩
theorem shpLedger {d:Nat} {vs:List AV} (h:Shp Tryz.prog (d+5) 25 vs):∃ l:Lg,.agg vs=l.av∧l.fs.length≤maxLen:=by
  obtain ⟨parts,rfl,hl,hp⟩:=shp_struct Tryz.underlying25 h
  match parts,hl,hp with
  | [p0,p1],_,hp =>
    obtain ⟨a,rfl,h1⟩:=shpFunds (hp 0 _ p0 rfl rfl)
    obtain ⟨b,rfl⟩:=shpBills (hp 1 _ p1 rfl rfl)
    exact ⟨⟨a,b⟩,rfl,h1⟩
end Go.Proofs.YtefogfgddofdmaaGreatDoor
