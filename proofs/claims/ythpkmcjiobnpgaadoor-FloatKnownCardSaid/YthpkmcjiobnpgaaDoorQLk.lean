/- Contracts of functions that the claim reaches: what each call gives, told in our own logic. Conditions: those of each theorem. -/
import Derived.Test.YthpkmcjiobnpgaaDoorF3b
import Derived.Test.YthpkmcjiobnpgaaDoorRows
import Derived.LaidLaws
import Derived.LaidHandle
import Derived.FnData
import Derived.Lib.LaidTab
import Derived.Shelf.Vars
import Derived.Handed
import Derived.HandedShaped
set_option linter.all false
set_option linter.unusedSimpArgs false
set_option linter.unusedVariables false
namespace Go.Proofs.YthpkmcjiobnpgaaDoor
open Go.Av Go.ChangeShapes Go.WideShapes Go.ChangeAt Go.RowKit
abbrev laidL : List (String × DataW Unit) := [("math/bits.deBruijn32tab", Rows.laid_math_bits_deBruijn32tab), ("math/bits.deBruijn64tab", Rows.laid_math_bits_deBruijn64tab), ("internal/strconv.uint64pow10", Rows.laid_internal_strconv_uint64pow10)]
theorem ga : Tryd.prog.globalNamed "internal/strconv.uint64pow10" = some 0 := by kernel_rfl
theorem ta:(Tryd.prog.globals[0]?).map (·.type)=some 119:=by kernel_rfl
theorem uP10:Tryd.prog.underlying 119=some (.array 20 113):=by kernel_rfl
theorem uU:Tryd.prog.underlying 113=some (.int .u64):=by kernel_rfl
theorem gl_of {W:World} {n:String} {g:Nat} {cs:Array Value} {avs:List AV} (hg:Tryd.prog.globalNamed n=some g) (hv:W.var? Tryd.prog n=some cs) (h1:VRs (c00 W) avs cs.toList) (h2:avs.all AV.cell=true) :
  (c00 W).im g∧avs.all AV.cell=true∧∃ xs,(c00 W).w.rangeAt g 0 xs∧VRs (c00 W) avs xs∧∃ ty fz,(c00 W).w.heap[g]?=some (.cells xs.toArray ty fz):=by
 have hb:∃ ty fz,W.heap[g]?=some (.cells cs ty fz):=by
  unfold World.var? at hv
  rw [hg] at hv
  simp only[Option.bind_some] at hv
  split at hv
  ·rename_i c a b e
   injection hv with hv
   subst hv
   exact ⟨a,b,e⟩
  ·cases hv
 obtain ⟨ty,fz,hb⟩:=hb
 have hlt:g < W.heap.size:=by
  rcases Nat.lt_or_ge g W.heap.size with h|h
  ·exact h
  ·rw [Array.getElem?_eq_none h] at hb;cases hb
 refine ⟨hlt,h2,cs.toList,fun j v hj=>?_,h1,ty,fz,by rw [show cs.toList.toArray=cs by simp];exact hb⟩
 rw [Nat.zero_add]
 show W.cell? ⟨g,j,none⟩=some v
 rw [World.var?_cell hg hv j,← Array.getElem?_toList];exact hj
theorem vrs_ints {c:Cx} {k:IntKind}:∀ (l:List Int),VRs c (l.map fun z=>AV.int k z) (l.map fun z=>Value.int k z)
 | []=>by simp [VRs]
 | x :: l=>by simp only[List.map_cons,VRs];exact ⟨_,_,rfl,by simp [VR],vrs_ints l⟩
theorem glB {W:World} (h:laidMetH Tryd.prog laidL W):GL (c00 W) gT:=by
 have h':laidMet Tryd.prog laidL W:=h
 obtain ⟨ps,hL,_⟩:=h'
 obtain ⟨_,_,_,_,_,_,_,_,_,_,hL,_⟩:=hL
 obtain ⟨_,_,_,_,_,_,_,_,_,_,hL,_⟩:=hL
 obtain ⟨ga',ta',ca,fa,pa,qa,a1,a2,a3,a4,_,_⟩:=hL
 obtain rfl:=Option.some.inj (ga.symm.trans a1)
 obtain rfl:=Option.some.inj (ta.symm.trans a2)
 have a5:=Lib.cells_of_tab (k:=.u64) (zs:=[1,10,100,1000,10000,100000,1000000,10000000,100000000,1000000000,10000000000,100000000000,1000000000000,10000000000000,100000000000000,1000000000000000,10000000000000000,100000000000000000,1000000000000000000,10000000000000000000]) uP10 uU (by kernel_rfl) (by kernel_rfl) a4
 intro i row hi
 unfold gT at hi
 split at hi
 ·rename_i e;subst e;cases hi
  exact gl_of ga a3 (by rw [a5];exact vrs_ints _) rfl
 ·cases hi
def fl1:DataW Unit→List Value
 | .lit (.int k n)=>[.int k n]
 | _=>[]
def fl2:DataW Unit→List Value
 | .agg ps=>ps.flatMap fl1
 | d=>fl1 d
def fl3:DataW Unit→List Value
 | .agg ps=>ps.flatMap fl2
 | d=>fl1 d
def setCs (cs:List Value):Obj→Obj
 | .cells _ t frozen=>.cells cs.toArray t frozen
 | o=>o
noncomputable def laidWorld (os:Os):World :=
 let w0:=World.holding Tryd.prog os ⟨#[],#[],[]⟩
 { w0 with heap:=(((w0.heap.modify 1 (setCs (fl3 Rows.laid_math_bits_deBruijn32tab))).modify 2 (setCs (fl3 Rows.laid_math_bits_deBruijn64tab))).modify 0 (setCs (fl3 Rows.laid_internal_strconv_uint64pow10))) }
theorem laidWorld_met (os:Os) (args:Array Value):laidMetH Tryd.prog laidL ((laidWorld os).forCall (fun _ _=>0) ⟨#[],args,[]⟩).memory :=
 show laidMet _ _ _ from laidMet_of_run' 8 (by kernel_rfl) (by kernel_rfl)
end Go.Proofs.YthpkmcjiobnpgaaDoor
