/- Contracts of functions that the claim reaches: what each call gives, told in our own logic. Conditions: those of each theorem. -/
import Derived.Test.YtaijkalhkgjakaaDoorG27
import Derived.Test.YtaijkalhkgjakaaDoorBaseD
import Derived.Test.YtaijkalhkgjakaaDoorRows
import Derived.LaidLaws
import Derived.LaidHandle
import Derived.FnData
set_option linter.all false
set_option linter.unusedSimpArgs false
set_option linter.unusedVariables false
namespace Go.Proofs.YtaijkalhkgjakaaDoor
open Go.Av
attribute [local irreducible] Shp
set_option maxRecDepth 20000
def I64 (n:Int):Prop:=-9223372036854775808≤n∧n≤9223372036854775807
theorem shpInt {d:Nat} {vs:List AV} (h:Shp Tryd.prog (d+1) 3 vs):∃ n,vs=[.int .i64 n]∧I64 n:=by
  obtain ⟨n,e,hw⟩:=shp_int Tryd.underlying3 h
  exact ⟨n,e,wf_i64 hw⟩
theorem shpNums {d:Nat} {vs:List AV} (h:Shp Tryd.prog (d+2) 26 vs):∃ l:List Int,vs=[.lst 1 (l.map iv)]∧l.length≤maxLen:=by
  obtain ⟨l,e,h1,_⟩:=shp_slice (f:=iv) (q:=fun _=>True) Tryd.underlying26 (show Tryd.prog.cellsOf 3=1 by kernel_rfl) h fun r hr=>by
    obtain ⟨x,e,_⟩:=shpInt hr
    exact ⟨x,e,trivial⟩
  exact ⟨l,e,h1⟩
end Go.Proofs.YtaijkalhkgjakaaDoor

namespace Go.Proofs.YtaijkalhkgjakaaDoor
open Go.Av Go.ChangeShapes Go.WideShapes Go.ChangeAt Go.RowKit
abbrev laidL : List (String × DataW Unit) := [("bateria/shed.bitOf", Rows.laid_bateria_shed_bitOf)]
theorem g0 : Tryd.prog.globalNamed "bateria/shed.bitOf" = some 0 := by kernel_rfl
theorem t0:(Tryd.prog.globals[0]?).map (·.type)=some 145:=by kernel_rfl
theorem glB {W:World} (h:laidMetH Tryd.prog laidL W):GL (c00 W) gB:=by
  have h':laidMet Tryd.prog laidL W:=h
  obtain ⟨ps,⟨g,t,cs,fuel,p,q,e1,e2,e3,e4,_⟩,_⟩:=h'
  obtain rfl:=Option.some.inj (g0.symm.trans e1)
  obtain rfl:=Option.some.inj (t0.symm.trans e2)
  have e5:=four_of_trod Tryd.underlying145 Tryd.underlying3 (by kernel_rfl) (by kernel_rfl) e4
  intro i row hi
  unfold gB at hi
  split at hi
  · rename_i ei
    subst ei
    cases hi
    have hc:=World.var?_cell g0 e3
    refine ⟨?_,rfl,[.int .i64 0,.int .i64 1,.int .i64 2,.int .i64 4],fun j v hj=>?_,?_⟩
    · have hc0:W.cell? ⟨0,0,none⟩=some (.int .i64 0):=by rw [hc 0,← Array.getElem?_toList,e5];rfl
      exact World.block_lt_of_cell? _ _ hc0
    · rw [Nat.zero_add]
      show W.cell? ⟨0,j,none⟩=some v
      rw [hc j,← Array.getElem?_toList,e5];exact hj
    · simp [VRs,VR]
  · cases hi
noncomputable def laidWorld (os:Os):World :=
  let w0:=World.holding Tryd.prog os ⟨#[],#[],[]⟩
  { w0 with heap:=w0.heap.modify 0 fun
      | .cells _ t frozen=>.cells #[.int .i64 0,.int .i64 1,.int .i64 2,.int .i64 4] t frozen
      | o=>o }
theorem laidWorld_met (os:Os) (args:Array Value):laidMetH Tryd.prog laidL ((laidWorld os).forCall (fun _ _=>0) ⟨#[],args,[]⟩).memory :=
  show laidMet _ _ _ from laidMet_of_run' 8 (by kernel_rfl) (by kernel_rfl)
end Go.Proofs.YtaijkalhkgjakaaDoor
