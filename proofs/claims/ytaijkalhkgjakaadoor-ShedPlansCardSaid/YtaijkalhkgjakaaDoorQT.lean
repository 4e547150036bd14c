/- Contracts of functions that the claim reaches: what each call gives, told in our own logic. Conditions: those of each theorem. -/
import Derived.Test.YtaijkalhkgjakaaDoorQS
import Derived.Test.YtaijkalhkgjakaaDoorRows
import Derived.LaidLaws
import Derived.LaidHandle
import Derived.FnData
import Derived.Test.YtaijkalhkgjakaaDoorG2
set_option linter.all false
set_option linter.unusedSimpArgs false
set_option linter.unusedVariables false
namespace Go.Proofs.YtaijkalhkgjakaaDoor
open Go.Av Go.ChangeShapes Go.WideShapes Go.ChangeAt Go.RowKit
abbrev laidL : List (String × DataW Unit) := [("bateria/shed.bitOf", Rows.laid_bateria_shed_bitOf)]
theorem g0 : Tryd.prog.globalNamed "bateria/shed.bitOf" = some 0 := by kernel_rfl
theorem t0:(Tryd.prog.globals[0]?).map (·.type)=some 145:=by kernel_rfl
theorem glB {W:World} (h:laidMetH Tryd.prog laidL W):GL (c00 W) gB:=by
  have h':laidMet Tryd.prog laidL W:=h
  obtain ⟨ps,⟨g,t,cs,fuel,p,q,e1,e2,e3,e4,_⟩,_⟩:=h'
  obtain rfl:=Option.some.inj (g0.symm.trans e1)
  obtain rfl:=Option.some.inj (t0.symm.trans e2)
  have e5:=four_of_trod Tryd.underlying145 Tryd.underlying3 (by kernel_rfl) (by kernel_rfl) e4
  intro i row hi
  unfold gB at hi
  split at hi
  · rename_i ei
    subst ei
    cases hi
    have hc:=World.var?_cell g0 e3
    refine ⟨?_,rfl,[.int .i64 0,.int .i64 1,.int .i64 2,.int .i64 4],fun j v hj=>?_,?_⟩
    · have hc0:W.cell? ⟨0,0,none⟩=some (.int .i64 0):=by rw [hc 0,← Array.getElem?_toList,e5];rfl
      exact World.block_lt_of_cell? _ _ hc0
    · rw [Nat.zero_add]
      show W.cell? ⟨0,j,none⟩=some v
      rw [hc j,← Array.getElem?_toList,e5];exact hj
    · simp [VRs,VR]
  · cases hi
noncomputable def laidWorld (os:Os):World :=
  let w0:=World.holding Tryd.prog os ⟨#[],#[],[]⟩
  { w0 with heap:=w0.heap.modify 0 fun
      | .cells _ t frozen=>.cells #[.int .i64 0,.int .i64 1,.int .i64 2,.int .i64 4] t frozen
      | o=>o }
theorem laidWorld_met (os:Os) (args:Array Value):laidMetH Tryd.prog laidL ((laidWorld os).forCall (fun _ _=>0) ⟨#[],args,[]⟩).memory :=
  show laidMet _ _ _ from laidMet_of_run' 8 (by kernel_rfl) (by kernel_rfl)
end Go.Proofs.YtaijkalhkgjakaaDoor

namespace Go.Proofs.YtaijkalhkgjakaaDoor
open Go.Av
attribute [local irreducible] Shp
set_option maxRecDepth 20000
theorem shpBool {d:Nat} {vs:List AV} (h:Shp Tryd.prog (d+1) 4 vs):∃ b,vs=[.bool b]:=shp_bool Tryd.underlying4 h
theorem shpWorker {d:Nat} {vs:List AV} (h:Shp Tryd.prog (d+2) 76 vs):∃ x:Wk,vs=x.row:=by
  obtain ⟨parts,rfl,hl,hp⟩:=shp_struct Tryd.underlying76 h
  match parts,hl,hp with
  | [p0,p1,p2],_,hp =>
    obtain ⟨a,rfl⟩:=shpBool (hp 0 _ p0 rfl rfl)
    obtain ⟨b,rfl⟩:=shpBool (hp 1 _ p1 rfl rfl)
    obtain ⟨c,rfl⟩:=shpBool (hp 2 _ p2 rfl rfl)
    exact ⟨⟨a,b,c⟩,rfl⟩
theorem shpJob {d:Nat} {vs:List AV} (h:Shp Tryd.prog (d+2) 80 vs):∃ x:Jb,vs=x.row:=by
  obtain ⟨parts,rfl,hl,hp⟩:=shp_struct Tryd.underlying80 h
  match parts,hl,hp with
  | [p0,p1,p2],_,hp =>
    obtain ⟨a,rfl,_⟩:=shpInt (hp 0 _ p0 rfl rfl)
    obtain ⟨b,rfl,_⟩:=shpInt (hp 1 _ p1 rfl rfl)
    obtain ⟨c,rfl,_⟩:=shpInt (hp 2 _ p2 rfl rfl)
    exact ⟨⟨a,b,c⟩,rfl⟩
theorem shpShift {d:Nat} {vs:List AV} (h:Shp Tryd.prog (d+2) 95 vs):∃ x:Sf,vs=x.row:=by
  obtain ⟨parts,rfl,hl,hp⟩:=shp_struct Tryd.underlying95 h
  match parts,hl,hp with
  | [p0,p1],_,hp =>
    obtain ⟨a,rfl,_⟩:=shpInt (hp 0 _ p0 rfl rfl)
    obtain ⟨b,rfl,_⟩:=shpInt (hp 1 _ p1 rfl rfl)
    exact ⟨⟨a,b⟩,rfl⟩
theorem shpShifts {d:Nat} {vs:List AV} (h:Shp Tryd.prog (d+3) 35 vs):∃ l:List Sf,vs=[.lst 2 (l.map Sf.row)]:=by
  obtain ⟨l,e,_,_⟩:=shp_slice (f:=Sf.row) (q:=fun _=>True) Tryd.underlying35 (show Tryd.prog.cellsOf 95=2 by kernel_rfl) h fun r hr=>by
    obtain ⟨x,e⟩:=shpShift hr
    exact ⟨x,e,trivial⟩
  exact ⟨l,e⟩
theorem shpShop {d:Nat} {vs:List AV} (h:Shp Tryd.prog (d+4) 25 vs):∃ S:Sp,AV.agg vs=S.av:=by
  obtain ⟨parts,rfl,hl,hp⟩:=shp_struct Tryd.underlying25 h
  match parts,hl,hp with
  | [p0,p1],_,hp =>
    obtain ⟨a,rfl,_,_⟩:=shp_slice (f:=Wk.row) (q:=fun _=>True) Tryd.underlying22 (show Tryd.prog.cellsOf 76=3 by kernel_rfl) (hp 0 _ p0 rfl rfl) fun r hr=>by
      obtain ⟨x,e⟩:=shpWorker hr
      exact ⟨x,e,trivial⟩
    obtain ⟨b,rfl,_,_⟩:=shp_slice (f:=Jb.row) (q:=fun _=>True) Tryd.underlying23 (show Tryd.prog.cellsOf 80=3 by kernel_rfl) (hp 1 _ p1 rfl rfl) fun r hr=>by
      obtain ⟨x,e⟩:=shpJob hr
      exact ⟨x,e,trivial⟩
    exact ⟨⟨a,b⟩,rfl⟩
end Go.Proofs.YtaijkalhkgjakaaDoor
