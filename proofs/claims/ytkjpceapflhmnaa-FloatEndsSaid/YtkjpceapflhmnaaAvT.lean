/- Printed by gentab.py: the types that this seat's functions name, as a table of our own; that the table is right. -/

import Derived.Test.YtkjpceapflhmnaaBaseC
import Derived.Test.YtkjpceapflhmnaaProg
import Derived.KernelRfl
set_option linter.all false
set_option linter.unusedSimpArgs false
set_option linter.unusedVariables false
namespace Go.Proofs.Ytkjpceapflhmnaa
open Go.Av
def tt : Nat → TI
  | 3 => ⟨.int .i64, 1, 8, [.int .i64 0], false⟩
  | 4 => ⟨.bool, 1, 1, [.bool false], false⟩
  | 22 => ⟨.slice 3, 1, 24, [.nils], false⟩
  | 25 => ⟨.slice 60, 1, 24, [.nils], false⟩
  | 27 => ⟨.struct [(0, 1, false), (1, 1, false), (2, 1, false), (3, 1, false), (4, 1, false), (5, 1, false), (6, 1, false), (7, 1, false), (8, 1, false)], 9, 88, [.int .i64 0, .int .i64 0, .int .i64 0, .int .i64 0, .int .i64 0, .int .i64 0, .int .i64 0, .int .i64 0, .nils], false⟩
  | 32 => ⟨.struct [(0, 1, false), (1, 1, false), (2, 1, false)], 3, 24, [.int .i64 0, .int .i64 0, .int .i64 0], true⟩
  | 34 => ⟨.int .i64, 1, 8, [.int .i64 0], false⟩
  | 37 => ⟨.slice 32, 1, 24, [.nils], false⟩
  | 43 => ⟨.slice 27, 1, 24, [.nils], false⟩
  | 44 => ⟨.slice 37, 1, 24, [.nils], false⟩
  | 49 => ⟨.struct [(0, 1, false), (1, 1, false)], 2, 16, [.int .i64 0, .int .i64 0], true⟩
  | 60 => ⟨.struct [(0, 1, false), (1, 2, true), (3, 2, true), (5, 1, false), (6, 1, false)], 7, 56, [.int .i64 0, .int .i64 0, .int .i64 0, .int .i64 0, .int .i64 0, .int .i64 0, .int .i64 0], true⟩
  | 73 => ⟨.struct [(0, 1, false), (1, 1, false)], 2, 48, [.nils, .nils], false⟩
  | 81 => ⟨.slice 73, 1, 24, [.nils], false⟩
  | 85 => ⟨.slice 91, 1, 24, [.nils], false⟩
  | 91 => ⟨.struct [(0, 1, false), (1, 1, false)], 2, 16, [.int .i64 0, .int .i64 0], true⟩
  | 92 => ⟨.int .u64, 1, 8, [.int .u64 0], false⟩
  | 94 => ⟨.struct [(0, 1, false)], 1, 8, [.int .u64 0], false⟩
  | 96 => ⟨.int .u64, 1, 8, [.int .u64 0], false⟩
  | 101 => ⟨.struct [(0, 9, true), (9, 1, false), (10, 1, false)], 11, 104, [.int .i64 0, .int .i64 0, .int .i64 0, .int .i64 0, .int .i64 0, .int .i64 0, .int .i64 0, .int .i64 0, .nils, .int .i64 0, .int .i64 0], false⟩
  | 109 => ⟨.plain, 1, 8, [.nilfn], false⟩
  | 119 => ⟨.array 2 3, 2, 16, [.int .i64 0, .int .i64 0], false⟩
  | 128 => ⟨.plain, 1, 8, [.nilfn], false⟩
  | _ => ⟨.unknown, 0, 0, [], false⟩
theorem info_row {t : TypeId} {r : TypeInfo} (h : Try.prog.types[t]? = some r) : Try.prog.info? t = some r := by
  have hlt : t < Try.prog.types.size := (Array.getElem?_eq_some_iff.1 h).1
  unfold Tables.info?; rw [if_pos hlt]; exact h
theorem inf3 : Try.prog.info? 3 = some Try.t3 := info_row Try.type3
theorem cel3 : Try.prog.cellsOf 3 = 1 := by unfold Program.cellsOf; rw [inf3]; rfl
theorem ag3 : aggB Try.prog 3 = false := by unfold aggB; rw [Try.underlying3]
theorem inf4 : Try.prog.info? 4 = some Try.t4 := info_row Try.type4
theorem cel4 : Try.prog.cellsOf 4 = 1 := by unfold Program.cellsOf; rw [inf4]; rfl
theorem ag4 : aggB Try.prog 4 = false := by unfold aggB; rw [Try.underlying4]
theorem inf22 : Try.prog.info? 22 = some Try.t22 := info_row Try.type22
theorem cel22 : Try.prog.cellsOf 22 = 1 := by unfold Program.cellsOf; rw [inf22]; rfl
theorem ag22 : aggB Try.prog 22 = false := by unfold aggB; rw [Try.underlying22]
theorem inf25 : Try.prog.info? 25 = some Try.t25 := info_row Try.type25
theorem cel25 : Try.prog.cellsOf 25 = 1 := by unfold Program.cellsOf; rw [inf25]; rfl
theorem ag25 : aggB Try.prog 25 = false := by unfold aggB; rw [Try.underlying25]
theorem inf27 : Try.prog.info? 27 = some Try.t27 := info_row Try.type27
theorem cel27 : Try.prog.cellsOf 27 = 9 := by unfold Program.cellsOf; rw [inf27]; rfl
theorem ag27 : aggB Try.prog 27 = true := by unfold aggB; rw [Try.underlying27]
theorem inf32 : Try.prog.info? 32 = some Try.t32 := info_row Try.type32
theorem cel32 : Try.prog.cellsOf 32 = 3 := by unfold Program.cellsOf; rw [inf32]; rfl
theorem ag32 : aggB Try.prog 32 = true := by unfold aggB; rw [Try.underlying32]
theorem inf34 : Try.prog.info? 34 = some Try.t34 := info_row Try.type34
theorem cel34 : Try.prog.cellsOf 34 = 1 := by unfold Program.cellsOf; rw [inf34]; rfl
theorem ag34 : aggB Try.prog 34 = false := by unfold aggB; rw [Try.underlying34]
theorem inf37 : Try.prog.info? 37 = some Try.t37 := info_row Try.type37
theorem cel37 : Try.prog.cellsOf 37 = 1 := by unfold Program.cellsOf; rw [inf37]; rfl
theorem ag37 : aggB Try.prog 37 = false := by unfold aggB; rw [Try.underlying37]
theorem inf43 : Try.prog.info? 43 = some Try.t43 := info_row Try.type43
theorem cel43 : Try.prog.cellsOf 43 = 1 := by unfold Program.cellsOf; rw [inf43]; rfl
theorem ag43 : aggB Try.prog 43 = false := by unfold aggB; rw [Try.underlying43]
theorem inf44 : Try.prog.info? 44 = some Try.t44 := info_row Try.type44
theorem cel44 : Try.prog.cellsOf 44 = 1 := by unfold Program.cellsOf; rw [inf44]; rfl
theorem ag44 : aggB Try.prog 44 = false := by unfold aggB; rw [Try.underlying44]
theorem inf49 : Try.prog.info? 49 = some Try.t49 := info_row Try.type49
theorem cel49 : Try.prog.cellsOf 49 = 2 := by unfold Program.cellsOf; rw [inf49]; rfl
theorem ag49 : aggB Try.prog 49 = true := by unfold aggB; rw [Try.underlying49]
theorem inf60 : Try.prog.info? 60 = some Try.t60 := info_row Try.type60
theorem cel60 : Try.prog.cellsOf 60 = 7 := by unfold Program.cellsOf; rw [inf60]; rfl
theorem ag60 : aggB Try.prog 60 = true := by unfold aggB; rw [Try.underlying60]
theorem inf73 : Try.prog.info? 73 = some Try.t73 := info_row Try.type73
theorem cel73 : Try.prog.cellsOf 73 = 2 := by unfold Program.cellsOf; rw [inf73]; rfl
theorem ag73 : aggB Try.prog 73 = true := by unfold aggB; rw [Try.underlying73]
theorem inf81 : Try.prog.info? 81 = some Try.t81 := info_row Try.type81
theorem cel81 : Try.prog.cellsOf 81 = 1 := by unfold Program.cellsOf; rw [inf81]; rfl
theorem ag81 : aggB Try.prog 81 = false := by unfold aggB; rw [Try.underlying81]
theorem inf85 : Try.prog.info? 85 = some Try.t85 := info_row Try.type85
theorem cel85 : Try.prog.cellsOf 85 = 1 := by unfold Program.cellsOf; rw [inf85]; rfl
theorem ag85 : aggB Try.prog 85 = false := by unfold aggB; rw [Try.underlying85]
theorem inf91 : Try.prog.info? 91 = some Try.t91 := info_row Try.type91
theorem cel91 : Try.prog.cellsOf 91 = 2 := by unfold Program.cellsOf; rw [inf91]; rfl
theorem ag91 : aggB Try.prog 91 = true := by unfold aggB; rw [Try.underlying91]
theorem inf92 : Try.prog.info? 92 = some Try.t92 := info_row Try.type92
theorem cel92 : Try.prog.cellsOf 92 = 1 := by unfold Program.cellsOf; rw [inf92]; rfl
theorem ag92 : aggB Try.prog 92 = false := by unfold aggB; rw [Try.underlying92]
theorem inf94 : Try.prog.info? 94 = some Try.t94 := info_row Try.type94
theorem cel94 : Try.prog.cellsOf 94 = 1 := by unfold Program.cellsOf; rw [inf94]; rfl
theorem ag94 : aggB Try.prog 94 = true := by unfold aggB; rw [Try.underlying94]
theorem inf96 : Try.prog.info? 96 = some Try.t96 := info_row Try.type96
theorem cel96 : Try.prog.cellsOf 96 = 1 := by unfold Program.cellsOf; rw [inf96]; rfl
theorem ag96 : aggB Try.prog 96 = false := by unfold aggB; rw [Try.underlying96]
theorem inf101 : Try.prog.info? 101 = some Try.t101 := info_row Try.type101
theorem cel101 : Try.prog.cellsOf 101 = 11 := by unfold Program.cellsOf; rw [inf101]; rfl
theorem ag101 : aggB Try.prog 101 = true := by unfold aggB; rw [Try.underlying101]
theorem inf109 : Try.prog.info? 109 = some Try.t109 := info_row Try.type109
theorem cel109 : Try.prog.cellsOf 109 = 1 := by unfold Program.cellsOf; rw [inf109]; rfl
theorem ag109 : aggB Try.prog 109 = false := by unfold aggB; rw [Try.underlying109]
theorem inf119 : Try.prog.info? 119 = some Try.t119 := info_row Try.type119
theorem cel119 : Try.prog.cellsOf 119 = 2 := by unfold Program.cellsOf; rw [inf119]; rfl
theorem ag119 : aggB Try.prog 119 = true := by unfold aggB; rw [Try.underlying119]
theorem inf128 : Try.prog.info? 128 = some Try.t128 := info_row Try.type128
theorem cel128 : Try.prog.cellsOf 128 = 1 := by unfold Program.cellsOf; rw [inf128]; rfl
theorem ag128 : aggB Try.prog 128 = false := by unfold aggB; rw [Try.underlying128]
theorem eq32 : EqFact Try.prog 32 3 := EqFact.ints Try.underlying32 (by kernel_rfl) (by kernel_rfl) (by intro f hf; simp at hf; rcases hf with rfl | rfl | rfl <;> exact ⟨by decide, by first | exact ⟨_, Try.underlying3⟩⟩) rfl rfl
theorem eq49 : EqFact Try.prog 49 2 := EqFact.ints Try.underlying49 (by kernel_rfl) (by kernel_rfl) (by intro f hf; simp at hf; rcases hf with rfl | rfl <;> exact ⟨by decide, by first | exact ⟨_, Try.underlying3⟩⟩) rfl rfl
theorem eq60 : EqFact Try.prog 60 7 := by
  refine EqFact.nestZ [1, 2, 2, 1, 1] Try.underlying60 (by kernel_rfl) (by kernel_rfl) rfl ?_ (by simp [offOk]) rfl
  intro p hp
  simp at hp
  rcases hp with rfl | rfl | rfl | rfl | rfl
  · exact FldEq.int (d := 9998) (by decide) Try.underlying3
  · exact FldEq.struct (d := 9997) (by decide) Try.underlying49 inf49 rfl (by kernel_rfl) (by intro g hg; simp at hg; rcases hg with rfl | rfl <;> exact ⟨by decide, by first | exact ⟨_, Try.underlying3⟩⟩) rfl rfl
  · exact FldEq.struct (d := 9997) (by decide) Try.underlying49 inf49 rfl (by kernel_rfl) (by intro g hg; simp at hg; rcases hg with rfl | rfl <;> exact ⟨by decide, by first | exact ⟨_, Try.underlying3⟩⟩) rfl rfl
  · exact FldEq.int (d := 9998) (by decide) Try.underlying3
  · exact FldEq.int (d := 9998) (by decide) Try.underlying3
theorem eq91 : EqFact Try.prog 91 2 := EqFact.ints Try.underlying91 (by kernel_rfl) (by kernel_rfl) (by intro f hf; simp at hf; rcases hf with rfl | rfl <;> exact ⟨by decide, by first | exact ⟨_, Try.underlying3⟩⟩) rfl rfl
theorem good3 : Go.Av.Good Try.prog 3 (tt 3) := ⟨⟨Try.t3, _, inf3, rfl, rfl, rfl, fun c => by simp [tt, VRs, VR, Value.cells], rfl, rfl⟩, Try.underlying3, fun h => by cases h⟩
theorem good4 : Go.Av.Good Try.prog 4 (tt 4) := ⟨⟨Try.t4, _, inf4, rfl, rfl, rfl, fun c => by simp [tt, VRs, VR, Value.cells], rfl, rfl⟩, Try.underlying4, fun h => by cases h⟩
theorem good22 : Go.Av.Good Try.prog 22 (tt 22) := ⟨⟨Try.t22, _, inf22, rfl, rfl, rfl, fun c => by simp [tt, VRs, VR, Value.cells], rfl, rfl⟩, ⟨Try.underlying22, by rw [inf3]; rfl⟩, fun h => by cases h⟩
theorem good25 : Go.Av.Good Try.prog 25 (tt 25) := ⟨⟨Try.t25, _, inf25, rfl, rfl, rfl, fun c => by simp [tt, VRs, VR, Value.cells], rfl, rfl⟩, ⟨Try.underlying25, by rw [inf60]; rfl⟩, fun h => by cases h⟩
theorem good27 : Go.Av.Good Try.prog 27 (tt 27) := ⟨⟨Try.t27, _, inf27, rfl, rfl, rfl, fun c => by simp [tt, VRs, VR, Value.cells], rfl, rfl⟩, ⟨_, Try.underlying27, by simp [cel3, ag3, cel25, ag25, tt], by simp [inf3, Try.underlying3, inf25, Try.underlying25]⟩, fun h => by cases h⟩
theorem good32 : Go.Av.Good Try.prog 32 (tt 32) := ⟨⟨Try.t32, _, inf32, rfl, rfl, rfl, fun c => by simp [tt, VRs, VR, Value.cells], rfl, rfl⟩, ⟨_, Try.underlying32, by simp [cel3, ag3, tt], by simp [inf3, Try.underlying3]⟩, fun _ => eq32⟩
theorem good34 : Go.Av.Good Try.prog 34 (tt 34) := ⟨⟨Try.t34, _, inf34, rfl, rfl, rfl, fun c => by simp [tt, VRs, VR, Value.cells], rfl, rfl⟩, Try.underlying34, fun h => by cases h⟩
theorem good37 : Go.Av.Good Try.prog 37 (tt 37) := ⟨⟨Try.t37, _, inf37, rfl, rfl, rfl, fun c => by simp [tt, VRs, VR, Value.cells], rfl, rfl⟩, ⟨Try.underlying37, by rw [inf32]; rfl⟩, fun h => by cases h⟩
theorem good43 : Go.Av.Good Try.prog 43 (tt 43) := ⟨⟨Try.t43, _, inf43, rfl, rfl, rfl, fun c => by simp [tt, VRs, VR, Value.cells], rfl, rfl⟩, ⟨Try.underlying43, by rw [inf27]; rfl⟩, fun h => by cases h⟩
theorem good44 : Go.Av.Good Try.prog 44 (tt 44) := ⟨⟨Try.t44, _, inf44, rfl, rfl, rfl, fun c => by simp [tt, VRs, VR, Value.cells], rfl, rfl⟩, ⟨Try.underlying44, by rw [inf37]; rfl⟩, fun h => by cases h⟩
theorem good49 : Go.Av.Good Try.prog 49 (tt 49) := ⟨⟨Try.t49, _, inf49, rfl, rfl, rfl, fun c => by simp [tt, VRs, VR, Value.cells], rfl, rfl⟩, ⟨_, Try.underlying49, by simp [cel3, ag3, tt], by simp [inf3, Try.underlying3]⟩, fun _ => eq49⟩
theorem good60 : Go.Av.Good Try.prog 60 (tt 60) := ⟨⟨Try.t60, _, inf60, rfl, rfl, rfl, fun c => by simp [tt, VRs, VR, Value.cells], rfl, rfl⟩, ⟨_, Try.underlying60, by simp [cel3, ag3, cel49, ag49, tt], by simp [inf3, Try.underlying3, inf49, Try.underlying49]⟩, fun _ => eq60⟩
theorem good73 : Go.Av.Good Try.prog 73 (tt 73) := ⟨⟨Try.t73, _, inf73, rfl, rfl, rfl, fun c => by simp [tt, VRs, VR, Value.cells], rfl, rfl⟩, ⟨_, Try.underlying73, by simp [cel22, ag22, tt], by simp [inf22, Try.underlying22]⟩, fun h => by cases h⟩
theorem good81 : Go.Av.Good Try.prog 81 (tt 81) := ⟨⟨Try.t81, _, inf81, rfl, rfl, rfl, fun c => by simp [tt, VRs, VR, Value.cells], rfl, rfl⟩, ⟨Try.underlying81, by rw [inf73]; rfl⟩, fun h => by cases h⟩
theorem good85 : Go.Av.Good Try.prog 85 (tt 85) := ⟨⟨Try.t85, _, inf85, rfl, rfl, rfl, fun c => by simp [tt, VRs, VR, Value.cells], rfl, rfl⟩, ⟨Try.underlying85, by rw [inf91]; rfl⟩, fun h => by cases h⟩
theorem good91 : Go.Av.Good Try.prog 91 (tt 91) := ⟨⟨Try.t91, _, inf91, rfl, rfl, rfl, fun c => by simp [tt, VRs, VR, Value.cells], rfl, rfl⟩, ⟨_, Try.underlying91, by simp [cel3, ag3, tt], by simp [inf3, Try.underlying3]⟩, fun _ => eq91⟩
theorem good92 : Go.Av.Good Try.prog 92 (tt 92) := ⟨⟨Try.t92, _, inf92, rfl, rfl, rfl, fun c => by simp [tt, VRs, VR, Value.cells], rfl, rfl⟩, Try.underlying92, fun h => by cases h⟩
theorem good94 : Go.Av.Good Try.prog 94 (tt 94) := ⟨⟨Try.t94, _, inf94, rfl, rfl, rfl, fun c => by simp [tt, VRs, VR, Value.cells], rfl, rfl⟩, ⟨_, Try.underlying94, by simp [cel92, ag92, tt], by simp [inf92, Try.underlying92]⟩, fun h => by cases h⟩
theorem good96 : Go.Av.Good Try.prog 96 (tt 96) := ⟨⟨Try.t96, _, inf96, rfl, rfl, rfl, fun c => by simp [tt, VRs, VR, Value.cells], rfl, rfl⟩, Try.underlying96, fun h => by cases h⟩
theorem good101 : Go.Av.Good Try.prog 101 (tt 101) := ⟨⟨Try.t101, _, inf101, rfl, rfl, rfl, fun c => by simp [tt, VRs, VR, Value.cells], rfl, rfl⟩, ⟨_, Try.underlying101, by simp [cel3, ag3, cel27, ag27, tt], by simp [inf3, Try.underlying3, inf27, Try.underlying27]⟩, fun h => by cases h⟩
theorem good109 : Go.Av.Good Try.prog 109 (tt 109) := ⟨⟨Try.t109, _, inf109, rfl, rfl, rfl, fun c => by simp [tt, VRs, VR, Value.cells], rfl, rfl⟩, ⟨_, Try.underlying109, rfl⟩, fun h => by cases h⟩
theorem good119 : Go.Av.Good Try.prog 119 (tt 119) := ⟨⟨Try.t119, _, inf119, rfl, rfl, rfl, fun c => by simp [tt, VRs, VR, Value.cells], rfl, rfl⟩, ⟨Try.underlying119, by rw [inf3]; rfl⟩, fun h => by cases h⟩
theorem good128 : Go.Av.Good Try.prog 128 (tt 128) := ⟨⟨Try.t128, _, inf128, rfl, rfl, rfl, fun c => by simp [tt, VRs, VR, Value.cells], rfl, rfl⟩, ⟨_, Try.underlying128, rfl⟩, fun h => by cases h⟩
theorem tab : Tab Try.prog tt where
  all := fun t h => by
    unfold tt at h ⊢
    split at h
    · exact good3
    · exact good4
    · exact good22
    · exact good25
    · exact good27
    · exact good32
    · exact good34
    · exact good37
    · exact good43
    · exact good44
    · exact good49
    · exact good60
    · exact good73
    · exact good81
    · exact good85
    · exact good91
    · exact good92
    · exact good94
    · exact good96
    · exact good101
    · exact good109
    · exact good119
    · exact good128
    · cases h
  elem := fun t e h => by
    unfold tt at h
    split at h <;> first | (cases h; done) | (cases h; rfl)
@[go_sem] theorem tt_0 : (∀ (s : AS) (p : AV), aload (tt 3) s p = (s.row p).bind fun r => apart false 1 r.2 r.1) := by intro s p; unfold aload; cases s.row p <;> rfl
@[go_sem] theorem tt_1 : (∀ ev : Operand → AV, arows tt ev (.alloc 3) = some (1, [[.int .i64 0]], 3)) := by intros; rfl
@[go_sem] theorem tt_2 : (∀ (ev : Operand → AV) (x : Operand), arows tt ev (.box 3 x) = if noL (ev x) = true ∧ (ev x).cells.length = 1 ∧ (ev x).cells.all AV.cell = true then some (1, [(ev x).cells], 3) else none) := by intro ev x; simp [arows, tt, TI.knows]
@[go_sem] theorem tt_3 : (∀ (k : IntKind) (n : Int), aconv (tt 3) (tt 92) (.int k n) = some (.int .u64 (wr .u64 n))) := by intros; rfl
@[go_sem] theorem tt_4 : (∀ (k : IntKind) (n : Int), aconv (tt 3) (tt 96) (.int k n) = some (.int .u64 (wr .u64 n))) := by intros; rfl
@[go_sem] theorem tt_5 : (∀ (s : AS) (p v : AV), aput (tt 3) s p v = aputz 1 s p v) := fun s p v => aput_z rfl rfl s p v
@[go_sem] theorem tt_6 : (∀ (s : AS) (p : AV), aload (tt 4) s p = (s.row p).bind fun r => apart false 1 r.2 r.1) := by intro s p; unfold aload; cases s.row p <;> rfl
@[go_sem] theorem tt_7 : (∀ ev : Operand → AV, arows tt ev (.alloc 4) = some (1, [[.bool false]], 4)) := by intros; rfl
@[go_sem] theorem tt_8 : (∀ (ev : Operand → AV) (x : Operand), arows tt ev (.box 4 x) = if noL (ev x) = true ∧ (ev x).cells.length = 1 ∧ (ev x).cells.all AV.cell = true then some (1, [(ev x).cells], 4) else none) := by intro ev x; simp [arows, tt, TI.knows]
@[go_sem] theorem tt_9 : (∀ c a b : Bool, abin (tt 4) .eql c (.bool a) (.bool b) = some (.bool (a == b))) := by intros; rfl
@[go_sem] theorem tt_10 : (∀ c a b : Bool, abin (tt 4) .neq c (.bool a) (.bool b) = some (.bool (!(a == b)))) := by intros; rfl
@[go_sem] theorem tt_11 : (∀ (s : AS) (p v : AV), aput (tt 4) s p v = aputz 1 s p v) := fun s p v => aput_z rfl rfl s p v
@[go_sem] theorem tt_12 : (∀ (s : AS) (p : AV), aload (tt 22) s p = (s.row p).bind fun r => apart false 1 r.2 r.1) := by intro s p; unfold aload; cases s.row p <;> rfl
@[go_sem] theorem tt_13 : (∀ ev : Operand → AV, arows tt ev (.alloc 22) = some (1, [[.nils]], 22)) := by intros; rfl
@[go_sem] theorem tt_14 : (∀ (ev : Operand → AV) (x : Operand), arows tt ev (.box 22 x) = if noL (ev x) = true ∧ (ev x).cells.length = 1 ∧ (ev x).cells.all AV.cell = true then some (1, [(ev x).cells], 22) else none) := by intro ev x; simp [arows, tt, TI.knows]
@[go_sem] theorem tt_15 : (∀ (es : List (List AV)) (k : IntKind) (i : Int), aidx tt 22 (.lst 1 es) (.int k i) = if 0 ≤ i ∧ i < es.length then some (.iptr (es.getD i.toNat []) 0) else none) := by intros; rfl
@[go_sem] theorem tt_16 : (∀ (b : Bid) (o n : Nat) (k : IntKind) (i : Int), aidx tt 22 (.slc b 1 o n) (.int k i) = if 0 ≤ i ∧ i < n then some (.ptr b (o + i.toNat) 0) else none) := by intros; rfl
@[go_sem] theorem tt_17 : (∀ (b : Bid) (e o n : Nat), alen (tt 22) (.slc b e o n) = some (n : Int)) := by intros; rfl
@[go_sem] theorem tt_18 : (∀ (e : Nat) (es : List (List AV)), alen (tt 22) (.lst e es) = some (es.length : Int)) := by intros; rfl
@[go_sem] theorem tt_19 : (alen (tt 22) .nils = some 0) := by intros; rfl
@[go_sem] theorem tt_20 : (elsize tt 22 = 1) := by intros; rfl
@[go_sem] theorem tt_21 : (∀ (ev : Operand → AV) (n : Nat) (ps : List (Nat × Operand)), absl tt ev 22 n ps = if n ≤ 16777216 ∧ n * 1 ≤ 16777216 ∧ ps.map (·.1) = List.range n ∧ (ps.all fun p => noL (ev p.2) && ((ev p.2).cells.length == 1) && (ev p.2).cells.all AV.cell) = true then some (1, ps.map fun p => (ev p.2).cells) else none) := by intros; rfl
@[go_sem] theorem tt_22 : (∀ (k k' : IntKind) (l c : Int), amake tt 22 (.int k l) (.int k' c) = if 0 ≤ l ∧ l ≤ c ∧ c * 8 ≤ 70368744177664 ∧ c ≤ 70368744177664 then some (1, List.replicate l.toNat [.int .i64 0], l.toNat) else none) := by intros; rfl
@[go_sem] theorem tt_23 : (∀ (ez b1 o n : Nat) (b : Bid) (lo hi : Option AV), asl (tt 22) ez lo hi (.slc b b1 o n) = aslz n lo hi fun l h => if b1 = ez then some (.slc b b1 (o + l) (h - l)) else none) := fun ez b1 o n b lo hi => asl_slc rfl ez lo hi b b1 o n
@[go_sem] theorem tt_24 : (∀ (ez e : Nat) (es : List (List AV)) (lo hi : Option AV), asl (tt 22) ez lo hi (.lst e es) = aslz es.length lo hi fun l h => if e = ez then some (.lst e ((es.drop l).take (h - l))) else none) := fun ez e es lo hi => asl_lst rfl ez lo hi e es
@[go_sem] theorem tt_25 : (∀ (h : AH) (id : Bid) (x y : AV), aapp tt h 22 id x y = aappz 1 8 h id x y) := fun h id x y => by unfold aapp aappz; rfl
@[go_sem] theorem tt_26 : (∀ (s : AS) (p v : AV), aput (tt 22) s p v = aputz 1 s p v) := fun s p v => aput_z rfl rfl s p v
@[go_sem] theorem tt_27 : (∀ (s : AS) (p : AV), aload (tt 25) s p = (s.row p).bind fun r => apart false 1 r.2 r.1) := by intro s p; unfold aload; cases s.row p <;> rfl
@[go_sem] theorem tt_28 : (∀ ev : Operand → AV, arows tt ev (.alloc 25) = some (1, [[.nils]], 25)) := by intros; rfl
@[go_sem] theorem tt_29 : (∀ (ev : Operand → AV) (x : Operand), arows tt ev (.box 25 x) = if noL (ev x) = true ∧ (ev x).cells.length = 1 ∧ (ev x).cells.all AV.cell = true then some (1, [(ev x).cells], 25) else none) := by intro ev x; simp [arows, tt, TI.knows]
@[go_sem] theorem tt_30 : (∀ (es : List (List AV)) (k : IntKind) (i : Int), aidx tt 25 (.lst 7 es) (.int k i) = if 0 ≤ i ∧ i < es.length then some (.iptr (es.getD i.toNat []) 0) else none) := by intros; rfl
@[go_sem] theorem tt_31 : (∀ (b : Bid) (o n : Nat) (k : IntKind) (i : Int), aidx tt 25 (.slc b 7 o n) (.int k i) = if 0 ≤ i ∧ i < n then some (.ptr b (o + i.toNat) 0) else none) := by intros; rfl
@[go_sem] theorem tt_32 : (∀ (b : Bid) (e o n : Nat), alen (tt 25) (.slc b e o n) = some (n : Int)) := by intros; rfl
@[go_sem] theorem tt_33 : (∀ (e : Nat) (es : List (List AV)), alen (tt 25) (.lst e es) = some (es.length : Int)) := by intros; rfl
@[go_sem] theorem tt_34 : (alen (tt 25) .nils = some 0) := by intros; rfl
@[go_sem] theorem tt_35 : (elsize tt 25 = 7) := by intros; rfl
@[go_sem] theorem tt_36 : (∀ (ev : Operand → AV) (n : Nat) (ps : List (Nat × Operand)), absl tt ev 25 n ps = if n ≤ 16777216 ∧ n * 7 ≤ 16777216 ∧ ps.map (·.1) = List.range n ∧ (ps.all fun p => noL (ev p.2) && ((ev p.2).cells.length == 7) && (ev p.2).cells.all AV.cell) = true then some (7, ps.map fun p => (ev p.2).cells) else none) := by intros; rfl
@[go_sem] theorem tt_37 : (∀ (k k' : IntKind) (l c : Int), amake tt 25 (.int k l) (.int k' c) = if 0 ≤ l ∧ l ≤ c ∧ c * 56 ≤ 70368744177664 ∧ c ≤ 70368744177664 then some (7, List.replicate l.toNat [.int .i64 0, .int .i64 0, .int .i64 0, .int .i64 0, .int .i64 0, .int .i64 0, .int .i64 0], l.toNat) else none) := by intros; rfl
@[go_sem] theorem tt_38 : (∀ (ez b1 o n : Nat) (b : Bid) (lo hi : Option AV), asl (tt 25) ez lo hi (.slc b b1 o n) = aslz n lo hi fun l h => if b1 = ez then some (.slc b b1 (o + l) (h - l)) else none) := fun ez b1 o n b lo hi => asl_slc rfl ez lo hi b b1 o n
@[go_sem] theorem tt_39 : (∀ (ez e : Nat) (es : List (List AV)) (lo hi : Option AV), asl (tt 25) ez lo hi (.lst e es) = aslz es.length lo hi fun l h => if e = ez then some (.lst e ((es.drop l).take (h - l))) else none) := fun ez e es lo hi => asl_lst rfl ez lo hi e es
@[go_sem] theorem tt_40 : (∀ (h : AH) (id : Bid) (x y : AV), aapp tt h 25 id x y = aappz 7 56 h id x y) := fun h id x y => by unfold aapp aappz; rfl
@[go_sem] theorem tt_41 : (∀ (s : AS) (p v : AV), aput (tt 25) s p v = aputz 1 s p v) := fun s p v => aput_z rfl rfl s p v
@[go_sem] theorem tt_42 : (∀ (s : AS) (p : AV), aload (tt 27) s p = (s.row p).bind fun r => apart true 9 r.2 r.1) := by intro s p; unfold aload; cases s.row p <;> rfl
@[go_sem] theorem tt_43 : (∀ ev : Operand → AV, arows tt ev (.alloc 27) = some (9, [[.int .i64 0, .int .i64 0, .int .i64 0, .int .i64 0, .int .i64 0, .int .i64 0, .int .i64 0, .int .i64 0, .nils]], 27)) := by intros; rfl
@[go_sem] theorem tt_44 : (∀ (ev : Operand → AV) (x : Operand), arows tt ev (.box 27 x) = if noL (ev x) = true ∧ (ev x).cells.length = 9 ∧ (ev x).cells.all AV.cell = true then some (9, [(ev x).cells], 27) else none) := by intro ev x; simp [arows, tt, TI.knows]
@[go_sem] theorem tt_45 : (∀ v : AV, afieldAddr (tt 27) 0 v = amove 0 v) := by intros; rfl
@[go_sem] theorem tt_46 : (∀ cs : List AV, afield (tt 27) 0 (.agg cs) = apart false 1 0 cs) := by intros; rfl
@[go_sem] theorem tt_47 : (∀ v : AV, afieldAddr (tt 27) 1 v = amove 1 v) := by intros; rfl
@[go_sem] theorem tt_48 : (∀ cs : List AV, afield (tt 27) 1 (.agg cs) = apart false 1 1 cs) := by intros; rfl
@[go_sem] theorem tt_49 : (∀ v : AV, afieldAddr (tt 27) 2 v = amove 2 v) := by intros; rfl
@[go_sem] theorem tt_50 : (∀ cs : List AV, afield (tt 27) 2 (.agg cs) = apart false 1 2 cs) := by intros; rfl
@[go_sem] theorem tt_51 : (∀ v : AV, afieldAddr (tt 27) 3 v = amove 3 v) := by intros; rfl
@[go_sem] theorem tt_52 : (∀ cs : List AV, afield (tt 27) 3 (.agg cs) = apart false 1 3 cs) := by intros; rfl
@[go_sem] theorem tt_53 : (∀ v : AV, afieldAddr (tt 27) 4 v = amove 4 v) := by intros; rfl
@[go_sem] theorem tt_54 : (∀ cs : List AV, afield (tt 27) 4 (.agg cs) = apart false 1 4 cs) := by intros; rfl
@[go_sem] theorem tt_55 : (∀ v : AV, afieldAddr (tt 27) 5 v = amove 5 v) := by intros; rfl
@[go_sem] theorem tt_56 : (∀ cs : List AV, afield (tt 27) 5 (.agg cs) = apart false 1 5 cs) := by intros; rfl
@[go_sem] theorem tt_57 : (∀ v : AV, afieldAddr (tt 27) 6 v = amove 6 v) := by intros; rfl
@[go_sem] theorem tt_58 : (∀ cs : List AV, afield (tt 27) 6 (.agg cs) = apart false 1 6 cs) := by intros; rfl
@[go_sem] theorem tt_59 : (∀ v : AV, afieldAddr (tt 27) 7 v = amove 7 v) := by intros; rfl
@[go_sem] theorem tt_60 : (∀ cs : List AV, afield (tt 27) 7 (.agg cs) = apart false 1 7 cs) := by intros; rfl
@[go_sem] theorem tt_61 : (∀ v : AV, afieldAddr (tt 27) 8 v = amove 8 v) := by intros; rfl
@[go_sem] theorem tt_62 : (∀ cs : List AV, afield (tt 27) 8 (.agg cs) = apart false 1 8 cs) := by intros; rfl
@[go_sem] theorem tt_63 : (∀ ps : List (Nat × AV), abuild tt 27 ps = (afill (fun i => ([(0, 1), (1, 1), (2, 1), (3, 1), (4, 1), (5, 1), (6, 1), (7, 1), (8, 1)] : List (Nat × Nat))[i]?) [.int .i64 0, .int .i64 0, .int .i64 0, .int .i64 0, .int .i64 0, .int .i64 0, .int .i64 0, .int .i64 0, .nils] ps).map .agg) := fun ps => by show Option.map _ (afill _ _ _) = _; congr 2; funext i; rw [← List.getElem?_map]; rfl
@[go_sem] theorem tt_64 : (∀ (s : AS) (p v : AV), aput (tt 27) s p v = aputz 9 s p v) := fun s p v => aput_z rfl rfl s p v
@[go_sem] theorem tt_65 : (∀ (s : AS) (p : AV), aload (tt 32) s p = (s.row p).bind fun r => apart true 3 r.2 r.1) := by intro s p; unfold aload; cases s.row p <;> rfl
@[go_sem] theorem tt_66 : (∀ ev : Operand → AV, arows tt ev (.alloc 32) = some (3, [[.int .i64 0, .int .i64 0, .int .i64 0]], 32)) := by intros; rfl
@[go_sem] theorem tt_67 : (∀ (ev : Operand → AV) (x : Operand), arows tt ev (.box 32 x) = if noL (ev x) = true ∧ (ev x).cells.length = 3 ∧ (ev x).cells.all AV.cell = true then some (3, [(ev x).cells], 32) else none) := by intro ev x; simp [arows, tt, TI.knows]
@[go_sem] theorem tt_68 : (∀ v : AV, afieldAddr (tt 32) 0 v = amove 0 v) := by intros; rfl
@[go_sem] theorem tt_69 : (∀ cs : List AV, afield (tt 32) 0 (.agg cs) = apart false 1 0 cs) := by intros; rfl
@[go_sem] theorem tt_70 : (∀ v : AV, afieldAddr (tt 32) 1 v = amove 1 v) := by intros; rfl
@[go_sem] theorem tt_71 : (∀ cs : List AV, afield (tt 32) 1 (.agg cs) = apart false 1 1 cs) := by intros; rfl
@[go_sem] theorem tt_72 : (∀ v : AV, afieldAddr (tt 32) 2 v = amove 2 v) := by intros; rfl
@[go_sem] theorem tt_73 : (∀ cs : List AV, afield (tt 32) 2 (.agg cs) = apart false 1 2 cs) := by intros; rfl
@[go_sem] theorem tt_74 : (∀ ps : List (Nat × AV), abuild tt 32 ps = (afill (fun i => ([(0, 1), (1, 1), (2, 1)] : List (Nat × Nat))[i]?) [.int .i64 0, .int .i64 0, .int .i64 0] ps).map .agg) := fun ps => by show Option.map _ (afill _ _ _) = _; congr 2; funext i; rw [← List.getElem?_map]; rfl
@[go_sem] theorem tt_75 : (∀ (c : Bool) (x y : List AV), abin (tt 32) .eql c (.agg x) (.agg y) = aeql 3 (fun b => b) (ints x) (ints y)) := fun c x y => by cases hx : ints x <;> cases hy : ints y <;> simp [tt, abin, aeql, hx, hy]
@[go_sem] theorem tt_76 : (∀ (c : Bool) (x y : List AV), abin (tt 32) .neq c (.agg x) (.agg y) = aeql 3 (fun b => !b) (ints x) (ints y)) := fun c x y => by cases hx : ints x <;> cases hy : ints y <;> simp [tt, abin, aeql, hx, hy]
@[go_sem] theorem tt_77 : (∀ (s : AS) (p v : AV), aput (tt 32) s p v = aputz 3 s p v) := fun s p v => aput_z rfl rfl s p v
@[go_sem] theorem tt_78 : (∀ (s : AS) (p : AV), aload (tt 34) s p = (s.row p).bind fun r => apart false 1 r.2 r.1) := by intro s p; unfold aload; cases s.row p <;> rfl
@[go_sem] theorem tt_79 : (∀ ev : Operand → AV, arows tt ev (.alloc 34) = some (1, [[.int .i64 0]], 34)) := by intros; rfl
@[go_sem] theorem tt_80 : (∀ (ev : Operand → AV) (x : Operand), arows tt ev (.box 34 x) = if noL (ev x) = true ∧ (ev x).cells.length = 1 ∧ (ev x).cells.all AV.cell = true then some (1, [(ev x).cells], 34) else none) := by intro ev x; simp [arows, tt, TI.knows]
@[go_sem] theorem tt_81 : (∀ (s : AS) (p v : AV), aput (tt 34) s p v = aputz 1 s p v) := fun s p v => aput_z rfl rfl s p v
@[go_sem] theorem tt_82 : (∀ (s : AS) (p : AV), aload (tt 37) s p = (s.row p).bind fun r => apart false 1 r.2 r.1) := by intro s p; unfold aload; cases s.row p <;> rfl
@[go_sem] theorem tt_83 : (∀ ev : Operand → AV, arows tt ev (.alloc 37) = some (1, [[.nils]], 37)) := by intros; rfl
@[go_sem] theorem tt_84 : (∀ (ev : Operand → AV) (x : Operand), arows tt ev (.box 37 x) = if noL (ev x) = true ∧ (ev x).cells.length = 1 ∧ (ev x).cells.all AV.cell = true then some (1, [(ev x).cells], 37) else none) := by intro ev x; simp [arows, tt, TI.knows]
@[go_sem] theorem tt_85 : (∀ (es : List (List AV)) (k : IntKind) (i : Int), aidx tt 37 (.lst 3 es) (.int k i) = if 0 ≤ i ∧ i < es.length then some (.iptr (es.getD i.toNat []) 0) else none) := by intros; rfl
@[go_sem] theorem tt_86 : (∀ (b : Bid) (o n : Nat) (k : IntKind) (i : Int), aidx tt 37 (.slc b 3 o n) (.int k i) = if 0 ≤ i ∧ i < n then some (.ptr b (o + i.toNat) 0) else none) := by intros; rfl
@[go_sem] theorem tt_87 : (∀ (b : Bid) (e o n : Nat), alen (tt 37) (.slc b e o n) = some (n : Int)) := by intros; rfl
@[go_sem] theorem tt_88 : (∀ (e : Nat) (es : List (List AV)), alen (tt 37) (.lst e es) = some (es.length : Int)) := by intros; rfl
@[go_sem] theorem tt_89 : (alen (tt 37) .nils = some 0) := by intros; rfl
@[go_sem] theorem tt_90 : (elsize tt 37 = 3) := by intros; rfl
@[go_sem] theorem tt_91 : (∀ (ev : Operand → AV) (n : Nat) (ps : List (Nat × Operand)), absl tt ev 37 n ps = if n ≤ 16777216 ∧ n * 3 ≤ 16777216 ∧ ps.map (·.1) = List.range n ∧ (ps.all fun p => noL (ev p.2) && ((ev p.2).cells.length == 3) && (ev p.2).cells.all AV.cell) = true then some (3, ps.map fun p => (ev p.2).cells) else none) := by intros; rfl
@[go_sem] theorem tt_92 : (∀ (k k' : IntKind) (l c : Int), amake tt 37 (.int k l) (.int k' c) = if 0 ≤ l ∧ l ≤ c ∧ c * 24 ≤ 70368744177664 ∧ c ≤ 70368744177664 then some (3, List.replicate l.toNat [.int .i64 0, .int .i64 0, .int .i64 0], l.toNat) else none) := by intros; rfl
@[go_sem] theorem tt_93 : (∀ (ez b1 o n : Nat) (b : Bid) (lo hi : Option AV), asl (tt 37) ez lo hi (.slc b b1 o n) = aslz n lo hi fun l h => if b1 = ez then some (.slc b b1 (o + l) (h - l)) else none) := fun ez b1 o n b lo hi => asl_slc rfl ez lo hi b b1 o n
@[go_sem] theorem tt_94 : (∀ (ez e : Nat) (es : List (List AV)) (lo hi : Option AV), asl (tt 37) ez lo hi (.lst e es) = aslz es.length lo hi fun l h => if e = ez then some (.lst e ((es.drop l).take (h - l))) else none) := fun ez e es lo hi => asl_lst rfl ez lo hi e es
@[go_sem] theorem tt_95 : (∀ (h : AH) (id : Bid) (x y : AV), aapp tt h 37 id x y = aappz 3 24 h id x y) := fun h id x y => by unfold aapp aappz; rfl
@[go_sem] theorem tt_96 : (∀ (s : AS) (p v : AV), aput (tt 37) s p v = aputz 1 s p v) := fun s p v => aput_z rfl rfl s p v
@[go_sem] theorem tt_97 : (∀ (s : AS) (p : AV), aload (tt 43) s p = (s.row p).bind fun r => apart false 1 r.2 r.1) := by intro s p; unfold aload; cases s.row p <;> rfl
@[go_sem] theorem tt_98 : (∀ ev : Operand → AV, arows tt ev (.alloc 43) = some (1, [[.nils]], 43)) := by intros; rfl
@[go_sem] theorem tt_99 : (∀ (ev : Operand → AV) (x : Operand), arows tt ev (.box 43 x) = if noL (ev x) = true ∧ (ev x).cells.length = 1 ∧ (ev x).cells.all AV.cell = true then some (1, [(ev x).cells], 43) else none) := by intro ev x; simp [arows, tt, TI.knows]
@[go_sem] theorem tt_100 : (∀ (es : List (List AV)) (k : IntKind) (i : Int), aidx tt 43 (.lst 9 es) (.int k i) = if 0 ≤ i ∧ i < es.length then some (.iptr (es.getD i.toNat []) 0) else none) := by intros; rfl
@[go_sem] theorem tt_101 : (∀ (b : Bid) (o n : Nat) (k : IntKind) (i : Int), aidx tt 43 (.slc b 9 o n) (.int k i) = if 0 ≤ i ∧ i < n then some (.ptr b (o + i.toNat) 0) else none) := by intros; rfl
@[go_sem] theorem tt_102 : (∀ (b : Bid) (e o n : Nat), alen (tt 43) (.slc b e o n) = some (n : Int)) := by intros; rfl
@[go_sem] theorem tt_103 : (∀ (e : Nat) (es : List (List AV)), alen (tt 43) (.lst e es) = some (es.length : Int)) := by intros; rfl
@[go_sem] theorem tt_104 : (alen (tt 43) .nils = some 0) := by intros; rfl
@[go_sem] theorem tt_105 : (elsize tt 43 = 9) := by intros; rfl
@[go_sem] theorem tt_106 : (∀ (ev : Operand → AV) (n : Nat) (ps : List (Nat × Operand)), absl tt ev 43 n ps = if n ≤ 16777216 ∧ n * 9 ≤ 16777216 ∧ ps.map (·.1) = List.range n ∧ (ps.all fun p => noL (ev p.2) && ((ev p.2).cells.length == 9) && (ev p.2).cells.all AV.cell) = true then some (9, ps.map fun p => (ev p.2).cells) else none) := by intros; rfl
@[go_sem] theorem tt_107 : (∀ (k k' : IntKind) (l c : Int), amake tt 43 (.int k l) (.int k' c) = if 0 ≤ l ∧ l ≤ c ∧ c * 88 ≤ 70368744177664 ∧ c ≤ 70368744177664 then some (9, List.replicate l.toNat [.int .i64 0, .int .i64 0, .int .i64 0, .int .i64 0, .int .i64 0, .int .i64 0, .int .i64 0, .int .i64 0, .nils], l.toNat) else none) := by intros; rfl
@[go_sem] theorem tt_108 : (∀ (ez b1 o n : Nat) (b : Bid) (lo hi : Option AV), asl (tt 43) ez lo hi (.slc b b1 o n) = aslz n lo hi fun l h => if b1 = ez then some (.slc b b1 (o + l) (h - l)) else none) := fun ez b1 o n b lo hi => asl_slc rfl ez lo hi b b1 o n
@[go_sem] theorem tt_109 : (∀ (ez e : Nat) (es : List (List AV)) (lo hi : Option AV), asl (tt 43) ez lo hi (.lst e es) = aslz es.length lo hi fun l h => if e = ez then some (.lst e ((es.drop l).take (h - l))) else none) := fun ez e es lo hi => asl_lst rfl ez lo hi e es
@[go_sem] theorem tt_110 : (∀ (h : AH) (id : Bid) (x y : AV), aapp tt h 43 id x y = aappz 9 88 h id x y) := fun h id x y => by unfold aapp aappz; rfl
@[go_sem] theorem tt_111 : (∀ (s : AS) (p v : AV), aput (tt 43) s p v = aputz 1 s p v) := fun s p v => aput_z rfl rfl s p v
@[go_sem] theorem tt_112 : (∀ (s : AS) (p : AV), aload (tt 44) s p = (s.row p).bind fun r => apart false 1 r.2 r.1) := by intro s p; unfold aload; cases s.row p <;> rfl
@[go_sem] theorem tt_113 : (∀ ev : Operand → AV, arows tt ev (.alloc 44) = some (1, [[.nils]], 44)) := by intros; rfl
@[go_sem] theorem tt_114 : (∀ (ev : Operand → AV) (x : Operand), arows tt ev (.box 44 x) = if noL (ev x) = true ∧ (ev x).cells.length = 1 ∧ (ev x).cells.all AV.cell = true then some (1, [(ev x).cells], 44) else none) := by intro ev x; simp [arows, tt, TI.knows]
@[go_sem] theorem tt_115 : (∀ (es : List (List AV)) (k : IntKind) (i : Int), aidx tt 44 (.lst 1 es) (.int k i) = if 0 ≤ i ∧ i < es.length then some (.iptr (es.getD i.toNat []) 0) else none) := by intros; rfl
@[go_sem] theorem tt_116 : (∀ (b : Bid) (o n : Nat) (k : IntKind) (i : Int), aidx tt 44 (.slc b 1 o n) (.int k i) = if 0 ≤ i ∧ i < n then some (.ptr b (o + i.toNat) 0) else none) := by intros; rfl
@[go_sem] theorem tt_117 : (∀ (b : Bid) (e o n : Nat), alen (tt 44) (.slc b e o n) = some (n : Int)) := by intros; rfl
@[go_sem] theorem tt_118 : (∀ (e : Nat) (es : List (List AV)), alen (tt 44) (.lst e es) = some (es.length : Int)) := by intros; rfl
@[go_sem] theorem tt_119 : (alen (tt 44) .nils = some 0) := by intros; rfl
@[go_sem] theorem tt_120 : (elsize tt 44 = 1) := by intros; rfl
@[go_sem] theorem tt_121 : (∀ (ev : Operand → AV) (n : Nat) (ps : List (Nat × Operand)), absl tt ev 44 n ps = if n ≤ 16777216 ∧ n * 1 ≤ 16777216 ∧ ps.map (·.1) = List.range n ∧ (ps.all fun p => noL (ev p.2) && ((ev p.2).cells.length == 1) && (ev p.2).cells.all AV.cell) = true then some (1, ps.map fun p => (ev p.2).cells) else none) := by intros; rfl
@[go_sem] theorem tt_122 : (∀ (k k' : IntKind) (l c : Int), amake tt 44 (.int k l) (.int k' c) = if 0 ≤ l ∧ l ≤ c ∧ c * 24 ≤ 70368744177664 ∧ c ≤ 70368744177664 then some (1, List.replicate l.toNat [.nils], l.toNat) else none) := by intros; rfl
@[go_sem] theorem tt_123 : (∀ (ez b1 o n : Nat) (b : Bid) (lo hi : Option AV), asl (tt 44) ez lo hi (.slc b b1 o n) = aslz n lo hi fun l h => if b1 = ez then some (.slc b b1 (o + l) (h - l)) else none) := fun ez b1 o n b lo hi => asl_slc rfl ez lo hi b b1 o n
@[go_sem] theorem tt_124 : (∀ (ez e : Nat) (es : List (List AV)) (lo hi : Option AV), asl (tt 44) ez lo hi (.lst e es) = aslz es.length lo hi fun l h => if e = ez then some (.lst e ((es.drop l).take (h - l))) else none) := fun ez e es lo hi => asl_lst rfl ez lo hi e es
@[go_sem] theorem tt_125 : (∀ (h : AH) (id : Bid) (x y : AV), aapp tt h 44 id x y = aappz 1 24 h id x y) := fun h id x y => by unfold aapp aappz; rfl
@[go_sem] theorem tt_126 : (∀ (s : AS) (p v : AV), aput (tt 44) s p v = aputz 1 s p v) := fun s p v => aput_z rfl rfl s p v
@[go_sem] theorem tt_127 : (∀ (s : AS) (p : AV), aload (tt 49) s p = (s.row p).bind fun r => apart true 2 r.2 r.1) := by intro s p; unfold aload; cases s.row p <;> rfl
@[go_sem] theorem tt_128 : (∀ ev : Operand → AV, arows tt ev (.alloc 49) = some (2, [[.int .i64 0, .int .i64 0]], 49)) := by intros; rfl
@[go_sem] theorem tt_129 : (∀ (ev : Operand → AV) (x : Operand), arows tt ev (.box 49 x) = if noL (ev x) = true ∧ (ev x).cells.length = 2 ∧ (ev x).cells.all AV.cell = true then some (2, [(ev x).cells], 49) else none) := by intro ev x; simp [arows, tt, TI.knows]
@[go_sem] theorem tt_130 : (∀ v : AV, afieldAddr (tt 49) 0 v = amove 0 v) := by intros; rfl
@[go_sem] theorem tt_131 : (∀ cs : List AV, afield (tt 49) 0 (.agg cs) = apart false 1 0 cs) := by intros; rfl
@[go_sem] theorem tt_132 : (∀ v : AV, afieldAddr (tt 49) 1 v = amove 1 v) := by intros; rfl
@[go_sem] theorem tt_133 : (∀ cs : List AV, afield (tt 49) 1 (.agg cs) = apart false 1 1 cs) := by intros; rfl
@[go_sem] theorem tt_134 : (∀ ps : List (Nat × AV), abuild tt 49 ps = (afill (fun i => ([(0, 1), (1, 1)] : List (Nat × Nat))[i]?) [.int .i64 0, .int .i64 0] ps).map .agg) := fun ps => by show Option.map _ (afill _ _ _) = _; congr 2; funext i; rw [← List.getElem?_map]; rfl
@[go_sem] theorem tt_135 : (∀ (c : Bool) (x y : List AV), abin (tt 49) .eql c (.agg x) (.agg y) = aeql 2 (fun b => b) (ints x) (ints y)) := fun c x y => by cases hx : ints x <;> cases hy : ints y <;> simp [tt, abin, aeql, hx, hy]
@[go_sem] theorem tt_136 : (∀ (c : Bool) (x y : List AV), abin (tt 49) .neq c (.agg x) (.agg y) = aeql 2 (fun b => !b) (ints x) (ints y)) := fun c x y => by cases hx : ints x <;> cases hy : ints y <;> simp [tt, abin, aeql, hx, hy]
@[go_sem] theorem tt_137 : (∀ (s : AS) (p v : AV), aput (tt 49) s p v = aputz 2 s p v) := fun s p v => aput_z rfl rfl s p v
@[go_sem] theorem tt_138 : (∀ (s : AS) (p : AV), aload (tt 60) s p = (s.row p).bind fun r => apart true 7 r.2 r.1) := by intro s p; unfold aload; cases s.row p <;> rfl
@[go_sem] theorem tt_139 : (∀ ev : Operand → AV, arows tt ev (.alloc 60) = some (7, [[.int .i64 0, .int .i64 0, .int .i64 0, .int .i64 0, .int .i64 0, .int .i64 0, .int .i64 0]], 60)) := by intros; rfl
@[go_sem] theorem tt_140 : (∀ (ev : Operand → AV) (x : Operand), arows tt ev (.box 60 x) = if noL (ev x) = true ∧ (ev x).cells.length = 7 ∧ (ev x).cells.all AV.cell = true then some (7, [(ev x).cells], 60) else none) := by intro ev x; simp [arows, tt, TI.knows]
@[go_sem] theorem tt_141 : (∀ v : AV, afieldAddr (tt 60) 0 v = amove 0 v) := by intros; rfl
@[go_sem] theorem tt_142 : (∀ cs : List AV, afield (tt 60) 0 (.agg cs) = apart false 1 0 cs) := by intros; rfl
@[go_sem] theorem tt_143 : (∀ v : AV, afieldAddr (tt 60) 1 v = amove 1 v) := by intros; rfl
@[go_sem] theorem tt_144 : (∀ cs : List AV, afield (tt 60) 1 (.agg cs) = apart true 2 1 cs) := by intros; rfl
@[go_sem] theorem tt_145 : (∀ v : AV, afieldAddr (tt 60) 2 v = amove 3 v) := by intros; rfl
@[go_sem] theorem tt_146 : (∀ cs : List AV, afield (tt 60) 2 (.agg cs) = apart true 2 3 cs) := by intros; rfl
@[go_sem] theorem tt_147 : (∀ v : AV, afieldAddr (tt 60) 3 v = amove 5 v) := by intros; rfl
@[go_sem] theorem tt_148 : (∀ cs : List AV, afield (tt 60) 3 (.agg cs) = apart false 1 5 cs) := by intros; rfl
@[go_sem] theorem tt_149 : (∀ v : AV, afieldAddr (tt 60) 4 v = amove 6 v) := by intros; rfl
@[go_sem] theorem tt_150 : (∀ cs : List AV, afield (tt 60) 4 (.agg cs) = apart false 1 6 cs) := by intros; rfl
@[go_sem] theorem tt_151 : (∀ ps : List (Nat × AV), abuild tt 60 ps = (afill (fun i => ([(0, 1), (1, 2), (3, 2), (5, 1), (6, 1)] : List (Nat × Nat))[i]?) [.int .i64 0, .int .i64 0, .int .i64 0, .int .i64 0, .int .i64 0, .int .i64 0, .int .i64 0] ps).map .agg) := fun ps => by show Option.map _ (afill _ _ _) = _; congr 2; funext i; rw [← List.getElem?_map]; rfl
@[go_sem] theorem tt_152 : (∀ (c : Bool) (x y : List AV), abin (tt 60) .eql c (.agg x) (.agg y) = aeql 7 (fun b => b) (ints x) (ints y)) := fun c x y => by cases hx : ints x <;> cases hy : ints y <;> simp [tt, abin, aeql, hx, hy]
@[go_sem] theorem tt_153 : (∀ (c : Bool) (x y : List AV), abin (tt 60) .neq c (.agg x) (.agg y) = aeql 7 (fun b => !b) (ints x) (ints y)) := fun c x y => by cases hx : ints x <;> cases hy : ints y <;> simp [tt, abin, aeql, hx, hy]
@[go_sem] theorem tt_154 : (∀ (s : AS) (p v : AV), aput (tt 60) s p v = aputz 7 s p v) := fun s p v => aput_z rfl rfl s p v
@[go_sem] theorem tt_155 : (∀ (s : AS) (p : AV), aload (tt 73) s p = (s.row p).bind fun r => apart true 2 r.2 r.1) := by intro s p; unfold aload; cases s.row p <;> rfl
@[go_sem] theorem tt_156 : (∀ ev : Operand → AV, arows tt ev (.alloc 73) = some (2, [[.nils, .nils]], 73)) := by intros; rfl
@[go_sem] theorem tt_157 : (∀ (ev : Operand → AV) (x : Operand), arows tt ev (.box 73 x) = if noL (ev x) = true ∧ (ev x).cells.length = 2 ∧ (ev x).cells.all AV.cell = true then some (2, [(ev x).cells], 73) else none) := by intro ev x; simp [arows, tt, TI.knows]
@[go_sem] theorem tt_158 : (∀ v : AV, afieldAddr (tt 73) 0 v = amove 0 v) := by intros; rfl
@[go_sem] theorem tt_159 : (∀ cs : List AV, afield (tt 73) 0 (.agg cs) = apart false 1 0 cs) := by intros; rfl
@[go_sem] theorem tt_160 : (∀ v : AV, afieldAddr (tt 73) 1 v = amove 1 v) := by intros; rfl
@[go_sem] theorem tt_161 : (∀ cs : List AV, afield (tt 73) 1 (.agg cs) = apart false 1 1 cs) := by intros; rfl
@[go_sem] theorem tt_162 : (∀ ps : List (Nat × AV), abuild tt 73 ps = (afill (fun i => ([(0, 1), (1, 1)] : List (Nat × Nat))[i]?) [.nils, .nils] ps).map .agg) := fun ps => by show Option.map _ (afill _ _ _) = _; congr 2; funext i; rw [← List.getElem?_map]; rfl
@[go_sem] theorem tt_163 : (∀ (s : AS) (p v : AV), aput (tt 73) s p v = aputz 2 s p v) := fun s p v => aput_z rfl rfl s p v
@[go_sem] theorem tt_164 : (∀ (s : AS) (p : AV), aload (tt 81) s p = (s.row p).bind fun r => apart false 1 r.2 r.1) := by intro s p; unfold aload; cases s.row p <;> rfl
@[go_sem] theorem tt_165 : (∀ ev : Operand → AV, arows tt ev (.alloc 81) = some (1, [[.nils]], 81)) := by intros; rfl
@[go_sem] theorem tt_166 : (∀ (ev : Operand → AV) (x : Operand), arows tt ev (.box 81 x) = if noL (ev x) = true ∧ (ev x).cells.length = 1 ∧ (ev x).cells.all AV.cell = true then some (1, [(ev x).cells], 81) else none) := by intro ev x; simp [arows, tt, TI.knows]
@[go_sem] theorem tt_167 : (∀ (es : List (List AV)) (k : IntKind) (i : Int), aidx tt 81 (.lst 2 es) (.int k i) = if 0 ≤ i ∧ i < es.length then some (.iptr (es.getD i.toNat []) 0) else none) := by intros; rfl
@[go_sem] theorem tt_168 : (∀ (b : Bid) (o n : Nat) (k : IntKind) (i : Int), aidx tt 81 (.slc b 2 o n) (.int k i) = if 0 ≤ i ∧ i < n then some (.ptr b (o + i.toNat) 0) else none) := by intros; rfl
@[go_sem] theorem tt_169 : (∀ (b : Bid) (e o n : Nat), alen (tt 81) (.slc b e o n) = some (n : Int)) := by intros; rfl
@[go_sem] theorem tt_170 : (∀ (e : Nat) (es : List (List AV)), alen (tt 81) (.lst e es) = some (es.length : Int)) := by intros; rfl
@[go_sem] theorem tt_171 : (alen (tt 81) .nils = some 0) := by intros; rfl
@[go_sem] theorem tt_172 : (elsize tt 81 = 2) := by intros; rfl
@[go_sem] theorem tt_173 : (∀ (ev : Operand → AV) (n : Nat) (ps : List (Nat × Operand)), absl tt ev 81 n ps = if n ≤ 16777216 ∧ n * 2 ≤ 16777216 ∧ ps.map (·.1) = List.range n ∧ (ps.all fun p => noL (ev p.2) && ((ev p.2).cells.length == 2) && (ev p.2).cells.all AV.cell) = true then some (2, ps.map fun p => (ev p.2).cells) else none) := by intros; rfl
@[go_sem] theorem tt_174 : (∀ (k k' : IntKind) (l c : Int), amake tt 81 (.int k l) (.int k' c) = if 0 ≤ l ∧ l ≤ c ∧ c * 48 ≤ 70368744177664 ∧ c ≤ 70368744177664 then some (2, List.replicate l.toNat [.nils, .nils], l.toNat) else none) := by intros; rfl
@[go_sem] theorem tt_175 : (∀ (ez b1 o n : Nat) (b : Bid) (lo hi : Option AV), asl (tt 81) ez lo hi (.slc b b1 o n) = aslz n lo hi fun l h => if b1 = ez then some (.slc b b1 (o + l) (h - l)) else none) := fun ez b1 o n b lo hi => asl_slc rfl ez lo hi b b1 o n
@[go_sem] theorem tt_176 : (∀ (ez e : Nat) (es : List (List AV)) (lo hi : Option AV), asl (tt 81) ez lo hi (.lst e es) = aslz es.length lo hi fun l h => if e = ez then some (.lst e ((es.drop l).take (h - l))) else none) := fun ez e es lo hi => asl_lst rfl ez lo hi e es
@[go_sem] theorem tt_177 : (∀ (h : AH) (id : Bid) (x y : AV), aapp tt h 81 id x y = aappz 2 48 h id x y) := fun h id x y => by unfold aapp aappz; rfl
@[go_sem] theorem tt_178 : (∀ (s : AS) (p v : AV), aput (tt 81) s p v = aputz 1 s p v) := fun s p v => aput_z rfl rfl s p v
@[go_sem] theorem tt_179 : (∀ (s : AS) (p : AV), aload (tt 85) s p = (s.row p).bind fun r => apart false 1 r.2 r.1) := by intro s p; unfold aload; cases s.row p <;> rfl
@[go_sem] theorem tt_180 : (∀ ev : Operand → AV, arows tt ev (.alloc 85) = some (1, [[.nils]], 85)) := by intros; rfl
@[go_sem] theorem tt_181 : (∀ (ev : Operand → AV) (x : Operand), arows tt ev (.box 85 x) = if noL (ev x) = true ∧ (ev x).cells.length = 1 ∧ (ev x).cells.all AV.cell = true then some (1, [(ev x).cells], 85) else none) := by intro ev x; simp [arows, tt, TI.knows]
@[go_sem] theorem tt_182 : (∀ (es : List (List AV)) (k : IntKind) (i : Int), aidx tt 85 (.lst 2 es) (.int k i) = if 0 ≤ i ∧ i < es.length then some (.iptr (es.getD i.toNat []) 0) else none) := by intros; rfl
@[go_sem] theorem tt_183 : (∀ (b : Bid) (o n : Nat) (k : IntKind) (i : Int), aidx tt 85 (.slc b 2 o n) (.int k i) = if 0 ≤ i ∧ i < n then some (.ptr b (o + i.toNat) 0) else none) := by intros; rfl
@[go_sem] theorem tt_184 : (∀ (b : Bid) (e o n : Nat), alen (tt 85) (.slc b e o n) = some (n : Int)) := by intros; rfl
@[go_sem] theorem tt_185 : (∀ (e : Nat) (es : List (List AV)), alen (tt 85) (.lst e es) = some (es.length : Int)) := by intros; rfl
@[go_sem] theorem tt_186 : (alen (tt 85) .nils = some 0) := by intros; rfl
@[go_sem] theorem tt_187 : (elsize tt 85 = 2) := by intros; rfl
@[go_sem] theorem tt_188 : (∀ (ev : Operand → AV) (n : Nat) (ps : List (Nat × Operand)), absl tt ev 85 n ps = if n ≤ 16777216 ∧ n * 2 ≤ 16777216 ∧ ps.map (·.1) = List.range n ∧ (ps.all fun p => noL (ev p.2) && ((ev p.2).cells.length == 2) && (ev p.2).cells.all AV.cell) = true then some (2, ps.map fun p => (ev p.2).cells) else none) := by intros; rfl
@[go_sem] theorem tt_189 : (∀ (k k' : IntKind) (l c : Int), amake tt 85 (.int k l) (.int k' c) = if 0 ≤ l ∧ l ≤ c ∧ c * 16 ≤ 70368744177664 ∧ c ≤ 70368744177664 then some (2, List.replicate l.toNat [.int .i64 0, .int .i64 0], l.toNat) else none) := by intros; rfl
@[go_sem] theorem tt_190 : (∀ (ez b1 o n : Nat) (b : Bid) (lo hi : Option AV), asl (tt 85) ez lo hi (.slc b b1 o n) = aslz n lo hi fun l h => if b1 = ez then some (.slc b b1 (o + l) (h - l)) else none) := fun ez b1 o n b lo hi => asl_slc rfl ez lo hi b b1 o n
@[go_sem] theorem tt_191 : (∀ (ez e : Nat) (es : List (List AV)) (lo hi : Option AV), asl (tt 85) ez lo hi (.lst e es) = aslz es.length lo hi fun l h => if e = ez then some (.lst e ((es.drop l).take (h - l))) else none) := fun ez e es lo hi => asl_lst rfl ez lo hi e es
@[go_sem] theorem tt_192 : (∀ (h : AH) (id : Bid) (x y : AV), aapp tt h 85 id x y = aappz 2 16 h id x y) := fun h id x y => by unfold aapp aappz; rfl
@[go_sem] theorem tt_193 : (∀ (s : AS) (p v : AV), aput (tt 85) s p v = aputz 1 s p v) := fun s p v => aput_z rfl rfl s p v
@[go_sem] theorem tt_194 : (∀ (s : AS) (p : AV), aload (tt 91) s p = (s.row p).bind fun r => apart true 2 r.2 r.1) := by intro s p; unfold aload; cases s.row p <;> rfl
@[go_sem] theorem tt_195 : (∀ ev : Operand → AV, arows tt ev (.alloc 91) = some (2, [[.int .i64 0, .int .i64 0]], 91)) := by intros; rfl
@[go_sem] theorem tt_196 : (∀ (ev : Operand → AV) (x : Operand), arows tt ev (.box 91 x) = if noL (ev x) = true ∧ (ev x).cells.length = 2 ∧ (ev x).cells.all AV.cell = true then some (2, [(ev x).cells], 91) else none) := by intro ev x; simp [arows, tt, TI.knows]
@[go_sem] theorem tt_197 : (∀ v : AV, afieldAddr (tt 91) 0 v = amove 0 v) := by intros; rfl
@[go_sem] theorem tt_198 : (∀ cs : List AV, afield (tt 91) 0 (.agg cs) = apart false 1 0 cs) := by intros; rfl
@[go_sem] theorem tt_199 : (∀ v : AV, afieldAddr (tt 91) 1 v = amove 1 v) := by intros; rfl
@[go_sem] theorem tt_200 : (∀ cs : List AV, afield (tt 91) 1 (.agg cs) = apart false 1 1 cs) := by intros; rfl
@[go_sem] theorem tt_201 : (∀ ps : List (Nat × AV), abuild tt 91 ps = (afill (fun i => ([(0, 1), (1, 1)] : List (Nat × Nat))[i]?) [.int .i64 0, .int .i64 0] ps).map .agg) := fun ps => by show Option.map _ (afill _ _ _) = _; congr 2; funext i; rw [← List.getElem?_map]; rfl
@[go_sem] theorem tt_202 : (∀ (c : Bool) (x y : List AV), abin (tt 91) .eql c (.agg x) (.agg y) = aeql 2 (fun b => b) (ints x) (ints y)) := fun c x y => by cases hx : ints x <;> cases hy : ints y <;> simp [tt, abin, aeql, hx, hy]
@[go_sem] theorem tt_203 : (∀ (c : Bool) (x y : List AV), abin (tt 91) .neq c (.agg x) (.agg y) = aeql 2 (fun b => !b) (ints x) (ints y)) := fun c x y => by cases hx : ints x <;> cases hy : ints y <;> simp [tt, abin, aeql, hx, hy]
@[go_sem] theorem tt_204 : (∀ (s : AS) (p v : AV), aput (tt 91) s p v = aputz 2 s p v) := fun s p v => aput_z rfl rfl s p v
@[go_sem] theorem tt_205 : (∀ (s : AS) (p : AV), aload (tt 92) s p = (s.row p).bind fun r => apart false 1 r.2 r.1) := by intro s p; unfold aload; cases s.row p <;> rfl
@[go_sem] theorem tt_206 : (∀ ev : Operand → AV, arows tt ev (.alloc 92) = some (1, [[.int .u64 0]], 92)) := by intros; rfl
@[go_sem] theorem tt_207 : (∀ (ev : Operand → AV) (x : Operand), arows tt ev (.box 92 x) = if noL (ev x) = true ∧ (ev x).cells.length = 1 ∧ (ev x).cells.all AV.cell = true then some (1, [(ev x).cells], 92) else none) := by intro ev x; simp [arows, tt, TI.knows]
@[go_sem] theorem tt_208 : (∀ (k : IntKind) (n : Int), aconv (tt 92) (tt 3) (.int k n) = some (.int .i64 (wr .i64 n))) := by intros; rfl
@[go_sem] theorem tt_209 : (∀ (s : AS) (p v : AV), aput (tt 92) s p v = aputz 1 s p v) := fun s p v => aput_z rfl rfl s p v
@[go_sem] theorem tt_210 : (∀ (s : AS) (p : AV), aload (tt 94) s p = (s.row p).bind fun r => apart true 1 r.2 r.1) := by intro s p; unfold aload; cases s.row p <;> rfl
@[go_sem] theorem tt_211 : (∀ ev : Operand → AV, arows tt ev (.alloc 94) = some (1, [[.int .u64 0]], 94)) := by intros; rfl
@[go_sem] theorem tt_212 : (∀ (ev : Operand → AV) (x : Operand), arows tt ev (.box 94 x) = if noL (ev x) = true ∧ (ev x).cells.length = 1 ∧ (ev x).cells.all AV.cell = true then some (1, [(ev x).cells], 94) else none) := by intro ev x; simp [arows, tt, TI.knows]
@[go_sem] theorem tt_213 : (∀ v : AV, afieldAddr (tt 94) 0 v = amove 0 v) := by intros; rfl
@[go_sem] theorem tt_214 : (∀ cs : List AV, afield (tt 94) 0 (.agg cs) = apart false 1 0 cs) := by intros; rfl
@[go_sem] theorem tt_215 : (∀ ps : List (Nat × AV), abuild tt 94 ps = (afill (fun i => ([(0, 1)] : List (Nat × Nat))[i]?) [.int .u64 0] ps).map .agg) := fun ps => by show Option.map _ (afill _ _ _) = _; congr 2; funext i; rw [← List.getElem?_map]; rfl
@[go_sem] theorem tt_216 : (∀ (s : AS) (p v : AV), aput (tt 94) s p v = aputz 1 s p v) := fun s p v => aput_z rfl rfl s p v
@[go_sem] theorem tt_217 : (∀ (s : AS) (p : AV), aload (tt 96) s p = (s.row p).bind fun r => apart false 1 r.2 r.1) := by intro s p; unfold aload; cases s.row p <;> rfl
@[go_sem] theorem tt_218 : (∀ ev : Operand → AV, arows tt ev (.alloc 96) = some (1, [[.int .u64 0]], 96)) := by intros; rfl
@[go_sem] theorem tt_219 : (∀ (ev : Operand → AV) (x : Operand), arows tt ev (.box 96 x) = if noL (ev x) = true ∧ (ev x).cells.length = 1 ∧ (ev x).cells.all AV.cell = true then some (1, [(ev x).cells], 96) else none) := by intro ev x; simp [arows, tt, TI.knows]
@[go_sem] theorem tt_220 : (∀ (k : IntKind) (n : Int), aconv (tt 96) (tt 3) (.int k n) = some (.int .i64 (wr .i64 n))) := by intros; rfl
@[go_sem] theorem tt_221 : (∀ (s : AS) (p v : AV), aput (tt 96) s p v = aputz 1 s p v) := fun s p v => aput_z rfl rfl s p v
@[go_sem] theorem tt_222 : (∀ (s : AS) (p : AV), aload (tt 101) s p = (s.row p).bind fun r => apart true 11 r.2 r.1) := by intro s p; unfold aload; cases s.row p <;> rfl
@[go_sem] theorem tt_223 : (∀ ev : Operand → AV, arows tt ev (.alloc 101) = some (11, [[.int .i64 0, .int .i64 0, .int .i64 0, .int .i64 0, .int .i64 0, .int .i64 0, .int .i64 0, .int .i64 0, .nils, .int .i64 0, .int .i64 0]], 101)) := by intros; rfl
@[go_sem] theorem tt_224 : (∀ (ev : Operand → AV) (x : Operand), arows tt ev (.box 101 x) = if noL (ev x) = true ∧ (ev x).cells.length = 11 ∧ (ev x).cells.all AV.cell = true then some (11, [(ev x).cells], 101) else none) := by intro ev x; simp [arows, tt, TI.knows]
@[go_sem] theorem tt_225 : (∀ v : AV, afieldAddr (tt 101) 0 v = amove 0 v) := by intros; rfl
@[go_sem] theorem tt_226 : (∀ cs : List AV, afield (tt 101) 0 (.agg cs) = apart true 9 0 cs) := by intros; rfl
@[go_sem] theorem tt_227 : (∀ v : AV, afieldAddr (tt 101) 1 v = amove 9 v) := by intros; rfl
@[go_sem] theorem tt_228 : (∀ cs : List AV, afield (tt 101) 1 (.agg cs) = apart false 1 9 cs) := by intros; rfl
@[go_sem] theorem tt_229 : (∀ v : AV, afieldAddr (tt 101) 2 v = amove 10 v) := by intros; rfl
@[go_sem] theorem tt_230 : (∀ cs : List AV, afield (tt 101) 2 (.agg cs) = apart false 1 10 cs) := by intros; rfl
@[go_sem] theorem tt_231 : (∀ ps : List (Nat × AV), abuild tt 101 ps = (afill (fun i => ([(0, 9), (9, 1), (10, 1)] : List (Nat × Nat))[i]?) [.int .i64 0, .int .i64 0, .int .i64 0, .int .i64 0, .int .i64 0, .int .i64 0, .int .i64 0, .int .i64 0, .nils, .int .i64 0, .int .i64 0] ps).map .agg) := fun ps => by show Option.map _ (afill _ _ _) = _; congr 2; funext i; rw [← List.getElem?_map]; rfl
@[go_sem] theorem tt_232 : (∀ (s : AS) (p v : AV), aput (tt 101) s p v = aputz 11 s p v) := fun s p v => aput_z rfl rfl s p v
@[go_sem] theorem tt_233 : (∀ (s : AS) (p : AV), aload (tt 109) s p = (s.row p).bind fun r => apart false 1 r.2 r.1) := by intro s p; unfold aload; cases s.row p <;> rfl
@[go_sem] theorem tt_234 : (∀ ev : Operand → AV, arows tt ev (.alloc 109) = some (1, [[.nilfn]], 109)) := by intros; rfl
@[go_sem] theorem tt_235 : (∀ (ev : Operand → AV) (x : Operand), arows tt ev (.box 109 x) = if noL (ev x) = true ∧ (ev x).cells.length = 1 ∧ (ev x).cells.all AV.cell = true then some (1, [(ev x).cells], 109) else none) := by intro ev x; simp [arows, tt, TI.knows]
@[go_sem] theorem tt_236 : (∀ (s : AS) (p v : AV), aput (tt 109) s p v = aputz 1 s p v) := fun s p v => aput_z rfl rfl s p v
@[go_sem] theorem tt_237 : (∀ (s : AS) (p : AV), aload (tt 119) s p = (s.row p).bind fun r => apart true 2 r.2 r.1) := by intro s p; unfold aload; cases s.row p <;> rfl
@[go_sem] theorem tt_238 : (∀ ev : Operand → AV, arows tt ev (.alloc 119) = some (2, [[.int .i64 0, .int .i64 0]], 119)) := by intros; rfl
@[go_sem] theorem tt_239 : (∀ (ev : Operand → AV) (x : Operand), arows tt ev (.box 119 x) = if noL (ev x) = true ∧ (ev x).cells.length = 2 ∧ (ev x).cells.all AV.cell = true then some (2, [(ev x).cells], 119) else none) := by intro ev x; simp [arows, tt, TI.knows]
@[go_sem] theorem tt_240 : (∀ (v : AV) (k : IntKind) (i : Int), aidx tt 119 v (.int k i) = if 0 ≤ i ∧ i < 2 then amove (i.toNat * 1) v else none) := by intros; rfl
@[go_sem] theorem tt_241 : (∀ (cs : List AV) (k : IntKind) (i : Int), aindex tt 119 (.agg cs) (.int k i) = if 0 ≤ i ∧ i < 2 then apart false 1 (i.toNat * 1) cs else none) := by intros; rfl
@[go_sem] theorem tt_242 : (∀ ps : List (Nat × AV), abuild tt 119 ps = (afill (fun i => some (i * 1, 1)) [.int .i64 0, .int .i64 0] ps).map .agg) := by intros; rfl
@[go_sem] theorem tt_243 : (∀ (s : AS) (p v : AV), aput (tt 119) s p v = aputz 2 s p v) := fun s p v => aput_z rfl rfl s p v
@[go_sem] theorem tt_244 : (∀ (s : AS) (p : AV), aload (tt 128) s p = (s.row p).bind fun r => apart false 1 r.2 r.1) := by intro s p; unfold aload; cases s.row p <;> rfl
@[go_sem] theorem tt_245 : (∀ ev : Operand → AV, arows tt ev (.alloc 128) = some (1, [[.nilfn]], 128)) := by intros; rfl
@[go_sem] theorem tt_246 : (∀ (ev : Operand → AV) (x : Operand), arows tt ev (.box 128 x) = if noL (ev x) = true ∧ (ev x).cells.length = 1 ∧ (ev x).cells.all AV.cell = true then some (1, [(ev x).cells], 128) else none) := by intro ev x; simp [arows, tt, TI.knows]
@[go_sem] theorem tt_247 : (∀ (s : AS) (p v : AV), aput (tt 128) s p v = aputz 1 s p v) := fun s p v => aput_z rfl rfl s p v
end Go.Proofs.Ytkjpceapflhmnaa
