/- Printed by gentab.py: the types that this seat's functions name, as a table of our own; that the table is right. -/
import Derived.Test.YtbbkeakbomngoaaBaseD
import Derived.Test.YtbbkeakbomngoaaProg
import Derived.KernelRfl
set_option linter.all false
set_option linter.unusedSimpArgs false
set_option linter.unusedVariables false
namespace Go.Proofs.Ytbbkeakbomngoaa
open Go.Av
def tt : Nat → TI
  | 3 => ⟨.int .i64, 1, 8, [.int .i64 0], false⟩
  | 4 => ⟨.bool, 1, 1, [.bool false], false⟩
  | 5 => ⟨.int .u8, 1, 1, [.int .u8 0], false⟩
  | 9 => ⟨.str, 1, 16, [.str []], false⟩
  | 22 => ⟨.slice 59, 1, 24, [.nils], false⟩
  | 23 => ⟨.slice 27, 1, 24, [.nils], false⟩
  | 25 => ⟨.struct [(0, 1, false), (1, 1, false)], 2, 48, [.nils, .nils], false⟩
  | 27 => ⟨.struct [(0, 1, false), (1, 1, false), (2, 1, false)], 3, 24, [.int .i64 0, .int .i64 0, .int .i64 0], true⟩
  | 28 => ⟨.slice 3, 1, 24, [.nils], false⟩
  | 36 => ⟨.slice 25, 1, 24, [.nils], false⟩
  | 38 => ⟨.slice 28, 1, 24, [.nils], false⟩
  | 39 => ⟨.int .i64, 1, 8, [.int .i64 0], false⟩
  | 45 => ⟨.struct [(0, 1, false), (1, 1, false)], 2, 16, [.int .i64 0, .int .i64 0], true⟩
  | 59 => ⟨.struct [(0, 1, false), (1, 1, false), (2, 1, false), (3, 1, false)], 4, 48, [.int .i64 0, .int .i64 0, .int .i64 0, .nils], false⟩
  | 65 => ⟨.slice 38, 1, 24, [.nils], false⟩
  | 73 => ⟨.slice 108, 1, 24, [.nils], false⟩
  | 83 => ⟨.int .u64, 1, 8, [.int .u64 0], false⟩
  | 85 => ⟨.struct [(0, 1, false)], 1, 8, [.int .u64 0], false⟩
  | 87 => ⟨.int .u64, 1, 8, [.int .u64 0], false⟩
  | 88 => ⟨.int .i64, 1, 8, [.int .i64 0], false⟩
  | 92 => ⟨.array 8 3, 8, 64, [.int .i64 0, .int .i64 0, .int .i64 0, .int .i64 0, .int .i64 0, .int .i64 0, .int .i64 0, .int .i64 0], false⟩
  | 108 => ⟨.struct [(0, 1, false), (1, 1, false), (2, 1, false)], 3, 24, [.int .i64 0, .int .i64 0, .int .i64 0], true⟩
  | 114 => ⟨.int .u32, 1, 4, [.int .u32 0], false⟩
  | 116 => ⟨.plain, 1, 8, [.nilfn], false⟩
  | 117 => ⟨.plain, 1, 8, [.nilfn], false⟩
  | _ => ⟨.unknown, 0, 0, [], false⟩
theorem info_row {t : TypeId} {r : TypeInfo} (h : Try.prog.types[t]? = some r) : Try.prog.info? t = some r := by
  have hlt : t < Try.prog.types.size := (Array.getElem?_eq_some_iff.1 h).1
  unfold Tables.info?; rw [if_pos hlt]; exact h
theorem inf3 : Try.prog.info? 3 = some Try.t3 := info_row Try.type3
theorem cel3 : Try.prog.cellsOf 3 = 1 := by unfold Program.cellsOf; rw [inf3]; rfl
theorem ag3 : aggB Try.prog 3 = false := by unfold aggB; rw [Try.underlying3]
theorem inf4 : Try.prog.info? 4 = some Try.t4 := info_row Try.type4
theorem cel4 : Try.prog.cellsOf 4 = 1 := by unfold Program.cellsOf; rw [inf4]; rfl
theorem ag4 : aggB Try.prog 4 = false := by unfold aggB; rw [Try.underlying4]
theorem inf5 : Try.prog.info? 5 = some Try.t5 := info_row Try.type5
theorem cel5 : Try.prog.cellsOf 5 = 1 := by unfold Program.cellsOf; rw [inf5]; rfl
theorem ag5 : aggB Try.prog 5 = false := by unfold aggB; rw [Try.underlying5]
theorem inf9 : Try.prog.info? 9 = some Try.t9 := info_row Try.type9
theorem cel9 : Try.prog.cellsOf 9 = 1 := by unfold Program.cellsOf; rw [inf9]; rfl
theorem ag9 : aggB Try.prog 9 = false := by unfold aggB; rw [Try.underlying9]
theorem inf22 : Try.prog.info? 22 = some Try.t22 := info_row Try.type22
theorem cel22 : Try.prog.cellsOf 22 = 1 := by unfold Program.cellsOf; rw [inf22]; rfl
theorem ag22 : aggB Try.prog 22 = false := by unfold aggB; rw [Try.underlying22]
theorem inf23 : Try.prog.info? 23 = some Try.t23 := info_row Try.type23
theorem cel23 : Try.prog.cellsOf 23 = 1 := by unfold Program.cellsOf; rw [inf23]; rfl
theorem ag23 : aggB Try.prog 23 = false := by unfold aggB; rw [Try.underlying23]
theorem inf25 : Try.prog.info? 25 = some Try.t25 := info_row Try.type25
theorem cel25 : Try.prog.cellsOf 25 = 2 := by unfold Program.cellsOf; rw [inf25]; rfl
theorem ag25 : aggB Try.prog 25 = true := by unfold aggB; rw [Try.underlying25]
theorem inf27 : Try.prog.info? 27 = some Try.t27 := info_row Try.type27
theorem cel27 : Try.prog.cellsOf 27 = 3 := by unfold Program.cellsOf; rw [inf27]; rfl
theorem ag27 : aggB Try.prog 27 = true := by unfold aggB; rw [Try.underlying27]
theorem inf28 : Try.prog.info? 28 = some Try.t28 := info_row Try.type28
theorem cel28 : Try.prog.cellsOf 28 = 1 := by unfold Program.cellsOf; rw [inf28]; rfl
theorem ag28 : aggB Try.prog 28 = false := by unfold aggB; rw [Try.underlying28]
theorem inf36 : Try.prog.info? 36 = some Try.t36 := info_row Try.type36
theorem cel36 : Try.prog.cellsOf 36 = 1 := by unfold Program.cellsOf; rw [inf36]; rfl
theorem ag36 : aggB Try.prog 36 = false := by unfold aggB; rw [Try.underlying36]
theorem inf38 : Try.prog.info? 38 = some Try.t38 := info_row Try.type38
theorem cel38 : Try.prog.cellsOf 38 = 1 := by unfold Program.cellsOf; rw [inf38]; rfl
theorem ag38 : aggB Try.prog 38 = false := by unfold aggB; rw [Try.underlying38]
theorem inf39 : Try.prog.info? 39 = some Try.t39 := info_row Try.type39
theorem cel39 : Try.prog.cellsOf 39 = 1 := by unfold Program.cellsOf; rw [inf39]; rfl
theorem ag39 : aggB Try.prog 39 = false := by unfold aggB; rw [Try.underlying39]
theorem inf45 : Try.prog.info? 45 = some Try.t45 := info_row Try.type45
theorem cel45 : Try.prog.cellsOf 45 = 2 := by unfold Program.cellsOf; rw [inf45]; rfl
theorem ag45 : aggB Try.prog 45 = true := by unfold aggB; rw [Try.underlying45]
theorem inf59 : Try.prog.info? 59 = some Try.t59 := info_row Try.type59
theorem cel59 : Try.prog.cellsOf 59 = 4 := by unfold Program.cellsOf; rw [inf59]; rfl
theorem ag59 : aggB Try.prog 59 = true := by unfold aggB; rw [Try.underlying59]
theorem inf65 : Try.prog.info? 65 = some Try.t65 := info_row Try.type65
theorem cel65 : Try.prog.cellsOf 65 = 1 := by unfold Program.cellsOf; rw [inf65]; rfl
theorem ag65 : aggB Try.prog 65 = false := by unfold aggB; rw [Try.underlying65]
theorem inf73 : Try.prog.info? 73 = some Try.t73 := info_row Try.type73
theorem cel73 : Try.prog.cellsOf 73 = 1 := by unfold Program.cellsOf; rw [inf73]; rfl
theorem ag73 : aggB Try.prog 73 = false := by unfold aggB; rw [Try.underlying73]
theorem inf83 : Try.prog.info? 83 = some Try.t83 := info_row Try.type83
theorem cel83 : Try.prog.cellsOf 83 = 1 := by unfold Program.cellsOf; rw [inf83]; rfl
theorem ag83 : aggB Try.prog 83 = false := by unfold aggB; rw [Try.underlying83]
theorem inf85 : Try.prog.info? 85 = some Try.t85 := info_row Try.type85
theorem cel85 : Try.prog.cellsOf 85 = 1 := by unfold Program.cellsOf; rw [inf85]; rfl
theorem ag85 : aggB Try.prog 85 = true := by unfold aggB; rw [Try.underlying85]
theorem inf87 : Try.prog.info? 87 = some Try.t87 := info_row Try.type87
theorem cel87 : Try.prog.cellsOf 87 = 1 := by unfold Program.cellsOf; rw [inf87]; rfl
theorem ag87 : aggB Try.prog 87 = false := by unfold aggB; rw [Try.underlying87]
theorem inf88 : Try.prog.info? 88 = some Try.t88 := info_row Try.type88
theorem cel88 : Try.prog.cellsOf 88 = 1 := by unfold Program.cellsOf; rw [inf88]; rfl
theorem ag88 : aggB Try.prog 88 = false := by unfold aggB; rw [Try.underlying88]
theorem inf92 : Try.prog.info? 92 = some Try.t92 := info_row Try.type92
theorem cel92 : Try.prog.cellsOf 92 = 8 := by unfold Program.cellsOf; rw [inf92]; rfl
theorem ag92 : aggB Try.prog 92 = true := by unfold aggB; rw [Try.underlying92]
theorem inf108 : Try.prog.info? 108 = some Try.t108 := info_row Try.type108
theorem cel108 : Try.prog.cellsOf 108 = 3 := by unfold Program.cellsOf; rw [inf108]; rfl
theorem ag108 : aggB Try.prog 108 = true := by unfold aggB; rw [Try.underlying108]
theorem inf114 : Try.prog.info? 114 = some Try.t114 := info_row Try.type114
theorem cel114 : Try.prog.cellsOf 114 = 1 := by unfold Program.cellsOf; rw [inf114]; rfl
theorem ag114 : aggB Try.prog 114 = false := by unfold aggB; rw [Try.underlying114]
theorem inf116 : Try.prog.info? 116 = some Try.t116 := info_row Try.type116
theorem cel116 : Try.prog.cellsOf 116 = 1 := by unfold Program.cellsOf; rw [inf116]; rfl
theorem ag116 : aggB Try.prog 116 = false := by unfold aggB; rw [Try.underlying116]
theorem inf117 : Try.prog.info? 117 = some Try.t117 := info_row Try.type117
theorem cel117 : Try.prog.cellsOf 117 = 1 := by unfold Program.cellsOf; rw [inf117]; rfl
theorem ag117 : aggB Try.prog 117 = false := by unfold aggB; rw [Try.underlying117]
theorem eq27 : EqFact Try.prog 27 3 := EqFact.ints Try.underlying27 (by kernel_rfl) (by kernel_rfl) (by intro f hf; simp at hf; rcases hf with rfl | rfl | rfl <;> exact ⟨by decide, by first | exact ⟨_, Try.underlying3⟩⟩) rfl rfl
theorem eq45 : EqFact Try.prog 45 2 := EqFact.ints Try.underlying45 (by kernel_rfl) (by kernel_rfl) (by intro f hf; simp at hf; rcases hf with rfl | rfl <;> exact ⟨by decide, by first | exact ⟨_, Try.underlying3⟩⟩) rfl rfl
theorem eq108 : EqFact Try.prog 108 3 := EqFact.ints Try.underlying108 (by kernel_rfl) (by kernel_rfl) (by intro f hf; simp at hf; rcases hf with rfl | rfl | rfl <;> exact ⟨by decide, by first | exact ⟨_, Try.underlying3⟩⟩) rfl rfl
theorem good3 : Go.Av.Good Try.prog 3 (tt 3) := ⟨⟨Try.t3, _, inf3, rfl, rfl, rfl, fun c => by simp [tt, VRs, VR, Value.cells], rfl, rfl⟩, Try.underlying3, fun h => by cases h⟩
theorem good4 : Go.Av.Good Try.prog 4 (tt 4) := ⟨⟨Try.t4, _, inf4, rfl, rfl, rfl, fun c => by simp [tt, VRs, VR, Value.cells], rfl, rfl⟩, Try.underlying4, fun h => by cases h⟩
theorem good5 : Go.Av.Good Try.prog 5 (tt 5) := ⟨⟨Try.t5, _, inf5, rfl, rfl, rfl, fun c => by simp [tt, VRs, VR, Value.cells], rfl, rfl⟩, Try.underlying5, fun h => by cases h⟩
theorem good9 : Go.Av.Good Try.prog 9 (tt 9) := ⟨⟨Try.t9, _, inf9, rfl, rfl, rfl, fun c => by simp [tt, VRs, VR, Value.cells], rfl, rfl⟩, Try.underlying9, fun h => by cases h⟩
theorem good22 : Go.Av.Good Try.prog 22 (tt 22) := ⟨⟨Try.t22, _, inf22, rfl, rfl, rfl, fun c => by simp [tt, VRs, VR, Value.cells], rfl, rfl⟩, ⟨Try.underlying22, by rw [inf59]; rfl⟩, fun h => by cases h⟩
theorem good23 : Go.Av.Good Try.prog 23 (tt 23) := ⟨⟨Try.t23, _, inf23, rfl, rfl, rfl, fun c => by simp [tt, VRs, VR, Value.cells], rfl, rfl⟩, ⟨Try.underlying23, by rw [inf27]; rfl⟩, fun h => by cases h⟩
theorem good25 : Go.Av.Good Try.prog 25 (tt 25) := ⟨⟨Try.t25, _, inf25, rfl, rfl, rfl, fun c => by simp [tt, VRs, VR, Value.cells], rfl, rfl⟩, ⟨_, Try.underlying25, by simp [cel22, ag22, cel23, ag23, tt], by simp [inf22, Try.underlying22, inf23, Try.underlying23]⟩, fun h => by cases h⟩
theorem good27 : Go.Av.Good Try.prog 27 (tt 27) := ⟨⟨Try.t27, _, inf27, rfl, rfl, rfl, fun c => by simp [tt, VRs, VR, Value.cells], rfl, rfl⟩, ⟨_, Try.underlying27, by simp [cel3, ag3, tt], by simp [inf3, Try.underlying3]⟩, fun _ => eq27⟩
theorem good28 : Go.Av.Good Try.prog 28 (tt 28) := ⟨⟨Try.t28, _, inf28, rfl, rfl, rfl, fun c => by simp [tt, VRs, VR, Value.cells], rfl, rfl⟩, ⟨Try.underlying28, by rw [inf3]; rfl⟩, fun h => by cases h⟩
theorem good36 : Go.Av.Good Try.prog 36 (tt 36) := ⟨⟨Try.t36, _, inf36, rfl, rfl, rfl, fun c => by simp [tt, VRs, VR, Value.cells], rfl, rfl⟩, ⟨Try.underlying36, by rw [inf25]; rfl⟩, fun h => by cases h⟩
theorem good38 : Go.Av.Good Try.prog 38 (tt 38) := ⟨⟨Try.t38, _, inf38, rfl, rfl, rfl, fun c => by simp [tt, VRs, VR, Value.cells], rfl, rfl⟩, ⟨Try.underlying38, by rw [inf28]; rfl⟩, fun h => by cases h⟩
theorem good39 : Go.Av.Good Try.prog 39 (tt 39) := ⟨⟨Try.t39, _, inf39, rfl, rfl, rfl, fun c => by simp [tt, VRs, VR, Value.cells], rfl, rfl⟩, Try.underlying39, fun h => by cases h⟩
theorem good45 : Go.Av.Good Try.prog 45 (tt 45) := ⟨⟨Try.t45, _, inf45, rfl, rfl, rfl, fun c => by simp [tt, VRs, VR, Value.cells], rfl, rfl⟩, ⟨_, Try.underlying45, by simp [cel3, ag3, tt], by simp [inf3, Try.underlying3]⟩, fun _ => eq45⟩
theorem good59 : Go.Av.Good Try.prog 59 (tt 59) := ⟨⟨Try.t59, _, inf59, rfl, rfl, rfl, fun c => by simp [tt, VRs, VR, Value.cells], rfl, rfl⟩, ⟨_, Try.underlying59, by simp [cel3, ag3, cel28, ag28, tt], by simp [inf3, Try.underlying3, inf28, Try.underlying28]⟩, fun h => by cases h⟩
theorem good65 : Go.Av.Good Try.prog 65 (tt 65) := ⟨⟨Try.t65, _, inf65, rfl, rfl, rfl, fun c => by simp [tt, VRs, VR, Value.cells], rfl, rfl⟩, ⟨Try.underlying65, by rw [inf38]; rfl⟩, fun h => by cases h⟩
theorem good73 : Go.Av.Good Try.prog 73 (tt 73) := ⟨⟨Try.t73, _, inf73, rfl, rfl, rfl, fun c => by simp [tt, VRs, VR, Value.cells], rfl, rfl⟩, ⟨Try.underlying73, by rw [inf108]; rfl⟩, fun h => by cases h⟩
theorem good83 : Go.Av.Good Try.prog 83 (tt 83) := ⟨⟨Try.t83, _, inf83, rfl, rfl, rfl, fun c => by simp [tt, VRs, VR, Value.cells], rfl, rfl⟩, Try.underlying83, fun h => by cases h⟩
theorem good85 : Go.Av.Good Try.prog 85 (tt 85) := ⟨⟨Try.t85, _, inf85, rfl, rfl, rfl, fun c => by simp [tt, VRs, VR, Value.cells], rfl, rfl⟩, ⟨_, Try.underlying85, by simp [cel83, ag83, tt], by simp [inf83, Try.underlying83]⟩, fun h => by cases h⟩
theorem good87 : Go.Av.Good Try.prog 87 (tt 87) := ⟨⟨Try.t87, _, inf87, rfl, rfl, rfl, fun c => by simp [tt, VRs, VR, Value.cells], rfl, rfl⟩, Try.underlying87, fun h => by cases h⟩
theorem good88 : Go.Av.Good Try.prog 88 (tt 88) := ⟨⟨Try.t88, _, inf88, rfl, rfl, rfl, fun c => by simp [tt, VRs, VR, Value.cells], rfl, rfl⟩, Try.underlying88, fun h => by cases h⟩
theorem good92 : Go.Av.Good Try.prog 92 (tt 92) := ⟨⟨Try.t92, _, inf92, rfl, rfl, rfl, fun c => by simp [tt, VRs, VR, Value.cells], rfl, rfl⟩, ⟨Try.underlying92, by rw [inf3]; rfl⟩, fun h => by cases h⟩
theorem good108 : Go.Av.Good Try.prog 108 (tt 108) := ⟨⟨Try.t108, _, inf108, rfl, rfl, rfl, fun c => by simp [tt, VRs, VR, Value.cells], rfl, rfl⟩, ⟨_, Try.underlying108, by simp [cel3, ag3, tt], by simp [inf3, Try.underlying3]⟩, fun _ => eq108⟩
theorem good114 : Go.Av.Good Try.prog 114 (tt 114) := ⟨⟨Try.t114, _, inf114, rfl, rfl, rfl, fun c => by simp [tt, VRs, VR, Value.cells], rfl, rfl⟩, Try.underlying114, fun h => by cases h⟩
theorem good116 : Go.Av.Good Try.prog 116 (tt 116) := ⟨⟨Try.t116, _, inf116, rfl, rfl, rfl, fun c => by simp [tt, VRs, VR, Value.cells], rfl, rfl⟩, ⟨_, Try.underlying116, rfl⟩, fun h => by cases h⟩
theorem good117 : Go.Av.Good Try.prog 117 (tt 117) := ⟨⟨Try.t117, _, inf117, rfl, rfl, rfl, fun c => by simp [tt, VRs, VR, Value.cells], rfl, rfl⟩, ⟨_, Try.underlying117, rfl⟩, fun h => by cases h⟩
theorem tab : Tab Try.prog tt where
  all := fun t h => by
    unfold tt at h ⊢
    split at h
    · exact good3
    · exact good4
    · exact good5
    · exact good9
    · exact good22
    · exact good23
    · exact good25
    · exact good27
    · exact good28
    · exact good36
    · exact good38
    · exact good39
    · exact good45
    · exact good59
    · exact good65
    · exact good73
    · exact good83
    · exact good85
    · exact good87
    · exact good88
    · exact good92
    · exact good108
    · exact good114
    · exact good116
    · exact good117
    · cases h
  elem := fun t e h => by
    unfold tt at h
    split at h <;> first | (cases h; done) | (cases h; rfl)
@[go_sem] theorem tt_0 : (∀ (s : AS) (p : AV), aload (tt 3) s p = (s.row p).bind fun r => apart false 1 r.2 r.1) := by intro s p; unfold aload; cases s.row p <;> rfl
@[go_sem] theorem tt_1 : (∀ ev : Operand → AV, arows tt ev (.alloc 3) = some (1, [[.int .i64 0]], 3)) := by intros; rfl
@[go_sem] theorem tt_2 : (∀ (ev : Operand → AV) (x : Operand), arows tt ev (.box 3 x) = if noL (ev x) = true ∧ (ev x).cells.length = 1 ∧ (ev x).cells.all AV.cell = true then some (1, [(ev x).cells], 3) else none) := by intro ev x; simp [arows, tt, TI.knows]
@[go_sem] theorem tt_3 : (∀ (k : IntKind) (n : Int), aconv (tt 3) (tt 83) (.int k n) = some (.int .u64 (wr .u64 n))) := by intros; rfl
@[go_sem] theorem tt_4 : (∀ (s : AS) (p v : AV), aput (tt 3) s p v = aputz 1 s p v) := fun s p v => aput_z rfl rfl s p v
@[go_sem] theorem tt_5 : (∀ (s : AS) (p : AV), aload (tt 4) s p = (s.row p).bind fun r => apart false 1 r.2 r.1) := by intro s p; unfold aload; cases s.row p <;> rfl
@[go_sem] theorem tt_6 : (∀ ev : Operand → AV, arows tt ev (.alloc 4) = some (1, [[.bool false]], 4)) := by intros; rfl
@[go_sem] theorem tt_7 : (∀ (ev : Operand → AV) (x : Operand), arows tt ev (.box 4 x) = if noL (ev x) = true ∧ (ev x).cells.length = 1 ∧ (ev x).cells.all AV.cell = true then some (1, [(ev x).cells], 4) else none) := by intro ev x; simp [arows, tt, TI.knows]
@[go_sem] theorem tt_8 : (∀ c a b : Bool, abin (tt 4) .eql c (.bool a) (.bool b) = some (.bool (a == b))) := by intros; rfl
@[go_sem] theorem tt_9 : (∀ c a b : Bool, abin (tt 4) .neq c (.bool a) (.bool b) = some (.bool (!(a == b)))) := by intros; rfl
@[go_sem] theorem tt_10 : (∀ (s : AS) (p v : AV), aput (tt 4) s p v = aputz 1 s p v) := fun s p v => aput_z rfl rfl s p v
@[go_sem] theorem tt_11 : (∀ (s : AS) (p : AV), aload (tt 5) s p = (s.row p).bind fun r => apart false 1 r.2 r.1) := by intro s p; unfold aload; cases s.row p <;> rfl
@[go_sem] theorem tt_12 : (∀ ev : Operand → AV, arows tt ev (.alloc 5) = some (1, [[.int .u8 0]], 5)) := by intros; rfl
@[go_sem] theorem tt_13 : (∀ (ev : Operand → AV) (x : Operand), arows tt ev (.box 5 x) = if noL (ev x) = true ∧ (ev x).cells.length = 1 ∧ (ev x).cells.all AV.cell = true then some (1, [(ev x).cells], 5) else none) := by intro ev x; simp [arows, tt, TI.knows]
@[go_sem] theorem tt_14 : (∀ (k : IntKind) (n : Int), aconv (tt 5) (tt 3) (.int k n) = some (.int .i64 (wr .i64 n))) := by intros; rfl
@[go_sem] theorem tt_15 : (∀ (s : AS) (p v : AV), aput (tt 5) s p v = aputz 1 s p v) := fun s p v => aput_z rfl rfl s p v
@[go_sem] theorem tt_16 : (∀ (s : AS) (p : AV), aload (tt 9) s p = (s.row p).bind fun r => apart false 1 r.2 r.1) := by intro s p; unfold aload; cases s.row p <;> rfl
@[go_sem] theorem tt_17 : (∀ ev : Operand → AV, arows tt ev (.alloc 9) = some (1, [[.str []]], 9)) := by intros; rfl
@[go_sem] theorem tt_18 : (∀ (ev : Operand → AV) (x : Operand), arows tt ev (.box 9 x) = if noL (ev x) = true ∧ (ev x).cells.length = 1 ∧ (ev x).cells.all AV.cell = true then some (1, [(ev x).cells], 9) else none) := by intro ev x; simp [arows, tt, TI.knows]
@[go_sem] theorem tt_19 : (∀ (ez : Nat) (l : List UInt8) (lo hi : Option AV), asl (tt 9) ez lo hi (.str l) = aslz l.length lo hi fun a b => some (.str ((l.drop a).take (b - a)))) := fun ez l lo hi => asl_str rfl ez lo hi l
@[go_sem] theorem tt_20 : (∀ (l : List UInt8), alen (tt 9) (.str l) = some (l.length : Int)) := by intros; rfl
@[go_sem] theorem tt_21 : (∀ (s : AS) (p v : AV), aput (tt 9) s p v = aputz 1 s p v) := fun s p v => aput_z rfl rfl s p v
@[go_sem] theorem tt_22 : (∀ (s : AS) (p : AV), aload (tt 22) s p = (s.row p).bind fun r => apart false 1 r.2 r.1) := by intro s p; unfold aload; cases s.row p <;> rfl
@[go_sem] theorem tt_23 : (∀ ev : Operand → AV, arows tt ev (.alloc 22) = some (1, [[.nils]], 22)) := by intros; rfl
@[go_sem] theorem tt_24 : (∀ (ev : Operand → AV) (x : Operand), arows tt ev (.box 22 x) = if noL (ev x) = true ∧ (ev x).cells.length = 1 ∧ (ev x).cells.all AV.cell = true then some (1, [(ev x).cells], 22) else none) := by intro ev x; simp [arows, tt, TI.knows]
@[go_sem] theorem tt_25 : (∀ (es : List (List AV)) (k : IntKind) (i : Int), aidx tt 22 (.lst 4 es) (.int k i) = if 0 ≤ i ∧ i < es.length then some (.iptr (es.getD i.toNat []) 0) else none) := by intros; rfl
@[go_sem] theorem tt_26 : (∀ (b : Bid) (o n : Nat) (k : IntKind) (i : Int), aidx tt 22 (.slc b 4 o n) (.int k i) = if 0 ≤ i ∧ i < n then some (.ptr b (o + i.toNat) 0) else none) := by intros; rfl
@[go_sem] theorem tt_27 : (∀ (b : Bid) (e o n : Nat), alen (tt 22) (.slc b e o n) = some (n : Int)) := by intros; rfl
@[go_sem] theorem tt_28 : (∀ (e : Nat) (es : List (List AV)), alen (tt 22) (.lst e es) = some (es.length : Int)) := by intros; rfl
@[go_sem] theorem tt_29 : (alen (tt 22) .nils = some 0) := by intros; rfl
@[go_sem] theorem tt_30 : (∀ c : Bool, abin (tt 22) .eql c .nils .nils = some (.bool true)) := by intros; rfl
@[go_sem] theorem tt_31 : (∀ (c : Bool) (b : Bid) (e i n : Nat), abin (tt 22) .eql c (.slc b e i n) .nils = some (.bool false)) := by intros; rfl
@[go_sem] theorem tt_32 : (∀ (c : Bool) (e : Nat) (r : List AV) (es : List (List AV)), abin (tt 22) .eql c (.lst e (r :: es)) .nils = some (.bool false)) := by intros; rfl
@[go_sem] theorem tt_33 : (∀ c : Bool, abin (tt 22) .neq c .nils .nils = some (.bool false)) := by intros; rfl
@[go_sem] theorem tt_34 : (∀ (c : Bool) (b : Bid) (e i n : Nat), abin (tt 22) .neq c (.slc b e i n) .nils = some (.bool true)) := by intros; rfl
@[go_sem] theorem tt_35 : (∀ (c : Bool) (e : Nat) (r : List AV) (es : List (List AV)), abin (tt 22) .neq c (.lst e (r :: es)) .nils = some (.bool true)) := by intros; rfl
@[go_sem] theorem tt_36 : (elsize tt 22 = 4) := by intros; rfl
@[go_sem] theorem tt_37 : (∀ (ev : Operand → AV) (n : Nat) (ps : List (Nat × Operand)), absl tt ev 22 n ps = if n ≤ 16777216 ∧ n * 4 ≤ 16777216 ∧ ps.map (·.1) = List.range n ∧ (ps.all fun p => noL (ev p.2) && ((ev p.2).cells.length == 4) && (ev p.2).cells.all AV.cell) = true then some (4, ps.map fun p => (ev p.2).cells) else none) := by intros; rfl
@[go_sem] theorem tt_38 : (∀ (k k' : IntKind) (l c : Int), amake tt 22 (.int k l) (.int k' c) = if 0 ≤ l ∧ l ≤ c ∧ c * 48 ≤ 70368744177664 ∧ c ≤ 70368744177664 then some (4, List.replicate l.toNat [.int .i64 0, .int .i64 0, .int .i64 0, .nils], l.toNat) else none) := by intros; rfl
@[go_sem] theorem tt_39 : (∀ (h : AH) (x y : AV), acopy tt h 22 x y = acopyz 4 h x y) := fun h x y => by unfold acopy acopyz; rfl
@[go_sem] theorem tt_40 : (∀ (ez b1 o n : Nat) (b : Bid) (lo hi : Option AV), asl (tt 22) ez lo hi (.slc b b1 o n) = aslz n lo hi fun l h => if b1 = ez then some (.slc b b1 (o + l) (h - l)) else none) := fun ez b1 o n b lo hi => asl_slc rfl ez lo hi b b1 o n
@[go_sem] theorem tt_41 : (∀ (ez e : Nat) (es : List (List AV)) (lo hi : Option AV), asl (tt 22) ez lo hi (.lst e es) = aslz es.length lo hi fun l h => if e = ez then some (.lst e ((es.drop l).take (h - l))) else none) := fun ez e es lo hi => asl_lst rfl ez lo hi e es
@[go_sem] theorem tt_42 : (∀ (h : AH) (id : Bid) (x y : AV), aapp tt h 22 id x y = aappz 4 48 h id x y) := fun h id x y => by unfold aapp aappz; rfl
@[go_sem] theorem tt_43 : (∀ (s : AS) (p v : AV), aput (tt 22) s p v = aputz 1 s p v) := fun s p v => aput_z rfl rfl s p v
@[go_sem] theorem tt_44 : (∀ (s : AS) (p : AV), aload (tt 23) s p = (s.row p).bind fun r => apart false 1 r.2 r.1) := by intro s p; unfold aload; cases s.row p <;> rfl
@[go_sem] theorem tt_45 : (∀ ev : Operand → AV, arows tt ev (.alloc 23) = some (1, [[.nils]], 23)) := by intros; rfl
@[go_sem] theorem tt_46 : (∀ (ev : Operand → AV) (x : Operand), arows tt ev (.box 23 x) = if noL (ev x) = true ∧ (ev x).cells.length = 1 ∧ (ev x).cells.all AV.cell = true then some (1, [(ev x).cells], 23) else none) := by intro ev x; simp [arows, tt, TI.knows]
@[go_sem] theorem tt_47 : (∀ (es : List (List AV)) (k : IntKind) (i : Int), aidx tt 23 (.lst 3 es) (.int k i) = if 0 ≤ i ∧ i < es.length then some (.iptr (es.getD i.toNat []) 0) else none) := by intros; rfl
@[go_sem] theorem tt_48 : (∀ (b : Bid) (o n : Nat) (k : IntKind) (i : Int), aidx tt 23 (.slc b 3 o n) (.int k i) = if 0 ≤ i ∧ i < n then some (.ptr b (o + i.toNat) 0) else none) := by intros; rfl
@[go_sem] theorem tt_49 : (∀ (b : Bid) (e o n : Nat), alen (tt 23) (.slc b e o n) = some (n : Int)) := by intros; rfl
@[go_sem] theorem tt_50 : (∀ (e : Nat) (es : List (List AV)), alen (tt 23) (.lst e es) = some (es.length : Int)) := by intros; rfl
@[go_sem] theorem tt_51 : (alen (tt 23) .nils = some 0) := by intros; rfl
@[go_sem] theorem tt_52 : (∀ c : Bool, abin (tt 23) .eql c .nils .nils = some (.bool true)) := by intros; rfl
@[go_sem] theorem tt_53 : (∀ (c : Bool) (b : Bid) (e i n : Nat), abin (tt 23) .eql c (.slc b e i n) .nils = some (.bool false)) := by intros; rfl
@[go_sem] theorem tt_54 : (∀ (c : Bool) (e : Nat) (r : List AV) (es : List (List AV)), abin (tt 23) .eql c (.lst e (r :: es)) .nils = some (.bool false)) := by intros; rfl
@[go_sem] theorem tt_55 : (∀ c : Bool, abin (tt 23) .neq c .nils .nils = some (.bool false)) := by intros; rfl
@[go_sem] theorem tt_56 : (∀ (c : Bool) (b : Bid) (e i n : Nat), abin (tt 23) .neq c (.slc b e i n) .nils = some (.bool true)) := by intros; rfl
@[go_sem] theorem tt_57 : (∀ (c : Bool) (e : Nat) (r : List AV) (es : List (List AV)), abin (tt 23) .neq c (.lst e (r :: es)) .nils = some (.bool true)) := by intros; rfl
@[go_sem] theorem tt_58 : (elsize tt 23 = 3) := by intros; rfl
@[go_sem] theorem tt_59 : (∀ (ev : Operand → AV) (n : Nat) (ps : List (Nat × Operand)), absl tt ev 23 n ps = if n ≤ 16777216 ∧ n * 3 ≤ 16777216 ∧ ps.map (·.1) = List.range n ∧ (ps.all fun p => noL (ev p.2) && ((ev p.2).cells.length == 3) && (ev p.2).cells.all AV.cell) = true then some (3, ps.map fun p => (ev p.2).cells) else none) := by intros; rfl
@[go_sem] theorem tt_60 : (∀ (k k' : IntKind) (l c : Int), amake tt 23 (.int k l) (.int k' c) = if 0 ≤ l ∧ l ≤ c ∧ c * 24 ≤ 70368744177664 ∧ c ≤ 70368744177664 then some (3, List.replicate l.toNat [.int .i64 0, .int .i64 0, .int .i64 0], l.toNat) else none) := by intros; rfl
@[go_sem] theorem tt_61 : (∀ (h : AH) (x y : AV), acopy tt h 23 x y = acopyz 3 h x y) := fun h x y => by unfold acopy acopyz; rfl
@[go_sem] theorem tt_62 : (∀ (ez b1 o n : Nat) (b : Bid) (lo hi : Option AV), asl (tt 23) ez lo hi (.slc b b1 o n) = aslz n lo hi fun l h => if b1 = ez then some (.slc b b1 (o + l) (h - l)) else none) := fun ez b1 o n b lo hi => asl_slc rfl ez lo hi b b1 o n
@[go_sem] theorem tt_63 : (∀ (ez e : Nat) (es : List (List AV)) (lo hi : Option AV), asl (tt 23) ez lo hi (.lst e es) = aslz es.length lo hi fun l h => if e = ez then some (.lst e ((es.drop l).take (h - l))) else none) := fun ez e es lo hi => asl_lst rfl ez lo hi e es
@[go_sem] theorem tt_64 : (∀ (h : AH) (id : Bid) (x y : AV), aapp tt h 23 id x y = aappz 3 24 h id x y) := fun h id x y => by unfold aapp aappz; rfl
@[go_sem] theorem tt_65 : (∀ (s : AS) (p v : AV), aput (tt 23) s p v = aputz 1 s p v) := fun s p v => aput_z rfl rfl s p v
@[go_sem] theorem tt_66 : (∀ (s : AS) (p : AV), aload (tt 25) s p = (s.row p).bind fun r => apart true 2 r.2 r.1) := by intro s p; unfold aload; cases s.row p <;> rfl
@[go_sem] theorem tt_67 : (∀ ev : Operand → AV, arows tt ev (.alloc 25) = some (2, [[.nils, .nils]], 25)) := by intros; rfl
@[go_sem] theorem tt_68 : (∀ (ev : Operand → AV) (x : Operand), arows tt ev (.box 25 x) = if noL (ev x) = true ∧ (ev x).cells.length = 2 ∧ (ev x).cells.all AV.cell = true then some (2, [(ev x).cells], 25) else none) := by intro ev x; simp [arows, tt, TI.knows]
@[go_sem] theorem tt_69 : (∀ v : AV, afieldAddr (tt 25) 0 v = amove 0 v) := by intros; rfl
@[go_sem] theorem tt_70 : (∀ cs : List AV, afield (tt 25) 0 (.agg cs) = apart false 1 0 cs) := by intros; rfl
@[go_sem] theorem tt_71 : (∀ v : AV, afieldAddr (tt 25) 1 v = amove 1 v) := by intros; rfl
@[go_sem] theorem tt_72 : (∀ cs : List AV, afield (tt 25) 1 (.agg cs) = apart false 1 1 cs) := by intros; rfl
@[go_sem] theorem tt_73 : (∀ ps : List (Nat × AV), abuild tt 25 ps = (afill (fun i => ([(0, 1), (1, 1)] : List (Nat × Nat))[i]?) [.nils, .nils] ps).map .agg) := fun ps => by show Option.map _ (afill _ _ _) = _; congr 2; funext i; rw [← List.getElem?_map]; rfl
@[go_sem] theorem tt_74 : (∀ (s : AS) (p v : AV), aput (tt 25) s p v = aputz 2 s p v) := fun s p v => aput_z rfl rfl s p v
@[go_sem] theorem tt_75 : (∀ (s : AS) (p : AV), aload (tt 27) s p = (s.row p).bind fun r => apart true 3 r.2 r.1) := by intro s p; unfold aload; cases s.row p <;> rfl
@[go_sem] theorem tt_76 : (∀ ev : Operand → AV, arows tt ev (.alloc 27) = some (3, [[.int .i64 0, .int .i64 0, .int .i64 0]], 27)) := by intros; rfl
@[go_sem] theorem tt_77 : (∀ (ev : Operand → AV) (x : Operand), arows tt ev (.box 27 x) = if noL (ev x) = true ∧ (ev x).cells.length = 3 ∧ (ev x).cells.all AV.cell = true then some (3, [(ev x).cells], 27) else none) := by intro ev x; simp [arows, tt, TI.knows]
@[go_sem] theorem tt_78 : (∀ v : AV, afieldAddr (tt 27) 0 v = amove 0 v) := by intros; rfl
@[go_sem] theorem tt_79 : (∀ cs : List AV, afield (tt 27) 0 (.agg cs) = apart false 1 0 cs) := by intros; rfl
@[go_sem] theorem tt_80 : (∀ v : AV, afieldAddr (tt 27) 1 v = amove 1 v) := by intros; rfl
@[go_sem] theorem tt_81 : (∀ cs : List AV, afield (tt 27) 1 (.agg cs) = apart false 1 1 cs) := by intros; rfl
@[go_sem] theorem tt_82 : (∀ v : AV, afieldAddr (tt 27) 2 v = amove 2 v) := by intros; rfl
@[go_sem] theorem tt_83 : (∀ cs : List AV, afield (tt 27) 2 (.agg cs) = apart false 1 2 cs) := by intros; rfl
@[go_sem] theorem tt_84 : (∀ ps : List (Nat × AV), abuild tt 27 ps = (afill (fun i => ([(0, 1), (1, 1), (2, 1)] : List (Nat × Nat))[i]?) [.int .i64 0, .int .i64 0, .int .i64 0] ps).map .agg) := fun ps => by show Option.map _ (afill _ _ _) = _; congr 2; funext i; rw [← List.getElem?_map]; rfl
@[go_sem] theorem tt_85 : (∀ (c : Bool) (x y : List AV), abin (tt 27) .eql c (.agg x) (.agg y) = aeql 3 (fun b => b) (ints x) (ints y)) := fun c x y => by cases hx : ints x <;> cases hy : ints y <;> simp [tt, abin, aeql, hx, hy]
@[go_sem] theorem tt_86 : (∀ (c : Bool) (x y : List AV), abin (tt 27) .neq c (.agg x) (.agg y) = aeql 3 (fun b => !b) (ints x) (ints y)) := fun c x y => by cases hx : ints x <;> cases hy : ints y <;> simp [tt, abin, aeql, hx, hy]
@[go_sem] theorem tt_87 : (∀ (s : AS) (p v : AV), aput (tt 27) s p v = aputz 3 s p v) := fun s p v => aput_z rfl rfl s p v
@[go_sem] theorem tt_88 : (∀ (s : AS) (p : AV), aload (tt 28) s p = (s.row p).bind fun r => apart false 1 r.2 r.1) := by intro s p; unfold aload; cases s.row p <;> rfl
@[go_sem] theorem tt_89 : (∀ ev : Operand → AV, arows tt ev (.alloc 28) = some (1, [[.nils]], 28)) := by intros; rfl
@[go_sem] theorem tt_90 : (∀ (ev : Operand → AV) (x : Operand), arows tt ev (.box 28 x) = if noL (ev x) = true ∧ (ev x).cells.length = 1 ∧ (ev x).cells.all AV.cell = true then some (1, [(ev x).cells], 28) else none) := by intro ev x; simp [arows, tt, TI.knows]
@[go_sem] theorem tt_91 : (∀ (es : List (List AV)) (k : IntKind) (i : Int), aidx tt 28 (.lst 1 es) (.int k i) = if 0 ≤ i ∧ i < es.length then some (.iptr (es.getD i.toNat []) 0) else none) := by intros; rfl
@[go_sem] theorem tt_92 : (∀ (b : Bid) (o n : Nat) (k : IntKind) (i : Int), aidx tt 28 (.slc b 1 o n) (.int k i) = if 0 ≤ i ∧ i < n then some (.ptr b (o + i.toNat) 0) else none) := by intros; rfl
@[go_sem] theorem tt_93 : (∀ (b : Bid) (e o n : Nat), alen (tt 28) (.slc b e o n) = some (n : Int)) := by intros; rfl
@[go_sem] theorem tt_94 : (∀ (e : Nat) (es : List (List AV)), alen (tt 28) (.lst e es) = some (es.length : Int)) := by intros; rfl
@[go_sem] theorem tt_95 : (alen (tt 28) .nils = some 0) := by intros; rfl
@[go_sem] theorem tt_96 : (∀ c : Bool, abin (tt 28) .eql c .nils .nils = some (.bool true)) := by intros; rfl
@[go_sem] theorem tt_97 : (∀ (c : Bool) (b : Bid) (e i n : Nat), abin (tt 28) .eql c (.slc b e i n) .nils = some (.bool false)) := by intros; rfl
@[go_sem] theorem tt_98 : (∀ (c : Bool) (e : Nat) (r : List AV) (es : List (List AV)), abin (tt 28) .eql c (.lst e (r :: es)) .nils = some (.bool false)) := by intros; rfl
@[go_sem] theorem tt_99 : (∀ c : Bool, abin (tt 28) .neq c .nils .nils = some (.bool false)) := by intros; rfl
@[go_sem] theorem tt_100 : (∀ (c : Bool) (b : Bid) (e i n : Nat), abin (tt 28) .neq c (.slc b e i n) .nils = some (.bool true)) := by intros; rfl
@[go_sem] theorem tt_101 : (∀ (c : Bool) (e : Nat) (r : List AV) (es : List (List AV)), abin (tt 28) .neq c (.lst e (r :: es)) .nils = some (.bool true)) := by intros; rfl
@[go_sem] theorem tt_102 : (elsize tt 28 = 1) := by intros; rfl
@[go_sem] theorem tt_103 : (∀ (ev : Operand → AV) (n : Nat) (ps : List (Nat × Operand)), absl tt ev 28 n ps = if n ≤ 16777216 ∧ n * 1 ≤ 16777216 ∧ ps.map (·.1) = List.range n ∧ (ps.all fun p => noL (ev p.2) && ((ev p.2).cells.length == 1) && (ev p.2).cells.all AV.cell) = true then some (1, ps.map fun p => (ev p.2).cells) else none) := by intros; rfl
@[go_sem] theorem tt_104 : (∀ (k k' : IntKind) (l c : Int), amake tt 28 (.int k l) (.int k' c) = if 0 ≤ l ∧ l ≤ c ∧ c * 8 ≤ 70368744177664 ∧ c ≤ 70368744177664 then some (1, List.replicate l.toNat [.int .i64 0], l.toNat) else none) := by intros; rfl
@[go_sem] theorem tt_105 : (∀ (h : AH) (x y : AV), acopy tt h 28 x y = acopyz 1 h x y) := fun h x y => by unfold acopy acopyz; rfl
@[go_sem] theorem tt_106 : (∀ (ez b1 o n : Nat) (b : Bid) (lo hi : Option AV), asl (tt 28) ez lo hi (.slc b b1 o n) = aslz n lo hi fun l h => if b1 = ez then some (.slc b b1 (o + l) (h - l)) else none) := fun ez b1 o n b lo hi => asl_slc rfl ez lo hi b b1 o n
@[go_sem] theorem tt_107 : (∀ (ez e : Nat) (es : List (List AV)) (lo hi : Option AV), asl (tt 28) ez lo hi (.lst e es) = aslz es.length lo hi fun l h => if e = ez then some (.lst e ((es.drop l).take (h - l))) else none) := fun ez e es lo hi => asl_lst rfl ez lo hi e es
@[go_sem] theorem tt_108 : (∀ (h : AH) (id : Bid) (x y : AV), aapp tt h 28 id x y = aappz 1 8 h id x y) := fun h id x y => by unfold aapp aappz; rfl
@[go_sem] theorem tt_109 : (∀ (s : AS) (p v : AV), aput (tt 28) s p v = aputz 1 s p v) := fun s p v => aput_z rfl rfl s p v
@[go_sem] theorem tt_110 : (∀ (s : AS) (p : AV), aload (tt 36) s p = (s.row p).bind fun r => apart false 1 r.2 r.1) := by intro s p; unfold aload; cases s.row p <;> rfl
@[go_sem] theorem tt_111 : (∀ ev : Operand → AV, arows tt ev (.alloc 36) = some (1, [[.nils]], 36)) := by intros; rfl
@[go_sem] theorem tt_112 : (∀ (ev : Operand → AV) (x : Operand), arows tt ev (.box 36 x) = if noL (ev x) = true ∧ (ev x).cells.length = 1 ∧ (ev x).cells.all AV.cell = true then some (1, [(ev x).cells], 36) else none) := by intro ev x; simp [arows, tt, TI.knows]
@[go_sem] theorem tt_113 : (∀ (es : List (List AV)) (k : IntKind) (i : Int), aidx tt 36 (.lst 2 es) (.int k i) = if 0 ≤ i ∧ i < es.length then some (.iptr (es.getD i.toNat []) 0) else none) := by intros; rfl
@[go_sem] theorem tt_114 : (∀ (b : Bid) (o n : Nat) (k : IntKind) (i : Int), aidx tt 36 (.slc b 2 o n) (.int k i) = if 0 ≤ i ∧ i < n then some (.ptr b (o + i.toNat) 0) else none) := by intros; rfl
@[go_sem] theorem tt_115 : (∀ (b : Bid) (e o n : Nat), alen (tt 36) (.slc b e o n) = some (n : Int)) := by intros; rfl
@[go_sem] theorem tt_116 : (∀ (e : Nat) (es : List (List AV)), alen (tt 36) (.lst e es) = some (es.length : Int)) := by intros; rfl
@[go_sem] theorem tt_117 : (alen (tt 36) .nils = some 0) := by intros; rfl
@[go_sem] theorem tt_118 : (∀ c : Bool, abin (tt 36) .eql c .nils .nils = some (.bool true)) := by intros; rfl
@[go_sem] theorem tt_119 : (∀ (c : Bool) (b : Bid) (e i n : Nat), abin (tt 36) .eql c (.slc b e i n) .nils = some (.bool false)) := by intros; rfl
@[go_sem] theorem tt_120 : (∀ (c : Bool) (e : Nat) (r : List AV) (es : List (List AV)), abin (tt 36) .eql c (.lst e (r :: es)) .nils = some (.bool false)) := by intros; rfl
@[go_sem] theorem tt_121 : (∀ c : Bool, abin (tt 36) .neq c .nils .nils = some (.bool false)) := by intros; rfl
@[go_sem] theorem tt_122 : (∀ (c : Bool) (b : Bid) (e i n : Nat), abin (tt 36) .neq c (.slc b e i n) .nils = some (.bool true)) := by intros; rfl
@[go_sem] theorem tt_123 : (∀ (c : Bool) (e : Nat) (r : List AV) (es : List (List AV)), abin (tt 36) .neq c (.lst e (r :: es)) .nils = some (.bool true)) := by intros; rfl
@[go_sem] theorem tt_124 : (elsize tt 36 = 2) := by intros; rfl
@[go_sem] theorem tt_125 : (∀ (ev : Operand → AV) (n : Nat) (ps : List (Nat × Operand)), absl tt ev 36 n ps = if n ≤ 16777216 ∧ n * 2 ≤ 16777216 ∧ ps.map (·.1) = List.range n ∧ (ps.all fun p => noL (ev p.2) && ((ev p.2).cells.length == 2) && (ev p.2).cells.all AV.cell) = true then some (2, ps.map fun p => (ev p.2).cells) else none) := by intros; rfl
@[go_sem] theorem tt_126 : (∀ (k k' : IntKind) (l c : Int), amake tt 36 (.int k l) (.int k' c) = if 0 ≤ l ∧ l ≤ c ∧ c * 48 ≤ 70368744177664 ∧ c ≤ 70368744177664 then some (2, List.replicate l.toNat [.nils, .nils], l.toNat) else none) := by intros; rfl
@[go_sem] theorem tt_127 : (∀ (h : AH) (x y : AV), acopy tt h 36 x y = acopyz 2 h x y) := fun h x y => by unfold acopy acopyz; rfl
@[go_sem] theorem tt_128 : (∀ (ez b1 o n : Nat) (b : Bid) (lo hi : Option AV), asl (tt 36) ez lo hi (.slc b b1 o n) = aslz n lo hi fun l h => if b1 = ez then some (.slc b b1 (o + l) (h - l)) else none) := fun ez b1 o n b lo hi => asl_slc rfl ez lo hi b b1 o n
@[go_sem] theorem tt_129 : (∀ (ez e : Nat) (es : List (List AV)) (lo hi : Option AV), asl (tt 36) ez lo hi (.lst e es) = aslz es.length lo hi fun l h => if e = ez then some (.lst e ((es.drop l).take (h - l))) else none) := fun ez e es lo hi => asl_lst rfl ez lo hi e es
@[go_sem] theorem tt_130 : (∀ (h : AH) (id : Bid) (x y : AV), aapp tt h 36 id x y = aappz 2 48 h id x y) := fun h id x y => by unfold aapp aappz; rfl
@[go_sem] theorem tt_131 : (∀ (s : AS) (p v : AV), aput (tt 36) s p v = aputz 1 s p v) := fun s p v => aput_z rfl rfl s p v
@[go_sem] theorem tt_132 : (∀ (s : AS) (p : AV), aload (tt 38) s p = (s.row p).bind fun r => apart false 1 r.2 r.1) := by intro s p; unfold aload; cases s.row p <;> rfl
@[go_sem] theorem tt_133 : (∀ ev : Operand → AV, arows tt ev (.alloc 38) = some (1, [[.nils]], 38)) := by intros; rfl
@[go_sem] theorem tt_134 : (∀ (ev : Operand → AV) (x : Operand), arows tt ev (.box 38 x) = if noL (ev x) = true ∧ (ev x).cells.length = 1 ∧ (ev x).cells.all AV.cell = true then some (1, [(ev x).cells], 38) else none) := by intro ev x; simp [arows, tt, TI.knows]
@[go_sem] theorem tt_135 : (∀ (es : List (List AV)) (k : IntKind) (i : Int), aidx tt 38 (.lst 1 es) (.int k i) = if 0 ≤ i ∧ i < es.length then some (.iptr (es.getD i.toNat []) 0) else none) := by intros; rfl
@[go_sem] theorem tt_136 : (∀ (b : Bid) (o n : Nat) (k : IntKind) (i : Int), aidx tt 38 (.slc b 1 o n) (.int k i) = if 0 ≤ i ∧ i < n then some (.ptr b (o + i.toNat) 0) else none) := by intros; rfl
@[go_sem] theorem tt_137 : (∀ (b : Bid) (e o n : Nat), alen (tt 38) (.slc b e o n) = some (n : Int)) := by intros; rfl
@[go_sem] theorem tt_138 : (∀ (e : Nat) (es : List (List AV)), alen (tt 38) (.lst e es) = some (es.length : Int)) := by intros; rfl
@[go_sem] theorem tt_139 : (alen (tt 38) .nils = some 0) := by intros; rfl
@[go_sem] theorem tt_140 : (∀ c : Bool, abin (tt 38) .eql c .nils .nils = some (.bool true)) := by intros; rfl
@[go_sem] theorem tt_141 : (∀ (c : Bool) (b : Bid) (e i n : Nat), abin (tt 38) .eql c (.slc b e i n) .nils = some (.bool false)) := by intros; rfl
@[go_sem] theorem tt_142 : (∀ (c : Bool) (e : Nat) (r : List AV) (es : List (List AV)), abin (tt 38) .eql c (.lst e (r :: es)) .nils = some (.bool false)) := by intros; rfl
@[go_sem] theorem tt_143 : (∀ c : Bool, abin (tt 38) .neq c .nils .nils = some (.bool false)) := by intros; rfl
@[go_sem] theorem tt_144 : (∀ (c : Bool) (b : Bid) (e i n : Nat), abin (tt 38) .neq c (.slc b e i n) .nils = some (.bool true)) := by intros; rfl
@[go_sem] theorem tt_145 : (∀ (c : Bool) (e : Nat) (r : List AV) (es : List (List AV)), abin (tt 38) .neq c (.lst e (r :: es)) .nils = some (.bool true)) := by intros; rfl
@[go_sem] theorem tt_146 : (elsize tt 38 = 1) := by intros; rfl
@[go_sem] theorem tt_147 : (∀ (ev : Operand → AV) (n : Nat) (ps : List (Nat × Operand)), absl tt ev 38 n ps = if n ≤ 16777216 ∧ n * 1 ≤ 16777216 ∧ ps.map (·.1) = List.range n ∧ (ps.all fun p => noL (ev p.2) && ((ev p.2).cells.length == 1) && (ev p.2).cells.all AV.cell) = true then some (1, ps.map fun p => (ev p.2).cells) else none) := by intros; rfl
@[go_sem] theorem tt_148 : (∀ (k k' : IntKind) (l c : Int), amake tt 38 (.int k l) (.int k' c) = if 0 ≤ l ∧ l ≤ c ∧ c * 24 ≤ 70368744177664 ∧ c ≤ 70368744177664 then some (1, List.replicate l.toNat [.nils], l.toNat) else none) := by intros; rfl
@[go_sem] theorem tt_149 : (∀ (h : AH) (x y : AV), acopy tt h 38 x y = acopyz 1 h x y) := fun h x y => by unfold acopy acopyz; rfl
@[go_sem] theorem tt_150 : (∀ (ez b1 o n : Nat) (b : Bid) (lo hi : Option AV), asl (tt 38) ez lo hi (.slc b b1 o n) = aslz n lo hi fun l h => if b1 = ez then some (.slc b b1 (o + l) (h - l)) else none) := fun ez b1 o n b lo hi => asl_slc rfl ez lo hi b b1 o n
@[go_sem] theorem tt_151 : (∀ (ez e : Nat) (es : List (List AV)) (lo hi : Option AV), asl (tt 38) ez lo hi (.lst e es) = aslz es.length lo hi fun l h => if e = ez then some (.lst e ((es.drop l).take (h - l))) else none) := fun ez e es lo hi => asl_lst rfl ez lo hi e es
@[go_sem] theorem tt_152 : (∀ (h : AH) (id : Bid) (x y : AV), aapp tt h 38 id x y = aappz 1 24 h id x y) := fun h id x y => by unfold aapp aappz; rfl
@[go_sem] theorem tt_153 : (∀ (s : AS) (p v : AV), aput (tt 38) s p v = aputz 1 s p v) := fun s p v => aput_z rfl rfl s p v
@[go_sem] theorem tt_154 : (∀ (s : AS) (p : AV), aload (tt 39) s p = (s.row p).bind fun r => apart false 1 r.2 r.1) := by intro s p; unfold aload; cases s.row p <;> rfl
@[go_sem] theorem tt_155 : (∀ ev : Operand → AV, arows tt ev (.alloc 39) = some (1, [[.int .i64 0]], 39)) := by intros; rfl
@[go_sem] theorem tt_156 : (∀ (ev : Operand → AV) (x : Operand), arows tt ev (.box 39 x) = if noL (ev x) = true ∧ (ev x).cells.length = 1 ∧ (ev x).cells.all AV.cell = true then some (1, [(ev x).cells], 39) else none) := by intro ev x; simp [arows, tt, TI.knows]
@[go_sem] theorem tt_157 : (∀ (s : AS) (p v : AV), aput (tt 39) s p v = aputz 1 s p v) := fun s p v => aput_z rfl rfl s p v
@[go_sem] theorem tt_158 : (∀ (s : AS) (p : AV), aload (tt 45) s p = (s.row p).bind fun r => apart true 2 r.2 r.1) := by intro s p; unfold aload; cases s.row p <;> rfl
@[go_sem] theorem tt_159 : (∀ ev : Operand → AV, arows tt ev (.alloc 45) = some (2, [[.int .i64 0, .int .i64 0]], 45)) := by intros; rfl
@[go_sem] theorem tt_160 : (∀ (ev : Operand → AV) (x : Operand), arows tt ev (.box 45 x) = if noL (ev x) = true ∧ (ev x).cells.length = 2 ∧ (ev x).cells.all AV.cell = true then some (2, [(ev x).cells], 45) else none) := by intro ev x; simp [arows, tt, TI.knows]
@[go_sem] theorem tt_161 : (∀ v : AV, afieldAddr (tt 45) 0 v = amove 0 v) := by intros; rfl
@[go_sem] theorem tt_162 : (∀ cs : List AV, afield (tt 45) 0 (.agg cs) = apart false 1 0 cs) := by intros; rfl
@[go_sem] theorem tt_163 : (∀ v : AV, afieldAddr (tt 45) 1 v = amove 1 v) := by intros; rfl
@[go_sem] theorem tt_164 : (∀ cs : List AV, afield (tt 45) 1 (.agg cs) = apart false 1 1 cs) := by intros; rfl
@[go_sem] theorem tt_165 : (∀ ps : List (Nat × AV), abuild tt 45 ps = (afill (fun i => ([(0, 1), (1, 1)] : List (Nat × Nat))[i]?) [.int .i64 0, .int .i64 0] ps).map .agg) := fun ps => by show Option.map _ (afill _ _ _) = _; congr 2; funext i; rw [← List.getElem?_map]; rfl
@[go_sem] theorem tt_166 : (∀ (c : Bool) (x y : List AV), abin (tt 45) .eql c (.agg x) (.agg y) = aeql 2 (fun b => b) (ints x) (ints y)) := fun c x y => by cases hx : ints x <;> cases hy : ints y <;> simp [tt, abin, aeql, hx, hy]
@[go_sem] theorem tt_167 : (∀ (c : Bool) (x y : List AV), abin (tt 45) .neq c (.agg x) (.agg y) = aeql 2 (fun b => !b) (ints x) (ints y)) := fun c x y => by cases hx : ints x <;> cases hy : ints y <;> simp [tt, abin, aeql, hx, hy]
@[go_sem] theorem tt_168 : (∀ (s : AS) (p v : AV), aput (tt 45) s p v = aputz 2 s p v) := fun s p v => aput_z rfl rfl s p v
@[go_sem] theorem tt_169 : (∀ (s : AS) (p : AV), aload (tt 59) s p = (s.row p).bind fun r => apart true 4 r.2 r.1) := by intro s p; unfold aload; cases s.row p <;> rfl
@[go_sem] theorem tt_170 : (∀ ev : Operand → AV, arows tt ev (.alloc 59) = some (4, [[.int .i64 0, .int .i64 0, .int .i64 0, .nils]], 59)) := by intros; rfl
@[go_sem] theorem tt_171 : (∀ (ev : Operand → AV) (x : Operand), arows tt ev (.box 59 x) = if noL (ev x) = true ∧ (ev x).cells.length = 4 ∧ (ev x).cells.all AV.cell = true then some (4, [(ev x).cells], 59) else none) := by intro ev x; simp [arows, tt, TI.knows]
@[go_sem] theorem tt_172 : (∀ v : AV, afieldAddr (tt 59) 0 v = amove 0 v) := by intros; rfl
@[go_sem] theorem tt_173 : (∀ cs : List AV, afield (tt 59) 0 (.agg cs) = apart false 1 0 cs) := by intros; rfl
@[go_sem] theorem tt_174 : (∀ v : AV, afieldAddr (tt 59) 1 v = amove 1 v) := by intros; rfl
@[go_sem] theorem tt_175 : (∀ cs : List AV, afield (tt 59) 1 (.agg cs) = apart false 1 1 cs) := by intros; rfl
@[go_sem] theorem tt_176 : (∀ v : AV, afieldAddr (tt 59) 2 v = amove 2 v) := by intros; rfl
@[go_sem] theorem tt_177 : (∀ cs : List AV, afield (tt 59) 2 (.agg cs) = apart false 1 2 cs) := by intros; rfl
@[go_sem] theorem tt_178 : (∀ v : AV, afieldAddr (tt 59) 3 v = amove 3 v) := by intros; rfl
@[go_sem] theorem tt_179 : (∀ cs : List AV, afield (tt 59) 3 (.agg cs) = apart false 1 3 cs) := by intros; rfl
@[go_sem] theorem tt_180 : (∀ ps : List (Nat × AV), abuild tt 59 ps = (afill (fun i => ([(0, 1), (1, 1), (2, 1), (3, 1)] : List (Nat × Nat))[i]?) [.int .i64 0, .int .i64 0, .int .i64 0, .nils] ps).map .agg) := fun ps => by show Option.map _ (afill _ _ _) = _; congr 2; funext i; rw [← List.getElem?_map]; rfl
@[go_sem] theorem tt_181 : (∀ (s : AS) (p v : AV), aput (tt 59) s p v = aputz 4 s p v) := fun s p v => aput_z rfl rfl s p v
@[go_sem] theorem tt_182 : (∀ (s : AS) (p : AV), aload (tt 65) s p = (s.row p).bind fun r => apart false 1 r.2 r.1) := by intro s p; unfold aload; cases s.row p <;> rfl
@[go_sem] theorem tt_183 : (∀ ev : Operand → AV, arows tt ev (.alloc 65) = some (1, [[.nils]], 65)) := by intros; rfl
@[go_sem] theorem tt_184 : (∀ (ev : Operand → AV) (x : Operand), arows tt ev (.box 65 x) = if noL (ev x) = true ∧ (ev x).cells.length = 1 ∧ (ev x).cells.all AV.cell = true then some (1, [(ev x).cells], 65) else none) := by intro ev x; simp [arows, tt, TI.knows]
@[go_sem] theorem tt_185 : (∀ (es : List (List AV)) (k : IntKind) (i : Int), aidx tt 65 (.lst 1 es) (.int k i) = if 0 ≤ i ∧ i < es.length then some (.iptr (es.getD i.toNat []) 0) else none) := by intros; rfl
@[go_sem] theorem tt_186 : (∀ (b : Bid) (o n : Nat) (k : IntKind) (i : Int), aidx tt 65 (.slc b 1 o n) (.int k i) = if 0 ≤ i ∧ i < n then some (.ptr b (o + i.toNat) 0) else none) := by intros; rfl
@[go_sem] theorem tt_187 : (∀ (b : Bid) (e o n : Nat), alen (tt 65) (.slc b e o n) = some (n : Int)) := by intros; rfl
@[go_sem] theorem tt_188 : (∀ (e : Nat) (es : List (List AV)), alen (tt 65) (.lst e es) = some (es.length : Int)) := by intros; rfl
@[go_sem] theorem tt_189 : (alen (tt 65) .nils = some 0) := by intros; rfl
@[go_sem] theorem tt_190 : (∀ c : Bool, abin (tt 65) .eql c .nils .nils = some (.bool true)) := by intros; rfl
@[go_sem] theorem tt_191 : (∀ (c : Bool) (b : Bid) (e i n : Nat), abin (tt 65) .eql c (.slc b e i n) .nils = some (.bool false)) := by intros; rfl
@[go_sem] theorem tt_192 : (∀ (c : Bool) (e : Nat) (r : List AV) (es : List (List AV)), abin (tt 65) .eql c (.lst e (r :: es)) .nils = some (.bool false)) := by intros; rfl
@[go_sem] theorem tt_193 : (∀ c : Bool, abin (tt 65) .neq c .nils .nils = some (.bool false)) := by intros; rfl
@[go_sem] theorem tt_194 : (∀ (c : Bool) (b : Bid) (e i n : Nat), abin (tt 65) .neq c (.slc b e i n) .nils = some (.bool true)) := by intros; rfl
@[go_sem] theorem tt_195 : (∀ (c : Bool) (e : Nat) (r : List AV) (es : List (List AV)), abin (tt 65) .neq c (.lst e (r :: es)) .nils = some (.bool true)) := by intros; rfl
@[go_sem] theorem tt_196 : (elsize tt 65 = 1) := by intros; rfl
@[go_sem] theorem tt_197 : (∀ (ev : Operand → AV) (n : Nat) (ps : List (Nat × Operand)), absl tt ev 65 n ps = if n ≤ 16777216 ∧ n * 1 ≤ 16777216 ∧ ps.map (·.1) = List.range n ∧ (ps.all fun p => noL (ev p.2) && ((ev p.2).cells.length == 1) && (ev p.2).cells.all AV.cell) = true then some (1, ps.map fun p => (ev p.2).cells) else none) := by intros; rfl
@[go_sem] theorem tt_198 : (∀ (k k' : IntKind) (l c : Int), amake tt 65 (.int k l) (.int k' c) = if 0 ≤ l ∧ l ≤ c ∧ c * 24 ≤ 70368744177664 ∧ c ≤ 70368744177664 then some (1, List.replicate l.toNat [.nils], l.toNat) else none) := by intros; rfl
@[go_sem] theorem tt_199 : (∀ (h : AH) (x y : AV), acopy tt h 65 x y = acopyz 1 h x y) := fun h x y => by unfold acopy acopyz; rfl
@[go_sem] theorem tt_200 : (∀ (ez b1 o n : Nat) (b : Bid) (lo hi : Option AV), asl (tt 65) ez lo hi (.slc b b1 o n) = aslz n lo hi fun l h => if b1 = ez then some (.slc b b1 (o + l) (h - l)) else none) := fun ez b1 o n b lo hi => asl_slc rfl ez lo hi b b1 o n
@[go_sem] theorem tt_201 : (∀ (ez e : Nat) (es : List (List AV)) (lo hi : Option AV), asl (tt 65) ez lo hi (.lst e es) = aslz es.length lo hi fun l h => if e = ez then some (.lst e ((es.drop l).take (h - l))) else none) := fun ez e es lo hi => asl_lst rfl ez lo hi e es
@[go_sem] theorem tt_202 : (∀ (h : AH) (id : Bid) (x y : AV), aapp tt h 65 id x y = aappz 1 24 h id x y) := fun h id x y => by unfold aapp aappz; rfl
@[go_sem] theorem tt_203 : (∀ (s : AS) (p v : AV), aput (tt 65) s p v = aputz 1 s p v) := fun s p v => aput_z rfl rfl s p v
@[go_sem] theorem tt_204 : (∀ (s : AS) (p : AV), aload (tt 73) s p = (s.row p).bind fun r => apart false 1 r.2 r.1) := by intro s p; unfold aload; cases s.row p <;> rfl
@[go_sem] theorem tt_205 : (∀ ev : Operand → AV, arows tt ev (.alloc 73) = some (1, [[.nils]], 73)) := by intros; rfl
@[go_sem] theorem tt_206 : (∀ (ev : Operand → AV) (x : Operand), arows tt ev (.box 73 x) = if noL (ev x) = true ∧ (ev x).cells.length = 1 ∧ (ev x).cells.all AV.cell = true then some (1, [(ev x).cells], 73) else none) := by intro ev x; simp [arows, tt, TI.knows]
@[go_sem] theorem tt_207 : (∀ (es : List (List AV)) (k : IntKind) (i : Int), aidx tt 73 (.lst 3 es) (.int k i) = if 0 ≤ i ∧ i < es.length then some (.iptr (es.getD i.toNat []) 0) else none) := by intros; rfl
@[go_sem] theorem tt_208 : (∀ (b : Bid) (o n : Nat) (k : IntKind) (i : Int), aidx tt 73 (.slc b 3 o n) (.int k i) = if 0 ≤ i ∧ i < n then some (.ptr b (o + i.toNat) 0) else none) := by intros; rfl
@[go_sem] theorem tt_209 : (∀ (b : Bid) (e o n : Nat), alen (tt 73) (.slc b e o n) = some (n : Int)) := by intros; rfl
@[go_sem] theorem tt_210 : (∀ (e : Nat) (es : List (List AV)), alen (tt 73) (.lst e es) = some (es.length : Int)) := by intros; rfl
@[go_sem] theorem tt_211 : (alen (tt 73) .nils = some 0) := by intros; rfl
@[go_sem] theorem tt_212 : (∀ c : Bool, abin (tt 73) .eql c .nils .nils = some (.bool true)) := by intros; rfl
@[go_sem] theorem tt_213 : (∀ (c : Bool) (b : Bid) (e i n : Nat), abin (tt 73) .eql c (.slc b e i n) .nils = some (.bool false)) := by intros; rfl
@[go_sem] theorem tt_214 : (∀ (c : Bool) (e : Nat) (r : List AV) (es : List (List AV)), abin (tt 73) .eql c (.lst e (r :: es)) .nils = some (.bool false)) := by intros; rfl
@[go_sem] theorem tt_215 : (∀ c : Bool, abin (tt 73) .neq c .nils .nils = some (.bool false)) := by intros; rfl
@[go_sem] theorem tt_216 : (∀ (c : Bool) (b : Bid) (e i n : Nat), abin (tt 73) .neq c (.slc b e i n) .nils = some (.bool true)) := by intros; rfl
@[go_sem] theorem tt_217 : (∀ (c : Bool) (e : Nat) (r : List AV) (es : List (List AV)), abin (tt 73) .neq c (.lst e (r :: es)) .nils = some (.bool true)) := by intros; rfl
@[go_sem] theorem tt_218 : (elsize tt 73 = 3) := by intros; rfl
@[go_sem] theorem tt_219 : (∀ (ev : Operand → AV) (n : Nat) (ps : List (Nat × Operand)), absl tt ev 73 n ps = if n ≤ 16777216 ∧ n * 3 ≤ 16777216 ∧ ps.map (·.1) = List.range n ∧ (ps.all fun p => noL (ev p.2) && ((ev p.2).cells.length == 3) && (ev p.2).cells.all AV.cell) = true then some (3, ps.map fun p => (ev p.2).cells) else none) := by intros; rfl
@[go_sem] theorem tt_220 : (∀ (k k' : IntKind) (l c : Int), amake tt 73 (.int k l) (.int k' c) = if 0 ≤ l ∧ l ≤ c ∧ c * 24 ≤ 70368744177664 ∧ c ≤ 70368744177664 then some (3, List.replicate l.toNat [.int .i64 0, .int .i64 0, .int .i64 0], l.toNat) else none) := by intros; rfl
@[go_sem] theorem tt_221 : (∀ (h : AH) (x y : AV), acopy tt h 73 x y = acopyz 3 h x y) := fun h x y => by unfold acopy acopyz; rfl
@[go_sem] theorem tt_222 : (∀ (ez b1 o n : Nat) (b : Bid) (lo hi : Option AV), asl (tt 73) ez lo hi (.slc b b1 o n) = aslz n lo hi fun l h => if b1 = ez then some (.slc b b1 (o + l) (h - l)) else none) := fun ez b1 o n b lo hi => asl_slc rfl ez lo hi b b1 o n
@[go_sem] theorem tt_223 : (∀ (ez e : Nat) (es : List (List AV)) (lo hi : Option AV), asl (tt 73) ez lo hi (.lst e es) = aslz es.length lo hi fun l h => if e = ez then some (.lst e ((es.drop l).take (h - l))) else none) := fun ez e es lo hi => asl_lst rfl ez lo hi e es
@[go_sem] theorem tt_224 : (∀ (h : AH) (id : Bid) (x y : AV), aapp tt h 73 id x y = aappz 3 24 h id x y) := fun h id x y => by unfold aapp aappz; rfl
@[go_sem] theorem tt_225 : (∀ (s : AS) (p v : AV), aput (tt 73) s p v = aputz 1 s p v) := fun s p v => aput_z rfl rfl s p v
@[go_sem] theorem tt_226 : (∀ (s : AS) (p : AV), aload (tt 83) s p = (s.row p).bind fun r => apart false 1 r.2 r.1) := by intro s p; unfold aload; cases s.row p <;> rfl
@[go_sem] theorem tt_227 : (∀ ev : Operand → AV, arows tt ev (.alloc 83) = some (1, [[.int .u64 0]], 83)) := by intros; rfl
@[go_sem] theorem tt_228 : (∀ (ev : Operand → AV) (x : Operand), arows tt ev (.box 83 x) = if noL (ev x) = true ∧ (ev x).cells.length = 1 ∧ (ev x).cells.all AV.cell = true then some (1, [(ev x).cells], 83) else none) := by intro ev x; simp [arows, tt, TI.knows]
@[go_sem] theorem tt_229 : (∀ (k : IntKind) (n : Int), aconv (tt 83) (tt 3) (.int k n) = some (.int .i64 (wr .i64 n))) := by intros; rfl
@[go_sem] theorem tt_230 : (∀ (s : AS) (p v : AV), aput (tt 83) s p v = aputz 1 s p v) := fun s p v => aput_z rfl rfl s p v
@[go_sem] theorem tt_231 : (∀ (s : AS) (p : AV), aload (tt 85) s p = (s.row p).bind fun r => apart true 1 r.2 r.1) := by intro s p; unfold aload; cases s.row p <;> rfl
@[go_sem] theorem tt_232 : (∀ ev : Operand → AV, arows tt ev (.alloc 85) = some (1, [[.int .u64 0]], 85)) := by intros; rfl
@[go_sem] theorem tt_233 : (∀ (ev : Operand → AV) (x : Operand), arows tt ev (.box 85 x) = if noL (ev x) = true ∧ (ev x).cells.length = 1 ∧ (ev x).cells.all AV.cell = true then some (1, [(ev x).cells], 85) else none) := by intro ev x; simp [arows, tt, TI.knows]
@[go_sem] theorem tt_234 : (∀ v : AV, afieldAddr (tt 85) 0 v = amove 0 v) := by intros; rfl
@[go_sem] theorem tt_235 : (∀ cs : List AV, afield (tt 85) 0 (.agg cs) = apart false 1 0 cs) := by intros; rfl
@[go_sem] theorem tt_236 : (∀ ps : List (Nat × AV), abuild tt 85 ps = (afill (fun i => ([(0, 1)] : List (Nat × Nat))[i]?) [.int .u64 0] ps).map .agg) := fun ps => by show Option.map _ (afill _ _ _) = _; congr 2; funext i; rw [← List.getElem?_map]; rfl
@[go_sem] theorem tt_237 : (∀ (s : AS) (p v : AV), aput (tt 85) s p v = aputz 1 s p v) := fun s p v => aput_z rfl rfl s p v
@[go_sem] theorem tt_238 : (∀ (s : AS) (p : AV), aload (tt 87) s p = (s.row p).bind fun r => apart false 1 r.2 r.1) := by intro s p; unfold aload; cases s.row p <;> rfl
@[go_sem] theorem tt_239 : (∀ ev : Operand → AV, arows tt ev (.alloc 87) = some (1, [[.int .u64 0]], 87)) := by intros; rfl
@[go_sem] theorem tt_240 : (∀ (ev : Operand → AV) (x : Operand), arows tt ev (.box 87 x) = if noL (ev x) = true ∧ (ev x).cells.length = 1 ∧ (ev x).cells.all AV.cell = true then some (1, [(ev x).cells], 87) else none) := by intro ev x; simp [arows, tt, TI.knows]
@[go_sem] theorem tt_241 : (∀ (k : IntKind) (n : Int), aconv (tt 87) (tt 114) (.int k n) = some (.int .u32 (wr .u32 n))) := by intros; rfl
@[go_sem] theorem tt_242 : (∀ (s : AS) (p v : AV), aput (tt 87) s p v = aputz 1 s p v) := fun s p v => aput_z rfl rfl s p v
@[go_sem] theorem tt_243 : (∀ (s : AS) (p : AV), aload (tt 88) s p = (s.row p).bind fun r => apart false 1 r.2 r.1) := by intro s p; unfold aload; cases s.row p <;> rfl
@[go_sem] theorem tt_244 : (∀ ev : Operand → AV, arows tt ev (.alloc 88) = some (1, [[.int .i64 0]], 88)) := by intros; rfl
@[go_sem] theorem tt_245 : (∀ (ev : Operand → AV) (x : Operand), arows tt ev (.box 88 x) = if noL (ev x) = true ∧ (ev x).cells.length = 1 ∧ (ev x).cells.all AV.cell = true then some (1, [(ev x).cells], 88) else none) := by intro ev x; simp [arows, tt, TI.knows]
@[go_sem] theorem tt_246 : (∀ (k : IntKind) (n : Int), aconv (tt 88) (tt 87) (.int k n) = some (.int .u64 (wr .u64 n))) := by intros; rfl
@[go_sem] theorem tt_247 : (∀ (s : AS) (p v : AV), aput (tt 88) s p v = aputz 1 s p v) := fun s p v => aput_z rfl rfl s p v
@[go_sem] theorem tt_248 : (∀ (s : AS) (p : AV), aload (tt 92) s p = (s.row p).bind fun r => apart true 8 r.2 r.1) := by intro s p; unfold aload; cases s.row p <;> rfl
@[go_sem] theorem tt_249 : (∀ ev : Operand → AV, arows tt ev (.alloc 92) = some (8, [[.int .i64 0, .int .i64 0, .int .i64 0, .int .i64 0, .int .i64 0, .int .i64 0, .int .i64 0, .int .i64 0]], 92)) := by intros; rfl
@[go_sem] theorem tt_250 : (∀ (ev : Operand → AV) (x : Operand), arows tt ev (.box 92 x) = if noL (ev x) = true ∧ (ev x).cells.length = 8 ∧ (ev x).cells.all AV.cell = true then some (8, [(ev x).cells], 92) else none) := by intro ev x; simp [arows, tt, TI.knows]
@[go_sem] theorem tt_251 : (∀ (v : AV) (k : IntKind) (i : Int), aidx tt 92 v (.int k i) = if 0 ≤ i ∧ i < 8 then amove (i.toNat * 1) v else none) := by intros; rfl
@[go_sem] theorem tt_252 : (∀ (cs : List AV) (k : IntKind) (i : Int), aindex tt 92 (.agg cs) (.int k i) = if 0 ≤ i ∧ i < 8 then apart false 1 (i.toNat * 1) cs else none) := by intros; rfl
@[go_sem] theorem tt_253 : (∀ ps : List (Nat × AV), abuild tt 92 ps = (afill (fun i => some (i * 1, 1)) [.int .i64 0, .int .i64 0, .int .i64 0, .int .i64 0, .int .i64 0, .int .i64 0, .int .i64 0, .int .i64 0] ps).map .agg) := by intros; rfl
@[go_sem] theorem tt_254 : (elsize tt 92 = 1) := by intros; rfl
@[go_sem] theorem tt_255 : (∀ cs : List AV, asl (tt 92) 1 none none (.iptr cs 0) = if cs.length = 8 then some (.lst 1 (cs.map fun x => [x])) else none) := fun cs => asl_iptr rfl cs
@[go_sem] theorem tt_256 : (∀ (s : AS) (p v : AV), aput (tt 92) s p v = aputz 8 s p v) := fun s p v => aput_z rfl rfl s p v
@[go_sem] theorem tt_257 : (∀ (s : AS) (p : AV), aload (tt 108) s p = (s.row p).bind fun r => apart true 3 r.2 r.1) := by intro s p; unfold aload; cases s.row p <;> rfl
@[go_sem] theorem tt_258 : (∀ ev : Operand → AV, arows tt ev (.alloc 108) = some (3, [[.int .i64 0, .int .i64 0, .int .i64 0]], 108)) := by intros; rfl
@[go_sem] theorem tt_259 : (∀ (ev : Operand → AV) (x : Operand), arows tt ev (.box 108 x) = if noL (ev x) = true ∧ (ev x).cells.length = 3 ∧ (ev x).cells.all AV.cell = true then some (3, [(ev x).cells], 108) else none) := by intro ev x; simp [arows, tt, TI.knows]
@[go_sem] theorem tt_260 : (∀ v : AV, afieldAddr (tt 108) 0 v = amove 0 v) := by intros; rfl
@[go_sem] theorem tt_261 : (∀ cs : List AV, afield (tt 108) 0 (.agg cs) = apart false 1 0 cs) := by intros; rfl
@[go_sem] theorem tt_262 : (∀ v : AV, afieldAddr (tt 108) 1 v = amove 1 v) := by intros; rfl
@[go_sem] theorem tt_263 : (∀ cs : List AV, afield (tt 108) 1 (.agg cs) = apart false 1 1 cs) := by intros; rfl
@[go_sem] theorem tt_264 : (∀ v : AV, afieldAddr (tt 108) 2 v = amove 2 v) := by intros; rfl
@[go_sem] theorem tt_265 : (∀ cs : List AV, afield (tt 108) 2 (.agg cs) = apart false 1 2 cs) := by intros; rfl
@[go_sem] theorem tt_266 : (∀ ps : List (Nat × AV), abuild tt 108 ps = (afill (fun i => ([(0, 1), (1, 1), (2, 1)] : List (Nat × Nat))[i]?) [.int .i64 0, .int .i64 0, .int .i64 0] ps).map .agg) := fun ps => by show Option.map _ (afill _ _ _) = _; congr 2; funext i; rw [← List.getElem?_map]; rfl
@[go_sem] theorem tt_267 : (∀ (c : Bool) (x y : List AV), abin (tt 108) .eql c (.agg x) (.agg y) = aeql 3 (fun b => b) (ints x) (ints y)) := fun c x y => by cases hx : ints x <;> cases hy : ints y <;> simp [tt, abin, aeql, hx, hy]
@[go_sem] theorem tt_268 : (∀ (c : Bool) (x y : List AV), abin (tt 108) .neq c (.agg x) (.agg y) = aeql 3 (fun b => !b) (ints x) (ints y)) := fun c x y => by cases hx : ints x <;> cases hy : ints y <;> simp [tt, abin, aeql, hx, hy]
@[go_sem] theorem tt_269 : (∀ (s : AS) (p v : AV), aput (tt 108) s p v = aputz 3 s p v) := fun s p v => aput_z rfl rfl s p v
@[go_sem] theorem tt_270 : (∀ (s : AS) (p : AV), aload (tt 114) s p = (s.row p).bind fun r => apart false 1 r.2 r.1) := by intro s p; unfold aload; cases s.row p <;> rfl
@[go_sem] theorem tt_271 : (∀ ev : Operand → AV, arows tt ev (.alloc 114) = some (1, [[.int .u32 0]], 114)) := by intros; rfl
@[go_sem] theorem tt_272 : (∀ (ev : Operand → AV) (x : Operand), arows tt ev (.box 114 x) = if noL (ev x) = true ∧ (ev x).cells.length = 1 ∧ (ev x).cells.all AV.cell = true then some (1, [(ev x).cells], 114) else none) := by intro ev x; simp [arows, tt, TI.knows]
@[go_sem] theorem tt_273 : (∀ (s : AS) (p v : AV), aput (tt 114) s p v = aputz 1 s p v) := fun s p v => aput_z rfl rfl s p v
@[go_sem] theorem tt_274 : (∀ (s : AS) (p : AV), aload (tt 116) s p = (s.row p).bind fun r => apart false 1 r.2 r.1) := by intro s p; unfold aload; cases s.row p <;> rfl
@[go_sem] theorem tt_275 : (∀ ev : Operand → AV, arows tt ev (.alloc 116) = some (1, [[.nilfn]], 116)) := by intros; rfl
@[go_sem] theorem tt_276 : (∀ (ev : Operand → AV) (x : Operand), arows tt ev (.box 116 x) = if noL (ev x) = true ∧ (ev x).cells.length = 1 ∧ (ev x).cells.all AV.cell = true then some (1, [(ev x).cells], 116) else none) := by intro ev x; simp [arows, tt, TI.knows]
@[go_sem] theorem tt_277 : (∀ (s : AS) (p v : AV), aput (tt 116) s p v = aputz 1 s p v) := fun s p v => aput_z rfl rfl s p v
@[go_sem] theorem tt_278 : (∀ (s : AS) (p : AV), aload (tt 117) s p = (s.row p).bind fun r => apart false 1 r.2 r.1) := by intro s p; unfold aload; cases s.row p <;> rfl
@[go_sem] theorem tt_279 : (∀ ev : Operand → AV, arows tt ev (.alloc 117) = some (1, [[.nilfn]], 117)) := by intros; rfl
@[go_sem] theorem tt_280 : (∀ (ev : Operand → AV) (x : Operand), arows tt ev (.box 117 x) = if noL (ev x) = true ∧ (ev x).cells.length = 1 ∧ (ev x).cells.all AV.cell = true then some (1, [(ev x).cells], 117) else none) := by intro ev x; simp [arows, tt, TI.knows]
@[go_sem] theorem tt_281 : (∀ (s : AS) (p v : AV), aput (tt 117) s p v = aputz 1 s p v) := fun s p v => aput_z rfl rfl s p v
end Go.Proofs.Ytbbkeakbomngoaa
