/- Printed by gentab.py: the types that this seat's functions name, as a table of our own; that the table is right. -/
import Derived.Test.YthpkmcjiobnpgaaGreatDoorBaseD
import Derived.Test.YthpkmcjiobnpgaaGreatDoorProg
import Derived.KernelRfl
set_option linter.all false
set_option linter.unusedSimpArgs false
set_option linter.unusedVariables false
namespace Go.Proofs.YthpkmcjiobnpgaaGreatDoor
open Go.Av
def tt:Nat→TI
  | 2=>⟨.int .i64,1,8,[.int .i64 0],false,false⟩
  | 3=>⟨.int .i64,1,8,[.int .i64 0],false,false⟩
  | 4=>⟨.bool,1,1,[.bool false],false,false⟩
  | 5=>⟨.int .u8,1,1,[.int .u8 0],false,false⟩
  | 9=>⟨.str,1,16,[.str []],false,false⟩
  | 21=>⟨.int .i32,1,4,[.int .i32 0],false,false⟩
  | 22=>⟨.slice 61,1,24,[.nils],false,false⟩
  | 24=>⟨.struct [(0,1,false),(1,1,false),(2,1,false),(3,1,false),(4,1,false),(5,1,false),(6,1,false),(7,1,false),(8,1,false)],9,88,[.int .i64 0,.int .i64 0,.int .i64 0,.int .i64 0,.int .i64 0,.int .i64 0,.int .i64 0,.int .i64 0,.nils],false,false⟩
  | 25=>⟨.slice 3,1,24,[.nils],false,false⟩
  | 30=>⟨.slice 24,1,24,[.nils],false,false⟩
  | 31=>⟨.slice 9,1,24,[.nils],false,false⟩
  | 32=>⟨.int .i64,1,8,[.int .i64 0],false,false⟩
  | 42=>⟨.struct [(0,1,false),(1,1,false)],2,16,[.int .i64 0,.int .i64 0],true,false⟩
  | 49=>⟨.struct [(0,1,false),(1,1,false),(2,1,false)],3,24,[.int .i64 0,.int .i64 0,.int .i64 0],false,false⟩
  | 51=>⟨.slice 49,1,24,[.nils],false,false⟩
  | 61=>⟨.struct [(0,1,false),(1,2,true),(3,2,true),(5,1,false),(6,1,false)],7,56,[.int .i64 0,.int .i64 0,.int .i64 0,.int .i64 0,.int .i64 0,.int .i64 0,.int .i64 0],true,false⟩
  | 62=>⟨.int .u64,1,8,[.int .u64 0],false,false⟩
  | 64=>⟨.struct [(0,1,false)],1,8,[.int .u64 0],false,false⟩
  | 67=>⟨.ptr,1,8,[.nilp],false,false⟩
  | 68=>⟨.slice 5,1,24,[.nils],false,false⟩
  | 70=>⟨.struct [(0,1,false),(1,1,false)],2,32,[.nilp,.nils],false,false⟩
  | 72=>⟨.iface,1,16,[.nilif],false,false⟩
  | 85=>⟨.struct [(0,9,true),(9,1,false),(10,1,false)],11,104,[.int .i64 0,.int .i64 0,.int .i64 0,.int .i64 0,.int .i64 0,.int .i64 0,.int .i64 0,.int .i64 0,.nils,.int .i64 0,.int .i64 0],false,false⟩
  | 87=>⟨.array 2 3,2,16,[.int .i64 0,.int .i64 0],false,false⟩
  | 97=>⟨.plain,1,8,[.nilfn],false,false⟩
  | 101=>⟨.int .u64,1,8,[.int .u64 0],false,false⟩
  | 103=>⟨.ptr,1,8,[.nilp],false,false⟩
  | 110=>⟨.plain,1,8,[.nilfn],false,false⟩
  | 131=>⟨.int .i64,1,8,[.int .i64 0],false,false⟩
  | 134=>⟨.ptr,1,8,[.nilp],false,false⟩
  | 139=>⟨.int .u32,1,4,[.int .u32 0],false,false⟩
  | 146=>⟨.struct [(0,1,false),(1,1,false),(2,1,false)],3,48,[.str [],.str [],.nilif],false,false⟩
  | 151=>⟨.struct [(0,1,false),(1,1,false)],2,2,[.int .u8 0,.int .u8 0],false,false⟩
  | 157=>⟨.ptr,1,8,[.nilp],false,false⟩
  | 159=>⟨.struct [(0,1,false)],1,16,[.str []],false,false⟩
  | _=>⟨.unknown,0,0,[],false,false⟩
theorem info_row {t:TypeId} {r:TypeInfo} (h:Tryz.prog.types[t]?=some r):Tryz.prog.info? t=some r:=by
  have hlt:t < Tryz.prog.types.size:=(Array.getElem?_eq_some_iff.1 h).1
  unfold Tables.info?;rw [if_pos hlt];exact h
theorem inf2:Tryz.prog.info? 2=some Tryz.t2:=info_row Tryz.type2
theorem cel2:Tryz.prog.cellsOf 2=1:=by unfold Program.cellsOf;rw [inf2];rfl
theorem ag2:aggB Tryz.prog 2=false:=by unfold aggB;rw [Tryz.underlying2]
theorem inf3:Tryz.prog.info? 3=some Tryz.t3:=info_row Tryz.type3
theorem cel3:Tryz.prog.cellsOf 3=1:=by unfold Program.cellsOf;rw [inf3];rfl
theorem ag3:aggB Tryz.prog 3=false:=by unfold aggB;rw [Tryz.underlying3]
theorem inf4:Tryz.prog.info? 4=some Tryz.t4:=info_row Tryz.type4
theorem cel4:Tryz.prog.cellsOf 4=1:=by unfold Program.cellsOf;rw [inf4];rfl
theorem ag4:aggB Tryz.prog 4=false:=by unfold aggB;rw [Tryz.underlying4]
theorem inf5:Tryz.prog.info? 5=some Tryz.t5:=info_row Tryz.type5
theorem cel5:Tryz.prog.cellsOf 5=1:=by unfold Program.cellsOf;rw [inf5];rfl
theorem ag5:aggB Tryz.prog 5=false:=by unfold aggB;rw [Tryz.underlying5]
theorem inf9:Tryz.prog.info? 9=some Tryz.t9:=info_row Tryz.type9
theorem cel9:Tryz.prog.cellsOf 9=1:=by unfold Program.cellsOf;rw [inf9];rfl
theorem ag9:aggB Tryz.prog 9=false:=by unfold aggB;rw [Tryz.underlying9]
theorem inf21:Tryz.prog.info? 21=some Tryz.t21:=info_row Tryz.type21
theorem cel21:Tryz.prog.cellsOf 21=1:=by unfold Program.cellsOf;rw [inf21];rfl
theorem ag21:aggB Tryz.prog 21=false:=by unfold aggB;rw [Tryz.underlying21]
theorem inf22:Tryz.prog.info? 22=some Tryz.t22:=info_row Tryz.type22
theorem cel22:Tryz.prog.cellsOf 22=1:=by unfold Program.cellsOf;rw [inf22];rfl
theorem ag22:aggB Tryz.prog 22=false:=by unfold aggB;rw [Tryz.underlying22]
theorem inf24:Tryz.prog.info? 24=some Tryz.t24:=info_row Tryz.type24
theorem cel24:Tryz.prog.cellsOf 24=9:=by unfold Program.cellsOf;rw [inf24];rfl
theorem ag24:aggB Tryz.prog 24=true:=by unfold aggB;rw [Tryz.underlying24]
theorem inf25:Tryz.prog.info? 25=some Tryz.t25:=info_row Tryz.type25
theorem cel25:Tryz.prog.cellsOf 25=1:=by unfold Program.cellsOf;rw [inf25];rfl
theorem ag25:aggB Tryz.prog 25=false:=by unfold aggB;rw [Tryz.underlying25]
theorem inf30:Tryz.prog.info? 30=some Tryz.t30:=info_row Tryz.type30
theorem cel30:Tryz.prog.cellsOf 30=1:=by unfold Program.cellsOf;rw [inf30];rfl
theorem ag30:aggB Tryz.prog 30=false:=by unfold aggB;rw [Tryz.underlying30]
theorem inf31:Tryz.prog.info? 31=some Tryz.t31:=info_row Tryz.type31
theorem cel31:Tryz.prog.cellsOf 31=1:=by unfold Program.cellsOf;rw [inf31];rfl
theorem ag31:aggB Tryz.prog 31=false:=by unfold aggB;rw [Tryz.underlying31]
theorem inf32:Tryz.prog.info? 32=some Tryz.t32:=info_row Tryz.type32
theorem cel32:Tryz.prog.cellsOf 32=1:=by unfold Program.cellsOf;rw [inf32];rfl
theorem ag32:aggB Tryz.prog 32=false:=by unfold aggB;rw [Tryz.underlying32]
theorem inf42:Tryz.prog.info? 42=some Tryz.t42:=info_row Tryz.type42
theorem cel42:Tryz.prog.cellsOf 42=2:=by unfold Program.cellsOf;rw [inf42];rfl
theorem ag42:aggB Tryz.prog 42=true:=by unfold aggB;rw [Tryz.underlying42]
theorem inf49:Tryz.prog.info? 49=some Tryz.t49:=info_row Tryz.type49
theorem cel49:Tryz.prog.cellsOf 49=3:=by unfold Program.cellsOf;rw [inf49];rfl
theorem ag49:aggB Tryz.prog 49=true:=by unfold aggB;rw [Tryz.underlying49]
theorem inf51:Tryz.prog.info? 51=some Tryz.t51:=info_row Tryz.type51
theorem cel51:Tryz.prog.cellsOf 51=1:=by unfold Program.cellsOf;rw [inf51];rfl
theorem ag51:aggB Tryz.prog 51=false:=by unfold aggB;rw [Tryz.underlying51]
theorem inf61:Tryz.prog.info? 61=some Tryz.t61:=info_row Tryz.type61
theorem cel61:Tryz.prog.cellsOf 61=7:=by unfold Program.cellsOf;rw [inf61];rfl
theorem ag61:aggB Tryz.prog 61=true:=by unfold aggB;rw [Tryz.underlying61]
theorem inf62:Tryz.prog.info? 62=some Tryz.t62:=info_row Tryz.type62
theorem cel62:Tryz.prog.cellsOf 62=1:=by unfold Program.cellsOf;rw [inf62];rfl
theorem ag62:aggB Tryz.prog 62=false:=by unfold aggB;rw [Tryz.underlying62]
theorem inf64:Tryz.prog.info? 64=some Tryz.t64:=info_row Tryz.type64
theorem cel64:Tryz.prog.cellsOf 64=1:=by unfold Program.cellsOf;rw [inf64];rfl
theorem ag64:aggB Tryz.prog 64=true:=by unfold aggB;rw [Tryz.underlying64]
theorem inf67:Tryz.prog.info? 67=some Tryz.t67:=info_row Tryz.type67
theorem cel67:Tryz.prog.cellsOf 67=1:=by unfold Program.cellsOf;rw [inf67];rfl
theorem ag67:aggB Tryz.prog 67=false:=by unfold aggB;rw [Tryz.underlying67]
theorem inf68:Tryz.prog.info? 68=some Tryz.t68:=info_row Tryz.type68
theorem cel68:Tryz.prog.cellsOf 68=1:=by unfold Program.cellsOf;rw [inf68];rfl
theorem ag68:aggB Tryz.prog 68=false:=by unfold aggB;rw [Tryz.underlying68]
theorem inf70:Tryz.prog.info? 70=some Tryz.t70:=info_row Tryz.type70
theorem cel70:Tryz.prog.cellsOf 70=2:=by unfold Program.cellsOf;rw [inf70];rfl
theorem ag70:aggB Tryz.prog 70=true:=by unfold aggB;rw [Tryz.underlying70]
theorem inf72:Tryz.prog.info? 72=some Tryz.t72:=info_row Tryz.type72
theorem cel72:Tryz.prog.cellsOf 72=1:=by unfold Program.cellsOf;rw [inf72];rfl
theorem ag72:aggB Tryz.prog 72=false:=by unfold aggB;rw [Tryz.underlying72]
theorem inf85:Tryz.prog.info? 85=some Tryz.t85:=info_row Tryz.type85
theorem cel85:Tryz.prog.cellsOf 85=11:=by unfold Program.cellsOf;rw [inf85];rfl
theorem ag85:aggB Tryz.prog 85=true:=by unfold aggB;rw [Tryz.underlying85]
theorem inf87:Tryz.prog.info? 87=some Tryz.t87:=info_row Tryz.type87
theorem cel87:Tryz.prog.cellsOf 87=2:=by unfold Program.cellsOf;rw [inf87];rfl
theorem ag87:aggB Tryz.prog 87=true:=by unfold aggB;rw [Tryz.underlying87]
theorem inf97:Tryz.prog.info? 97=some Tryz.t97:=info_row Tryz.type97
theorem cel97:Tryz.prog.cellsOf 97=1:=by unfold Program.cellsOf;rw [inf97];rfl
theorem ag97:aggB Tryz.prog 97=false:=by unfold aggB;rw [Tryz.underlying97]
theorem inf101:Tryz.prog.info? 101=some Tryz.t101:=info_row Tryz.type101
theorem cel101:Tryz.prog.cellsOf 101=1:=by unfold Program.cellsOf;rw [inf101];rfl
theorem ag101:aggB Tryz.prog 101=false:=by unfold aggB;rw [Tryz.underlying101]
theorem inf103:Tryz.prog.info? 103=some Tryz.t103:=info_row Tryz.type103
theorem cel103:Tryz.prog.cellsOf 103=1:=by unfold Program.cellsOf;rw [inf103];rfl
theorem ag103:aggB Tryz.prog 103=false:=by unfold aggB;rw [Tryz.underlying103]
theorem inf110:Tryz.prog.info? 110=some Tryz.t110:=info_row Tryz.type110
theorem cel110:Tryz.prog.cellsOf 110=1:=by unfold Program.cellsOf;rw [inf110];rfl
theorem ag110:aggB Tryz.prog 110=false:=by unfold aggB;rw [Tryz.underlying110]
theorem inf131:Tryz.prog.info? 131=some Tryz.t131:=info_row Tryz.type131
theorem cel131:Tryz.prog.cellsOf 131=1:=by unfold Program.cellsOf;rw [inf131];rfl
theorem ag131:aggB Tryz.prog 131=false:=by unfold aggB;rw [Tryz.underlying131]
theorem inf134:Tryz.prog.info? 134=some Tryz.t134:=info_row Tryz.type134
theorem cel134:Tryz.prog.cellsOf 134=1:=by unfold Program.cellsOf;rw [inf134];rfl
theorem ag134:aggB Tryz.prog 134=false:=by unfold aggB;rw [Tryz.underlying134]
theorem inf139:Tryz.prog.info? 139=some Tryz.t139:=info_row Tryz.type139
theorem cel139:Tryz.prog.cellsOf 139=1:=by unfold Program.cellsOf;rw [inf139];rfl
theorem ag139:aggB Tryz.prog 139=false:=by unfold aggB;rw [Tryz.underlying139]
theorem inf146:Tryz.prog.info? 146=some Tryz.t146:=info_row Tryz.type146
theorem cel146:Tryz.prog.cellsOf 146=3:=by unfold Program.cellsOf;rw [inf146];rfl
theorem ag146:aggB Tryz.prog 146=true:=by unfold aggB;rw [Tryz.underlying146]
theorem inf151:Tryz.prog.info? 151=some Tryz.t151:=info_row Tryz.type151
theorem cel151:Tryz.prog.cellsOf 151=2:=by unfold Program.cellsOf;rw [inf151];rfl
theorem ag151:aggB Tryz.prog 151=true:=by unfold aggB;rw [Tryz.underlying151]
theorem inf157:Tryz.prog.info? 157=some Tryz.t157:=info_row Tryz.type157
theorem cel157:Tryz.prog.cellsOf 157=1:=by unfold Program.cellsOf;rw [inf157];rfl
theorem ag157:aggB Tryz.prog 157=false:=by unfold aggB;rw [Tryz.underlying157]
theorem inf159:Tryz.prog.info? 159=some Tryz.t159:=info_row Tryz.type159
theorem cel159:Tryz.prog.cellsOf 159=1:=by unfold Program.cellsOf;rw [inf159];rfl
theorem ag159:aggB Tryz.prog 159=true:=by unfold aggB;rw [Tryz.underlying159]
theorem eq42:EqFact Tryz.prog 42 2:=EqFact.ints Tryz.underlying42 (by kernel_rfl) (by kernel_rfl) (by intro f hf;simp at hf;rcases hf with rfl|rfl <;> exact ⟨by decide,by first|exact ⟨_,Tryz.underlying3⟩⟩) rfl rfl
theorem eq61:EqFact Tryz.prog 61 7:=by
  refine EqFact.nestZ [1,2,2,1,1] Tryz.underlying61 (by kernel_rfl) (by kernel_rfl) rfl ?_ (by simp [offOk]) rfl
  intro p hp
  simp at hp
  rcases hp with rfl|rfl|rfl|rfl|rfl
  · exact FldEq.int (d:=9998) (by decide) Tryz.underlying3
  · exact FldEq.struct (d:=9997) (by decide) Tryz.underlying42 inf42 rfl (by kernel_rfl) (by intro g hg;simp at hg;rcases hg with rfl|rfl <;> exact ⟨by decide,by first|exact ⟨_,Tryz.underlying3⟩⟩) rfl rfl
  · exact FldEq.struct (d:=9997) (by decide) Tryz.underlying42 inf42 rfl (by kernel_rfl) (by intro g hg;simp at hg;rcases hg with rfl|rfl <;> exact ⟨by decide,by first|exact ⟨_,Tryz.underlying3⟩⟩) rfl rfl
  · exact FldEq.int (d:=9998) (by decide) Tryz.underlying3
  · exact FldEq.int (d:=9998) (by decide) Tryz.underlying3
theorem good2:Go.Av.Good Tryz.prog 2 (tt 2):=⟨⟨Tryz.t2,_,inf2,rfl,rfl,rfl,fun c=>by simp [tt,VRs,VR,Value.cells],rfl,rfl⟩,Tryz.underlying2,(fun h=>by cases h),(fun h=>by cases h)⟩
theorem good3:Go.Av.Good Tryz.prog 3 (tt 3):=⟨⟨Tryz.t3,_,inf3,rfl,rfl,rfl,fun c=>by simp [tt,VRs,VR,Value.cells],rfl,rfl⟩,Tryz.underlying3,(fun h=>by cases h),(fun h=>by cases h)⟩
theorem good4:Go.Av.Good Tryz.prog 4 (tt 4):=⟨⟨Tryz.t4,_,inf4,rfl,rfl,rfl,fun c=>by simp [tt,VRs,VR,Value.cells],rfl,rfl⟩,Tryz.underlying4,(fun h=>by cases h),(fun h=>by cases h)⟩
theorem good5:Go.Av.Good Tryz.prog 5 (tt 5):=⟨⟨Tryz.t5,_,inf5,rfl,rfl,rfl,fun c=>by simp [tt,VRs,VR,Value.cells],rfl,rfl⟩,Tryz.underlying5,(fun h=>by cases h),(fun h=>by cases h)⟩
theorem good9:Go.Av.Good Tryz.prog 9 (tt 9):=⟨⟨Tryz.t9,_,inf9,rfl,rfl,rfl,fun c=>by simp [tt,VRs,VR,Value.cells],rfl,rfl⟩,Tryz.underlying9,(fun h=>by cases h),(fun h=>by cases h)⟩
theorem good21:Go.Av.Good Tryz.prog 21 (tt 21):=⟨⟨Tryz.t21,_,inf21,rfl,rfl,rfl,fun c=>by simp [tt,VRs,VR,Value.cells],rfl,rfl⟩,Tryz.underlying21,(fun h=>by cases h),(fun h=>by cases h)⟩
theorem good22:Go.Av.Good Tryz.prog 22 (tt 22):=⟨⟨Tryz.t22,_,inf22,rfl,rfl,rfl,fun c=>by simp [tt,VRs,VR,Value.cells],rfl,rfl⟩,⟨Tryz.underlying22,by rw [inf61];rfl⟩,(fun h=>by cases h),(fun h=>by cases h)⟩
theorem good24:Go.Av.Good Tryz.prog 24 (tt 24):=⟨⟨Tryz.t24,_,inf24,rfl,rfl,rfl,fun c=>by simp [tt,VRs,VR,Value.cells],rfl,rfl⟩,⟨_,Tryz.underlying24,by simp [cel3,ag3,cel22,ag22,tt],by simp [inf3,Tryz.underlying3,inf22,Tryz.underlying22]⟩,(fun h=>by cases h),(fun h=>by cases h)⟩
theorem good25:Go.Av.Good Tryz.prog 25 (tt 25):=⟨⟨Tryz.t25,_,inf25,rfl,rfl,rfl,fun c=>by simp [tt,VRs,VR,Value.cells],rfl,rfl⟩,⟨Tryz.underlying25,by rw [inf3];rfl⟩,(fun h=>by cases h),(fun h=>by cases h)⟩
theorem good30:Go.Av.Good Tryz.prog 30 (tt 30):=⟨⟨Tryz.t30,_,inf30,rfl,rfl,rfl,fun c=>by simp [tt,VRs,VR,Value.cells],rfl,rfl⟩,⟨Tryz.underlying30,by rw [inf24];rfl⟩,(fun h=>by cases h),(fun h=>by cases h)⟩
theorem good31:Go.Av.Good Tryz.prog 31 (tt 31):=⟨⟨Tryz.t31,_,inf31,rfl,rfl,rfl,fun c=>by simp [tt,VRs,VR,Value.cells],rfl,rfl⟩,⟨Tryz.underlying31,by rw [inf9];rfl⟩,(fun h=>by cases h),(fun h=>by cases h)⟩
theorem good32:Go.Av.Good Tryz.prog 32 (tt 32):=⟨⟨Tryz.t32,_,inf32,rfl,rfl,rfl,fun c=>by simp [tt,VRs,VR,Value.cells],rfl,rfl⟩,Tryz.underlying32,(fun h=>by cases h),(fun h=>by cases h)⟩
theorem good42:Go.Av.Good Tryz.prog 42 (tt 42):=⟨⟨Tryz.t42,_,inf42,rfl,rfl,rfl,fun c=>by simp [tt,VRs,VR,Value.cells],rfl,rfl⟩,⟨_,Tryz.underlying42,by simp [cel3,ag3,tt],by simp [inf3,Tryz.underlying3]⟩,fun _=>eq42,(fun h=>by cases h)⟩
theorem good49:Go.Av.Good Tryz.prog 49 (tt 49):=⟨⟨Tryz.t49,_,inf49,rfl,rfl,rfl,fun c=>by simp [tt,VRs,VR,Value.cells],rfl,rfl⟩,⟨_,Tryz.underlying49,by simp [cel3,ag3,tt],by simp [inf3,Tryz.underlying3]⟩,(fun h=>by cases h),(fun h=>by cases h)⟩
theorem good51:Go.Av.Good Tryz.prog 51 (tt 51):=⟨⟨Tryz.t51,_,inf51,rfl,rfl,rfl,fun c=>by simp [tt,VRs,VR,Value.cells],rfl,rfl⟩,⟨Tryz.underlying51,by rw [inf49];rfl⟩,(fun h=>by cases h),(fun h=>by cases h)⟩
theorem good61:Go.Av.Good Tryz.prog 61 (tt 61):=⟨⟨Tryz.t61,_,inf61,rfl,rfl,rfl,fun c=>by simp [tt,VRs,VR,Value.cells],rfl,rfl⟩,⟨_,Tryz.underlying61,by simp [cel3,ag3,cel42,ag42,tt],by simp [inf3,Tryz.underlying3,inf42,Tryz.underlying42]⟩,fun _=>eq61,(fun h=>by cases h)⟩
theorem good62:Go.Av.Good Tryz.prog 62 (tt 62):=⟨⟨Tryz.t62,_,inf62,rfl,rfl,rfl,fun c=>by simp [tt,VRs,VR,Value.cells],rfl,rfl⟩,Tryz.underlying62,(fun h=>by cases h),(fun h=>by cases h)⟩
theorem good64:Go.Av.Good Tryz.prog 64 (tt 64):=⟨⟨Tryz.t64,_,inf64,rfl,rfl,rfl,fun c=>by simp [tt,VRs,VR,Value.cells],rfl,rfl⟩,⟨_,Tryz.underlying64,by simp [cel62,ag62,tt],by simp [inf62,Tryz.underlying62]⟩,(fun h=>by cases h),(fun h=>by cases h)⟩
theorem good67:Go.Av.Good Tryz.prog 67 (tt 67):=⟨⟨Tryz.t67,_,inf67,rfl,rfl,rfl,fun c=>by simp [tt,VRs,VR,Value.cells],rfl,rfl⟩,⟨_,Tryz.underlying67⟩,(fun h=>by cases h),(fun h=>by cases h)⟩
theorem good68:Go.Av.Good Tryz.prog 68 (tt 68):=⟨⟨Tryz.t68,_,inf68,rfl,rfl,rfl,fun c=>by simp [tt,VRs,VR,Value.cells],rfl,rfl⟩,⟨Tryz.underlying68,by rw [inf5];rfl⟩,(fun h=>by cases h),(fun h=>by cases h)⟩
theorem good70:Go.Av.Good Tryz.prog 70 (tt 70):=⟨⟨Tryz.t70,_,inf70,rfl,rfl,rfl,fun c=>by simp [tt,VRs,VR,Value.cells],rfl,rfl⟩,⟨_,Tryz.underlying70,by simp [cel67,ag67,cel68,ag68,tt],by simp [inf67,Tryz.underlying67,inf68,Tryz.underlying68]⟩,(fun h=>by cases h),(fun h=>by cases h)⟩
theorem good72:Go.Av.Good Tryz.prog 72 (tt 72):=⟨⟨Tryz.t72,_,inf72,rfl,rfl,rfl,fun c=>by simp [tt,VRs,VR,Value.cells],rfl,rfl⟩,⟨_,Tryz.underlying72⟩,(fun h=>by cases h),(fun h=>by cases h)⟩
theorem good85:Go.Av.Good Tryz.prog 85 (tt 85):=⟨⟨Tryz.t85,_,inf85,rfl,rfl,rfl,fun c=>by simp [tt,VRs,VR,Value.cells],rfl,rfl⟩,⟨_,Tryz.underlying85,by simp [cel3,ag3,cel24,ag24,tt],by simp [inf3,Tryz.underlying3,inf24,Tryz.underlying24]⟩,(fun h=>by cases h),(fun h=>by cases h)⟩
theorem good87:Go.Av.Good Tryz.prog 87 (tt 87):=⟨⟨Tryz.t87,_,inf87,rfl,rfl,rfl,fun c=>by simp [tt,VRs,VR,Value.cells],rfl,rfl⟩,⟨Tryz.underlying87,by rw [inf3];rfl⟩,(fun h=>by cases h),(fun h=>by cases h)⟩
theorem good97:Go.Av.Good Tryz.prog 97 (tt 97):=⟨⟨Tryz.t97,_,inf97,rfl,rfl,rfl,fun c=>by simp [tt,VRs,VR,Value.cells],rfl,rfl⟩,⟨_,Tryz.underlying97,rfl⟩,(fun h=>by cases h),(fun h=>by cases h)⟩
theorem good101:Go.Av.Good Tryz.prog 101 (tt 101):=⟨⟨Tryz.t101,_,inf101,rfl,rfl,rfl,fun c=>by simp [tt,VRs,VR,Value.cells],rfl,rfl⟩,Tryz.underlying101,(fun h=>by cases h),(fun h=>by cases h)⟩
theorem good103:Go.Av.Good Tryz.prog 103 (tt 103):=⟨⟨Tryz.t103,_,inf103,rfl,rfl,rfl,fun c=>by simp [tt,VRs,VR,Value.cells],rfl,rfl⟩,⟨_,Tryz.underlying103⟩,(fun h=>by cases h),(fun h=>by cases h)⟩
theorem good110:Go.Av.Good Tryz.prog 110 (tt 110):=⟨⟨Tryz.t110,_,inf110,rfl,rfl,rfl,fun c=>by simp [tt,VRs,VR,Value.cells],rfl,rfl⟩,⟨_,Tryz.underlying110,rfl⟩,(fun h=>by cases h),(fun h=>by cases h)⟩
theorem good131:Go.Av.Good Tryz.prog 131 (tt 131):=⟨⟨Tryz.t131,_,inf131,rfl,rfl,rfl,fun c=>by simp [tt,VRs,VR,Value.cells],rfl,rfl⟩,Tryz.underlying131,(fun h=>by cases h),(fun h=>by cases h)⟩
theorem good134:Go.Av.Good Tryz.prog 134 (tt 134):=⟨⟨Tryz.t134,_,inf134,rfl,rfl,rfl,fun c=>by simp [tt,VRs,VR,Value.cells],rfl,rfl⟩,⟨_,Tryz.underlying134⟩,(fun h=>by cases h),(fun h=>by cases h)⟩
theorem good139:Go.Av.Good Tryz.prog 139 (tt 139):=⟨⟨Tryz.t139,_,inf139,rfl,rfl,rfl,fun c=>by simp [tt,VRs,VR,Value.cells],rfl,rfl⟩,Tryz.underlying139,(fun h=>by cases h),(fun h=>by cases h)⟩
theorem good146:Go.Av.Good Tryz.prog 146 (tt 146):=⟨⟨Tryz.t146,_,inf146,rfl,rfl,rfl,fun c=>by simp [tt,VRs,VR,Value.cells],rfl,rfl⟩,⟨_,Tryz.underlying146,by simp [cel9,ag9,cel72,ag72,tt],by simp [inf9,Tryz.underlying9,inf72,Tryz.underlying72]⟩,(fun h=>by cases h),(fun h=>by cases h)⟩
theorem good151:Go.Av.Good Tryz.prog 151 (tt 151):=⟨⟨Tryz.t151,_,inf151,rfl,rfl,rfl,fun c=>by simp [tt,VRs,VR,Value.cells],rfl,rfl⟩,⟨_,Tryz.underlying151,by simp [cel5,ag5,tt],by simp [inf5,Tryz.underlying5]⟩,(fun h=>by cases h),(fun h=>by cases h)⟩
theorem good157:Go.Av.Good Tryz.prog 157 (tt 157):=⟨⟨Tryz.t157,_,inf157,rfl,rfl,rfl,fun c=>by simp [tt,VRs,VR,Value.cells],rfl,rfl⟩,⟨_,Tryz.underlying157⟩,(fun h=>by cases h),(fun h=>by cases h)⟩
theorem good159:Go.Av.Good Tryz.prog 159 (tt 159):=⟨⟨Tryz.t159,_,inf159,rfl,rfl,rfl,fun c=>by simp [tt,VRs,VR,Value.cells],rfl,rfl⟩,⟨_,Tryz.underlying159,by simp [cel9,ag9,tt],by simp [inf9,Tryz.underlying9]⟩,(fun h=>by cases h),(fun h=>by cases h)⟩
theorem tab:Tab Tryz.prog tt where
  all:=fun t h=>by
    unfold tt at h ⊢
    split at h
    · exact good2
    · exact good3
    · exact good4
    · exact good5
    · exact good9
    · exact good21
    · exact good22
    · exact good24
    · exact good25
    · exact good30
    · exact good31
    · exact good32
    · exact good42
    · exact good49
    · exact good51
    · exact good61
    · exact good62
    · exact good64
    · exact good67
    · exact good68
    · exact good70
    · exact good72
    · exact good85
    · exact good87
    · exact good97
    · exact good101
    · exact good103
    · exact good110
    · exact good131
    · exact good134
    · exact good139
    · exact good146
    · exact good151
    · exact good157
    · exact good159
    · cases h
  elem:=fun t e h=>by
    unfold tt at h
    split at h <;> first|(cases h;done)|(cases h;rfl)
@[go_sem] theorem tt_0:(∀ (s:AS) (p:AV),aload (tt 2) s p=(s.row p).bind fun r=>apart false 1 r.2 r.1):=by intro s p;unfold aload;cases s.row p <;> rfl
@[go_sem] theorem tt_1:(∀ ev:Operand→AV,arows tt ev (.alloc 2)=some (1,[[.int .i64 0]],2)):=by intros;rfl
@[go_sem] theorem tt_2:(∀ (ev:Operand→AV) (x:Operand),arows tt ev (.box 2 x)=if noL (ev x)=true∧(ev x).cells.length=1∧(ev x).cells.all AV.cell=true then some (1,[(ev x).cells],2) else none):=by intro ev x;simp [arows,tt,TI.knows]
@[go_sem] theorem tt_3:(∀ (k:IntKind) (n:Int),aconv (tt 2) (tt 62) (.int k n)=some (.int .u64 (wr .u64 n))):=by intros;rfl
@[go_sem] theorem tt_4:(∀ (s:AS) (p v:AV),aput (tt 2) s p v=aputz 1 s p v):=fun s p v=>aput_z rfl rfl s p v
@[go_sem] theorem tt_5:(∀ (s:AS) (p:AV),aload (tt 3) s p=(s.row p).bind fun r=>apart false 1 r.2 r.1):=by intro s p;unfold aload;cases s.row p <;> rfl
@[go_sem] theorem tt_6:(∀ ev:Operand→AV,arows tt ev (.alloc 3)=some (1,[[.int .i64 0]],3)):=by intros;rfl
@[go_sem] theorem tt_7:(∀ (ev:Operand→AV) (x:Operand),arows tt ev (.box 3 x)=if noL (ev x)=true∧(ev x).cells.length=1∧(ev x).cells.all AV.cell=true then some (1,[(ev x).cells],3) else none):=by intro ev x;simp [arows,tt,TI.knows]
@[go_sem] theorem tt_8:(∀ (k:IntKind) (n:Int),aconv (tt 3) (tt 5) (.int k n)=some (.int .u8 (wr .u8 n))):=by intros;rfl
@[go_sem] theorem tt_9:(∀ (k:IntKind) (n:Int),aconv (tt 3) (tt 62) (.int k n)=some (.int .u64 (wr .u64 n))):=by intros;rfl
@[go_sem] theorem tt_10:(∀ (k:IntKind) (n:Int),aconv (tt 3) (tt 101) (.int k n)=some (.int .u64 (wr .u64 n))):=by intros;rfl
@[go_sem] theorem tt_11:(∀ (s:AS) (p v:AV),aput (tt 3) s p v=aputz 1 s p v):=fun s p v=>aput_z rfl rfl s p v
@[go_sem] theorem tt_12:(∀ (s:AS) (p:AV),aload (tt 4) s p=(s.row p).bind fun r=>apart false 1 r.2 r.1):=by intro s p;unfold aload;cases s.row p <;> rfl
@[go_sem] theorem tt_13:(∀ ev:Operand→AV,arows tt ev (.alloc 4)=some (1,[[.bool false]],4)):=by intros;rfl
@[go_sem] theorem tt_14:(∀ (ev:Operand→AV) (x:Operand),arows tt ev (.box 4 x)=if noL (ev x)=true∧(ev x).cells.length=1∧(ev x).cells.all AV.cell=true then some (1,[(ev x).cells],4) else none):=by intro ev x;simp [arows,tt,TI.knows]
@[go_sem] theorem tt_15:(∀ c a b:Bool,abin (tt 4) .eql c (.bool a) (.bool b)=some (.bool (a == b))):=by intros;rfl
@[go_sem] theorem tt_16:(∀ c a b:Bool,abin (tt 4) .neq c (.bool a) (.bool b)=some (.bool (!(a == b)))):=by intros;rfl
@[go_sem] theorem tt_17:(∀ (s:AS) (p v:AV),aput (tt 4) s p v=aputz 1 s p v):=fun s p v=>aput_z rfl rfl s p v
@[go_sem] theorem tt_18:(∀ (s:AS) (p:AV),aload (tt 5) s p=(s.row p).bind fun r=>apart false 1 r.2 r.1):=by intro s p;unfold aload;cases s.row p <;> rfl
@[go_sem] theorem tt_19:(∀ ev:Operand→AV,arows tt ev (.alloc 5)=some (1,[[.int .u8 0]],5)):=by intros;rfl
@[go_sem] theorem tt_20:(∀ (ev:Operand→AV) (x:Operand),arows tt ev (.box 5 x)=if noL (ev x)=true∧(ev x).cells.length=1∧(ev x).cells.all AV.cell=true then some (1,[(ev x).cells],5) else none):=by intro ev x;simp [arows,tt,TI.knows]
@[go_sem] theorem tt_21:(∀ (k:IntKind) (n:Int),aconv (tt 5) (tt 3) (.int k n)=some (.int .i64 (wr .i64 n))):=by intros;rfl
@[go_sem] theorem tt_22:(∀ (k:IntKind) (n:Int),aconv (tt 5) (tt 21) (.int k n)=some (.int .i32 (wr .i32 n))):=by intros;rfl
@[go_sem] theorem tt_23:(∀ (k:IntKind) (n:Int),aconv (tt 5) (tt 62) (.int k n)=some (.int .u64 (wr .u64 n))):=by intros;rfl
@[go_sem] theorem tt_24:(∀ (k:IntKind) (n:Int),aconv (tt 5) (tt 139) (.int k n)=some (.int .u32 (wr .u32 n))):=by intros;rfl
@[go_sem] theorem tt_25:(∀ (s:AS) (p v:AV),aput (tt 5) s p v=aputz 1 s p v):=fun s p v=>aput_z rfl rfl s p v
@[go_sem] theorem tt_26:(∀ (s:AS) (p:AV),aload (tt 9) s p=(s.row p).bind fun r=>apart false 1 r.2 r.1):=by intro s p;unfold aload;cases s.row p <;> rfl
@[go_sem] theorem tt_27:(∀ ev:Operand→AV,arows tt ev (.alloc 9)=some (1,[[.str []]],9)):=by intros;rfl
@[go_sem] theorem tt_28:(∀ (ev:Operand→AV) (x:Operand),arows tt ev (.box 9 x)=if noL (ev x)=true∧(ev x).cells.length=1∧(ev x).cells.all AV.cell=true then some (1,[(ev x).cells],9) else none):=by intro ev x;simp [arows,tt,TI.knows]
@[go_sem] theorem tt_29:(∀ (ez:Nat) (l:List UInt8) (lo hi:Option AV),asl (tt 9) ez lo hi (.str l)=aslz l.length lo hi fun a b=>some (.str ((l.drop a).take (b - a)))):=fun ez l lo hi=>asl_str rfl ez lo hi l
@[go_sem] theorem tt_30:(∀ (l:List UInt8),alen (tt 9) (.str l)=some (l.length:Int)):=by intros;rfl
@[go_sem] theorem tt_31:(∀ (s:AS) (p v:AV),aput (tt 9) s p v=aputz 1 s p v):=fun s p v=>aput_z rfl rfl s p v
@[go_sem] theorem tt_32:(∀ (s:AS) (p:AV),aload (tt 21) s p=(s.row p).bind fun r=>apart false 1 r.2 r.1):=by intro s p;unfold aload;cases s.row p <;> rfl
@[go_sem] theorem tt_33:(∀ ev:Operand→AV,arows tt ev (.alloc 21)=some (1,[[.int .i32 0]],21)):=by intros;rfl
@[go_sem] theorem tt_34:(∀ (ev:Operand→AV) (x:Operand),arows tt ev (.box 21 x)=if noL (ev x)=true∧(ev x).cells.length=1∧(ev x).cells.all AV.cell=true then some (1,[(ev x).cells],21) else none):=by intro ev x;simp [arows,tt,TI.knows]
@[go_sem] theorem tt_35:(∀ (s:AS) (p v:AV),aput (tt 21) s p v=aputz 1 s p v):=fun s p v=>aput_z rfl rfl s p v
@[go_sem] theorem tt_36:(∀ (s:AS) (p:AV),aload (tt 22) s p=(s.row p).bind fun r=>apart false 1 r.2 r.1):=by intro s p;unfold aload;cases s.row p <;> rfl
@[go_sem] theorem tt_37:(∀ ev:Operand→AV,arows tt ev (.alloc 22)=some (1,[[.nils]],22)):=by intros;rfl
@[go_sem] theorem tt_38:(∀ (ev:Operand→AV) (x:Operand),arows tt ev (.box 22 x)=if noL (ev x)=true∧(ev x).cells.length=1∧(ev x).cells.all AV.cell=true then some (1,[(ev x).cells],22) else none):=by intro ev x;simp [arows,tt,TI.knows]
@[go_sem] theorem tt_39:(∀ (es:List (List AV)) (k:IntKind) (i:Int),aidx tt 22 (.lst 7 es) (.int k i)=if 0≤i∧i < es.length then some (.iptr (es.getD i.toNat []) 0) else none):=by intros;rfl
@[go_sem] theorem tt_40:(∀ (b:Bid) (o n:Nat) (k:IntKind) (i:Int),aidx tt 22 (.slc b 7 o n) (.int k i)=if 0≤i∧i < n then some (.ptr b (o+i.toNat) 0) else none):=by intros;rfl
@[go_sem] theorem tt_41:(∀ (b:Bid) (e o n:Nat),alen (tt 22) (.slc b e o n)=some (n:Int)):=by intros;rfl
@[go_sem] theorem tt_42:(∀ (e:Nat) (es:List (List AV)),alen (tt 22) (.lst e es)=some (es.length:Int)):=by intros;rfl
@[go_sem] theorem tt_43:(alen (tt 22) .nils=some 0):=by intros;rfl
@[go_sem] theorem tt_44:(∀ c:Bool,abin (tt 22) .eql c .nils .nils=some (.bool true)):=by intros;rfl
@[go_sem] theorem tt_45:(∀ (c:Bool) (b:Bid) (e i n:Nat),abin (tt 22) .eql c (.slc b e i n) .nils=some (.bool false)):=by intros;rfl
@[go_sem] theorem tt_46:(∀ (c:Bool) (e:Nat) (r:List AV) (es:List (List AV)),abin (tt 22) .eql c (.lst e (r :: es)) .nils=some (.bool false)):=by intros;rfl
@[go_sem] theorem tt_47:(∀ c:Bool,abin (tt 22) .neq c .nils .nils=some (.bool false)):=by intros;rfl
@[go_sem] theorem tt_48:(∀ (c:Bool) (b:Bid) (e i n:Nat),abin (tt 22) .neq c (.slc b e i n) .nils=some (.bool true)):=by intros;rfl
@[go_sem] theorem tt_49:(∀ (c:Bool) (e:Nat) (r:List AV) (es:List (List AV)),abin (tt 22) .neq c (.lst e (r :: es)) .nils=some (.bool true)):=by intros;rfl
@[go_sem] theorem tt_50:(elsize tt 22=7):=by intros;rfl
@[go_sem] theorem tt_51:(∀ (ev:Operand→AV) (n:Nat) (ps:List (Nat × Operand)),absl tt ev 22 n ps=if n≤16777216∧n * 7≤16777216∧ps.map (·.1)=List.range n∧(ps.all fun p=>noL (ev p.2) && ((ev p.2).cells.length == 7) && (ev p.2).cells.all AV.cell)=true then some (7,ps.map fun p=>(ev p.2).cells) else none):=by intros;rfl
@[go_sem] theorem tt_52:(∀ (k k':IntKind) (l c:Int),amake tt 22 (.int k l) (.int k' c)=if 0≤l∧l≤c∧c * 56≤70368744177664∧c≤70368744177664 then some (7,List.replicate l.toNat [.int .i64 0,.int .i64 0,.int .i64 0,.int .i64 0,.int .i64 0,.int .i64 0,.int .i64 0],l.toNat) else none):=by intros;rfl
@[go_sem] theorem tt_53:(∀ (h:AH) (x y:AV),acopy tt h 22 x y=acopyz 7 h x y):=fun h x y=>by unfold acopy acopyz;rfl
@[go_sem] theorem tt_54:(∀ (ez b1 o n:Nat) (b:Bid) (lo hi:Option AV),asl (tt 22) ez lo hi (.slc b b1 o n)=aslz n lo hi fun l h=>if b1=ez then some (.slc b b1 (o+l) (h - l)) else none):=fun ez b1 o n b lo hi=>asl_slc rfl ez lo hi b b1 o n
@[go_sem] theorem tt_55:(∀ (ez e:Nat) (es:List (List AV)) (lo hi:Option AV),asl (tt 22) ez lo hi (.lst e es)=aslz es.length lo hi fun l h=>if e=ez then some (.lst e ((es.drop l).take (h - l))) else none):=fun ez e es lo hi=>asl_lst rfl ez lo hi e es
@[go_sem] theorem tt_56:(∀ (h:AH) (id:Bid) (x y:AV),aapp tt h 22 id x y=aappz 7 56 h id x y):=fun h id x y=>by unfold aapp aappz;rfl
@[go_sem] theorem tt_57:(∀ (s:AS) (p v:AV),aput (tt 22) s p v=aputz 1 s p v):=fun s p v=>aput_z rfl rfl s p v
@[go_sem] theorem tt_58:(∀ (s:AS) (p:AV),aload (tt 24) s p=(s.row p).bind fun r=>apart true 9 r.2 r.1):=by intro s p;unfold aload;cases s.row p <;> rfl
@[go_sem] theorem tt_59:(∀ ev:Operand→AV,arows tt ev (.alloc 24)=some (9,[[.int .i64 0,.int .i64 0,.int .i64 0,.int .i64 0,.int .i64 0,.int .i64 0,.int .i64 0,.int .i64 0,.nils]],24)):=by intros;rfl
@[go_sem] theorem tt_60:(∀ (ev:Operand→AV) (x:Operand),arows tt ev (.box 24 x)=if noL (ev x)=true∧(ev x).cells.length=9∧(ev x).cells.all AV.cell=true then some (9,[(ev x).cells],24) else none):=by intro ev x;simp [arows,tt,TI.knows]
@[go_sem] theorem tt_61:(∀ v:AV,afieldAddr (tt 24) 0 v=amove 0 v):=by intros;rfl
@[go_sem] theorem tt_62:(∀ cs:List AV,afield (tt 24) 0 (.agg cs)=apart false 1 0 cs):=by intros;rfl
@[go_sem] theorem tt_63:(∀ v:AV,afieldAddr (tt 24) 1 v=amove 1 v):=by intros;rfl
@[go_sem] theorem tt_64:(∀ cs:List AV,afield (tt 24) 1 (.agg cs)=apart false 1 1 cs):=by intros;rfl
@[go_sem] theorem tt_65:(∀ v:AV,afieldAddr (tt 24) 2 v=amove 2 v):=by intros;rfl
@[go_sem] theorem tt_66:(∀ cs:List AV,afield (tt 24) 2 (.agg cs)=apart false 1 2 cs):=by intros;rfl
@[go_sem] theorem tt_67:(∀ v:AV,afieldAddr (tt 24) 3 v=amove 3 v):=by intros;rfl
@[go_sem] theorem tt_68:(∀ cs:List AV,afield (tt 24) 3 (.agg cs)=apart false 1 3 cs):=by intros;rfl
@[go_sem] theorem tt_69:(∀ v:AV,afieldAddr (tt 24) 4 v=amove 4 v):=by intros;rfl
@[go_sem] theorem tt_70:(∀ cs:List AV,afield (tt 24) 4 (.agg cs)=apart false 1 4 cs):=by intros;rfl
@[go_sem] theorem tt_71:(∀ v:AV,afieldAddr (tt 24) 5 v=amove 5 v):=by intros;rfl
@[go_sem] theorem tt_72:(∀ cs:List AV,afield (tt 24) 5 (.agg cs)=apart false 1 5 cs):=by intros;rfl
@[go_sem] theorem tt_73:(∀ v:AV,afieldAddr (tt 24) 6 v=amove 6 v):=by intros;rfl
@[go_sem] theorem tt_74:(∀ cs:List AV,afield (tt 24) 6 (.agg cs)=apart false 1 6 cs):=by intros;rfl
@[go_sem] theorem tt_75:(∀ v:AV,afieldAddr (tt 24) 7 v=amove 7 v):=by intros;rfl
@[go_sem] theorem tt_76:(∀ cs:List AV,afield (tt 24) 7 (.agg cs)=apart false 1 7 cs):=by intros;rfl
@[go_sem] theorem tt_77:(∀ v:AV,afieldAddr (tt 24) 8 v=amove 8 v):=by intros;rfl
@[go_sem] theorem tt_78:(∀ cs:List AV,afield (tt 24) 8 (.agg cs)=apart false 1 8 cs):=by intros;rfl
@[go_sem] theorem tt_79:(∀ ps:List (Nat × AV),abuild tt 24 ps=(afill (fun i=>([(0,1),(1,1),(2,1),(3,1),(4,1),(5,1),(6,1),(7,1),(8,1)]:List (Nat × Nat))[i]?) [.int .i64 0,.int .i64 0,.int .i64 0,.int .i64 0,.int .i64 0,.int .i64 0,.int .i64 0,.int .i64 0,.nils] ps).map .agg):=fun ps=>by show Option.map _ (afill _ _ _)=_;congr 2;funext i;rw [← List.getElem?_map];rfl
@[go_sem] theorem tt_80:(∀ (s:AS) (p v:AV),aput (tt 24) s p v=aputz 9 s p v):=fun s p v=>aput_z rfl rfl s p v
@[go_sem] theorem tt_81:(∀ (s:AS) (p:AV),aload (tt 25) s p=(s.row p).bind fun r=>apart false 1 r.2 r.1):=by intro s p;unfold aload;cases s.row p <;> rfl
@[go_sem] theorem tt_82:(∀ ev:Operand→AV,arows tt ev (.alloc 25)=some (1,[[.nils]],25)):=by intros;rfl
@[go_sem] theorem tt_83:(∀ (ev:Operand→AV) (x:Operand),arows tt ev (.box 25 x)=if noL (ev x)=true∧(ev x).cells.length=1∧(ev x).cells.all AV.cell=true then some (1,[(ev x).cells],25) else none):=by intro ev x;simp [arows,tt,TI.knows]
@[go_sem] theorem tt_84:(∀ (es:List (List AV)) (k:IntKind) (i:Int),aidx tt 25 (.lst 1 es) (.int k i)=if 0≤i∧i < es.length then some (.iptr (es.getD i.toNat []) 0) else none):=by intros;rfl
@[go_sem] theorem tt_85:(∀ (b:Bid) (o n:Nat) (k:IntKind) (i:Int),aidx tt 25 (.slc b 1 o n) (.int k i)=if 0≤i∧i < n then some (.ptr b (o+i.toNat) 0) else none):=by intros;rfl
@[go_sem] theorem tt_86:(∀ (b:Bid) (e o n:Nat),alen (tt 25) (.slc b e o n)=some (n:Int)):=by intros;rfl
@[go_sem] theorem tt_87:(∀ (e:Nat) (es:List (List AV)),alen (tt 25) (.lst e es)=some (es.length:Int)):=by intros;rfl
@[go_sem] theorem tt_88:(alen (tt 25) .nils=some 0):=by intros;rfl
@[go_sem] theorem tt_89:(∀ c:Bool,abin (tt 25) .eql c .nils .nils=some (.bool true)):=by intros;rfl
@[go_sem] theorem tt_90:(∀ (c:Bool) (b:Bid) (e i n:Nat),abin (tt 25) .eql c (.slc b e i n) .nils=some (.bool false)):=by intros;rfl
@[go_sem] theorem tt_91:(∀ (c:Bool) (e:Nat) (r:List AV) (es:List (List AV)),abin (tt 25) .eql c (.lst e (r :: es)) .nils=some (.bool false)):=by intros;rfl
@[go_sem] theorem tt_92:(∀ c:Bool,abin (tt 25) .neq c .nils .nils=some (.bool false)):=by intros;rfl
@[go_sem] theorem tt_93:(∀ (c:Bool) (b:Bid) (e i n:Nat),abin (tt 25) .neq c (.slc b e i n) .nils=some (.bool true)):=by intros;rfl
@[go_sem] theorem tt_94:(∀ (c:Bool) (e:Nat) (r:List AV) (es:List (List AV)),abin (tt 25) .neq c (.lst e (r :: es)) .nils=some (.bool true)):=by intros;rfl
@[go_sem] theorem tt_95:(elsize tt 25=1):=by intros;rfl
@[go_sem] theorem tt_96:(∀ (ev:Operand→AV) (n:Nat) (ps:List (Nat × Operand)),absl tt ev 25 n ps=if n≤16777216∧n * 1≤16777216∧ps.map (·.1)=List.range n∧(ps.all fun p=>noL (ev p.2) && ((ev p.2).cells.length == 1) && (ev p.2).cells.all AV.cell)=true then some (1,ps.map fun p=>(ev p.2).cells) else none):=by intros;rfl
@[go_sem] theorem tt_97:(∀ (k k':IntKind) (l c:Int),amake tt 25 (.int k l) (.int k' c)=if 0≤l∧l≤c∧c * 8≤70368744177664∧c≤70368744177664 then some (1,List.replicate l.toNat [.int .i64 0],l.toNat) else none):=by intros;rfl
@[go_sem] theorem tt_98:(∀ (h:AH) (x y:AV),acopy tt h 25 x y=acopyz 1 h x y):=fun h x y=>by unfold acopy acopyz;rfl
@[go_sem] theorem tt_99:(∀ (ez b1 o n:Nat) (b:Bid) (lo hi:Option AV),asl (tt 25) ez lo hi (.slc b b1 o n)=aslz n lo hi fun l h=>if b1=ez then some (.slc b b1 (o+l) (h - l)) else none):=fun ez b1 o n b lo hi=>asl_slc rfl ez lo hi b b1 o n
@[go_sem] theorem tt_100:(∀ (ez e:Nat) (es:List (List AV)) (lo hi:Option AV),asl (tt 25) ez lo hi (.lst e es)=aslz es.length lo hi fun l h=>if e=ez then some (.lst e ((es.drop l).take (h - l))) else none):=fun ez e es lo hi=>asl_lst rfl ez lo hi e es
@[go_sem] theorem tt_101:(∀ (h:AH) (id:Bid) (x y:AV),aapp tt h 25 id x y=aappz 1 8 h id x y):=fun h id x y=>by unfold aapp aappz;rfl
@[go_sem] theorem tt_102:(∀ (s:AS) (p v:AV),aput (tt 25) s p v=aputz 1 s p v):=fun s p v=>aput_z rfl rfl s p v
@[go_sem] theorem tt_103:(∀ (s:AS) (p:AV),aload (tt 30) s p=(s.row p).bind fun r=>apart false 1 r.2 r.1):=by intro s p;unfold aload;cases s.row p <;> rfl
@[go_sem] theorem tt_104:(∀ ev:Operand→AV,arows tt ev (.alloc 30)=some (1,[[.nils]],30)):=by intros;rfl
@[go_sem] theorem tt_105:(∀ (ev:Operand→AV) (x:Operand),arows tt ev (.box 30 x)=if noL (ev x)=true∧(ev x).cells.length=1∧(ev x).cells.all AV.cell=true then some (1,[(ev x).cells],30) else none):=by intro ev x;simp [arows,tt,TI.knows]
@[go_sem] theorem tt_106:(∀ (es:List (List AV)) (k:IntKind) (i:Int),aidx tt 30 (.lst 9 es) (.int k i)=if 0≤i∧i < es.length then some (.iptr (es.getD i.toNat []) 0) else none):=by intros;rfl
@[go_sem] theorem tt_107:(∀ (b:Bid) (o n:Nat) (k:IntKind) (i:Int),aidx tt 30 (.slc b 9 o n) (.int k i)=if 0≤i∧i < n then some (.ptr b (o+i.toNat) 0) else none):=by intros;rfl
@[go_sem] theorem tt_108:(∀ (b:Bid) (e o n:Nat),alen (tt 30) (.slc b e o n)=some (n:Int)):=by intros;rfl
@[go_sem] theorem tt_109:(∀ (e:Nat) (es:List (List AV)),alen (tt 30) (.lst e es)=some (es.length:Int)):=by intros;rfl
@[go_sem] theorem tt_110:(alen (tt 30) .nils=some 0):=by intros;rfl
@[go_sem] theorem tt_111:(∀ c:Bool,abin (tt 30) .eql c .nils .nils=some (.bool true)):=by intros;rfl
@[go_sem] theorem tt_112:(∀ (c:Bool) (b:Bid) (e i n:Nat),abin (tt 30) .eql c (.slc b e i n) .nils=some (.bool false)):=by intros;rfl
@[go_sem] theorem tt_113:(∀ (c:Bool) (e:Nat) (r:List AV) (es:List (List AV)),abin (tt 30) .eql c (.lst e (r :: es)) .nils=some (.bool false)):=by intros;rfl
@[go_sem] theorem tt_114:(∀ c:Bool,abin (tt 30) .neq c .nils .nils=some (.bool false)):=by intros;rfl
@[go_sem] theorem tt_115:(∀ (c:Bool) (b:Bid) (e i n:Nat),abin (tt 30) .neq c (.slc b e i n) .nils=some (.bool true)):=by intros;rfl
@[go_sem] theorem tt_116:(∀ (c:Bool) (e:Nat) (r:List AV) (es:List (List AV)),abin (tt 30) .neq c (.lst e (r :: es)) .nils=some (.bool true)):=by intros;rfl
@[go_sem] theorem tt_117:(elsize tt 30=9):=by intros;rfl
@[go_sem] theorem tt_118:(∀ (ev:Operand→AV) (n:Nat) (ps:List (Nat × Operand)),absl tt ev 30 n ps=if n≤16777216∧n * 9≤16777216∧ps.map (·.1)=List.range n∧(ps.all fun p=>noL (ev p.2) && ((ev p.2).cells.length == 9) && (ev p.2).cells.all AV.cell)=true then some (9,ps.map fun p=>(ev p.2).cells) else none):=by intros;rfl
@[go_sem] theorem tt_119:(∀ (k k':IntKind) (l c:Int),amake tt 30 (.int k l) (.int k' c)=if 0≤l∧l≤c∧c * 88≤70368744177664∧c≤70368744177664 then some (9,List.replicate l.toNat [.int .i64 0,.int .i64 0,.int .i64 0,.int .i64 0,.int .i64 0,.int .i64 0,.int .i64 0,.int .i64 0,.nils],l.toNat) else none):=by intros;rfl
@[go_sem] theorem tt_120:(∀ (h:AH) (x y:AV),acopy tt h 30 x y=acopyz 9 h x y):=fun h x y=>by unfold acopy acopyz;rfl
@[go_sem] theorem tt_121:(∀ (ez b1 o n:Nat) (b:Bid) (lo hi:Option AV),asl (tt 30) ez lo hi (.slc b b1 o n)=aslz n lo hi fun l h=>if b1=ez then some (.slc b b1 (o+l) (h - l)) else none):=fun ez b1 o n b lo hi=>asl_slc rfl ez lo hi b b1 o n
@[go_sem] theorem tt_122:(∀ (ez e:Nat) (es:List (List AV)) (lo hi:Option AV),asl (tt 30) ez lo hi (.lst e es)=aslz es.length lo hi fun l h=>if e=ez then some (.lst e ((es.drop l).take (h - l))) else none):=fun ez e es lo hi=>asl_lst rfl ez lo hi e es
@[go_sem] theorem tt_123:(∀ (h:AH) (id:Bid) (x y:AV),aapp tt h 30 id x y=aappz 9 88 h id x y):=fun h id x y=>by unfold aapp aappz;rfl
@[go_sem] theorem tt_124:(∀ (s:AS) (p v:AV),aput (tt 30) s p v=aputz 1 s p v):=fun s p v=>aput_z rfl rfl s p v
@[go_sem] theorem tt_125:(∀ (s:AS) (p:AV),aload (tt 31) s p=(s.row p).bind fun r=>apart false 1 r.2 r.1):=by intro s p;unfold aload;cases s.row p <;> rfl
@[go_sem] theorem tt_126:(∀ ev:Operand→AV,arows tt ev (.alloc 31)=some (1,[[.nils]],31)):=by intros;rfl
@[go_sem] theorem tt_127:(∀ (ev:Operand→AV) (x:Operand),arows tt ev (.box 31 x)=if noL (ev x)=true∧(ev x).cells.length=1∧(ev x).cells.all AV.cell=true then some (1,[(ev x).cells],31) else none):=by intro ev x;simp [arows,tt,TI.knows]
@[go_sem] theorem tt_128:(∀ (es:List (List AV)) (k:IntKind) (i:Int),aidx tt 31 (.lst 1 es) (.int k i)=if 0≤i∧i < es.length then some (.iptr (es.getD i.toNat []) 0) else none):=by intros;rfl
@[go_sem] theorem tt_129:(∀ (b:Bid) (o n:Nat) (k:IntKind) (i:Int),aidx tt 31 (.slc b 1 o n) (.int k i)=if 0≤i∧i < n then some (.ptr b (o+i.toNat) 0) else none):=by intros;rfl
@[go_sem] theorem tt_130:(∀ (b:Bid) (e o n:Nat),alen (tt 31) (.slc b e o n)=some (n:Int)):=by intros;rfl
@[go_sem] theorem tt_131:(∀ (e:Nat) (es:List (List AV)),alen (tt 31) (.lst e es)=some (es.length:Int)):=by intros;rfl
@[go_sem] theorem tt_132:(alen (tt 31) .nils=some 0):=by intros;rfl
@[go_sem] theorem tt_133:(∀ c:Bool,abin (tt 31) .eql c .nils .nils=some (.bool true)):=by intros;rfl
@[go_sem] theorem tt_134:(∀ (c:Bool) (b:Bid) (e i n:Nat),abin (tt 31) .eql c (.slc b e i n) .nils=some (.bool false)):=by intros;rfl
@[go_sem] theorem tt_135:(∀ (c:Bool) (e:Nat) (r:List AV) (es:List (List AV)),abin (tt 31) .eql c (.lst e (r :: es)) .nils=some (.bool false)):=by intros;rfl
@[go_sem] theorem tt_136:(∀ c:Bool,abin (tt 31) .neq c .nils .nils=some (.bool false)):=by intros;rfl
@[go_sem] theorem tt_137:(∀ (c:Bool) (b:Bid) (e i n:Nat),abin (tt 31) .neq c (.slc b e i n) .nils=some (.bool true)):=by intros;rfl
@[go_sem] theorem tt_138:(∀ (c:Bool) (e:Nat) (r:List AV) (es:List (List AV)),abin (tt 31) .neq c (.lst e (r :: es)) .nils=some (.bool true)):=by intros;rfl
@[go_sem] theorem tt_139:(elsize tt 31=1):=by intros;rfl
@[go_sem] theorem tt_140:(∀ (ev:Operand→AV) (n:Nat) (ps:List (Nat × Operand)),absl tt ev 31 n ps=if n≤16777216∧n * 1≤16777216∧ps.map (·.1)=List.range n∧(ps.all fun p=>noL (ev p.2) && ((ev p.2).cells.length == 1) && (ev p.2).cells.all AV.cell)=true then some (1,ps.map fun p=>(ev p.2).cells) else none):=by intros;rfl
@[go_sem] theorem tt_141:(∀ (k k':IntKind) (l c:Int),amake tt 31 (.int k l) (.int k' c)=if 0≤l∧l≤c∧c * 16≤70368744177664∧c≤70368744177664 then some (1,List.replicate l.toNat [.str []],l.toNat) else none):=by intros;rfl
@[go_sem] theorem tt_142:(∀ (h:AH) (x y:AV),acopy tt h 31 x y=acopyz 1 h x y):=fun h x y=>by unfold acopy acopyz;rfl
@[go_sem] theorem tt_143:(∀ (ez b1 o n:Nat) (b:Bid) (lo hi:Option AV),asl (tt 31) ez lo hi (.slc b b1 o n)=aslz n lo hi fun l h=>if b1=ez then some (.slc b b1 (o+l) (h - l)) else none):=fun ez b1 o n b lo hi=>asl_slc rfl ez lo hi b b1 o n
@[go_sem] theorem tt_144:(∀ (ez e:Nat) (es:List (List AV)) (lo hi:Option AV),asl (tt 31) ez lo hi (.lst e es)=aslz es.length lo hi fun l h=>if e=ez then some (.lst e ((es.drop l).take (h - l))) else none):=fun ez e es lo hi=>asl_lst rfl ez lo hi e es
@[go_sem] theorem tt_145:(∀ (h:AH) (id:Bid) (x y:AV),aapp tt h 31 id x y=aappz 1 16 h id x y):=fun h id x y=>by unfold aapp aappz;rfl
@[go_sem] theorem tt_146:(∀ (s:AS) (p v:AV),aput (tt 31) s p v=aputz 1 s p v):=fun s p v=>aput_z rfl rfl s p v
@[go_sem] theorem tt_147:(∀ (s:AS) (p:AV),aload (tt 32) s p=(s.row p).bind fun r=>apart false 1 r.2 r.1):=by intro s p;unfold aload;cases s.row p <;> rfl
@[go_sem] theorem tt_148:(∀ ev:Operand→AV,arows tt ev (.alloc 32)=some (1,[[.int .i64 0]],32)):=by intros;rfl
@[go_sem] theorem tt_149:(∀ (ev:Operand→AV) (x:Operand),arows tt ev (.box 32 x)=if noL (ev x)=true∧(ev x).cells.length=1∧(ev x).cells.all AV.cell=true then some (1,[(ev x).cells],32) else none):=by intro ev x;simp [arows,tt,TI.knows]
@[go_sem] theorem tt_150:(∀ (s:AS) (p v:AV),aput (tt 32) s p v=aputz 1 s p v):=fun s p v=>aput_z rfl rfl s p v
@[go_sem] theorem tt_151:(∀ (s:AS) (p:AV),aload (tt 42) s p=(s.row p).bind fun r=>apart true 2 r.2 r.1):=by intro s p;unfold aload;cases s.row p <;> rfl
@[go_sem] theorem tt_152:(∀ ev:Operand→AV,arows tt ev (.alloc 42)=some (2,[[.int .i64 0,.int .i64 0]],42)):=by intros;rfl
@[go_sem] theorem tt_153:(∀ (ev:Operand→AV) (x:Operand),arows tt ev (.box 42 x)=if noL (ev x)=true∧(ev x).cells.length=2∧(ev x).cells.all AV.cell=true then some (2,[(ev x).cells],42) else none):=by intro ev x;simp [arows,tt,TI.knows]
@[go_sem] theorem tt_154:(∀ v:AV,afieldAddr (tt 42) 0 v=amove 0 v):=by intros;rfl
@[go_sem] theorem tt_155:(∀ cs:List AV,afield (tt 42) 0 (.agg cs)=apart false 1 0 cs):=by intros;rfl
@[go_sem] theorem tt_156:(∀ v:AV,afieldAddr (tt 42) 1 v=amove 1 v):=by intros;rfl
@[go_sem] theorem tt_157:(∀ cs:List AV,afield (tt 42) 1 (.agg cs)=apart false 1 1 cs):=by intros;rfl
@[go_sem] theorem tt_158:(∀ ps:List (Nat × AV),abuild tt 42 ps=(afill (fun i=>([(0,1),(1,1)]:List (Nat × Nat))[i]?) [.int .i64 0,.int .i64 0] ps).map .agg):=fun ps=>by show Option.map _ (afill _ _ _)=_;congr 2;funext i;rw [← List.getElem?_map];rfl
@[go_sem] theorem tt_159:(∀ (c:Bool) (x y:List AV),abin (tt 42) .eql c (.agg x) (.agg y)=aeql 2 (fun b=>b) (ints x) (ints y)):=fun c x y=>by cases hx:ints x <;> cases hy:ints y <;> simp [tt,abin,abinB,aeql,hx,hy]
@[go_sem] theorem tt_160:(∀ (c:Bool) (x y:List AV),abin (tt 42) .neq c (.agg x) (.agg y)=aeql 2 (fun b=>!b) (ints x) (ints y)):=fun c x y=>by cases hx:ints x <;> cases hy:ints y <;> simp [tt,abin,abinB,aeql,hx,hy]
@[go_sem] theorem tt_161:(∀ (s:AS) (p v:AV),aput (tt 42) s p v=aputz 2 s p v):=fun s p v=>aput_z rfl rfl s p v
@[go_sem] theorem tt_162:(∀ (s:AS) (p:AV),aload (tt 49) s p=(s.row p).bind fun r=>apart true 3 r.2 r.1):=by intro s p;unfold aload;cases s.row p <;> rfl
@[go_sem] theorem tt_163:(∀ ev:Operand→AV,arows tt ev (.alloc 49)=some (3,[[.int .i64 0,.int .i64 0,.int .i64 0]],49)):=by intros;rfl
@[go_sem] theorem tt_164:(∀ (ev:Operand→AV) (x:Operand),arows tt ev (.box 49 x)=if noL (ev x)=true∧(ev x).cells.length=3∧(ev x).cells.all AV.cell=true then some (3,[(ev x).cells],49) else none):=by intro ev x;simp [arows,tt,TI.knows]
@[go_sem] theorem tt_165:(∀ v:AV,afieldAddr (tt 49) 0 v=amove 0 v):=by intros;rfl
@[go_sem] theorem tt_166:(∀ cs:List AV,afield (tt 49) 0 (.agg cs)=apart false 1 0 cs):=by intros;rfl
@[go_sem] theorem tt_167:(∀ v:AV,afieldAddr (tt 49) 1 v=amove 1 v):=by intros;rfl
@[go_sem] theorem tt_168:(∀ cs:List AV,afield (tt 49) 1 (.agg cs)=apart false 1 1 cs):=by intros;rfl
@[go_sem] theorem tt_169:(∀ v:AV,afieldAddr (tt 49) 2 v=amove 2 v):=by intros;rfl
@[go_sem] theorem tt_170:(∀ cs:List AV,afield (tt 49) 2 (.agg cs)=apart false 1 2 cs):=by intros;rfl
@[go_sem] theorem tt_171:(∀ ps:List (Nat × AV),abuild tt 49 ps=(afill (fun i=>([(0,1),(1,1),(2,1)]:List (Nat × Nat))[i]?) [.int .i64 0,.int .i64 0,.int .i64 0] ps).map .agg):=fun ps=>by show Option.map _ (afill _ _ _)=_;congr 2;funext i;rw [← List.getElem?_map];rfl
@[go_sem] theorem tt_172:(∀ (s:AS) (p v:AV),aput (tt 49) s p v=aputz 3 s p v):=fun s p v=>aput_z rfl rfl s p v
@[go_sem] theorem tt_173:(∀ (s:AS) (p:AV),aload (tt 51) s p=(s.row p).bind fun r=>apart false 1 r.2 r.1):=by intro s p;unfold aload;cases s.row p <;> rfl
@[go_sem] theorem tt_174:(∀ ev:Operand→AV,arows tt ev (.alloc 51)=some (1,[[.nils]],51)):=by intros;rfl
@[go_sem] theorem tt_175:(∀ (ev:Operand→AV) (x:Operand),arows tt ev (.box 51 x)=if noL (ev x)=true∧(ev x).cells.length=1∧(ev x).cells.all AV.cell=true then some (1,[(ev x).cells],51) else none):=by intro ev x;simp [arows,tt,TI.knows]
@[go_sem] theorem tt_176:(∀ (es:List (List AV)) (k:IntKind) (i:Int),aidx tt 51 (.lst 3 es) (.int k i)=if 0≤i∧i < es.length then some (.iptr (es.getD i.toNat []) 0) else none):=by intros;rfl
@[go_sem] theorem tt_177:(∀ (b:Bid) (o n:Nat) (k:IntKind) (i:Int),aidx tt 51 (.slc b 3 o n) (.int k i)=if 0≤i∧i < n then some (.ptr b (o+i.toNat) 0) else none):=by intros;rfl
@[go_sem] theorem tt_178:(∀ (b:Bid) (e o n:Nat),alen (tt 51) (.slc b e o n)=some (n:Int)):=by intros;rfl
@[go_sem] theorem tt_179:(∀ (e:Nat) (es:List (List AV)),alen (tt 51) (.lst e es)=some (es.length:Int)):=by intros;rfl
@[go_sem] theorem tt_180:(alen (tt 51) .nils=some 0):=by intros;rfl
@[go_sem] theorem tt_181:(∀ c:Bool,abin (tt 51) .eql c .nils .nils=some (.bool true)):=by intros;rfl
@[go_sem] theorem tt_182:(∀ (c:Bool) (b:Bid) (e i n:Nat),abin (tt 51) .eql c (.slc b e i n) .nils=some (.bool false)):=by intros;rfl
@[go_sem] theorem tt_183:(∀ (c:Bool) (e:Nat) (r:List AV) (es:List (List AV)),abin (tt 51) .eql c (.lst e (r :: es)) .nils=some (.bool false)):=by intros;rfl
@[go_sem] theorem tt_184:(∀ c:Bool,abin (tt 51) .neq c .nils .nils=some (.bool false)):=by intros;rfl
@[go_sem] theorem tt_185:(∀ (c:Bool) (b:Bid) (e i n:Nat),abin (tt 51) .neq c (.slc b e i n) .nils=some (.bool true)):=by intros;rfl
@[go_sem] theorem tt_186:(∀ (c:Bool) (e:Nat) (r:List AV) (es:List (List AV)),abin (tt 51) .neq c (.lst e (r :: es)) .nils=some (.bool true)):=by intros;rfl
@[go_sem] theorem tt_187:(elsize tt 51=3):=by intros;rfl
@[go_sem] theorem tt_188:(∀ (ev:Operand→AV) (n:Nat) (ps:List (Nat × Operand)),absl tt ev 51 n ps=if n≤16777216∧n * 3≤16777216∧ps.map (·.1)=List.range n∧(ps.all fun p=>noL (ev p.2) && ((ev p.2).cells.length == 3) && (ev p.2).cells.all AV.cell)=true then some (3,ps.map fun p=>(ev p.2).cells) else none):=by intros;rfl
@[go_sem] theorem tt_189:(∀ (k k':IntKind) (l c:Int),amake tt 51 (.int k l) (.int k' c)=if 0≤l∧l≤c∧c * 24≤70368744177664∧c≤70368744177664 then some (3,List.replicate l.toNat [.int .i64 0,.int .i64 0,.int .i64 0],l.toNat) else none):=by intros;rfl
@[go_sem] theorem tt_190:(∀ (h:AH) (x y:AV),acopy tt h 51 x y=acopyz 3 h x y):=fun h x y=>by unfold acopy acopyz;rfl
@[go_sem] theorem tt_191:(∀ (ez b1 o n:Nat) (b:Bid) (lo hi:Option AV),asl (tt 51) ez lo hi (.slc b b1 o n)=aslz n lo hi fun l h=>if b1=ez then some (.slc b b1 (o+l) (h - l)) else none):=fun ez b1 o n b lo hi=>asl_slc rfl ez lo hi b b1 o n
@[go_sem] theorem tt_192:(∀ (ez e:Nat) (es:List (List AV)) (lo hi:Option AV),asl (tt 51) ez lo hi (.lst e es)=aslz es.length lo hi fun l h=>if e=ez then some (.lst e ((es.drop l).take (h - l))) else none):=fun ez e es lo hi=>asl_lst rfl ez lo hi e es
@[go_sem] theorem tt_193:(∀ (h:AH) (id:Bid) (x y:AV),aapp tt h 51 id x y=aappz 3 24 h id x y):=fun h id x y=>by unfold aapp aappz;rfl
@[go_sem] theorem tt_194:(∀ (s:AS) (p v:AV),aput (tt 51) s p v=aputz 1 s p v):=fun s p v=>aput_z rfl rfl s p v
@[go_sem] theorem tt_195:(∀ (s:AS) (p:AV),aload (tt 61) s p=(s.row p).bind fun r=>apart true 7 r.2 r.1):=by intro s p;unfold aload;cases s.row p <;> rfl
@[go_sem] theorem tt_196:(∀ ev:Operand→AV,arows tt ev (.alloc 61)=some (7,[[.int .i64 0,.int .i64 0,.int .i64 0,.int .i64 0,.int .i64 0,.int .i64 0,.int .i64 0]],61)):=by intros;rfl
@[go_sem] theorem tt_197:(∀ (ev:Operand→AV) (x:Operand),arows tt ev (.box 61 x)=if noL (ev x)=true∧(ev x).cells.length=7∧(ev x).cells.all AV.cell=true then some (7,[(ev x).cells],61) else none):=by intro ev x;simp [arows,tt,TI.knows]
@[go_sem] theorem tt_198:(∀ v:AV,afieldAddr (tt 61) 0 v=amove 0 v):=by intros;rfl
@[go_sem] theorem tt_199:(∀ cs:List AV,afield (tt 61) 0 (.agg cs)=apart false 1 0 cs):=by intros;rfl
@[go_sem] theorem tt_200:(∀ v:AV,afieldAddr (tt 61) 1 v=amove 1 v):=by intros;rfl
@[go_sem] theorem tt_201:(∀ cs:List AV,afield (tt 61) 1 (.agg cs)=apart true 2 1 cs):=by intros;rfl
@[go_sem] theorem tt_202:(∀ v:AV,afieldAddr (tt 61) 2 v=amove 3 v):=by intros;rfl
@[go_sem] theorem tt_203:(∀ cs:List AV,afield (tt 61) 2 (.agg cs)=apart true 2 3 cs):=by intros;rfl
@[go_sem] theorem tt_204:(∀ v:AV,afieldAddr (tt 61) 3 v=amove 5 v):=by intros;rfl
@[go_sem] theorem tt_205:(∀ cs:List AV,afield (tt 61) 3 (.agg cs)=apart false 1 5 cs):=by intros;rfl
@[go_sem] theorem tt_206:(∀ v:AV,afieldAddr (tt 61) 4 v=amove 6 v):=by intros;rfl
@[go_sem] theorem tt_207:(∀ cs:List AV,afield (tt 61) 4 (.agg cs)=apart false 1 6 cs):=by intros;rfl
@[go_sem] theorem tt_208:(∀ ps:List (Nat × AV),abuild tt 61 ps=(afill (fun i=>([(0,1),(1,2),(3,2),(5,1),(6,1)]:List (Nat × Nat))[i]?) [.int .i64 0,.int .i64 0,.int .i64 0,.int .i64 0,.int .i64 0,.int .i64 0,.int .i64 0] ps).map .agg):=fun ps=>by show Option.map _ (afill _ _ _)=_;congr 2;funext i;rw [← List.getElem?_map];rfl
@[go_sem] theorem tt_209:(∀ (c:Bool) (x y:List AV),abin (tt 61) .eql c (.agg x) (.agg y)=aeql 7 (fun b=>b) (ints x) (ints y)):=fun c x y=>by cases hx:ints x <;> cases hy:ints y <;> simp [tt,abin,abinB,aeql,hx,hy]
@[go_sem] theorem tt_210:(∀ (c:Bool) (x y:List AV),abin (tt 61) .neq c (.agg x) (.agg y)=aeql 7 (fun b=>!b) (ints x) (ints y)):=fun c x y=>by cases hx:ints x <;> cases hy:ints y <;> simp [tt,abin,abinB,aeql,hx,hy]
@[go_sem] theorem tt_211:(∀ (s:AS) (p v:AV),aput (tt 61) s p v=aputz 7 s p v):=fun s p v=>aput_z rfl rfl s p v
@[go_sem] theorem tt_212:(∀ (s:AS) (p:AV),aload (tt 62) s p=(s.row p).bind fun r=>apart false 1 r.2 r.1):=by intro s p;unfold aload;cases s.row p <;> rfl
@[go_sem] theorem tt_213:(∀ ev:Operand→AV,arows tt ev (.alloc 62)=some (1,[[.int .u64 0]],62)):=by intros;rfl
@[go_sem] theorem tt_214:(∀ (ev:Operand→AV) (x:Operand),arows tt ev (.box 62 x)=if noL (ev x)=true∧(ev x).cells.length=1∧(ev x).cells.all AV.cell=true then some (1,[(ev x).cells],62) else none):=by intro ev x;simp [arows,tt,TI.knows]
@[go_sem] theorem tt_215:(∀ (k:IntKind) (n:Int),aconv (tt 62) (tt 2) (.int k n)=some (.int .i64 (wr .i64 n))):=by intros;rfl
@[go_sem] theorem tt_216:(∀ (k:IntKind) (n:Int),aconv (tt 62) (tt 3) (.int k n)=some (.int .i64 (wr .i64 n))):=by intros;rfl
@[go_sem] theorem tt_217:(∀ (k:IntKind) (n:Int),aconv (tt 62) (tt 5) (.int k n)=some (.int .u8 (wr .u8 n))):=by intros;rfl
@[go_sem] theorem tt_218:(∀ (k:IntKind) (n:Int),aconv (tt 62) (tt 139) (.int k n)=some (.int .u32 (wr .u32 n))):=by intros;rfl
@[go_sem] theorem tt_219:(∀ (s:AS) (p v:AV),aput (tt 62) s p v=aputz 1 s p v):=fun s p v=>aput_z rfl rfl s p v
@[go_sem] theorem tt_220:(∀ (s:AS) (p:AV),aload (tt 64) s p=(s.row p).bind fun r=>apart true 1 r.2 r.1):=by intro s p;unfold aload;cases s.row p <;> rfl
@[go_sem] theorem tt_221:(∀ ev:Operand→AV,arows tt ev (.alloc 64)=some (1,[[.int .u64 0]],64)):=by intros;rfl
@[go_sem] theorem tt_222:(∀ (ev:Operand→AV) (x:Operand),arows tt ev (.box 64 x)=if noL (ev x)=true∧(ev x).cells.length=1∧(ev x).cells.all AV.cell=true then some (1,[(ev x).cells],64) else none):=by intro ev x;simp [arows,tt,TI.knows]
@[go_sem] theorem tt_223:(∀ v:AV,afieldAddr (tt 64) 0 v=amove 0 v):=by intros;rfl
@[go_sem] theorem tt_224:(∀ cs:List AV,afield (tt 64) 0 (.agg cs)=apart false 1 0 cs):=by intros;rfl
@[go_sem] theorem tt_225:(∀ ps:List (Nat × AV),abuild tt 64 ps=(afill (fun i=>([(0,1)]:List (Nat × Nat))[i]?) [.int .u64 0] ps).map .agg):=fun ps=>by show Option.map _ (afill _ _ _)=_;congr 2;funext i;rw [← List.getElem?_map];rfl
@[go_sem] theorem tt_226:(∀ (s:AS) (p v:AV),aput (tt 64) s p v=aputz 1 s p v):=fun s p v=>aput_z rfl rfl s p v
@[go_sem] theorem tt_227:(∀ (s:AS) (p:AV),aload (tt 67) s p=(s.row p).bind fun r=>apart false 1 r.2 r.1):=by intro s p;unfold aload;cases s.row p <;> rfl
@[go_sem] theorem tt_228:(∀ ev:Operand→AV,arows tt ev (.alloc 67)=some (1,[[.nilp]],67)):=by intros;rfl
@[go_sem] theorem tt_229:(∀ (ev:Operand→AV) (x:Operand),arows tt ev (.box 67 x)=if noL (ev x)=true∧(ev x).cells.length=1∧(ev x).cells.all AV.cell=true then some (1,[(ev x).cells],67) else none):=by intro ev x;simp [arows,tt,TI.knows]
@[go_sem] theorem tt_230:(∀ (s:AS) (p v:AV),aput (tt 67) s p v=aputz 1 s p v):=fun s p v=>aput_z rfl rfl s p v
@[go_sem] theorem tt_231:(∀ (s:AS) (p:AV),aload (tt 68) s p=(s.row p).bind fun r=>apart false 1 r.2 r.1):=by intro s p;unfold aload;cases s.row p <;> rfl
@[go_sem] theorem tt_232:(∀ ev:Operand→AV,arows tt ev (.alloc 68)=some (1,[[.nils]],68)):=by intros;rfl
@[go_sem] theorem tt_233:(∀ (ev:Operand→AV) (x:Operand),arows tt ev (.box 68 x)=if noL (ev x)=true∧(ev x).cells.length=1∧(ev x).cells.all AV.cell=true then some (1,[(ev x).cells],68) else none):=by intro ev x;simp [arows,tt,TI.knows]
@[go_sem] theorem tt_234:(∀ (es:List (List AV)) (k:IntKind) (i:Int),aidx tt 68 (.lst 1 es) (.int k i)=if 0≤i∧i < es.length then some (.iptr (es.getD i.toNat []) 0) else none):=by intros;rfl
@[go_sem] theorem tt_235:(∀ (b:Bid) (o n:Nat) (k:IntKind) (i:Int),aidx tt 68 (.slc b 1 o n) (.int k i)=if 0≤i∧i < n then some (.ptr b (o+i.toNat) 0) else none):=by intros;rfl
@[go_sem] theorem tt_236:(∀ (b:Bid) (e o n:Nat),alen (tt 68) (.slc b e o n)=some (n:Int)):=by intros;rfl
@[go_sem] theorem tt_237:(∀ (e:Nat) (es:List (List AV)),alen (tt 68) (.lst e es)=some (es.length:Int)):=by intros;rfl
@[go_sem] theorem tt_238:(alen (tt 68) .nils=some 0):=by intros;rfl
@[go_sem] theorem tt_239:(∀ c:Bool,abin (tt 68) .eql c .nils .nils=some (.bool true)):=by intros;rfl
@[go_sem] theorem tt_240:(∀ (c:Bool) (b:Bid) (e i n:Nat),abin (tt 68) .eql c (.slc b e i n) .nils=some (.bool false)):=by intros;rfl
@[go_sem] theorem tt_241:(∀ (c:Bool) (e:Nat) (r:List AV) (es:List (List AV)),abin (tt 68) .eql c (.lst e (r :: es)) .nils=some (.bool false)):=by intros;rfl
@[go_sem] theorem tt_242:(∀ c:Bool,abin (tt 68) .neq c .nils .nils=some (.bool false)):=by intros;rfl
@[go_sem] theorem tt_243:(∀ (c:Bool) (b:Bid) (e i n:Nat),abin (tt 68) .neq c (.slc b e i n) .nils=some (.bool true)):=by intros;rfl
@[go_sem] theorem tt_244:(∀ (c:Bool) (e:Nat) (r:List AV) (es:List (List AV)),abin (tt 68) .neq c (.lst e (r :: es)) .nils=some (.bool true)):=by intros;rfl
@[go_sem] theorem tt_245:(elsize tt 68=1):=by intros;rfl
@[go_sem] theorem tt_246:(∀ (ev:Operand→AV) (n:Nat) (ps:List (Nat × Operand)),absl tt ev 68 n ps=if n≤16777216∧n * 1≤16777216∧ps.map (·.1)=List.range n∧(ps.all fun p=>noL (ev p.2) && ((ev p.2).cells.length == 1) && (ev p.2).cells.all AV.cell)=true then some (1,ps.map fun p=>(ev p.2).cells) else none):=by intros;rfl
@[go_sem] theorem tt_247:(∀ (k k':IntKind) (l c:Int),amake tt 68 (.int k l) (.int k' c)=if 0≤l∧l≤c∧c * 1≤70368744177664∧c≤70368744177664 then some (1,List.replicate l.toNat [.int .u8 0],l.toNat) else none):=by intros;rfl
@[go_sem] theorem tt_248:(∀ (h:AH) (x y:AV),acopy tt h 68 x y=acopyz 1 h x y):=fun h x y=>by unfold acopy acopyz;rfl
@[go_sem] theorem tt_249:(∀ (ez b1 o n:Nat) (b:Bid) (lo hi:Option AV),asl (tt 68) ez lo hi (.slc b b1 o n)=aslz n lo hi fun l h=>if b1=ez then some (.slc b b1 (o+l) (h - l)) else none):=fun ez b1 o n b lo hi=>asl_slc rfl ez lo hi b b1 o n
@[go_sem] theorem tt_250:(∀ (ez e:Nat) (es:List (List AV)) (lo hi:Option AV),asl (tt 68) ez lo hi (.lst e es)=aslz es.length lo hi fun l h=>if e=ez then some (.lst e ((es.drop l).take (h - l))) else none):=fun ez e es lo hi=>asl_lst rfl ez lo hi e es
@[go_sem] theorem tt_251:(∀ (h:AH) (id:Bid) (x y:AV),aapp tt h 68 id x y=aappz 1 1 h id x y):=fun h id x y=>by unfold aapp aappz;rfl
@[go_sem] theorem tt_252:(∀ (s:AS) (p v:AV),aput (tt 68) s p v=aputz 1 s p v):=fun s p v=>aput_z rfl rfl s p v
@[go_sem] theorem tt_253:(∀ (s:AS) (p:AV),aload (tt 70) s p=(s.row p).bind fun r=>apart true 2 r.2 r.1):=by intro s p;unfold aload;cases s.row p <;> rfl
@[go_sem] theorem tt_254:(∀ ev:Operand→AV,arows tt ev (.alloc 70)=some (2,[[.nilp,.nils]],70)):=by intros;rfl
@[go_sem] theorem tt_255:(∀ (ev:Operand→AV) (x:Operand),arows tt ev (.box 70 x)=if noL (ev x)=true∧(ev x).cells.length=2∧(ev x).cells.all AV.cell=true then some (2,[(ev x).cells],70) else none):=by intro ev x;simp [arows,tt,TI.knows]
@[go_sem] theorem tt_256:(∀ v:AV,afieldAddr (tt 70) 0 v=amove 0 v):=by intros;rfl
@[go_sem] theorem tt_257:(∀ cs:List AV,afield (tt 70) 0 (.agg cs)=apart false 1 0 cs):=by intros;rfl
@[go_sem] theorem tt_258:(∀ v:AV,afieldAddr (tt 70) 1 v=amove 1 v):=by intros;rfl
@[go_sem] theorem tt_259:(∀ cs:List AV,afield (tt 70) 1 (.agg cs)=apart false 1 1 cs):=by intros;rfl
@[go_sem] theorem tt_260:(∀ ps:List (Nat × AV),abuild tt 70 ps=(afill (fun i=>([(0,1),(1,1)]:List (Nat × Nat))[i]?) [.nilp,.nils] ps).map .agg):=fun ps=>by show Option.map _ (afill _ _ _)=_;congr 2;funext i;rw [← List.getElem?_map];rfl
@[go_sem] theorem tt_261:(∀ (s:AS) (p v:AV),aput (tt 70) s p v=aputz 2 s p v):=fun s p v=>aput_z rfl rfl s p v
@[go_sem] theorem tt_262:(∀ (s:AS) (p:AV),aload (tt 72) s p=(s.row p).bind fun r=>apart false 1 r.2 r.1):=by intro s p;unfold aload;cases s.row p <;> rfl
@[go_sem] theorem tt_263:(∀ ev:Operand→AV,arows tt ev (.alloc 72)=some (1,[[.nilif]],72)):=by intros;rfl
@[go_sem] theorem tt_264:(∀ (ev:Operand→AV) (x:Operand),arows tt ev (.box 72 x)=if noL (ev x)=true∧(ev x).cells.length=1∧(ev x).cells.all AV.cell=true then some (1,[(ev x).cells],72) else none):=by intro ev x;simp [arows,tt,TI.knows]
@[go_sem] theorem tt_265:(abin (tt 72) .eql true .nilif .nilif=some (.bool true)):=by intros;rfl
@[go_sem] theorem tt_266:(∀ c:Bool,abin (tt 72) .eql c .ifc .nilif=some (.bool false)):=by intros;rfl
@[go_sem] theorem tt_267:(abin (tt 72) .neq true .nilif .nilif=some (.bool false)):=by intros;rfl
@[go_sem] theorem tt_268:(∀ c:Bool,abin (tt 72) .neq c .ifc .nilif=some (.bool true)):=by intros;rfl
@[go_sem] theorem tt_269:(∀ (s:AS) (p v:AV),aput (tt 72) s p v=aputz 1 s p v):=fun s p v=>aput_z rfl rfl s p v
@[go_sem] theorem tt_270:(∀ (s:AS) (p:AV),aload (tt 85) s p=(s.row p).bind fun r=>apart true 11 r.2 r.1):=by intro s p;unfold aload;cases s.row p <;> rfl
@[go_sem] theorem tt_271:(∀ ev:Operand→AV,arows tt ev (.alloc 85)=some (11,[[.int .i64 0,.int .i64 0,.int .i64 0,.int .i64 0,.int .i64 0,.int .i64 0,.int .i64 0,.int .i64 0,.nils,.int .i64 0,.int .i64 0]],85)):=by intros;rfl
@[go_sem] theorem tt_272:(∀ (ev:Operand→AV) (x:Operand),arows tt ev (.box 85 x)=if noL (ev x)=true∧(ev x).cells.length=11∧(ev x).cells.all AV.cell=true then some (11,[(ev x).cells],85) else none):=by intro ev x;simp [arows,tt,TI.knows]
@[go_sem] theorem tt_273:(∀ v:AV,afieldAddr (tt 85) 0 v=amove 0 v):=by intros;rfl
@[go_sem] theorem tt_274:(∀ cs:List AV,afield (tt 85) 0 (.agg cs)=apart true 9 0 cs):=by intros;rfl
@[go_sem] theorem tt_275:(∀ v:AV,afieldAddr (tt 85) 1 v=amove 9 v):=by intros;rfl
@[go_sem] theorem tt_276:(∀ cs:List AV,afield (tt 85) 1 (.agg cs)=apart false 1 9 cs):=by intros;rfl
@[go_sem] theorem tt_277:(∀ v:AV,afieldAddr (tt 85) 2 v=amove 10 v):=by intros;rfl
@[go_sem] theorem tt_278:(∀ cs:List AV,afield (tt 85) 2 (.agg cs)=apart false 1 10 cs):=by intros;rfl
@[go_sem] theorem tt_279:(∀ ps:List (Nat × AV),abuild tt 85 ps=(afill (fun i=>([(0,9),(9,1),(10,1)]:List (Nat × Nat))[i]?) [.int .i64 0,.int .i64 0,.int .i64 0,.int .i64 0,.int .i64 0,.int .i64 0,.int .i64 0,.int .i64 0,.nils,.int .i64 0,.int .i64 0] ps).map .agg):=fun ps=>by show Option.map _ (afill _ _ _)=_;congr 2;funext i;rw [← List.getElem?_map];rfl
@[go_sem] theorem tt_280:(∀ (s:AS) (p v:AV),aput (tt 85) s p v=aputz 11 s p v):=fun s p v=>aput_z rfl rfl s p v
@[go_sem] theorem tt_281:(∀ (s:AS) (p:AV),aload (tt 87) s p=(s.row p).bind fun r=>apart true 2 r.2 r.1):=by intro s p;unfold aload;cases s.row p <;> rfl
@[go_sem] theorem tt_282:(∀ ev:Operand→AV,arows tt ev (.alloc 87)=some (2,[[.int .i64 0,.int .i64 0]],87)):=by intros;rfl
@[go_sem] theorem tt_283:(∀ (ev:Operand→AV) (x:Operand),arows tt ev (.box 87 x)=if noL (ev x)=true∧(ev x).cells.length=2∧(ev x).cells.all AV.cell=true then some (2,[(ev x).cells],87) else none):=by intro ev x;simp [arows,tt,TI.knows]
@[go_sem] theorem tt_284:(∀ (v:AV) (k:IntKind) (i:Int),aidx tt 87 v (.int k i)=if 0≤i∧i < 2 then amove (i.toNat * 1) v else none):=by intros;rfl
@[go_sem] theorem tt_285:(∀ (cs:List AV) (k:IntKind) (i:Int),aindex tt 87 (.agg cs) (.int k i)=if 0≤i∧i < 2 then apart false 1 (i.toNat * 1) cs else none):=by intros;rfl
@[go_sem] theorem tt_286:(∀ ps:List (Nat × AV),abuild tt 87 ps=(afill (fun i=>some (i * 1,1)) [.int .i64 0,.int .i64 0] ps).map .agg):=by intros;rfl
@[go_sem] theorem tt_287:(elsize tt 87=1):=by intros;rfl
@[go_sem] theorem tt_288:(∀ (b:Bid) (m j:Nat),asl (tt 87) 1 none none (.aptr b m j)=if j+2≤m then some (.slc b 1 j 2) else none):=fun b m j=>asl_aptr rfl (by decide) b m j
@[go_sem] theorem tt_289:(∀ (cs:List AV) (j:Nat),asl (tt 87) 1 none none (.iptr cs j)=if j+2≤cs.length then some (.lstx 1 (((cs.drop j).take 2).map fun x=>[x])) else none):=fun cs j=>asl_iptr rfl cs j
@[go_sem] theorem tt_290:(∀ (s:AS) (p v:AV),aput (tt 87) s p v=aputz 2 s p v):=fun s p v=>aput_z rfl rfl s p v
@[go_sem] theorem tt_291:(∀ (s:AS) (p:AV),aload (tt 97) s p=(s.row p).bind fun r=>apart false 1 r.2 r.1):=by intro s p;unfold aload;cases s.row p <;> rfl
@[go_sem] theorem tt_292:(∀ ev:Operand→AV,arows tt ev (.alloc 97)=some (1,[[.nilfn]],97)):=by intros;rfl
@[go_sem] theorem tt_293:(∀ (ev:Operand→AV) (x:Operand),arows tt ev (.box 97 x)=if noL (ev x)=true∧(ev x).cells.length=1∧(ev x).cells.all AV.cell=true then some (1,[(ev x).cells],97) else none):=by intro ev x;simp [arows,tt,TI.knows]
@[go_sem] theorem tt_294:(∀ (s:AS) (p v:AV),aput (tt 97) s p v=aputz 1 s p v):=fun s p v=>aput_z rfl rfl s p v
@[go_sem] theorem tt_295:(∀ (s:AS) (p:AV),aload (tt 101) s p=(s.row p).bind fun r=>apart false 1 r.2 r.1):=by intro s p;unfold aload;cases s.row p <;> rfl
@[go_sem] theorem tt_296:(∀ ev:Operand→AV,arows tt ev (.alloc 101)=some (1,[[.int .u64 0]],101)):=by intros;rfl
@[go_sem] theorem tt_297:(∀ (ev:Operand→AV) (x:Operand),arows tt ev (.box 101 x)=if noL (ev x)=true∧(ev x).cells.length=1∧(ev x).cells.all AV.cell=true then some (1,[(ev x).cells],101) else none):=by intro ev x;simp [arows,tt,TI.knows]
@[go_sem] theorem tt_298:(∀ (k:IntKind) (n:Int),aconv (tt 101) (tt 3) (.int k n)=some (.int .i64 (wr .i64 n))):=by intros;rfl
@[go_sem] theorem tt_299:(∀ (k:IntKind) (n:Int),aconv (tt 101) (tt 139) (.int k n)=some (.int .u32 (wr .u32 n))):=by intros;rfl
@[go_sem] theorem tt_300:(∀ (s:AS) (p v:AV),aput (tt 101) s p v=aputz 1 s p v):=fun s p v=>aput_z rfl rfl s p v
@[go_sem] theorem tt_301:(∀ (s:AS) (p:AV),aload (tt 103) s p=(s.row p).bind fun r=>apart false 1 r.2 r.1):=by intro s p;unfold aload;cases s.row p <;> rfl
@[go_sem] theorem tt_302:(∀ ev:Operand→AV,arows tt ev (.alloc 103)=some (1,[[.nilp]],103)):=by intros;rfl
@[go_sem] theorem tt_303:(∀ (ev:Operand→AV) (x:Operand),arows tt ev (.box 103 x)=if noL (ev x)=true∧(ev x).cells.length=1∧(ev x).cells.all AV.cell=true then some (1,[(ev x).cells],103) else none):=by intro ev x;simp [arows,tt,TI.knows]
@[go_sem] theorem tt_304:(∀ (s:AS) (p v:AV),aput (tt 103) s p v=aputz 1 s p v):=fun s p v=>aput_z rfl rfl s p v
@[go_sem] theorem tt_305:(∀ (s:AS) (p:AV),aload (tt 110) s p=(s.row p).bind fun r=>apart false 1 r.2 r.1):=by intro s p;unfold aload;cases s.row p <;> rfl
@[go_sem] theorem tt_306:(∀ ev:Operand→AV,arows tt ev (.alloc 110)=some (1,[[.nilfn]],110)):=by intros;rfl
@[go_sem] theorem tt_307:(∀ (ev:Operand→AV) (x:Operand),arows tt ev (.box 110 x)=if noL (ev x)=true∧(ev x).cells.length=1∧(ev x).cells.all AV.cell=true then some (1,[(ev x).cells],110) else none):=by intro ev x;simp [arows,tt,TI.knows]
@[go_sem] theorem tt_308:(∀ (s:AS) (p v:AV),aput (tt 110) s p v=aputz 1 s p v):=fun s p v=>aput_z rfl rfl s p v
@[go_sem] theorem tt_309:(∀ (s:AS) (p:AV),aload (tt 131) s p=(s.row p).bind fun r=>apart false 1 r.2 r.1):=by intro s p;unfold aload;cases s.row p <;> rfl
@[go_sem] theorem tt_310:(∀ ev:Operand→AV,arows tt ev (.alloc 131)=some (1,[[.int .i64 0]],131)):=by intros;rfl
@[go_sem] theorem tt_311:(∀ (ev:Operand→AV) (x:Operand),arows tt ev (.box 131 x)=if noL (ev x)=true∧(ev x).cells.length=1∧(ev x).cells.all AV.cell=true then some (1,[(ev x).cells],131) else none):=by intro ev x;simp [arows,tt,TI.knows]
@[go_sem] theorem tt_312:(∀ (s:AS) (p v:AV),aput (tt 131) s p v=aputz 1 s p v):=fun s p v=>aput_z rfl rfl s p v
@[go_sem] theorem tt_313:(∀ (s:AS) (p:AV),aload (tt 134) s p=(s.row p).bind fun r=>apart false 1 r.2 r.1):=by intro s p;unfold aload;cases s.row p <;> rfl
@[go_sem] theorem tt_314:(∀ ev:Operand→AV,arows tt ev (.alloc 134)=some (1,[[.nilp]],134)):=by intros;rfl
@[go_sem] theorem tt_315:(∀ (ev:Operand→AV) (x:Operand),arows tt ev (.box 134 x)=if noL (ev x)=true∧(ev x).cells.length=1∧(ev x).cells.all AV.cell=true then some (1,[(ev x).cells],134) else none):=by intro ev x;simp [arows,tt,TI.knows]
@[go_sem] theorem tt_316:(∀ (s:AS) (p v:AV),aput (tt 134) s p v=aputz 1 s p v):=fun s p v=>aput_z rfl rfl s p v
@[go_sem] theorem tt_317:(∀ (s:AS) (p:AV),aload (tt 139) s p=(s.row p).bind fun r=>apart false 1 r.2 r.1):=by intro s p;unfold aload;cases s.row p <;> rfl
@[go_sem] theorem tt_318:(∀ ev:Operand→AV,arows tt ev (.alloc 139)=some (1,[[.int .u32 0]],139)):=by intros;rfl
@[go_sem] theorem tt_319:(∀ (ev:Operand→AV) (x:Operand),arows tt ev (.box 139 x)=if noL (ev x)=true∧(ev x).cells.length=1∧(ev x).cells.all AV.cell=true then some (1,[(ev x).cells],139) else none):=by intro ev x;simp [arows,tt,TI.knows]
@[go_sem] theorem tt_320:(∀ (k:IntKind) (n:Int),aconv (tt 139) (tt 5) (.int k n)=some (.int .u8 (wr .u8 n))):=by intros;rfl
@[go_sem] theorem tt_321:(∀ (s:AS) (p v:AV),aput (tt 139) s p v=aputz 1 s p v):=fun s p v=>aput_z rfl rfl s p v
@[go_sem] theorem tt_322:(∀ (s:AS) (p:AV),aload (tt 146) s p=(s.row p).bind fun r=>apart true 3 r.2 r.1):=by intro s p;unfold aload;cases s.row p <;> rfl
@[go_sem] theorem tt_323:(∀ ev:Operand→AV,arows tt ev (.alloc 146)=some (3,[[.str [],.str [],.nilif]],146)):=by intros;rfl
@[go_sem] theorem tt_324:(∀ (ev:Operand→AV) (x:Operand),arows tt ev (.box 146 x)=if noL (ev x)=true∧(ev x).cells.length=3∧(ev x).cells.all AV.cell=true then some (3,[(ev x).cells],146) else none):=by intro ev x;simp [arows,tt,TI.knows]
@[go_sem] theorem tt_325:(∀ v:AV,afieldAddr (tt 146) 0 v=amove 0 v):=by intros;rfl
@[go_sem] theorem tt_326:(∀ cs:List AV,afield (tt 146) 0 (.agg cs)=apart false 1 0 cs):=by intros;rfl
@[go_sem] theorem tt_327:(∀ v:AV,afieldAddr (tt 146) 1 v=amove 1 v):=by intros;rfl
@[go_sem] theorem tt_328:(∀ cs:List AV,afield (tt 146) 1 (.agg cs)=apart false 1 1 cs):=by intros;rfl
@[go_sem] theorem tt_329:(∀ v:AV,afieldAddr (tt 146) 2 v=amove 2 v):=by intros;rfl
@[go_sem] theorem tt_330:(∀ cs:List AV,afield (tt 146) 2 (.agg cs)=apart false 1 2 cs):=by intros;rfl
@[go_sem] theorem tt_331:(∀ ps:List (Nat × AV),abuild tt 146 ps=(afill (fun i=>([(0,1),(1,1),(2,1)]:List (Nat × Nat))[i]?) [.str [],.str [],.nilif] ps).map .agg):=fun ps=>by show Option.map _ (afill _ _ _)=_;congr 2;funext i;rw [← List.getElem?_map];rfl
@[go_sem] theorem tt_332:(∀ (s:AS) (p v:AV),aput (tt 146) s p v=aputz 3 s p v):=fun s p v=>aput_z rfl rfl s p v
@[go_sem] theorem tt_333:(∀ (s:AS) (p:AV),aload (tt 151) s p=(s.row p).bind fun r=>apart true 2 r.2 r.1):=by intro s p;unfold aload;cases s.row p <;> rfl
@[go_sem] theorem tt_334:(∀ ev:Operand→AV,arows tt ev (.alloc 151)=some (2,[[.int .u8 0,.int .u8 0]],151)):=by intros;rfl
@[go_sem] theorem tt_335:(∀ (ev:Operand→AV) (x:Operand),arows tt ev (.box 151 x)=if noL (ev x)=true∧(ev x).cells.length=2∧(ev x).cells.all AV.cell=true then some (2,[(ev x).cells],151) else none):=by intro ev x;simp [arows,tt,TI.knows]
@[go_sem] theorem tt_336:(∀ v:AV,afieldAddr (tt 151) 0 v=amove 0 v):=by intros;rfl
@[go_sem] theorem tt_337:(∀ cs:List AV,afield (tt 151) 0 (.agg cs)=apart false 1 0 cs):=by intros;rfl
@[go_sem] theorem tt_338:(∀ v:AV,afieldAddr (tt 151) 1 v=amove 1 v):=by intros;rfl
@[go_sem] theorem tt_339:(∀ cs:List AV,afield (tt 151) 1 (.agg cs)=apart false 1 1 cs):=by intros;rfl
@[go_sem] theorem tt_340:(∀ ps:List (Nat × AV),abuild tt 151 ps=(afill (fun i=>([(0,1),(1,1)]:List (Nat × Nat))[i]?) [.int .u8 0,.int .u8 0] ps).map .agg):=fun ps=>by show Option.map _ (afill _ _ _)=_;congr 2;funext i;rw [← List.getElem?_map];rfl
@[go_sem] theorem tt_341:(∀ (s:AS) (p v:AV),aput (tt 151) s p v=aputz 2 s p v):=fun s p v=>aput_z rfl rfl s p v
@[go_sem] theorem tt_342:(∀ (s:AS) (p:AV),aload (tt 157) s p=(s.row p).bind fun r=>apart false 1 r.2 r.1):=by intro s p;unfold aload;cases s.row p <;> rfl
@[go_sem] theorem tt_343:(∀ ev:Operand→AV,arows tt ev (.alloc 157)=some (1,[[.nilp]],157)):=by intros;rfl
@[go_sem] theorem tt_344:(∀ (ev:Operand→AV) (x:Operand),arows tt ev (.box 157 x)=if noL (ev x)=true∧(ev x).cells.length=1∧(ev x).cells.all AV.cell=true then some (1,[(ev x).cells],157) else none):=by intro ev x;simp [arows,tt,TI.knows]
@[go_sem] theorem tt_345:(∀ (s:AS) (p v:AV),aput (tt 157) s p v=aputz 1 s p v):=fun s p v=>aput_z rfl rfl s p v
@[go_sem] theorem tt_346:(∀ (s:AS) (p:AV),aload (tt 159) s p=(s.row p).bind fun r=>apart true 1 r.2 r.1):=by intro s p;unfold aload;cases s.row p <;> rfl
@[go_sem] theorem tt_347:(∀ ev:Operand→AV,arows tt ev (.alloc 159)=some (1,[[.str []]],159)):=by intros;rfl
@[go_sem] theorem tt_348:(∀ (ev:Operand→AV) (x:Operand),arows tt ev (.box 159 x)=if noL (ev x)=true∧(ev x).cells.length=1∧(ev x).cells.all AV.cell=true then some (1,[(ev x).cells],159) else none):=by intro ev x;simp [arows,tt,TI.knows]
@[go_sem] theorem tt_349:(∀ v:AV,afieldAddr (tt 159) 0 v=amove 0 v):=by intros;rfl
@[go_sem] theorem tt_350:(∀ cs:List AV,afield (tt 159) 0 (.agg cs)=apart false 1 0 cs):=by intros;rfl
@[go_sem] theorem tt_351:(∀ ps:List (Nat × AV),abuild tt 159 ps=(afill (fun i=>([(0,1)]:List (Nat × Nat))[i]?) [.str []] ps).map .agg):=fun ps=>by show Option.map _ (afill _ _ _)=_;congr 2;funext i;rw [← List.getElem?_map];rfl
@[go_sem] theorem tt_352:(∀ (s:AS) (p v:AV),aput (tt 159) s p v=aputz 1 s p v):=fun s p v=>aput_z rfl rfl s p v
end Go.Proofs.YthpkmcjiobnpgaaGreatDoor
