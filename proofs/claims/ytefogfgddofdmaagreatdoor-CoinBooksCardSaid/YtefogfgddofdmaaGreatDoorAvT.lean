/- Printed by gentab.py: the types that this seat's functions name, as a table of our own; that the table is right. -/
import Derived.Test.YtefogfgddofdmaaGreatDoorBaseD
import Derived.Test.YtefogfgddofdmaaGreatDoorProg
import Derived.KernelRfl
set_option linter.all false
set_option linter.unusedSimpArgs false
set_option linter.unusedVariables false
namespace Go.Proofs.YtefogfgddofdmaaGreatDoor
open Go.Av
def tt:Nat→TI
  | 2=>⟨.int .i64,1,8,[.int .i64 0],false,false⟩
  | 3=>⟨.int .i64,1,8,[.int .i64 0],false,false⟩
  | 4=>⟨.bool,1,1,[.bool false],false,false⟩
  | 5=>⟨.int .u8,1,1,[.int .u8 0],false,false⟩
  | 9=>⟨.str,1,16,[.str []],false,false⟩
  | 21=>⟨.int .i32,1,4,[.int .i32 0],false,false⟩
  | 22=>⟨.slice 44,1,24,[.nils],false,false⟩
  | 23=>⟨.slice 67,1,24,[.nils],false,false⟩
  | 25=>⟨.struct [(0,1,false),(1,1,false)],2,48,[.nils,.nils],false,false⟩
  | 26=>⟨.slice 3,1,24,[.nils],false,false⟩
  | 32=>⟨.slice 25,1,24,[.nils],false,false⟩
  | 33=>⟨.slice 9,1,24,[.nils],false,false⟩
  | 34=>⟨.int .i64,1,8,[.int .i64 0],false,false⟩
  | 44=>⟨.struct [(0,1,false),(1,1,false),(2,1,false),(3,1,false)],4,48,[.int .i64 0,.int .i64 0,.int .i64 0,.nils],false,false⟩
  | 45=>⟨.slice 26,1,24,[.nils],false,false⟩
  | 53=>⟨.struct [(0,1,false),(1,1,false)],2,16,[.int .i64 0,.int .i64 0],true,false⟩
  | 67=>⟨.struct [(0,1,false),(1,1,false),(2,1,false)],3,24,[.int .i64 0,.int .i64 0,.int .i64 0],true,false⟩
  | 68=>⟨.int .u64,1,8,[.int .u64 0],false,false⟩
  | 70=>⟨.struct [(0,1,false)],1,8,[.int .u64 0],false,false⟩
  | 73=>⟨.ptr,1,8,[.nilp],false,false⟩
  | 74=>⟨.slice 5,1,24,[.nils],false,false⟩
  | 76=>⟨.struct [(0,1,false),(1,1,false)],2,32,[.nilp,.nils],false,false⟩
  | 84=>⟨.int .i64,1,8,[.int .i64 0],false,false⟩
  | 88=>⟨.array 8 3,8,64,[.int .i64 0,.int .i64 0,.int .i64 0,.int .i64 0,.int .i64 0,.int .i64 0,.int .i64 0,.int .i64 0],false,false⟩
  | 94=>⟨.int .u64,1,8,[.int .u64 0],false,false⟩
  | 101=>⟨.iface,1,16,[.nilif],false,false⟩
  | 106=>⟨.ptr,1,8,[.nilp],false,false⟩
  | 118=>⟨.int .u32,1,4,[.int .u32 0],false,false⟩
  | 123=>⟨.plain,1,8,[.nilfn],false,false⟩
  | 124=>⟨.plain,1,8,[.nilfn],false,false⟩
  | 133=>⟨.int .i64,1,8,[.int .i64 0],false,false⟩
  | 136=>⟨.ptr,1,8,[.nilp],false,false⟩
  | 147=>⟨.struct [(0,1,false),(1,1,false),(2,1,false)],3,48,[.str [],.str [],.nilif],false,false⟩
  | 154=>⟨.struct [(0,1,false),(1,1,false)],2,2,[.int .u8 0,.int .u8 0],false,false⟩
  | 160=>⟨.ptr,1,8,[.nilp],false,false⟩
  | 162=>⟨.struct [(0,1,false)],1,16,[.str []],false,false⟩
  | _=>⟨.unknown,0,0,[],false,false⟩
theorem info_row {t:TypeId} {r:TypeInfo} (h:Tryz.prog.types[t]?=some r):Tryz.prog.info? t=some r:=by
  have hlt:t < Tryz.prog.types.size:=(Array.getElem?_eq_some_iff.1 h).1
  unfold Tables.info?;rw [if_pos hlt];exact h
theorem inf2:Tryz.prog.info? 2=some Tryz.t2:=info_row Tryz.type2
theorem cel2:Tryz.prog.cellsOf 2=1:=by unfold Program.cellsOf;rw [inf2];rfl
theorem ag2:aggB Tryz.prog 2=false:=by unfold aggB;rw [Tryz.underlying2]
theorem inf3:Tryz.prog.info? 3=some Tryz.t3:=info_row Tryz.type3
theorem cel3:Tryz.prog.cellsOf 3=1:=by unfold Program.cellsOf;rw [inf3];rfl
theorem ag3:aggB Tryz.prog 3=false:=by unfold aggB;rw [Tryz.underlying3]
theorem inf4:Tryz.prog.info? 4=some Tryz.t4:=info_row Tryz.type4
theorem cel4:Tryz.prog.cellsOf 4=1:=by unfold Program.cellsOf;rw [inf4];rfl
theorem ag4:aggB Tryz.prog 4=false:=by unfold aggB;rw [Tryz.underlying4]
theorem inf5:Tryz.prog.info? 5=some Tryz.t5:=info_row Tryz.type5
theorem cel5:Tryz.prog.cellsOf 5=1:=by unfold Program.cellsOf;rw [inf5];rfl
theorem ag5:aggB Tryz.prog 5=false:=by unfold aggB;rw [Tryz.underlying5]
theorem inf9:Tryz.prog.info? 9=some Tryz.t9:=info_row Tryz.type9
theorem cel9:Tryz.prog.cellsOf 9=1:=by unfold Program.cellsOf;rw [inf9];rfl
theorem ag9:aggB Tryz.prog 9=false:=by unfold aggB;rw [Tryz.underlying9]
theorem inf21:Tryz.prog.info? 21=some Tryz.t21:=info_row Tryz.type21
theorem cel21:Tryz.prog.cellsOf 21=1:=by unfold Program.cellsOf;rw [inf21];rfl
theorem ag21:aggB Tryz.prog 21=false:=by unfold aggB;rw [Tryz.underlying21]
theorem inf22:Tryz.prog.info? 22=some Tryz.t22:=info_row Tryz.type22
theorem cel22:Tryz.prog.cellsOf 22=1:=by unfold Program.cellsOf;rw [inf22];rfl
theorem ag22:aggB Tryz.prog 22=false:=by unfold aggB;rw [Tryz.underlying22]
theorem inf23:Tryz.prog.info? 23=some Tryz.t23:=info_row Tryz.type23
theorem cel23:Tryz.prog.cellsOf 23=1:=by unfold Program.cellsOf;rw [inf23];rfl
theorem ag23:aggB Tryz.prog 23=false:=by unfold aggB;rw [Tryz.underlying23]
theorem inf25:Tryz.prog.info? 25=some Tryz.t25:=info_row Tryz.type25
theorem cel25:Tryz.prog.cellsOf 25=2:=by unfold Program.cellsOf;rw [inf25];rfl
theorem ag25:aggB Tryz.prog 25=true:=by unfold aggB;rw [Tryz.underlying25]
theorem inf26:Tryz.prog.info? 26=some Tryz.t26:=info_row Tryz.type26
theorem cel26:Tryz.prog.cellsOf 26=1:=by unfold Program.cellsOf;rw [inf26];rfl
theorem ag26:aggB Tryz.prog 26=false:=by unfold aggB;rw [Tryz.underlying26]
theorem inf32:Tryz.prog.info? 32=some Tryz.t32:=info_row Tryz.type32
theorem cel32:Tryz.prog.cellsOf 32=1:=by unfold Program.cellsOf;rw [inf32];rfl
theorem ag32:aggB Tryz.prog 32=false:=by unfold aggB;rw [Tryz.underlying32]
theorem inf33:Tryz.prog.info? 33=some Tryz.t33:=info_row Tryz.type33
theorem cel33:Tryz.prog.cellsOf 33=1:=by unfold Program.cellsOf;rw [inf33];rfl
theorem ag33:aggB Tryz.prog 33=false:=by unfold aggB;rw [Tryz.underlying33]
theorem inf34:Tryz.prog.info? 34=some Tryz.t34:=info_row Tryz.type34
theorem cel34:Tryz.prog.cellsOf 34=1:=by unfold Program.cellsOf;rw [inf34];rfl
theorem ag34:aggB Tryz.prog 34=false:=by unfold aggB;rw [Tryz.underlying34]
theorem inf44:Tryz.prog.info? 44=some Tryz.t44:=info_row Tryz.type44
theorem cel44:Tryz.prog.cellsOf 44=4:=by unfold Program.cellsOf;rw [inf44];rfl
theorem ag44:aggB Tryz.prog 44=true:=by unfold aggB;rw [Tryz.underlying44]
theorem inf45:Tryz.prog.info? 45=some Tryz.t45:=info_row Tryz.type45
theorem cel45:Tryz.prog.cellsOf 45=1:=by unfold Program.cellsOf;rw [inf45];rfl
theorem ag45:aggB Tryz.prog 45=false:=by unfold aggB;rw [Tryz.underlying45]
theorem inf53:Tryz.prog.info? 53=some Tryz.t53:=info_row Tryz.type53
theorem cel53:Tryz.prog.cellsOf 53=2:=by unfold Program.cellsOf;rw [inf53];rfl
theorem ag53:aggB Tryz.prog 53=true:=by unfold aggB;rw [Tryz.underlying53]
theorem inf67:Tryz.prog.info? 67=some Tryz.t67:=info_row Tryz.type67
theorem cel67:Tryz.prog.cellsOf 67=3:=by unfold Program.cellsOf;rw [inf67];rfl
theorem ag67:aggB Tryz.prog 67=true:=by unfold aggB;rw [Tryz.underlying67]
theorem inf68:Tryz.prog.info? 68=some Tryz.t68:=info_row Tryz.type68
theorem cel68:Tryz.prog.cellsOf 68=1:=by unfold Program.cellsOf;rw [inf68];rfl
theorem ag68:aggB Tryz.prog 68=false:=by unfold aggB;rw [Tryz.underlying68]
theorem inf70:Tryz.prog.info? 70=some Tryz.t70:=info_row Tryz.type70
theorem cel70:Tryz.prog.cellsOf 70=1:=by unfold Program.cellsOf;rw [inf70];rfl
theorem ag70:aggB Tryz.prog 70=true:=by unfold aggB;rw [Tryz.underlying70]
theorem inf73:Tryz.prog.info? 73=some Tryz.t73:=info_row Tryz.type73
theorem cel73:Tryz.prog.cellsOf 73=1:=by unfold Program.cellsOf;rw [inf73];rfl
theorem ag73:aggB Tryz.prog 73=false:=by unfold aggB;rw [Tryz.underlying73]
theorem inf74:Tryz.prog.info? 74=some Tryz.t74:=info_row Tryz.type74
theorem cel74:Tryz.prog.cellsOf 74=1:=by unfold Program.cellsOf;rw [inf74];rfl
theorem ag74:aggB Tryz.prog 74=false:=by unfold aggB;rw [Tryz.underlying74]
theorem inf76:Tryz.prog.info? 76=some Tryz.t76:=info_row Tryz.type76
theorem cel76:Tryz.prog.cellsOf 76=2:=by unfold Program.cellsOf;rw [inf76];rfl
theorem ag76:aggB Tryz.prog 76=true:=by unfold aggB;rw [Tryz.underlying76]
theorem inf84:Tryz.prog.info? 84=some Tryz.t84:=info_row Tryz.type84
theorem cel84:Tryz.prog.cellsOf 84=1:=by unfold Program.cellsOf;rw [inf84];rfl
theorem ag84:aggB Tryz.prog 84=false:=by unfold aggB;rw [Tryz.underlying84]
theorem inf88:Tryz.prog.info? 88=some Tryz.t88:=info_row Tryz.type88
theorem cel88:Tryz.prog.cellsOf 88=8:=by unfold Program.cellsOf;rw [inf88];rfl
theorem ag88:aggB Tryz.prog 88=true:=by unfold aggB;rw [Tryz.underlying88]
theorem inf94:Tryz.prog.info? 94=some Tryz.t94:=info_row Tryz.type94
theorem cel94:Tryz.prog.cellsOf 94=1:=by unfold Program.cellsOf;rw [inf94];rfl
theorem ag94:aggB Tryz.prog 94=false:=by unfold aggB;rw [Tryz.underlying94]
theorem inf101:Tryz.prog.info? 101=some Tryz.t101:=info_row Tryz.type101
theorem cel101:Tryz.prog.cellsOf 101=1:=by unfold Program.cellsOf;rw [inf101];rfl
theorem ag101:aggB Tryz.prog 101=false:=by unfold aggB;rw [Tryz.underlying101]
theorem inf106:Tryz.prog.info? 106=some Tryz.t106:=info_row Tryz.type106
theorem cel106:Tryz.prog.cellsOf 106=1:=by unfold Program.cellsOf;rw [inf106];rfl
theorem ag106:aggB Tryz.prog 106=false:=by unfold aggB;rw [Tryz.underlying106]
theorem inf118:Tryz.prog.info? 118=some Tryz.t118:=info_row Tryz.type118
theorem cel118:Tryz.prog.cellsOf 118=1:=by unfold Program.cellsOf;rw [inf118];rfl
theorem ag118:aggB Tryz.prog 118=false:=by unfold aggB;rw [Tryz.underlying118]
theorem inf123:Tryz.prog.info? 123=some Tryz.t123:=info_row Tryz.type123
theorem cel123:Tryz.prog.cellsOf 123=1:=by unfold Program.cellsOf;rw [inf123];rfl
theorem ag123:aggB Tryz.prog 123=false:=by unfold aggB;rw [Tryz.underlying123]
theorem inf124:Tryz.prog.info? 124=some Tryz.t124:=info_row Tryz.type124
theorem cel124:Tryz.prog.cellsOf 124=1:=by unfold Program.cellsOf;rw [inf124];rfl
theorem ag124:aggB Tryz.prog 124=false:=by unfold aggB;rw [Tryz.underlying124]
theorem inf133:Tryz.prog.info? 133=some Tryz.t133:=info_row Tryz.type133
theorem cel133:Tryz.prog.cellsOf 133=1:=by unfold Program.cellsOf;rw [inf133];rfl
theorem ag133:aggB Tryz.prog 133=false:=by unfold aggB;rw [Tryz.underlying133]
theorem inf136:Tryz.prog.info? 136=some Tryz.t136:=info_row Tryz.type136
theorem cel136:Tryz.prog.cellsOf 136=1:=by unfold Program.cellsOf;rw [inf136];rfl
theorem ag136:aggB Tryz.prog 136=false:=by unfold aggB;rw [Tryz.underlying136]
theorem inf147:Tryz.prog.info? 147=some Tryz.t147:=info_row Tryz.type147
theorem cel147:Tryz.prog.cellsOf 147=3:=by unfold Program.cellsOf;rw [inf147];rfl
theorem ag147:aggB Tryz.prog 147=true:=by unfold aggB;rw [Tryz.underlying147]
theorem inf154:Tryz.prog.info? 154=some Tryz.t154:=info_row Tryz.type154
theorem cel154:Tryz.prog.cellsOf 154=2:=by unfold Program.cellsOf;rw [inf154];rfl
theorem ag154:aggB Tryz.prog 154=true:=by unfold aggB;rw [Tryz.underlying154]
theorem inf160:Tryz.prog.info? 160=some Tryz.t160:=info_row Tryz.type160
theorem cel160:Tryz.prog.cellsOf 160=1:=by unfold Program.cellsOf;rw [inf160];rfl
theorem ag160:aggB Tryz.prog 160=false:=by unfold aggB;rw [Tryz.underlying160]
theorem inf162:Tryz.prog.info? 162=some Tryz.t162:=info_row Tryz.type162
theorem cel162:Tryz.prog.cellsOf 162=1:=by unfold Program.cellsOf;rw [inf162];rfl
theorem ag162:aggB Tryz.prog 162=true:=by unfold aggB;rw [Tryz.underlying162]
theorem eq53:EqFact Tryz.prog 53 2:=EqFact.ints Tryz.underlying53 (by kernel_rfl) (by kernel_rfl) (by intro f hf;simp at hf;rcases hf with rfl|rfl <;> exact ⟨by decide,by first|exact ⟨_,Tryz.underlying3⟩⟩) rfl rfl
theorem eq67:EqFact Tryz.prog 67 3:=EqFact.ints Tryz.underlying67 (by kernel_rfl) (by kernel_rfl) (by intro f hf;simp at hf;rcases hf with rfl|rfl|rfl <;> exact ⟨by decide,by first|exact ⟨_,Tryz.underlying3⟩⟩) rfl rfl
theorem good2:Go.Av.Good Tryz.prog 2 (tt 2):=⟨⟨Tryz.t2,_,inf2,rfl,rfl,rfl,fun c=>by simp [tt,VRs,VR,Value.cells],rfl,rfl⟩,Tryz.underlying2,(fun h=>by cases h),(fun h=>by cases h)⟩
theorem good3:Go.Av.Good Tryz.prog 3 (tt 3):=⟨⟨Tryz.t3,_,inf3,rfl,rfl,rfl,fun c=>by simp [tt,VRs,VR,Value.cells],rfl,rfl⟩,Tryz.underlying3,(fun h=>by cases h),(fun h=>by cases h)⟩
theorem good4:Go.Av.Good Tryz.prog 4 (tt 4):=⟨⟨Tryz.t4,_,inf4,rfl,rfl,rfl,fun c=>by simp [tt,VRs,VR,Value.cells],rfl,rfl⟩,Tryz.underlying4,(fun h=>by cases h),(fun h=>by cases h)⟩
theorem good5:Go.Av.Good Tryz.prog 5 (tt 5):=⟨⟨Tryz.t5,_,inf5,rfl,rfl,rfl,fun c=>by simp [tt,VRs,VR,Value.cells],rfl,rfl⟩,Tryz.underlying5,(fun h=>by cases h),(fun h=>by cases h)⟩
theorem good9:Go.Av.Good Tryz.prog 9 (tt 9):=⟨⟨Tryz.t9,_,inf9,rfl,rfl,rfl,fun c=>by simp [tt,VRs,VR,Value.cells],rfl,rfl⟩,Tryz.underlying9,(fun h=>by cases h),(fun h=>by cases h)⟩
theorem good21:Go.Av.Good Tryz.prog 21 (tt 21):=⟨⟨Tryz.t21,_,inf21,rfl,rfl,rfl,fun c=>by simp [tt,VRs,VR,Value.cells],rfl,rfl⟩,Tryz.underlying21,(fun h=>by cases h),(fun h=>by cases h)⟩
theorem good22:Go.Av.Good Tryz.prog 22 (tt 22):=⟨⟨Tryz.t22,_,inf22,rfl,rfl,rfl,fun c=>by simp [tt,VRs,VR,Value.cells],rfl,rfl⟩,⟨Tryz.underlying22,by rw [inf44];rfl⟩,(fun h=>by cases h),(fun h=>by cases h)⟩
theorem good23:Go.Av.Good Tryz.prog 23 (tt 23):=⟨⟨Tryz.t23,_,inf23,rfl,rfl,rfl,fun c=>by simp [tt,VRs,VR,Value.cells],rfl,rfl⟩,⟨Tryz.underlying23,by rw [inf67];rfl⟩,(fun h=>by cases h),(fun h=>by cases h)⟩
theorem good25:Go.Av.Good Tryz.prog 25 (tt 25):=⟨⟨Tryz.t25,_,inf25,rfl,rfl,rfl,fun c=>by simp [tt,VRs,VR,Value.cells],rfl,rfl⟩,⟨_,Tryz.underlying25,by simp [cel22,ag22,cel23,ag23,tt],by simp [inf22,Tryz.underlying22,inf23,Tryz.underlying23]⟩,(fun h=>by cases h),(fun h=>by cases h)⟩
theorem good26:Go.Av.Good Tryz.prog 26 (tt 26):=⟨⟨Tryz.t26,_,inf26,rfl,rfl,rfl,fun c=>by simp [tt,VRs,VR,Value.cells],rfl,rfl⟩,⟨Tryz.underlying26,by rw [inf3];rfl⟩,(fun h=>by cases h),(fun h=>by cases h)⟩
theorem good32:Go.Av.Good Tryz.prog 32 (tt 32):=⟨⟨Tryz.t32,_,inf32,rfl,rfl,rfl,fun c=>by simp [tt,VRs,VR,Value.cells],rfl,rfl⟩,⟨Tryz.underlying32,by rw [inf25];rfl⟩,(fun h=>by cases h),(fun h=>by cases h)⟩
theorem good33:Go.Av.Good Tryz.prog 33 (tt 33):=⟨⟨Tryz.t33,_,inf33,rfl,rfl,rfl,fun c=>by simp [tt,VRs,VR,Value.cells],rfl,rfl⟩,⟨Tryz.underlying33,by rw [inf9];rfl⟩,(fun h=>by cases h),(fun h=>by cases h)⟩
theorem good34:Go.Av.Good Tryz.prog 34 (tt 34):=⟨⟨Tryz.t34,_,inf34,rfl,rfl,rfl,fun c=>by simp [tt,VRs,VR,Value.cells],rfl,rfl⟩,Tryz.underlying34,(fun h=>by cases h),(fun h=>by cases h)⟩
theorem good44:Go.Av.Good Tryz.prog 44 (tt 44):=⟨⟨Tryz.t44,_,inf44,rfl,rfl,rfl,fun c=>by simp [tt,VRs,VR,Value.cells],rfl,rfl⟩,⟨_,Tryz.underlying44,by simp [cel3,ag3,cel26,ag26,tt],by simp [inf3,Tryz.underlying3,inf26,Tryz.underlying26]⟩,(fun h=>by cases h),(fun h=>by cases h)⟩
theorem good45:Go.Av.Good Tryz.prog 45 (tt 45):=⟨⟨Tryz.t45,_,inf45,rfl,rfl,rfl,fun c=>by simp [tt,VRs,VR,Value.cells],rfl,rfl⟩,⟨Tryz.underlying45,by rw [inf26];rfl⟩,(fun h=>by cases h),(fun h=>by cases h)⟩
theorem good53:Go.Av.Good Tryz.prog 53 (tt 53):=⟨⟨Tryz.t53,_,inf53,rfl,rfl,rfl,fun c=>by simp [tt,VRs,VR,Value.cells],rfl,rfl⟩,⟨_,Tryz.underlying53,by simp [cel3,ag3,tt],by simp [inf3,Tryz.underlying3]⟩,fun _=>eq53,(fun h=>by cases h)⟩
theorem good67:Go.Av.Good Tryz.prog 67 (tt 67):=⟨⟨Tryz.t67,_,inf67,rfl,rfl,rfl,fun c=>by simp [tt,VRs,VR,Value.cells],rfl,rfl⟩,⟨_,Tryz.underlying67,by simp [cel3,ag3,tt],by simp [inf3,Tryz.underlying3]⟩,fun _=>eq67,(fun h=>by cases h)⟩
theorem good68:Go.Av.Good Tryz.prog 68 (tt 68):=⟨⟨Tryz.t68,_,inf68,rfl,rfl,rfl,fun c=>by simp [tt,VRs,VR,Value.cells],rfl,rfl⟩,Tryz.underlying68,(fun h=>by cases h),(fun h=>by cases h)⟩
theorem good70:Go.Av.Good Tryz.prog 70 (tt 70):=⟨⟨Tryz.t70,_,inf70,rfl,rfl,rfl,fun c=>by simp [tt,VRs,VR,Value.cells],rfl,rfl⟩,⟨_,Tryz.underlying70,by simp [cel68,ag68,tt],by simp [inf68,Tryz.underlying68]⟩,(fun h=>by cases h),(fun h=>by cases h)⟩
theorem good73:Go.Av.Good Tryz.prog 73 (tt 73):=⟨⟨Tryz.t73,_,inf73,rfl,rfl,rfl,fun c=>by simp [tt,VRs,VR,Value.cells],rfl,rfl⟩,⟨_,Tryz.underlying73⟩,(fun h=>by cases h),(fun h=>by cases h)⟩
theorem good74:Go.Av.Good Tryz.prog 74 (tt 74):=⟨⟨Tryz.t74,_,inf74,rfl,rfl,rfl,fun c=>by simp [tt,VRs,VR,Value.cells],rfl,rfl⟩,⟨Tryz.underlying74,by rw [inf5];rfl⟩,(fun h=>by cases h),(fun h=>by cases h)⟩
theorem good76:Go.Av.Good Tryz.prog 76 (tt 76):=⟨⟨Tryz.t76,_,inf76,rfl,rfl,rfl,fun c=>by simp [tt,VRs,VR,Value.cells],rfl,rfl⟩,⟨_,Tryz.underlying76,by simp [cel73,ag73,cel74,ag74,tt],by simp [inf73,Tryz.underlying73,inf74,Tryz.underlying74]⟩,(fun h=>by cases h),(fun h=>by cases h)⟩
theorem good84:Go.Av.Good Tryz.prog 84 (tt 84):=⟨⟨Tryz.t84,_,inf84,rfl,rfl,rfl,fun c=>by simp [tt,VRs,VR,Value.cells],rfl,rfl⟩,Tryz.underlying84,(fun h=>by cases h),(fun h=>by cases h)⟩
theorem good88:Go.Av.Good Tryz.prog 88 (tt 88):=⟨⟨Tryz.t88,_,inf88,rfl,rfl,rfl,fun c=>by simp [tt,VRs,VR,Value.cells],rfl,rfl⟩,⟨Tryz.underlying88,by rw [inf3];rfl⟩,(fun h=>by cases h),(fun h=>by cases h)⟩
theorem good94:Go.Av.Good Tryz.prog 94 (tt 94):=⟨⟨Tryz.t94,_,inf94,rfl,rfl,rfl,fun c=>by simp [tt,VRs,VR,Value.cells],rfl,rfl⟩,Tryz.underlying94,(fun h=>by cases h),(fun h=>by cases h)⟩
theorem good101:Go.Av.Good Tryz.prog 101 (tt 101):=⟨⟨Tryz.t101,_,inf101,rfl,rfl,rfl,fun c=>by simp [tt,VRs,VR,Value.cells],rfl,rfl⟩,⟨_,Tryz.underlying101⟩,(fun h=>by cases h),(fun h=>by cases h)⟩
theorem good106:Go.Av.Good Tryz.prog 106 (tt 106):=⟨⟨Tryz.t106,_,inf106,rfl,rfl,rfl,fun c=>by simp [tt,VRs,VR,Value.cells],rfl,rfl⟩,⟨_,Tryz.underlying106⟩,(fun h=>by cases h),(fun h=>by cases h)⟩
theorem good118:Go.Av.Good Tryz.prog 118 (tt 118):=⟨⟨Tryz.t118,_,inf118,rfl,rfl,rfl,fun c=>by simp [tt,VRs,VR,Value.cells],rfl,rfl⟩,Tryz.underlying118,(fun h=>by cases h),(fun h=>by cases h)⟩
theorem good123:Go.Av.Good Tryz.prog 123 (tt 123):=⟨⟨Tryz.t123,_,inf123,rfl,rfl,rfl,fun c=>by simp [tt,VRs,VR,Value.cells],rfl,rfl⟩,⟨_,Tryz.underlying123,rfl⟩,(fun h=>by cases h),(fun h=>by cases h)⟩
theorem good124:Go.Av.Good Tryz.prog 124 (tt 124):=⟨⟨Tryz.t124,_,inf124,rfl,rfl,rfl,fun c=>by simp [tt,VRs,VR,Value.cells],rfl,rfl⟩,⟨_,Tryz.underlying124,rfl⟩,(fun h=>by cases h),(fun h=>by cases h)⟩
theorem good133:Go.Av.Good Tryz.prog 133 (tt 133):=⟨⟨Tryz.t133,_,inf133,rfl,rfl,rfl,fun c=>by simp [tt,VRs,VR,Value.cells],rfl,rfl⟩,Tryz.underlying133,(fun h=>by cases h),(fun h=>by cases h)⟩
theorem good136:Go.Av.Good Tryz.prog 136 (tt 136):=⟨⟨Tryz.t136,_,inf136,rfl,rfl,rfl,fun c=>by simp [tt,VRs,VR,Value.cells],rfl,rfl⟩,⟨_,Tryz.underlying136⟩,(fun h=>by cases h),(fun h=>by cases h)⟩
theorem good147:Go.Av.Good Tryz.prog 147 (tt 147):=⟨⟨Tryz.t147,_,inf147,rfl,rfl,rfl,fun c=>by simp [tt,VRs,VR,Value.cells],rfl,rfl⟩,⟨_,Tryz.underlying147,by simp [cel9,ag9,cel101,ag101,tt],by simp [inf9,Tryz.underlying9,inf101,Tryz.underlying101]⟩,(fun h=>by cases h),(fun h=>by cases h)⟩
theorem good154:Go.Av.Good Tryz.prog 154 (tt 154):=⟨⟨Tryz.t154,_,inf154,rfl,rfl,rfl,fun c=>by simp [tt,VRs,VR,Value.cells],rfl,rfl⟩,⟨_,Tryz.underlying154,by simp [cel5,ag5,tt],by simp [inf5,Tryz.underlying5]⟩,(fun h=>by cases h),(fun h=>by cases h)⟩
theorem good160:Go.Av.Good Tryz.prog 160 (tt 160):=⟨⟨Tryz.t160,_,inf160,rfl,rfl,rfl,fun c=>by simp [tt,VRs,VR,Value.cells],rfl,rfl⟩,⟨_,Tryz.underlying160⟩,(fun h=>by cases h),(fun h=>by cases h)⟩
theorem good162:Go.Av.Good Tryz.prog 162 (tt 162):=⟨⟨Tryz.t162,_,inf162,rfl,rfl,rfl,fun c=>by simp [tt,VRs,VR,Value.cells],rfl,rfl⟩,⟨_,Tryz.underlying162,by simp [cel9,ag9,tt],by simp [inf9,Tryz.underlying9]⟩,(fun h=>by cases h),(fun h=>by cases h)⟩
theorem tab:Tab Tryz.prog tt where
  all:=fun t h=>by
    unfold tt at h ⊢
    split at h
    · exact good2
    · exact good3
    · exact good4
    · exact good5
    · exact good9
    · exact good21
    · exact good22
    · exact good23
    · exact good25
    · exact good26
    · exact good32
    · exact good33
    · exact good34
    · exact good44
    · exact good45
    · exact good53
    · exact good67
    · exact good68
    · exact good70
    · exact good73
    · exact good74
    · exact good76
    · exact good84
    · exact good88
    · exact good94
    · exact good101
    · exact good106
    · exact good118
    · exact good123
    · exact good124
    · exact good133
    · exact good136
    · exact good147
    · exact good154
    · exact good160
    · exact good162
    · cases h
  elem:=fun t e h=>by
    unfold tt at h
    split at h <;> first|(cases h;done)|(cases h;rfl)
@[go_sem] theorem tt_0:(∀ (s:AS) (p:AV),aload (tt 2) s p=(s.row p).bind fun r=>apart false 1 r.2 r.1):=by intro s p;unfold aload;cases s.row p <;> rfl
@[go_sem] theorem tt_1:(∀ ev:Operand→AV,arows tt ev (.alloc 2)=some (1,[[.int .i64 0]],2)):=by intros;rfl
@[go_sem] theorem tt_2:(∀ (ev:Operand→AV) (x:Operand),arows tt ev (.box 2 x)=if noL (ev x)=true∧(ev x).cells.length=1∧(ev x).cells.all AV.cell=true then some (1,[(ev x).cells],2) else none):=by intro ev x;simp [arows,tt,TI.knows]
@[go_sem] theorem tt_3:(∀ (k:IntKind) (n:Int),aconv (tt 2) (tt 68) (.int k n)=some (.int .u64 (wr .u64 n))):=by intros;rfl
@[go_sem] theorem tt_4:(∀ (s:AS) (p v:AV),aput (tt 2) s p v=aputz 1 s p v):=fun s p v=>aput_z rfl rfl s p v
@[go_sem] theorem tt_5:(∀ (s:AS) (p:AV),aload (tt 3) s p=(s.row p).bind fun r=>apart false 1 r.2 r.1):=by intro s p;unfold aload;cases s.row p <;> rfl
@[go_sem] theorem tt_6:(∀ ev:Operand→AV,arows tt ev (.alloc 3)=some (1,[[.int .i64 0]],3)):=by intros;rfl
@[go_sem] theorem tt_7:(∀ (ev:Operand→AV) (x:Operand),arows tt ev (.box 3 x)=if noL (ev x)=true∧(ev x).cells.length=1∧(ev x).cells.all AV.cell=true then some (1,[(ev x).cells],3) else none):=by intro ev x;simp [arows,tt,TI.knows]
@[go_sem] theorem tt_8:(∀ (k:IntKind) (n:Int),aconv (tt 3) (tt 5) (.int k n)=some (.int .u8 (wr .u8 n))):=by intros;rfl
@[go_sem] theorem tt_9:(∀ (k:IntKind) (n:Int),aconv (tt 3) (tt 68) (.int k n)=some (.int .u64 (wr .u64 n))):=by intros;rfl
@[go_sem] theorem tt_10:(∀ (k:IntKind) (n:Int),aconv (tt 3) (tt 94) (.int k n)=some (.int .u64 (wr .u64 n))):=by intros;rfl
@[go_sem] theorem tt_11:(∀ (s:AS) (p v:AV),aput (tt 3) s p v=aputz 1 s p v):=fun s p v=>aput_z rfl rfl s p v
@[go_sem] theorem tt_12:(∀ (s:AS) (p:AV),aload (tt 4) s p=(s.row p).bind fun r=>apart false 1 r.2 r.1):=by intro s p;unfold aload;cases s.row p <;> rfl
@[go_sem] theorem tt_13:(∀ ev:Operand→AV,arows tt ev (.alloc 4)=some (1,[[.bool false]],4)):=by intros;rfl
@[go_sem] theorem tt_14:(∀ (ev:Operand→AV) (x:Operand),arows tt ev (.box 4 x)=if noL (ev x)=true∧(ev x).cells.length=1∧(ev x).cells.all AV.cell=true then some (1,[(ev x).cells],4) else none):=by intro ev x;simp [arows,tt,TI.knows]
@[go_sem] theorem tt_15:(∀ c a b:Bool,abin (tt 4) .eql c (.bool a) (.bool b)=some (.bool (a == b))):=by intros;rfl
@[go_sem] theorem tt_16:(∀ c a b:Bool,abin (tt 4) .neq c (.bool a) (.bool b)=some (.bool (!(a == b)))):=by intros;rfl
@[go_sem] theorem tt_17:(∀ (s:AS) (p v:AV),aput (tt 4) s p v=aputz 1 s p v):=fun s p v=>aput_z rfl rfl s p v
@[go_sem] theorem tt_18:(∀ (s:AS) (p:AV),aload (tt 5) s p=(s.row p).bind fun r=>apart false 1 r.2 r.1):=by intro s p;unfold aload;cases s.row p <;> rfl
@[go_sem] theorem tt_19:(∀ ev:Operand→AV,arows tt ev (.alloc 5)=some (1,[[.int .u8 0]],5)):=by intros;rfl
@[go_sem] theorem tt_20:(∀ (ev:Operand→AV) (x:Operand),arows tt ev (.box 5 x)=if noL (ev x)=true∧(ev x).cells.length=1∧(ev x).cells.all AV.cell=true then some (1,[(ev x).cells],5) else none):=by intro ev x;simp [arows,tt,TI.knows]
@[go_sem] theorem tt_21:(∀ (k:IntKind) (n:Int),aconv (tt 5) (tt 3) (.int k n)=some (.int .i64 (wr .i64 n))):=by intros;rfl
@[go_sem] theorem tt_22:(∀ (k:IntKind) (n:Int),aconv (tt 5) (tt 21) (.int k n)=some (.int .i32 (wr .i32 n))):=by intros;rfl
@[go_sem] theorem tt_23:(∀ (k:IntKind) (n:Int),aconv (tt 5) (tt 68) (.int k n)=some (.int .u64 (wr .u64 n))):=by intros;rfl
@[go_sem] theorem tt_24:(∀ (k:IntKind) (n:Int),aconv (tt 5) (tt 118) (.int k n)=some (.int .u32 (wr .u32 n))):=by intros;rfl
@[go_sem] theorem tt_25:(∀ (s:AS) (p v:AV),aput (tt 5) s p v=aputz 1 s p v):=fun s p v=>aput_z rfl rfl s p v
@[go_sem] theorem tt_26:(∀ (s:AS) (p:AV),aload (tt 9) s p=(s.row p).bind fun r=>apart false 1 r.2 r.1):=by intro s p;unfold aload;cases s.row p <;> rfl
@[go_sem] theorem tt_27:(∀ ev:Operand→AV,arows tt ev (.alloc 9)=some (1,[[.str []]],9)):=by intros;rfl
@[go_sem] theorem tt_28:(∀ (ev:Operand→AV) (x:Operand),arows tt ev (.box 9 x)=if noL (ev x)=true∧(ev x).cells.length=1∧(ev x).cells.all AV.cell=true then some (1,[(ev x).cells],9) else none):=by intro ev x;simp [arows,tt,TI.knows]
@[go_sem] theorem tt_29:(∀ (ez:Nat) (l:List UInt8) (lo hi:Option AV),asl (tt 9) ez lo hi (.str l)=aslz l.length lo hi fun a b=>some (.str ((l.drop a).take (b - a)))):=fun ez l lo hi=>asl_str rfl ez lo hi l
@[go_sem] theorem tt_30:(∀ (l:List UInt8),alen (tt 9) (.str l)=some (l.length:Int)):=by intros;rfl
@[go_sem] theorem tt_31:(∀ (s:AS) (p v:AV),aput (tt 9) s p v=aputz 1 s p v):=fun s p v=>aput_z rfl rfl s p v
@[go_sem] theorem tt_32:(∀ (s:AS) (p:AV),aload (tt 21) s p=(s.row p).bind fun r=>apart false 1 r.2 r.1):=by intro s p;unfold aload;cases s.row p <;> rfl
@[go_sem] theorem tt_33:(∀ ev:Operand→AV,arows tt ev (.alloc 21)=some (1,[[.int .i32 0]],21)):=by intros;rfl
@[go_sem] theorem tt_34:(∀ (ev:Operand→AV) (x:Operand),arows tt ev (.box 21 x)=if noL (ev x)=true∧(ev x).cells.length=1∧(ev x).cells.all AV.cell=true then some (1,[(ev x).cells],21) else none):=by intro ev x;simp [arows,tt,TI.knows]
@[go_sem] theorem tt_35:(∀ (s:AS) (p v:AV),aput (tt 21) s p v=aputz 1 s p v):=fun s p v=>aput_z rfl rfl s p v
@[go_sem] theorem tt_36:(∀ (s:AS) (p:AV),aload (tt 22) s p=(s.row p).bind fun r=>apart false 1 r.2 r.1):=by intro s p;unfold aload;cases s.row p <;> rfl
@[go_sem] theorem tt_37:(∀ ev:Operand→AV,arows tt ev (.alloc 22)=some (1,[[.nils]],22)):=by intros;rfl
@[go_sem] theorem tt_38:(∀ (ev:Operand→AV) (x:Operand),arows tt ev (.box 22 x)=if noL (ev x)=true∧(ev x).cells.length=1∧(ev x).cells.all AV.cell=true then some (1,[(ev x).cells],22) else none):=by intro ev x;simp [arows,tt,TI.knows]
@[go_sem] theorem tt_39:(∀ (es:List (List AV)) (k:IntKind) (i:Int),aidx tt 22 (.lst 4 es) (.int k i)=if 0≤i∧i < es.length then some (.iptr (es.getD i.toNat []) 0) else none):=by intros;rfl
@[go_sem] theorem tt_40:(∀ (b:Bid) (o n:Nat) (k:IntKind) (i:Int),aidx tt 22 (.slc b 4 o n) (.int k i)=if 0≤i∧i < n then some (.ptr b (o+i.toNat) 0) else none):=by intros;rfl
@[go_sem] theorem tt_41:(∀ (b:Bid) (e o n:Nat),alen (tt 22) (.slc b e o n)=some (n:Int)):=by intros;rfl
@[go_sem] theorem tt_42:(∀ (e:Nat) (es:List (List AV)),alen (tt 22) (.lst e es)=some (es.length:Int)):=by intros;rfl
@[go_sem] theorem tt_43:(alen (tt 22) .nils=some 0):=by intros;rfl
@[go_sem] theorem tt_44:(∀ c:Bool,abin (tt 22) .eql c .nils .nils=some (.bool true)):=by intros;rfl
@[go_sem] theorem tt_45:(∀ (c:Bool) (b:Bid) (e i n:Nat),abin (tt 22) .eql c (.slc b e i n) .nils=some (.bool false)):=by intros;rfl
@[go_sem] theorem tt_46:(∀ (c:Bool) (e:Nat) (r:List AV) (es:List (List AV)),abin (tt 22) .eql c (.lst e (r :: es)) .nils=some (.bool false)):=by intros;rfl
@[go_sem] theorem tt_47:(∀ c:Bool,abin (tt 22) .neq c .nils .nils=some (.bool false)):=by intros;rfl
@[go_sem] theorem tt_48:(∀ (c:Bool) (b:Bid) (e i n:Nat),abin (tt 22) .neq c (.slc b e i n) .nils=some (.bool true)):=by intros;rfl
@[go_sem] theorem tt_49:(∀ (c:Bool) (e:Nat) (r:List AV) (es:List (List AV)),abin (tt 22) .neq c (.lst e (r :: es)) .nils=some (.bool true)):=by intros;rfl
@[go_sem] theorem tt_50:(elsize tt 22=4):=by intros;rfl
@[go_sem] theorem tt_51:(∀ (ev:Operand→AV) (n:Nat) (ps:List (Nat × Operand)),absl tt ev 22 n ps=if n≤16777216∧n * 4≤16777216∧ps.map (·.1)=List.range n∧(ps.all fun p=>noL (ev p.2) && ((ev p.2).cells.length == 4) && (ev p.2).cells.all AV.cell)=true then some (4,ps.map fun p=>(ev p.2).cells) else none):=by intros;rfl
@[go_sem] theorem tt_52:(∀ (k k':IntKind) (l c:Int),amake tt 22 (.int k l) (.int k' c)=if 0≤l∧l≤c∧c * 48≤70368744177664∧c≤70368744177664 then some (4,List.replicate l.toNat [.int .i64 0,.int .i64 0,.int .i64 0,.nils],l.toNat) else none):=by intros;rfl
@[go_sem] theorem tt_53:(∀ (h:AH) (x y:AV),acopy tt h 22 x y=acopyz 4 h x y):=fun h x y=>by unfold acopy acopyz;rfl
@[go_sem] theorem tt_54:(∀ (ez b1 o n:Nat) (b:Bid) (lo hi:Option AV),asl (tt 22) ez lo hi (.slc b b1 o n)=aslz n lo hi fun l h=>if b1=ez then some (.slc b b1 (o+l) (h - l)) else none):=fun ez b1 o n b lo hi=>asl_slc rfl ez lo hi b b1 o n
@[go_sem] theorem tt_55:(∀ (ez e:Nat) (es:List (List AV)) (lo hi:Option AV),asl (tt 22) ez lo hi (.lst e es)=aslz es.length lo hi fun l h=>if e=ez then some (.lst e ((es.drop l).take (h - l))) else none):=fun ez e es lo hi=>asl_lst rfl ez lo hi e es
@[go_sem] theorem tt_56:(∀ (h:AH) (id:Bid) (x y:AV),aapp tt h 22 id x y=aappz 4 48 h id x y):=fun h id x y=>by unfold aapp aappz;rfl
@[go_sem] theorem tt_57:(∀ (s:AS) (p v:AV),aput (tt 22) s p v=aputz 1 s p v):=fun s p v=>aput_z rfl rfl s p v
@[go_sem] theorem tt_58:(∀ (s:AS) (p:AV),aload (tt 23) s p=(s.row p).bind fun r=>apart false 1 r.2 r.1):=by intro s p;unfold aload;cases s.row p <;> rfl
@[go_sem] theorem tt_59:(∀ ev:Operand→AV,arows tt ev (.alloc 23)=some (1,[[.nils]],23)):=by intros;rfl
@[go_sem] theorem tt_60:(∀ (ev:Operand→AV) (x:Operand),arows tt ev (.box 23 x)=if noL (ev x)=true∧(ev x).cells.length=1∧(ev x).cells.all AV.cell=true then some (1,[(ev x).cells],23) else none):=by intro ev x;simp [arows,tt,TI.knows]
@[go_sem] theorem tt_61:(∀ (es:List (List AV)) (k:IntKind) (i:Int),aidx tt 23 (.lst 3 es) (.int k i)=if 0≤i∧i < es.length then some (.iptr (es.getD i.toNat []) 0) else none):=by intros;rfl
@[go_sem] theorem tt_62:(∀ (b:Bid) (o n:Nat) (k:IntKind) (i:Int),aidx tt 23 (.slc b 3 o n) (.int k i)=if 0≤i∧i < n then some (.ptr b (o+i.toNat) 0) else none):=by intros;rfl
@[go_sem] theorem tt_63:(∀ (b:Bid) (e o n:Nat),alen (tt 23) (.slc b e o n)=some (n:Int)):=by intros;rfl
@[go_sem] theorem tt_64:(∀ (e:Nat) (es:List (List AV)),alen (tt 23) (.lst e es)=some (es.length:Int)):=by intros;rfl
@[go_sem] theorem tt_65:(alen (tt 23) .nils=some 0):=by intros;rfl
@[go_sem] theorem tt_66:(∀ c:Bool,abin (tt 23) .eql c .nils .nils=some (.bool true)):=by intros;rfl
@[go_sem] theorem tt_67:(∀ (c:Bool) (b:Bid) (e i n:Nat),abin (tt 23) .eql c (.slc b e i n) .nils=some (.bool false)):=by intros;rfl
@[go_sem] theorem tt_68:(∀ (c:Bool) (e:Nat) (r:List AV) (es:List (List AV)),abin (tt 23) .eql c (.lst e (r :: es)) .nils=some (.bool false)):=by intros;rfl
@[go_sem] theorem tt_69:(∀ c:Bool,abin (tt 23) .neq c .nils .nils=some (.bool false)):=by intros;rfl
@[go_sem] theorem tt_70:(∀ (c:Bool) (b:Bid) (e i n:Nat),abin (tt 23) .neq c (.slc b e i n) .nils=some (.bool true)):=by intros;rfl
@[go_sem] theorem tt_71:(∀ (c:Bool) (e:Nat) (r:List AV) (es:List (List AV)),abin (tt 23) .neq c (.lst e (r :: es)) .nils=some (.bool true)):=by intros;rfl
@[go_sem] theorem tt_72:(elsize tt 23=3):=by intros;rfl
@[go_sem] theorem tt_73:(∀ (ev:Operand→AV) (n:Nat) (ps:List (Nat × Operand)),absl tt ev 23 n ps=if n≤16777216∧n * 3≤16777216∧ps.map (·.1)=List.range n∧(ps.all fun p=>noL (ev p.2) && ((ev p.2).cells.length == 3) && (ev p.2).cells.all AV.cell)=true then some (3,ps.map fun p=>(ev p.2).cells) else none):=by intros;rfl
@[go_sem] theorem tt_74:(∀ (k k':IntKind) (l c:Int),amake tt 23 (.int k l) (.int k' c)=if 0≤l∧l≤c∧c * 24≤70368744177664∧c≤70368744177664 then some (3,List.replicate l.toNat [.int .i64 0,.int .i64 0,.int .i64 0],l.toNat) else none):=by intros;rfl
@[go_sem] theorem tt_75:(∀ (h:AH) (x y:AV),acopy tt h 23 x y=acopyz 3 h x y):=fun h x y=>by unfold acopy acopyz;rfl
@[go_sem] theorem tt_76:(∀ (ez b1 o n:Nat) (b:Bid) (lo hi:Option AV),asl (tt 23) ez lo hi (.slc b b1 o n)=aslz n lo hi fun l h=>if b1=ez then some (.slc b b1 (o+l) (h - l)) else none):=fun ez b1 o n b lo hi=>asl_slc rfl ez lo hi b b1 o n
@[go_sem] theorem tt_77:(∀ (ez e:Nat) (es:List (List AV)) (lo hi:Option AV),asl (tt 23) ez lo hi (.lst e es)=aslz es.length lo hi fun l h=>if e=ez then some (.lst e ((es.drop l).take (h - l))) else none):=fun ez e es lo hi=>asl_lst rfl ez lo hi e es
@[go_sem] theorem tt_78:(∀ (h:AH) (id:Bid) (x y:AV),aapp tt h 23 id x y=aappz 3 24 h id x y):=fun h id x y=>by unfold aapp aappz;rfl
@[go_sem] theorem tt_79:(∀ (s:AS) (p v:AV),aput (tt 23) s p v=aputz 1 s p v):=fun s p v=>aput_z rfl rfl s p v
@[go_sem] theorem tt_80:(∀ (s:AS) (p:AV),aload (tt 25) s p=(s.row p).bind fun r=>apart true 2 r.2 r.1):=by intro s p;unfold aload;cases s.row p <;> rfl
@[go_sem] theorem tt_81:(∀ ev:Operand→AV,arows tt ev (.alloc 25)=some (2,[[.nils,.nils]],25)):=by intros;rfl
@[go_sem] theorem tt_82:(∀ (ev:Operand→AV) (x:Operand),arows tt ev (.box 25 x)=if noL (ev x)=true∧(ev x).cells.length=2∧(ev x).cells.all AV.cell=true then some (2,[(ev x).cells],25) else none):=by intro ev x;simp [arows,tt,TI.knows]
@[go_sem] theorem tt_83:(∀ v:AV,afieldAddr (tt 25) 0 v=amove 0 v):=by intros;rfl
@[go_sem] theorem tt_84:(∀ cs:List AV,afield (tt 25) 0 (.agg cs)=apart false 1 0 cs):=by intros;rfl
@[go_sem] theorem tt_85:(∀ v:AV,afieldAddr (tt 25) 1 v=amove 1 v):=by intros;rfl
@[go_sem] theorem tt_86:(∀ cs:List AV,afield (tt 25) 1 (.agg cs)=apart false 1 1 cs):=by intros;rfl
@[go_sem] theorem tt_87:(∀ ps:List (Nat × AV),abuild tt 25 ps=(afill (fun i=>([(0,1),(1,1)]:List (Nat × Nat))[i]?) [.nils,.nils] ps).map .agg):=fun ps=>by show Option.map _ (afill _ _ _)=_;congr 2;funext i;rw [← List.getElem?_map];rfl
@[go_sem] theorem tt_88:(∀ (s:AS) (p v:AV),aput (tt 25) s p v=aputz 2 s p v):=fun s p v=>aput_z rfl rfl s p v
@[go_sem] theorem tt_89:(∀ (s:AS) (p:AV),aload (tt 26) s p=(s.row p).bind fun r=>apart false 1 r.2 r.1):=by intro s p;unfold aload;cases s.row p <;> rfl
@[go_sem] theorem tt_90:(∀ ev:Operand→AV,arows tt ev (.alloc 26)=some (1,[[.nils]],26)):=by intros;rfl
@[go_sem] theorem tt_91:(∀ (ev:Operand→AV) (x:Operand),arows tt ev (.box 26 x)=if noL (ev x)=true∧(ev x).cells.length=1∧(ev x).cells.all AV.cell=true then some (1,[(ev x).cells],26) else none):=by intro ev x;simp [arows,tt,TI.knows]
@[go_sem] theorem tt_92:(∀ (es:List (List AV)) (k:IntKind) (i:Int),aidx tt 26 (.lst 1 es) (.int k i)=if 0≤i∧i < es.length then some (.iptr (es.getD i.toNat []) 0) else none):=by intros;rfl
@[go_sem] theorem tt_93:(∀ (b:Bid) (o n:Nat) (k:IntKind) (i:Int),aidx tt 26 (.slc b 1 o n) (.int k i)=if 0≤i∧i < n then some (.ptr b (o+i.toNat) 0) else none):=by intros;rfl
@[go_sem] theorem tt_94:(∀ (b:Bid) (e o n:Nat),alen (tt 26) (.slc b e o n)=some (n:Int)):=by intros;rfl
@[go_sem] theorem tt_95:(∀ (e:Nat) (es:List (List AV)),alen (tt 26) (.lst e es)=some (es.length:Int)):=by intros;rfl
@[go_sem] theorem tt_96:(alen (tt 26) .nils=some 0):=by intros;rfl
@[go_sem] theorem tt_97:(∀ c:Bool,abin (tt 26) .eql c .nils .nils=some (.bool true)):=by intros;rfl
@[go_sem] theorem tt_98:(∀ (c:Bool) (b:Bid) (e i n:Nat),abin (tt 26) .eql c (.slc b e i n) .nils=some (.bool false)):=by intros;rfl
@[go_sem] theorem tt_99:(∀ (c:Bool) (e:Nat) (r:List AV) (es:List (List AV)),abin (tt 26) .eql c (.lst e (r :: es)) .nils=some (.bool false)):=by intros;rfl
@[go_sem] theorem tt_100:(∀ c:Bool,abin (tt 26) .neq c .nils .nils=some (.bool false)):=by intros;rfl
@[go_sem] theorem tt_101:(∀ (c:Bool) (b:Bid) (e i n:Nat),abin (tt 26) .neq c (.slc b e i n) .nils=some (.bool true)):=by intros;rfl
@[go_sem] theorem tt_102:(∀ (c:Bool) (e:Nat) (r:List AV) (es:List (List AV)),abin (tt 26) .neq c (.lst e (r :: es)) .nils=some (.bool true)):=by intros;rfl
@[go_sem] theorem tt_103:(elsize tt 26=1):=by intros;rfl
@[go_sem] theorem tt_104:(∀ (ev:Operand→AV) (n:Nat) (ps:List (Nat × Operand)),absl tt ev 26 n ps=if n≤16777216∧n * 1≤16777216∧ps.map (·.1)=List.range n∧(ps.all fun p=>noL (ev p.2) && ((ev p.2).cells.length == 1) && (ev p.2).cells.all AV.cell)=true then some (1,ps.map fun p=>(ev p.2).cells) else none):=by intros;rfl
@[go_sem] theorem tt_105:(∀ (k k':IntKind) (l c:Int),amake tt 26 (.int k l) (.int k' c)=if 0≤l∧l≤c∧c * 8≤70368744177664∧c≤70368744177664 then some (1,List.replicate l.toNat [.int .i64 0],l.toNat) else none):=by intros;rfl
@[go_sem] theorem tt_106:(∀ (h:AH) (x y:AV),acopy tt h 26 x y=acopyz 1 h x y):=fun h x y=>by unfold acopy acopyz;rfl
@[go_sem] theorem tt_107:(∀ (ez b1 o n:Nat) (b:Bid) (lo hi:Option AV),asl (tt 26) ez lo hi (.slc b b1 o n)=aslz n lo hi fun l h=>if b1=ez then some (.slc b b1 (o+l) (h - l)) else none):=fun ez b1 o n b lo hi=>asl_slc rfl ez lo hi b b1 o n
@[go_sem] theorem tt_108:(∀ (ez e:Nat) (es:List (List AV)) (lo hi:Option AV),asl (tt 26) ez lo hi (.lst e es)=aslz es.length lo hi fun l h=>if e=ez then some (.lst e ((es.drop l).take (h - l))) else none):=fun ez e es lo hi=>asl_lst rfl ez lo hi e es
@[go_sem] theorem tt_109:(∀ (h:AH) (id:Bid) (x y:AV),aapp tt h 26 id x y=aappz 1 8 h id x y):=fun h id x y=>by unfold aapp aappz;rfl
@[go_sem] theorem tt_110:(∀ (s:AS) (p v:AV),aput (tt 26) s p v=aputz 1 s p v):=fun s p v=>aput_z rfl rfl s p v
@[go_sem] theorem tt_111:(∀ (s:AS) (p:AV),aload (tt 32) s p=(s.row p).bind fun r=>apart false 1 r.2 r.1):=by intro s p;unfold aload;cases s.row p <;> rfl
@[go_sem] theorem tt_112:(∀ ev:Operand→AV,arows tt ev (.alloc 32)=some (1,[[.nils]],32)):=by intros;rfl
@[go_sem] theorem tt_113:(∀ (ev:Operand→AV) (x:Operand),arows tt ev (.box 32 x)=if noL (ev x)=true∧(ev x).cells.length=1∧(ev x).cells.all AV.cell=true then some (1,[(ev x).cells],32) else none):=by intro ev x;simp [arows,tt,TI.knows]
@[go_sem] theorem tt_114:(∀ (es:List (List AV)) (k:IntKind) (i:Int),aidx tt 32 (.lst 2 es) (.int k i)=if 0≤i∧i < es.length then some (.iptr (es.getD i.toNat []) 0) else none):=by intros;rfl
@[go_sem] theorem tt_115:(∀ (b:Bid) (o n:Nat) (k:IntKind) (i:Int),aidx tt 32 (.slc b 2 o n) (.int k i)=if 0≤i∧i < n then some (.ptr b (o+i.toNat) 0) else none):=by intros;rfl
@[go_sem] theorem tt_116:(∀ (b:Bid) (e o n:Nat),alen (tt 32) (.slc b e o n)=some (n:Int)):=by intros;rfl
@[go_sem] theorem tt_117:(∀ (e:Nat) (es:List (List AV)),alen (tt 32) (.lst e es)=some (es.length:Int)):=by intros;rfl
@[go_sem] theorem tt_118:(alen (tt 32) .nils=some 0):=by intros;rfl
@[go_sem] theorem tt_119:(∀ c:Bool,abin (tt 32) .eql c .nils .nils=some (.bool true)):=by intros;rfl
@[go_sem] theorem tt_120:(∀ (c:Bool) (b:Bid) (e i n:Nat),abin (tt 32) .eql c (.slc b e i n) .nils=some (.bool false)):=by intros;rfl
@[go_sem] theorem tt_121:(∀ (c:Bool) (e:Nat) (r:List AV) (es:List (List AV)),abin (tt 32) .eql c (.lst e (r :: es)) .nils=some (.bool false)):=by intros;rfl
@[go_sem] theorem tt_122:(∀ c:Bool,abin (tt 32) .neq c .nils .nils=some (.bool false)):=by intros;rfl
@[go_sem] theorem tt_123:(∀ (c:Bool) (b:Bid) (e i n:Nat),abin (tt 32) .neq c (.slc b e i n) .nils=some (.bool true)):=by intros;rfl
@[go_sem] theorem tt_124:(∀ (c:Bool) (e:Nat) (r:List AV) (es:List (List AV)),abin (tt 32) .neq c (.lst e (r :: es)) .nils=some (.bool true)):=by intros;rfl
@[go_sem] theorem tt_125:(elsize tt 32=2):=by intros;rfl
@[go_sem] theorem tt_126:(∀ (ev:Operand→AV) (n:Nat) (ps:List (Nat × Operand)),absl tt ev 32 n ps=if n≤16777216∧n * 2≤16777216∧ps.map (·.1)=List.range n∧(ps.all fun p=>noL (ev p.2) && ((ev p.2).cells.length == 2) && (ev p.2).cells.all AV.cell)=true then some (2,ps.map fun p=>(ev p.2).cells) else none):=by intros;rfl
@[go_sem] theorem tt_127:(∀ (k k':IntKind) (l c:Int),amake tt 32 (.int k l) (.int k' c)=if 0≤l∧l≤c∧c * 48≤70368744177664∧c≤70368744177664 then some (2,List.replicate l.toNat [.nils,.nils],l.toNat) else none):=by intros;rfl
@[go_sem] theorem tt_128:(∀ (h:AH) (x y:AV),acopy tt h 32 x y=acopyz 2 h x y):=fun h x y=>by unfold acopy acopyz;rfl
@[go_sem] theorem tt_129:(∀ (ez b1 o n:Nat) (b:Bid) (lo hi:Option AV),asl (tt 32) ez lo hi (.slc b b1 o n)=aslz n lo hi fun l h=>if b1=ez then some (.slc b b1 (o+l) (h - l)) else none):=fun ez b1 o n b lo hi=>asl_slc rfl ez lo hi b b1 o n
@[go_sem] theorem tt_130:(∀ (ez e:Nat) (es:List (List AV)) (lo hi:Option AV),asl (tt 32) ez lo hi (.lst e es)=aslz es.length lo hi fun l h=>if e=ez then some (.lst e ((es.drop l).take (h - l))) else none):=fun ez e es lo hi=>asl_lst rfl ez lo hi e es
@[go_sem] theorem tt_131:(∀ (h:AH) (id:Bid) (x y:AV),aapp tt h 32 id x y=aappz 2 48 h id x y):=fun h id x y=>by unfold aapp aappz;rfl
@[go_sem] theorem tt_132:(∀ (s:AS) (p v:AV),aput (tt 32) s p v=aputz 1 s p v):=fun s p v=>aput_z rfl rfl s p v
@[go_sem] theorem tt_133:(∀ (s:AS) (p:AV),aload (tt 33) s p=(s.row p).bind fun r=>apart false 1 r.2 r.1):=by intro s p;unfold aload;cases s.row p <;> rfl
@[go_sem] theorem tt_134:(∀ ev:Operand→AV,arows tt ev (.alloc 33)=some (1,[[.nils]],33)):=by intros;rfl
@[go_sem] theorem tt_135:(∀ (ev:Operand→AV) (x:Operand),arows tt ev (.box 33 x)=if noL (ev x)=true∧(ev x).cells.length=1∧(ev x).cells.all AV.cell=true then some (1,[(ev x).cells],33) else none):=by intro ev x;simp [arows,tt,TI.knows]
@[go_sem] theorem tt_136:(∀ (es:List (List AV)) (k:IntKind) (i:Int),aidx tt 33 (.lst 1 es) (.int k i)=if 0≤i∧i < es.length then some (.iptr (es.getD i.toNat []) 0) else none):=by intros;rfl
@[go_sem] theorem tt_137:(∀ (b:Bid) (o n:Nat) (k:IntKind) (i:Int),aidx tt 33 (.slc b 1 o n) (.int k i)=if 0≤i∧i < n then some (.ptr b (o+i.toNat) 0) else none):=by intros;rfl
@[go_sem] theorem tt_138:(∀ (b:Bid) (e o n:Nat),alen (tt 33) (.slc b e o n)=some (n:Int)):=by intros;rfl
@[go_sem] theorem tt_139:(∀ (e:Nat) (es:List (List AV)),alen (tt 33) (.lst e es)=some (es.length:Int)):=by intros;rfl
@[go_sem] theorem tt_140:(alen (tt 33) .nils=some 0):=by intros;rfl
@[go_sem] theorem tt_141:(∀ c:Bool,abin (tt 33) .eql c .nils .nils=some (.bool true)):=by intros;rfl
@[go_sem] theorem tt_142:(∀ (c:Bool) (b:Bid) (e i n:Nat),abin (tt 33) .eql c (.slc b e i n) .nils=some (.bool false)):=by intros;rfl
@[go_sem] theorem tt_143:(∀ (c:Bool) (e:Nat) (r:List AV) (es:List (List AV)),abin (tt 33) .eql c (.lst e (r :: es)) .nils=some (.bool false)):=by intros;rfl
@[go_sem] theorem tt_144:(∀ c:Bool,abin (tt 33) .neq c .nils .nils=some (.bool false)):=by intros;rfl
@[go_sem] theorem tt_145:(∀ (c:Bool) (b:Bid) (e i n:Nat),abin (tt 33) .neq c (.slc b e i n) .nils=some (.bool true)):=by intros;rfl
@[go_sem] theorem tt_146:(∀ (c:Bool) (e:Nat) (r:List AV) (es:List (List AV)),abin (tt 33) .neq c (.lst e (r :: es)) .nils=some (.bool true)):=by intros;rfl
@[go_sem] theorem tt_147:(elsize tt 33=1):=by intros;rfl
@[go_sem] theorem tt_148:(∀ (ev:Operand→AV) (n:Nat) (ps:List (Nat × Operand)),absl tt ev 33 n ps=if n≤16777216∧n * 1≤16777216∧ps.map (·.1)=List.range n∧(ps.all fun p=>noL (ev p.2) && ((ev p.2).cells.length == 1) && (ev p.2).cells.all AV.cell)=true then some (1,ps.map fun p=>(ev p.2).cells) else none):=by intros;rfl
@[go_sem] theorem tt_149:(∀ (k k':IntKind) (l c:Int),amake tt 33 (.int k l) (.int k' c)=if 0≤l∧l≤c∧c * 16≤70368744177664∧c≤70368744177664 then some (1,List.replicate l.toNat [.str []],l.toNat) else none):=by intros;rfl
@[go_sem] theorem tt_150:(∀ (h:AH) (x y:AV),acopy tt h 33 x y=acopyz 1 h x y):=fun h x y=>by unfold acopy acopyz;rfl
@[go_sem] theorem tt_151:(∀ (ez b1 o n:Nat) (b:Bid) (lo hi:Option AV),asl (tt 33) ez lo hi (.slc b b1 o n)=aslz n lo hi fun l h=>if b1=ez then some (.slc b b1 (o+l) (h - l)) else none):=fun ez b1 o n b lo hi=>asl_slc rfl ez lo hi b b1 o n
@[go_sem] theorem tt_152:(∀ (ez e:Nat) (es:List (List AV)) (lo hi:Option AV),asl (tt 33) ez lo hi (.lst e es)=aslz es.length lo hi fun l h=>if e=ez then some (.lst e ((es.drop l).take (h - l))) else none):=fun ez e es lo hi=>asl_lst rfl ez lo hi e es
@[go_sem] theorem tt_153:(∀ (h:AH) (id:Bid) (x y:AV),aapp tt h 33 id x y=aappz 1 16 h id x y):=fun h id x y=>by unfold aapp aappz;rfl
@[go_sem] theorem tt_154:(∀ (s:AS) (p v:AV),aput (tt 33) s p v=aputz 1 s p v):=fun s p v=>aput_z rfl rfl s p v
@[go_sem] theorem tt_155:(∀ (s:AS) (p:AV),aload (tt 34) s p=(s.row p).bind fun r=>apart false 1 r.2 r.1):=by intro s p;unfold aload;cases s.row p <;> rfl
@[go_sem] theorem tt_156:(∀ ev:Operand→AV,arows tt ev (.alloc 34)=some (1,[[.int .i64 0]],34)):=by intros;rfl
@[go_sem] theorem tt_157:(∀ (ev:Operand→AV) (x:Operand),arows tt ev (.box 34 x)=if noL (ev x)=true∧(ev x).cells.length=1∧(ev x).cells.all AV.cell=true then some (1,[(ev x).cells],34) else none):=by intro ev x;simp [arows,tt,TI.knows]
@[go_sem] theorem tt_158:(∀ (s:AS) (p v:AV),aput (tt 34) s p v=aputz 1 s p v):=fun s p v=>aput_z rfl rfl s p v
@[go_sem] theorem tt_159:(∀ (s:AS) (p:AV),aload (tt 44) s p=(s.row p).bind fun r=>apart true 4 r.2 r.1):=by intro s p;unfold aload;cases s.row p <;> rfl
@[go_sem] theorem tt_160:(∀ ev:Operand→AV,arows tt ev (.alloc 44)=some (4,[[.int .i64 0,.int .i64 0,.int .i64 0,.nils]],44)):=by intros;rfl
@[go_sem] theorem tt_161:(∀ (ev:Operand→AV) (x:Operand),arows tt ev (.box 44 x)=if noL (ev x)=true∧(ev x).cells.length=4∧(ev x).cells.all AV.cell=true then some (4,[(ev x).cells],44) else none):=by intro ev x;simp [arows,tt,TI.knows]
@[go_sem] theorem tt_162:(∀ v:AV,afieldAddr (tt 44) 0 v=amove 0 v):=by intros;rfl
@[go_sem] theorem tt_163:(∀ cs:List AV,afield (tt 44) 0 (.agg cs)=apart false 1 0 cs):=by intros;rfl
@[go_sem] theorem tt_164:(∀ v:AV,afieldAddr (tt 44) 1 v=amove 1 v):=by intros;rfl
@[go_sem] theorem tt_165:(∀ cs:List AV,afield (tt 44) 1 (.agg cs)=apart false 1 1 cs):=by intros;rfl
@[go_sem] theorem tt_166:(∀ v:AV,afieldAddr (tt 44) 2 v=amove 2 v):=by intros;rfl
@[go_sem] theorem tt_167:(∀ cs:List AV,afield (tt 44) 2 (.agg cs)=apart false 1 2 cs):=by intros;rfl
@[go_sem] theorem tt_168:(∀ v:AV,afieldAddr (tt 44) 3 v=amove 3 v):=by intros;rfl
@[go_sem] theorem tt_169:(∀ cs:List AV,afield (tt 44) 3 (.agg cs)=apart false 1 3 cs):=by intros;rfl
@[go_sem] theorem tt_170:(∀ ps:List (Nat × AV),abuild tt 44 ps=(afill (fun i=>([(0,1),(1,1),(2,1),(3,1)]:List (Nat × Nat))[i]?) [.int .i64 0,.int .i64 0,.int .i64 0,.nils] ps).map .agg):=fun ps=>by show Option.map _ (afill _ _ _)=_;congr 2;funext i;rw [← List.getElem?_map];rfl
@[go_sem] theorem tt_171:(∀ (s:AS) (p v:AV),aput (tt 44) s p v=aputz 4 s p v):=fun s p v=>aput_z rfl rfl s p v
@[go_sem] theorem tt_172:(∀ (s:AS) (p:AV),aload (tt 45) s p=(s.row p).bind fun r=>apart false 1 r.2 r.1):=by intro s p;unfold aload;cases s.row p <;> rfl
@[go_sem] theorem tt_173:(∀ ev:Operand→AV,arows tt ev (.alloc 45)=some (1,[[.nils]],45)):=by intros;rfl
@[go_sem] theorem tt_174:(∀ (ev:Operand→AV) (x:Operand),arows tt ev (.box 45 x)=if noL (ev x)=true∧(ev x).cells.length=1∧(ev x).cells.all AV.cell=true then some (1,[(ev x).cells],45) else none):=by intro ev x;simp [arows,tt,TI.knows]
@[go_sem] theorem tt_175:(∀ (es:List (List AV)) (k:IntKind) (i:Int),aidx tt 45 (.lst 1 es) (.int k i)=if 0≤i∧i < es.length then some (.iptr (es.getD i.toNat []) 0) else none):=by intros;rfl
@[go_sem] theorem tt_176:(∀ (b:Bid) (o n:Nat) (k:IntKind) (i:Int),aidx tt 45 (.slc b 1 o n) (.int k i)=if 0≤i∧i < n then some (.ptr b (o+i.toNat) 0) else none):=by intros;rfl
@[go_sem] theorem tt_177:(∀ (b:Bid) (e o n:Nat),alen (tt 45) (.slc b e o n)=some (n:Int)):=by intros;rfl
@[go_sem] theorem tt_178:(∀ (e:Nat) (es:List (List AV)),alen (tt 45) (.lst e es)=some (es.length:Int)):=by intros;rfl
@[go_sem] theorem tt_179:(alen (tt 45) .nils=some 0):=by intros;rfl
@[go_sem] theorem tt_180:(∀ c:Bool,abin (tt 45) .eql c .nils .nils=some (.bool true)):=by intros;rfl
@[go_sem] theorem tt_181:(∀ (c:Bool) (b:Bid) (e i n:Nat),abin (tt 45) .eql c (.slc b e i n) .nils=some (.bool false)):=by intros;rfl
@[go_sem] theorem tt_182:(∀ (c:Bool) (e:Nat) (r:List AV) (es:List (List AV)),abin (tt 45) .eql c (.lst e (r :: es)) .nils=some (.bool false)):=by intros;rfl
@[go_sem] theorem tt_183:(∀ c:Bool,abin (tt 45) .neq c .nils .nils=some (.bool false)):=by intros;rfl
@[go_sem] theorem tt_184:(∀ (c:Bool) (b:Bid) (e i n:Nat),abin (tt 45) .neq c (.slc b e i n) .nils=some (.bool true)):=by intros;rfl
@[go_sem] theorem tt_185:(∀ (c:Bool) (e:Nat) (r:List AV) (es:List (List AV)),abin (tt 45) .neq c (.lst e (r :: es)) .nils=some (.bool true)):=by intros;rfl
@[go_sem] theorem tt_186:(elsize tt 45=1):=by intros;rfl
@[go_sem] theorem tt_187:(∀ (ev:Operand→AV) (n:Nat) (ps:List (Nat × Operand)),absl tt ev 45 n ps=if n≤16777216∧n * 1≤16777216∧ps.map (·.1)=List.range n∧(ps.all fun p=>noL (ev p.2) && ((ev p.2).cells.length == 1) && (ev p.2).cells.all AV.cell)=true then some (1,ps.map fun p=>(ev p.2).cells) else none):=by intros;rfl
@[go_sem] theorem tt_188:(∀ (k k':IntKind) (l c:Int),amake tt 45 (.int k l) (.int k' c)=if 0≤l∧l≤c∧c * 24≤70368744177664∧c≤70368744177664 then some (1,List.replicate l.toNat [.nils],l.toNat) else none):=by intros;rfl
@[go_sem] theorem tt_189:(∀ (h:AH) (x y:AV),acopy tt h 45 x y=acopyz 1 h x y):=fun h x y=>by unfold acopy acopyz;rfl
@[go_sem] theorem tt_190:(∀ (ez b1 o n:Nat) (b:Bid) (lo hi:Option AV),asl (tt 45) ez lo hi (.slc b b1 o n)=aslz n lo hi fun l h=>if b1=ez then some (.slc b b1 (o+l) (h - l)) else none):=fun ez b1 o n b lo hi=>asl_slc rfl ez lo hi b b1 o n
@[go_sem] theorem tt_191:(∀ (ez e:Nat) (es:List (List AV)) (lo hi:Option AV),asl (tt 45) ez lo hi (.lst e es)=aslz es.length lo hi fun l h=>if e=ez then some (.lst e ((es.drop l).take (h - l))) else none):=fun ez e es lo hi=>asl_lst rfl ez lo hi e es
@[go_sem] theorem tt_192:(∀ (h:AH) (id:Bid) (x y:AV),aapp tt h 45 id x y=aappz 1 24 h id x y):=fun h id x y=>by unfold aapp aappz;rfl
@[go_sem] theorem tt_193:(∀ (s:AS) (p v:AV),aput (tt 45) s p v=aputz 1 s p v):=fun s p v=>aput_z rfl rfl s p v
@[go_sem] theorem tt_194:(∀ (s:AS) (p:AV),aload (tt 53) s p=(s.row p).bind fun r=>apart true 2 r.2 r.1):=by intro s p;unfold aload;cases s.row p <;> rfl
@[go_sem] theorem tt_195:(∀ ev:Operand→AV,arows tt ev (.alloc 53)=some (2,[[.int .i64 0,.int .i64 0]],53)):=by intros;rfl
@[go_sem] theorem tt_196:(∀ (ev:Operand→AV) (x:Operand),arows tt ev (.box 53 x)=if noL (ev x)=true∧(ev x).cells.length=2∧(ev x).cells.all AV.cell=true then some (2,[(ev x).cells],53) else none):=by intro ev x;simp [arows,tt,TI.knows]
@[go_sem] theorem tt_197:(∀ v:AV,afieldAddr (tt 53) 0 v=amove 0 v):=by intros;rfl
@[go_sem] theorem tt_198:(∀ cs:List AV,afield (tt 53) 0 (.agg cs)=apart false 1 0 cs):=by intros;rfl
@[go_sem] theorem tt_199:(∀ v:AV,afieldAddr (tt 53) 1 v=amove 1 v):=by intros;rfl
@[go_sem] theorem tt_200:(∀ cs:List AV,afield (tt 53) 1 (.agg cs)=apart false 1 1 cs):=by intros;rfl
@[go_sem] theorem tt_201:(∀ ps:List (Nat × AV),abuild tt 53 ps=(afill (fun i=>([(0,1),(1,1)]:List (Nat × Nat))[i]?) [.int .i64 0,.int .i64 0] ps).map .agg):=fun ps=>by show Option.map _ (afill _ _ _)=_;congr 2;funext i;rw [← List.getElem?_map];rfl
@[go_sem] theorem tt_202:(∀ (c:Bool) (x y:List AV),abin (tt 53) .eql c (.agg x) (.agg y)=aeql 2 (fun b=>b) (ints x) (ints y)):=fun c x y=>by cases hx:ints x <;> cases hy:ints y <;> simp [tt,abin,abinB,aeql,hx,hy]
@[go_sem] theorem tt_203:(∀ (c:Bool) (x y:List AV),abin (tt 53) .neq c (.agg x) (.agg y)=aeql 2 (fun b=>!b) (ints x) (ints y)):=fun c x y=>by cases hx:ints x <;> cases hy:ints y <;> simp [tt,abin,abinB,aeql,hx,hy]
@[go_sem] theorem tt_204:(∀ (s:AS) (p v:AV),aput (tt 53) s p v=aputz 2 s p v):=fun s p v=>aput_z rfl rfl s p v
@[go_sem] theorem tt_205:(∀ (s:AS) (p:AV),aload (tt 67) s p=(s.row p).bind fun r=>apart true 3 r.2 r.1):=by intro s p;unfold aload;cases s.row p <;> rfl
@[go_sem] theorem tt_206:(∀ ev:Operand→AV,arows tt ev (.alloc 67)=some (3,[[.int .i64 0,.int .i64 0,.int .i64 0]],67)):=by intros;rfl
@[go_sem] theorem tt_207:(∀ (ev:Operand→AV) (x:Operand),arows tt ev (.box 67 x)=if noL (ev x)=true∧(ev x).cells.length=3∧(ev x).cells.all AV.cell=true then some (3,[(ev x).cells],67) else none):=by intro ev x;simp [arows,tt,TI.knows]
@[go_sem] theorem tt_208:(∀ v:AV,afieldAddr (tt 67) 0 v=amove 0 v):=by intros;rfl
@[go_sem] theorem tt_209:(∀ cs:List AV,afield (tt 67) 0 (.agg cs)=apart false 1 0 cs):=by intros;rfl
@[go_sem] theorem tt_210:(∀ v:AV,afieldAddr (tt 67) 1 v=amove 1 v):=by intros;rfl
@[go_sem] theorem tt_211:(∀ cs:List AV,afield (tt 67) 1 (.agg cs)=apart false 1 1 cs):=by intros;rfl
@[go_sem] theorem tt_212:(∀ v:AV,afieldAddr (tt 67) 2 v=amove 2 v):=by intros;rfl
@[go_sem] theorem tt_213:(∀ cs:List AV,afield (tt 67) 2 (.agg cs)=apart false 1 2 cs):=by intros;rfl
@[go_sem] theorem tt_214:(∀ ps:List (Nat × AV),abuild tt 67 ps=(afill (fun i=>([(0,1),(1,1),(2,1)]:List (Nat × Nat))[i]?) [.int .i64 0,.int .i64 0,.int .i64 0] ps).map .agg):=fun ps=>by show Option.map _ (afill _ _ _)=_;congr 2;funext i;rw [← List.getElem?_map];rfl
@[go_sem] theorem tt_215:(∀ (c:Bool) (x y:List AV),abin (tt 67) .eql c (.agg x) (.agg y)=aeql 3 (fun b=>b) (ints x) (ints y)):=fun c x y=>by cases hx:ints x <;> cases hy:ints y <;> simp [tt,abin,abinB,aeql,hx,hy]
@[go_sem] theorem tt_216:(∀ (c:Bool) (x y:List AV),abin (tt 67) .neq c (.agg x) (.agg y)=aeql 3 (fun b=>!b) (ints x) (ints y)):=fun c x y=>by cases hx:ints x <;> cases hy:ints y <;> simp [tt,abin,abinB,aeql,hx,hy]
@[go_sem] theorem tt_217:(∀ (s:AS) (p v:AV),aput (tt 67) s p v=aputz 3 s p v):=fun s p v=>aput_z rfl rfl s p v
@[go_sem] theorem tt_218:(∀ (s:AS) (p:AV),aload (tt 68) s p=(s.row p).bind fun r=>apart false 1 r.2 r.1):=by intro s p;unfold aload;cases s.row p <;> rfl
@[go_sem] theorem tt_219:(∀ ev:Operand→AV,arows tt ev (.alloc 68)=some (1,[[.int .u64 0]],68)):=by intros;rfl
@[go_sem] theorem tt_220:(∀ (ev:Operand→AV) (x:Operand),arows tt ev (.box 68 x)=if noL (ev x)=true∧(ev x).cells.length=1∧(ev x).cells.all AV.cell=true then some (1,[(ev x).cells],68) else none):=by intro ev x;simp [arows,tt,TI.knows]
@[go_sem] theorem tt_221:(∀ (k:IntKind) (n:Int),aconv (tt 68) (tt 2) (.int k n)=some (.int .i64 (wr .i64 n))):=by intros;rfl
@[go_sem] theorem tt_222:(∀ (k:IntKind) (n:Int),aconv (tt 68) (tt 3) (.int k n)=some (.int .i64 (wr .i64 n))):=by intros;rfl
@[go_sem] theorem tt_223:(∀ (k:IntKind) (n:Int),aconv (tt 68) (tt 5) (.int k n)=some (.int .u8 (wr .u8 n))):=by intros;rfl
@[go_sem] theorem tt_224:(∀ (k:IntKind) (n:Int),aconv (tt 68) (tt 118) (.int k n)=some (.int .u32 (wr .u32 n))):=by intros;rfl
@[go_sem] theorem tt_225:(∀ (s:AS) (p v:AV),aput (tt 68) s p v=aputz 1 s p v):=fun s p v=>aput_z rfl rfl s p v
@[go_sem] theorem tt_226:(∀ (s:AS) (p:AV),aload (tt 70) s p=(s.row p).bind fun r=>apart true 1 r.2 r.1):=by intro s p;unfold aload;cases s.row p <;> rfl
@[go_sem] theorem tt_227:(∀ ev:Operand→AV,arows tt ev (.alloc 70)=some (1,[[.int .u64 0]],70)):=by intros;rfl
@[go_sem] theorem tt_228:(∀ (ev:Operand→AV) (x:Operand),arows tt ev (.box 70 x)=if noL (ev x)=true∧(ev x).cells.length=1∧(ev x).cells.all AV.cell=true then some (1,[(ev x).cells],70) else none):=by intro ev x;simp [arows,tt,TI.knows]
@[go_sem] theorem tt_229:(∀ v:AV,afieldAddr (tt 70) 0 v=amove 0 v):=by intros;rfl
@[go_sem] theorem tt_230:(∀ cs:List AV,afield (tt 70) 0 (.agg cs)=apart false 1 0 cs):=by intros;rfl
@[go_sem] theorem tt_231:(∀ ps:List (Nat × AV),abuild tt 70 ps=(afill (fun i=>([(0,1)]:List (Nat × Nat))[i]?) [.int .u64 0] ps).map .agg):=fun ps=>by show Option.map _ (afill _ _ _)=_;congr 2;funext i;rw [← List.getElem?_map];rfl
@[go_sem] theorem tt_232:(∀ (s:AS) (p v:AV),aput (tt 70) s p v=aputz 1 s p v):=fun s p v=>aput_z rfl rfl s p v
@[go_sem] theorem tt_233:(∀ (s:AS) (p:AV),aload (tt 73) s p=(s.row p).bind fun r=>apart false 1 r.2 r.1):=by intro s p;unfold aload;cases s.row p <;> rfl
@[go_sem] theorem tt_234:(∀ ev:Operand→AV,arows tt ev (.alloc 73)=some (1,[[.nilp]],73)):=by intros;rfl
@[go_sem] theorem tt_235:(∀ (ev:Operand→AV) (x:Operand),arows tt ev (.box 73 x)=if noL (ev x)=true∧(ev x).cells.length=1∧(ev x).cells.all AV.cell=true then some (1,[(ev x).cells],73) else none):=by intro ev x;simp [arows,tt,TI.knows]
@[go_sem] theorem tt_236:(∀ (s:AS) (p v:AV),aput (tt 73) s p v=aputz 1 s p v):=fun s p v=>aput_z rfl rfl s p v
@[go_sem] theorem tt_237:(∀ (s:AS) (p:AV),aload (tt 74) s p=(s.row p).bind fun r=>apart false 1 r.2 r.1):=by intro s p;unfold aload;cases s.row p <;> rfl
@[go_sem] theorem tt_238:(∀ ev:Operand→AV,arows tt ev (.alloc 74)=some (1,[[.nils]],74)):=by intros;rfl
@[go_sem] theorem tt_239:(∀ (ev:Operand→AV) (x:Operand),arows tt ev (.box 74 x)=if noL (ev x)=true∧(ev x).cells.length=1∧(ev x).cells.all AV.cell=true then some (1,[(ev x).cells],74) else none):=by intro ev x;simp [arows,tt,TI.knows]
@[go_sem] theorem tt_240:(∀ (es:List (List AV)) (k:IntKind) (i:Int),aidx tt 74 (.lst 1 es) (.int k i)=if 0≤i∧i < es.length then some (.iptr (es.getD i.toNat []) 0) else none):=by intros;rfl
@[go_sem] theorem tt_241:(∀ (b:Bid) (o n:Nat) (k:IntKind) (i:Int),aidx tt 74 (.slc b 1 o n) (.int k i)=if 0≤i∧i < n then some (.ptr b (o+i.toNat) 0) else none):=by intros;rfl
@[go_sem] theorem tt_242:(∀ (b:Bid) (e o n:Nat),alen (tt 74) (.slc b e o n)=some (n:Int)):=by intros;rfl
@[go_sem] theorem tt_243:(∀ (e:Nat) (es:List (List AV)),alen (tt 74) (.lst e es)=some (es.length:Int)):=by intros;rfl
@[go_sem] theorem tt_244:(alen (tt 74) .nils=some 0):=by intros;rfl
@[go_sem] theorem tt_245:(∀ c:Bool,abin (tt 74) .eql c .nils .nils=some (.bool true)):=by intros;rfl
@[go_sem] theorem tt_246:(∀ (c:Bool) (b:Bid) (e i n:Nat),abin (tt 74) .eql c (.slc b e i n) .nils=some (.bool false)):=by intros;rfl
@[go_sem] theorem tt_247:(∀ (c:Bool) (e:Nat) (r:List AV) (es:List (List AV)),abin (tt 74) .eql c (.lst e (r :: es)) .nils=some (.bool false)):=by intros;rfl
@[go_sem] theorem tt_248:(∀ c:Bool,abin (tt 74) .neq c .nils .nils=some (.bool false)):=by intros;rfl
@[go_sem] theorem tt_249:(∀ (c:Bool) (b:Bid) (e i n:Nat),abin (tt 74) .neq c (.slc b e i n) .nils=some (.bool true)):=by intros;rfl
@[go_sem] theorem tt_250:(∀ (c:Bool) (e:Nat) (r:List AV) (es:List (List AV)),abin (tt 74) .neq c (.lst e (r :: es)) .nils=some (.bool true)):=by intros;rfl
@[go_sem] theorem tt_251:(elsize tt 74=1):=by intros;rfl
@[go_sem] theorem tt_252:(∀ (ev:Operand→AV) (n:Nat) (ps:List (Nat × Operand)),absl tt ev 74 n ps=if n≤16777216∧n * 1≤16777216∧ps.map (·.1)=List.range n∧(ps.all fun p=>noL (ev p.2) && ((ev p.2).cells.length == 1) && (ev p.2).cells.all AV.cell)=true then some (1,ps.map fun p=>(ev p.2).cells) else none):=by intros;rfl
@[go_sem] theorem tt_253:(∀ (k k':IntKind) (l c:Int),amake tt 74 (.int k l) (.int k' c)=if 0≤l∧l≤c∧c * 1≤70368744177664∧c≤70368744177664 then some (1,List.replicate l.toNat [.int .u8 0],l.toNat) else none):=by intros;rfl
@[go_sem] theorem tt_254:(∀ (h:AH) (x y:AV),acopy tt h 74 x y=acopyz 1 h x y):=fun h x y=>by unfold acopy acopyz;rfl
@[go_sem] theorem tt_255:(∀ (ez b1 o n:Nat) (b:Bid) (lo hi:Option AV),asl (tt 74) ez lo hi (.slc b b1 o n)=aslz n lo hi fun l h=>if b1=ez then some (.slc b b1 (o+l) (h - l)) else none):=fun ez b1 o n b lo hi=>asl_slc rfl ez lo hi b b1 o n
@[go_sem] theorem tt_256:(∀ (ez e:Nat) (es:List (List AV)) (lo hi:Option AV),asl (tt 74) ez lo hi (.lst e es)=aslz es.length lo hi fun l h=>if e=ez then some (.lst e ((es.drop l).take (h - l))) else none):=fun ez e es lo hi=>asl_lst rfl ez lo hi e es
@[go_sem] theorem tt_257:(∀ (h:AH) (id:Bid) (x y:AV),aapp tt h 74 id x y=aappz 1 1 h id x y):=fun h id x y=>by unfold aapp aappz;rfl
@[go_sem] theorem tt_258:(∀ (s:AS) (p v:AV),aput (tt 74) s p v=aputz 1 s p v):=fun s p v=>aput_z rfl rfl s p v
@[go_sem] theorem tt_259:(∀ (s:AS) (p:AV),aload (tt 76) s p=(s.row p).bind fun r=>apart true 2 r.2 r.1):=by intro s p;unfold aload;cases s.row p <;> rfl
@[go_sem] theorem tt_260:(∀ ev:Operand→AV,arows tt ev (.alloc 76)=some (2,[[.nilp,.nils]],76)):=by intros;rfl
@[go_sem] theorem tt_261:(∀ (ev:Operand→AV) (x:Operand),arows tt ev (.box 76 x)=if noL (ev x)=true∧(ev x).cells.length=2∧(ev x).cells.all AV.cell=true then some (2,[(ev x).cells],76) else none):=by intro ev x;simp [arows,tt,TI.knows]
@[go_sem] theorem tt_262:(∀ v:AV,afieldAddr (tt 76) 0 v=amove 0 v):=by intros;rfl
@[go_sem] theorem tt_263:(∀ cs:List AV,afield (tt 76) 0 (.agg cs)=apart false 1 0 cs):=by intros;rfl
@[go_sem] theorem tt_264:(∀ v:AV,afieldAddr (tt 76) 1 v=amove 1 v):=by intros;rfl
@[go_sem] theorem tt_265:(∀ cs:List AV,afield (tt 76) 1 (.agg cs)=apart false 1 1 cs):=by intros;rfl
@[go_sem] theorem tt_266:(∀ ps:List (Nat × AV),abuild tt 76 ps=(afill (fun i=>([(0,1),(1,1)]:List (Nat × Nat))[i]?) [.nilp,.nils] ps).map .agg):=fun ps=>by show Option.map _ (afill _ _ _)=_;congr 2;funext i;rw [← List.getElem?_map];rfl
@[go_sem] theorem tt_267:(∀ (s:AS) (p v:AV),aput (tt 76) s p v=aputz 2 s p v):=fun s p v=>aput_z rfl rfl s p v
@[go_sem] theorem tt_268:(∀ (s:AS) (p:AV),aload (tt 84) s p=(s.row p).bind fun r=>apart false 1 r.2 r.1):=by intro s p;unfold aload;cases s.row p <;> rfl
@[go_sem] theorem tt_269:(∀ ev:Operand→AV,arows tt ev (.alloc 84)=some (1,[[.int .i64 0]],84)):=by intros;rfl
@[go_sem] theorem tt_270:(∀ (ev:Operand→AV) (x:Operand),arows tt ev (.box 84 x)=if noL (ev x)=true∧(ev x).cells.length=1∧(ev x).cells.all AV.cell=true then some (1,[(ev x).cells],84) else none):=by intro ev x;simp [arows,tt,TI.knows]
@[go_sem] theorem tt_271:(∀ (k:IntKind) (n:Int),aconv (tt 84) (tt 94) (.int k n)=some (.int .u64 (wr .u64 n))):=by intros;rfl
@[go_sem] theorem tt_272:(∀ (s:AS) (p v:AV),aput (tt 84) s p v=aputz 1 s p v):=fun s p v=>aput_z rfl rfl s p v
@[go_sem] theorem tt_273:(∀ (s:AS) (p:AV),aload (tt 88) s p=(s.row p).bind fun r=>apart true 8 r.2 r.1):=by intro s p;unfold aload;cases s.row p <;> rfl
@[go_sem] theorem tt_274:(∀ ev:Operand→AV,arows tt ev (.alloc 88)=some (8,[[.int .i64 0,.int .i64 0,.int .i64 0,.int .i64 0,.int .i64 0,.int .i64 0,.int .i64 0,.int .i64 0]],88)):=by intros;rfl
@[go_sem] theorem tt_275:(∀ (ev:Operand→AV) (x:Operand),arows tt ev (.box 88 x)=if noL (ev x)=true∧(ev x).cells.length=8∧(ev x).cells.all AV.cell=true then some (8,[(ev x).cells],88) else none):=by intro ev x;simp [arows,tt,TI.knows]
@[go_sem] theorem tt_276:(∀ (v:AV) (k:IntKind) (i:Int),aidx tt 88 v (.int k i)=if 0≤i∧i < 8 then amove (i.toNat * 1) v else none):=by intros;rfl
@[go_sem] theorem tt_277:(∀ (cs:List AV) (k:IntKind) (i:Int),aindex tt 88 (.agg cs) (.int k i)=if 0≤i∧i < 8 then apart false 1 (i.toNat * 1) cs else none):=by intros;rfl
@[go_sem] theorem tt_278:(∀ ps:List (Nat × AV),abuild tt 88 ps=(afill (fun i=>some (i * 1,1)) [.int .i64 0,.int .i64 0,.int .i64 0,.int .i64 0,.int .i64 0,.int .i64 0,.int .i64 0,.int .i64 0] ps).map .agg):=by intros;rfl
@[go_sem] theorem tt_279:(elsize tt 88=1):=by intros;rfl
@[go_sem] theorem tt_280:(∀ (b:Bid) (m j:Nat),asl (tt 88) 1 none none (.aptr b m j)=if j+8≤m then some (.slc b 1 j 8) else none):=fun b m j=>asl_aptr rfl (by decide) b m j
@[go_sem] theorem tt_281:(∀ (cs:List AV) (j:Nat),asl (tt 88) 1 none none (.iptr cs j)=if j+8≤cs.length then some (.lstx 1 (((cs.drop j).take 8).map fun x=>[x])) else none):=fun cs j=>asl_iptr rfl cs j
@[go_sem] theorem tt_282:(∀ (s:AS) (p v:AV),aput (tt 88) s p v=aputz 8 s p v):=fun s p v=>aput_z rfl rfl s p v
@[go_sem] theorem tt_283:(∀ (s:AS) (p:AV),aload (tt 94) s p=(s.row p).bind fun r=>apart false 1 r.2 r.1):=by intro s p;unfold aload;cases s.row p <;> rfl
@[go_sem] theorem tt_284:(∀ ev:Operand→AV,arows tt ev (.alloc 94)=some (1,[[.int .u64 0]],94)):=by intros;rfl
@[go_sem] theorem tt_285:(∀ (ev:Operand→AV) (x:Operand),arows tt ev (.box 94 x)=if noL (ev x)=true∧(ev x).cells.length=1∧(ev x).cells.all AV.cell=true then some (1,[(ev x).cells],94) else none):=by intro ev x;simp [arows,tt,TI.knows]
@[go_sem] theorem tt_286:(∀ (k:IntKind) (n:Int),aconv (tt 94) (tt 118) (.int k n)=some (.int .u32 (wr .u32 n))):=by intros;rfl
@[go_sem] theorem tt_287:(∀ (s:AS) (p v:AV),aput (tt 94) s p v=aputz 1 s p v):=fun s p v=>aput_z rfl rfl s p v
@[go_sem] theorem tt_288:(∀ (s:AS) (p:AV),aload (tt 101) s p=(s.row p).bind fun r=>apart false 1 r.2 r.1):=by intro s p;unfold aload;cases s.row p <;> rfl
@[go_sem] theorem tt_289:(∀ ev:Operand→AV,arows tt ev (.alloc 101)=some (1,[[.nilif]],101)):=by intros;rfl
@[go_sem] theorem tt_290:(∀ (ev:Operand→AV) (x:Operand),arows tt ev (.box 101 x)=if noL (ev x)=true∧(ev x).cells.length=1∧(ev x).cells.all AV.cell=true then some (1,[(ev x).cells],101) else none):=by intro ev x;simp [arows,tt,TI.knows]
@[go_sem] theorem tt_291:(abin (tt 101) .eql true .nilif .nilif=some (.bool true)):=by intros;rfl
@[go_sem] theorem tt_292:(∀ c:Bool,abin (tt 101) .eql c .ifc .nilif=some (.bool false)):=by intros;rfl
@[go_sem] theorem tt_293:(abin (tt 101) .neq true .nilif .nilif=some (.bool false)):=by intros;rfl
@[go_sem] theorem tt_294:(∀ c:Bool,abin (tt 101) .neq c .ifc .nilif=some (.bool true)):=by intros;rfl
@[go_sem] theorem tt_295:(∀ (s:AS) (p v:AV),aput (tt 101) s p v=aputz 1 s p v):=fun s p v=>aput_z rfl rfl s p v
@[go_sem] theorem tt_296:(∀ (s:AS) (p:AV),aload (tt 106) s p=(s.row p).bind fun r=>apart false 1 r.2 r.1):=by intro s p;unfold aload;cases s.row p <;> rfl
@[go_sem] theorem tt_297:(∀ ev:Operand→AV,arows tt ev (.alloc 106)=some (1,[[.nilp]],106)):=by intros;rfl
@[go_sem] theorem tt_298:(∀ (ev:Operand→AV) (x:Operand),arows tt ev (.box 106 x)=if noL (ev x)=true∧(ev x).cells.length=1∧(ev x).cells.all AV.cell=true then some (1,[(ev x).cells],106) else none):=by intro ev x;simp [arows,tt,TI.knows]
@[go_sem] theorem tt_299:(∀ (s:AS) (p v:AV),aput (tt 106) s p v=aputz 1 s p v):=fun s p v=>aput_z rfl rfl s p v
@[go_sem] theorem tt_300:(∀ (s:AS) (p:AV),aload (tt 118) s p=(s.row p).bind fun r=>apart false 1 r.2 r.1):=by intro s p;unfold aload;cases s.row p <;> rfl
@[go_sem] theorem tt_301:(∀ ev:Operand→AV,arows tt ev (.alloc 118)=some (1,[[.int .u32 0]],118)):=by intros;rfl
@[go_sem] theorem tt_302:(∀ (ev:Operand→AV) (x:Operand),arows tt ev (.box 118 x)=if noL (ev x)=true∧(ev x).cells.length=1∧(ev x).cells.all AV.cell=true then some (1,[(ev x).cells],118) else none):=by intro ev x;simp [arows,tt,TI.knows]
@[go_sem] theorem tt_303:(∀ (k:IntKind) (n:Int),aconv (tt 118) (tt 5) (.int k n)=some (.int .u8 (wr .u8 n))):=by intros;rfl
@[go_sem] theorem tt_304:(∀ (s:AS) (p v:AV),aput (tt 118) s p v=aputz 1 s p v):=fun s p v=>aput_z rfl rfl s p v
@[go_sem] theorem tt_305:(∀ (s:AS) (p:AV),aload (tt 123) s p=(s.row p).bind fun r=>apart false 1 r.2 r.1):=by intro s p;unfold aload;cases s.row p <;> rfl
@[go_sem] theorem tt_306:(∀ ev:Operand→AV,arows tt ev (.alloc 123)=some (1,[[.nilfn]],123)):=by intros;rfl
@[go_sem] theorem tt_307:(∀ (ev:Operand→AV) (x:Operand),arows tt ev (.box 123 x)=if noL (ev x)=true∧(ev x).cells.length=1∧(ev x).cells.all AV.cell=true then some (1,[(ev x).cells],123) else none):=by intro ev x;simp [arows,tt,TI.knows]
@[go_sem] theorem tt_308:(∀ (s:AS) (p v:AV),aput (tt 123) s p v=aputz 1 s p v):=fun s p v=>aput_z rfl rfl s p v
@[go_sem] theorem tt_309:(∀ (s:AS) (p:AV),aload (tt 124) s p=(s.row p).bind fun r=>apart false 1 r.2 r.1):=by intro s p;unfold aload;cases s.row p <;> rfl
@[go_sem] theorem tt_310:(∀ ev:Operand→AV,arows tt ev (.alloc 124)=some (1,[[.nilfn]],124)):=by intros;rfl
@[go_sem] theorem tt_311:(∀ (ev:Operand→AV) (x:Operand),arows tt ev (.box 124 x)=if noL (ev x)=true∧(ev x).cells.length=1∧(ev x).cells.all AV.cell=true then some (1,[(ev x).cells],124) else none):=by intro ev x;simp [arows,tt,TI.knows]
@[go_sem] theorem tt_312:(∀ (s:AS) (p v:AV),aput (tt 124) s p v=aputz 1 s p v):=fun s p v=>aput_z rfl rfl s p v
@[go_sem] theorem tt_313:(∀ (s:AS) (p:AV),aload (tt 133) s p=(s.row p).bind fun r=>apart false 1 r.2 r.1):=by intro s p;unfold aload;cases s.row p <;> rfl
@[go_sem] theorem tt_314:(∀ ev:Operand→AV,arows tt ev (.alloc 133)=some (1,[[.int .i64 0]],133)):=by intros;rfl
@[go_sem] theorem tt_315:(∀ (ev:Operand→AV) (x:Operand),arows tt ev (.box 133 x)=if noL (ev x)=true∧(ev x).cells.length=1∧(ev x).cells.all AV.cell=true then some (1,[(ev x).cells],133) else none):=by intro ev x;simp [arows,tt,TI.knows]
@[go_sem] theorem tt_316:(∀ (s:AS) (p v:AV),aput (tt 133) s p v=aputz 1 s p v):=fun s p v=>aput_z rfl rfl s p v
@[go_sem] theorem tt_317:(∀ (s:AS) (p:AV),aload (tt 136) s p=(s.row p).bind fun r=>apart false 1 r.2 r.1):=by intro s p;unfold aload;cases s.row p <;> rfl
@[go_sem] theorem tt_318:(∀ ev:Operand→AV,arows tt ev (.alloc 136)=some (1,[[.nilp]],136)):=by intros;rfl
@[go_sem] theorem tt_319:(∀ (ev:Operand→AV) (x:Operand),arows tt ev (.box 136 x)=if noL (ev x)=true∧(ev x).cells.length=1∧(ev x).cells.all AV.cell=true then some (1,[(ev x).cells],136) else none):=by intro ev x;simp [arows,tt,TI.knows]
@[go_sem] theorem tt_320:(∀ (s:AS) (p v:AV),aput (tt 136) s p v=aputz 1 s p v):=fun s p v=>aput_z rfl rfl s p v
@[go_sem] theorem tt_321:(∀ (s:AS) (p:AV),aload (tt 147) s p=(s.row p).bind fun r=>apart true 3 r.2 r.1):=by intro s p;unfold aload;cases s.row p <;> rfl
@[go_sem] theorem tt_322:(∀ ev:Operand→AV,arows tt ev (.alloc 147)=some (3,[[.str [],.str [],.nilif]],147)):=by intros;rfl
@[go_sem] theorem tt_323:(∀ (ev:Operand→AV) (x:Operand),arows tt ev (.box 147 x)=if noL (ev x)=true∧(ev x).cells.length=3∧(ev x).cells.all AV.cell=true then some (3,[(ev x).cells],147) else none):=by intro ev x;simp [arows,tt,TI.knows]
@[go_sem] theorem tt_324:(∀ v:AV,afieldAddr (tt 147) 0 v=amove 0 v):=by intros;rfl
@[go_sem] theorem tt_325:(∀ cs:List AV,afield (tt 147) 0 (.agg cs)=apart false 1 0 cs):=by intros;rfl
@[go_sem] theorem tt_326:(∀ v:AV,afieldAddr (tt 147) 1 v=amove 1 v):=by intros;rfl
@[go_sem] theorem tt_327:(∀ cs:List AV,afield (tt 147) 1 (.agg cs)=apart false 1 1 cs):=by intros;rfl
@[go_sem] theorem tt_328:(∀ v:AV,afieldAddr (tt 147) 2 v=amove 2 v):=by intros;rfl
@[go_sem] theorem tt_329:(∀ cs:List AV,afield (tt 147) 2 (.agg cs)=apart false 1 2 cs):=by intros;rfl
@[go_sem] theorem tt_330:(∀ ps:List (Nat × AV),abuild tt 147 ps=(afill (fun i=>([(0,1),(1,1),(2,1)]:List (Nat × Nat))[i]?) [.str [],.str [],.nilif] ps).map .agg):=fun ps=>by show Option.map _ (afill _ _ _)=_;congr 2;funext i;rw [← List.getElem?_map];rfl
@[go_sem] theorem tt_331:(∀ (s:AS) (p v:AV),aput (tt 147) s p v=aputz 3 s p v):=fun s p v=>aput_z rfl rfl s p v
@[go_sem] theorem tt_332:(∀ (s:AS) (p:AV),aload (tt 154) s p=(s.row p).bind fun r=>apart true 2 r.2 r.1):=by intro s p;unfold aload;cases s.row p <;> rfl
@[go_sem] theorem tt_333:(∀ ev:Operand→AV,arows tt ev (.alloc 154)=some (2,[[.int .u8 0,.int .u8 0]],154)):=by intros;rfl
@[go_sem] theorem tt_334:(∀ (ev:Operand→AV) (x:Operand),arows tt ev (.box 154 x)=if noL (ev x)=true∧(ev x).cells.length=2∧(ev x).cells.all AV.cell=true then some (2,[(ev x).cells],154) else none):=by intro ev x;simp [arows,tt,TI.knows]
@[go_sem] theorem tt_335:(∀ v:AV,afieldAddr (tt 154) 0 v=amove 0 v):=by intros;rfl
@[go_sem] theorem tt_336:(∀ cs:List AV,afield (tt 154) 0 (.agg cs)=apart false 1 0 cs):=by intros;rfl
@[go_sem] theorem tt_337:(∀ v:AV,afieldAddr (tt 154) 1 v=amove 1 v):=by intros;rfl
@[go_sem] theorem tt_338:(∀ cs:List AV,afield (tt 154) 1 (.agg cs)=apart false 1 1 cs):=by intros;rfl
@[go_sem] theorem tt_339:(∀ ps:List (Nat × AV),abuild tt 154 ps=(afill (fun i=>([(0,1),(1,1)]:List (Nat × Nat))[i]?) [.int .u8 0,.int .u8 0] ps).map .agg):=fun ps=>by show Option.map _ (afill _ _ _)=_;congr 2;funext i;rw [← List.getElem?_map];rfl
@[go_sem] theorem tt_340:(∀ (s:AS) (p v:AV),aput (tt 154) s p v=aputz 2 s p v):=fun s p v=>aput_z rfl rfl s p v
@[go_sem] theorem tt_341:(∀ (s:AS) (p:AV),aload (tt 160) s p=(s.row p).bind fun r=>apart false 1 r.2 r.1):=by intro s p;unfold aload;cases s.row p <;> rfl
@[go_sem] theorem tt_342:(∀ ev:Operand→AV,arows tt ev (.alloc 160)=some (1,[[.nilp]],160)):=by intros;rfl
@[go_sem] theorem tt_343:(∀ (ev:Operand→AV) (x:Operand),arows tt ev (.box 160 x)=if noL (ev x)=true∧(ev x).cells.length=1∧(ev x).cells.all AV.cell=true then some (1,[(ev x).cells],160) else none):=by intro ev x;simp [arows,tt,TI.knows]
@[go_sem] theorem tt_344:(∀ (s:AS) (p v:AV),aput (tt 160) s p v=aputz 1 s p v):=fun s p v=>aput_z rfl rfl s p v
@[go_sem] theorem tt_345:(∀ (s:AS) (p:AV),aload (tt 162) s p=(s.row p).bind fun r=>apart true 1 r.2 r.1):=by intro s p;unfold aload;cases s.row p <;> rfl
@[go_sem] theorem tt_346:(∀ ev:Operand→AV,arows tt ev (.alloc 162)=some (1,[[.str []]],162)):=by intros;rfl
@[go_sem] theorem tt_347:(∀ (ev:Operand→AV) (x:Operand),arows tt ev (.box 162 x)=if noL (ev x)=true∧(ev x).cells.length=1∧(ev x).cells.all AV.cell=true then some (1,[(ev x).cells],162) else none):=by intro ev x;simp [arows,tt,TI.knows]
@[go_sem] theorem tt_348:(∀ v:AV,afieldAddr (tt 162) 0 v=amove 0 v):=by intros;rfl
@[go_sem] theorem tt_349:(∀ cs:List AV,afield (tt 162) 0 (.agg cs)=apart false 1 0 cs):=by intros;rfl
@[go_sem] theorem tt_350:(∀ ps:List (Nat × AV),abuild tt 162 ps=(afill (fun i=>([(0,1)]:List (Nat × Nat))[i]?) [.str []] ps).map .agg):=fun ps=>by show Option.map _ (afill _ _ _)=_;congr 2;funext i;rw [← List.getElem?_map];rfl
@[go_sem] theorem tt_351:(∀ (s:AS) (p v:AV),aput (tt 162) s p v=aputz 1 s p v):=fun s p v=>aput_z rfl rfl s p v
end Go.Proofs.YtefogfgddofdmaaGreatDoor
