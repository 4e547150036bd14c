/- Printed by gentab.py: the types that this seat's functions name, as a table of our own; that the table is right. -/
import Derived.Test.YtoafigpikgigaaaGreatDoorBaseD
import Derived.Test.YtoafigpikgigaaaGreatDoorProg
import Derived.KernelRfl
set_option linter.all false
set_option linter.unusedSimpArgs false
set_option linter.unusedVariables false
namespace Go.Proofs.YtoafigpikgigaaaGreatDoor
open Go.Av
def tt:Nat→TI
 | 2=>⟨.int .i64,1,8,[.int .i64 0],false,false⟩
 | 3=>⟨.int .i64,1,8,[.int .i64 0],false,false⟩
 | 4=>⟨.bool,1,1,[.bool false],false,false⟩
 | 5=>⟨.int .u8,1,1,[.int .u8 0],false,false⟩
 | 9=>⟨.str,1,16,[.str []],false,false⟩
 | 21=>⟨.int .i32,1,4,[.int .i32 0],false,false⟩
 | 22=>⟨.slice 3,1,24,[.nils],false,false⟩
 | 23=>⟨.slice 66,1,24,[.nils],false,false⟩
 | 24=>⟨.slice 46,1,24,[.nils],false,false⟩
 | 26=>⟨.struct [(0,1,false),(1,1,false),(2,1,false),(3,1,false)],4,80,[.nils,.nils,.nils,.int .i64 0],false,false⟩
 | 32=>⟨.slice 26,1,24,[.nils],false,false⟩
 | 33=>⟨.slice 9,1,24,[.nils],false,false⟩
 | 34=>⟨.int .i64,1,8,[.int .i64 0],false,false⟩
 | 44=>⟨.struct [(0,1,false),(1,1,false)],2,16,[.int .i64 0,.int .i64 0],true,false⟩
 | 46=>⟨.struct [(0,2,true),(2,2,true),(4,1,false),(5,1,false),(6,1,false)],7,72,[.int .i64 0,.int .i64 0,.int .i64 0,.int .i64 0,.int .i64 0,.int .i64 0,.nils],false,false⟩
 | 48=>⟨.slice 44,1,24,[.nils],false,false⟩
 | 56=>⟨.slice 101,1,24,[.nils],false,false⟩
 | 66=>⟨.struct [(0,1,false),(1,1,false)],2,16,[.int .i64 0,.int .i64 0],true,false⟩
 | 68=>⟨.int .u64,1,8,[.int .u64 0],false,false⟩
 | 70=>⟨.struct [(0,1,false)],1,8,[.int .u64 0],false,false⟩
 | 72=>⟨.ptr,1,8,[.nilp],false,false⟩
 | 73=>⟨.slice 5,1,24,[.nils],false,false⟩
 | 75=>⟨.struct [(0,1,false),(1,1,false)],2,32,[.nilp,.nils],false,false⟩
 | 77=>⟨.iface,1,16,[.nilif],false,false⟩
 | 94=>⟨.array 12 3,12,96,[.int .i64 0,.int .i64 0,.int .i64 0,.int .i64 0,.int .i64 0,.int .i64 0,.int .i64 0,.int .i64 0,.int .i64 0,.int .i64 0,.int .i64 0,.int .i64 0],false,false⟩
 | 99=>⟨.plain,1,8,[.nilfn],false,false⟩
 | 101=>⟨.struct [(0,1,false),(1,1,false),(2,1,false),(3,1,false)],4,32,[.int .i64 0,.int .i64 0,.int .i64 0,.int .i64 0],true,false⟩
 | 104=>⟨.plain,1,8,[.nilm],false,false⟩
 | 106=>⟨.plain,1,8,[.nilfn],false,false⟩
 | 109=>⟨.int .u64,1,8,[.int .u64 0],false,false⟩
 | 110=>⟨.ptr,1,8,[.nilp],false,false⟩
 | 123=>⟨.struct [(0,1,false),(1,1,false),(2,1,false)],3,24,[.int .i64 0,.int .i64 0,.int .i64 0],false,false⟩
 | 136=>⟨.plain,1,8,[.nilfn],false,false⟩
 | 149=>⟨.int .i64,1,8,[.int .i64 0],false,false⟩
 | 152=>⟨.ptr,1,8,[.nilp],false,false⟩
 | 158=>⟨.int .u32,1,4,[.int .u32 0],false,false⟩
 | 165=>⟨.struct [(0,1,false),(1,1,false),(2,1,false)],3,48,[.str [],.str [],.nilif],false,false⟩
 | 170=>⟨.struct [(0,1,false),(1,1,false)],2,2,[.int .u8 0,.int .u8 0],false,false⟩
 | 176=>⟨.ptr,1,8,[.nilp],false,false⟩
 | 178=>⟨.struct [(0,1,false)],1,16,[.str []],false,false⟩
 | _=>⟨.unknown,0,0,[],false,false⟩
theorem info_row {t:TypeId} {r:TypeInfo} (h:Tryz.prog.types[t]?=some r):Tryz.prog.info? t=some r:=by
 have hlt:t < Tryz.prog.types.size:=(Array.getElem?_eq_some_iff.1 h).1
 unfold Tables.info?;rw [if_pos hlt];exact h
theorem inf2:Tryz.prog.info? 2=some Tryz.t2:=info_row Tryz.type2
theorem cel2:Tryz.prog.cellsOf 2=1:=by unfold Program.cellsOf;rw [inf2];rfl
theorem ag2:aggB Tryz.prog 2=false:=by unfold aggB;rw [Tryz.underlying2]
theorem inf3:Tryz.prog.info? 3=some Tryz.t3:=info_row Tryz.type3
theorem cel3:Tryz.prog.cellsOf 3=1:=by unfold Program.cellsOf;rw [inf3];rfl
theorem ag3:aggB Tryz.prog 3=false:=by unfold aggB;rw [Tryz.underlying3]
theorem inf4:Tryz.prog.info? 4=some Tryz.t4:=info_row Tryz.type4
theorem cel4:Tryz.prog.cellsOf 4=1:=by unfold Program.cellsOf;rw [inf4];rfl
theorem ag4:aggB Tryz.prog 4=false:=by unfold aggB;rw [Tryz.underlying4]
theorem inf5:Tryz.prog.info? 5=some Tryz.t5:=info_row Tryz.type5
theorem cel5:Tryz.prog.cellsOf 5=1:=by unfold Program.cellsOf;rw [inf5];rfl
theorem ag5:aggB Tryz.prog 5=false:=by unfold aggB;rw [Tryz.underlying5]
theorem inf9:Tryz.prog.info? 9=some Tryz.t9:=info_row Tryz.type9
theorem cel9:Tryz.prog.cellsOf 9=1:=by unfold Program.cellsOf;rw [inf9];rfl
theorem ag9:aggB Tryz.prog 9=false:=by unfold aggB;rw [Tryz.underlying9]
theorem inf21:Tryz.prog.info? 21=some Tryz.t21:=info_row Tryz.type21
theorem cel21:Tryz.prog.cellsOf 21=1:=by unfold Program.cellsOf;rw [inf21];rfl
theorem ag21:aggB Tryz.prog 21=false:=by unfold aggB;rw [Tryz.underlying21]
theorem inf22:Tryz.prog.info? 22=some Tryz.t22:=info_row Tryz.type22
theorem cel22:Tryz.prog.cellsOf 22=1:=by unfold Program.cellsOf;rw [inf22];rfl
theorem ag22:aggB Tryz.prog 22=false:=by unfold aggB;rw [Tryz.underlying22]
theorem inf23:Tryz.prog.info? 23=some Tryz.t23:=info_row Tryz.type23
theorem cel23:Tryz.prog.cellsOf 23=1:=by unfold Program.cellsOf;rw [inf23];rfl
theorem ag23:aggB Tryz.prog 23=false:=by unfold aggB;rw [Tryz.underlying23]
theorem inf24:Tryz.prog.info? 24=some Tryz.t24:=info_row Tryz.type24
theorem cel24:Tryz.prog.cellsOf 24=1:=by unfold Program.cellsOf;rw [inf24];rfl
theorem ag24:aggB Tryz.prog 24=false:=by unfold aggB;rw [Tryz.underlying24]
theorem inf26:Tryz.prog.info? 26=some Tryz.t26:=info_row Tryz.type26
theorem cel26:Tryz.prog.cellsOf 26=4:=by unfold Program.cellsOf;rw [inf26];rfl
theorem ag26:aggB Tryz.prog 26=true:=by unfold aggB;rw [Tryz.underlying26]
theorem inf32:Tryz.prog.info? 32=some Tryz.t32:=info_row Tryz.type32
theorem cel32:Tryz.prog.cellsOf 32=1:=by unfold Program.cellsOf;rw [inf32];rfl
theorem ag32:aggB Tryz.prog 32=false:=by unfold aggB;rw [Tryz.underlying32]
theorem inf33:Tryz.prog.info? 33=some Tryz.t33:=info_row Tryz.type33
theorem cel33:Tryz.prog.cellsOf 33=1:=by unfold Program.cellsOf;rw [inf33];rfl
theorem ag33:aggB Tryz.prog 33=false:=by unfold aggB;rw [Tryz.underlying33]
theorem inf34:Tryz.prog.info? 34=some Tryz.t34:=info_row Tryz.type34
theorem cel34:Tryz.prog.cellsOf 34=1:=by unfold Program.cellsOf;rw [inf34];rfl
theorem ag34:aggB Tryz.prog 34=false:=by unfold aggB;rw [Tryz.underlying34]
theorem inf44:Tryz.prog.info? 44=some Tryz.t44:=info_row Tryz.type44
theorem cel44:Tryz.prog.cellsOf 44=2:=by unfold Program.cellsOf;rw [inf44];rfl
theorem ag44:aggB Tryz.prog 44=true:=by unfold aggB;rw [Tryz.underlying44]
theorem inf46:Tryz.prog.info? 46=some Tryz.t46:=info_row Tryz.type46
theorem cel46:Tryz.prog.cellsOf 46=7:=by unfold Program.cellsOf;rw [inf46];rfl
theorem ag46:aggB Tryz.prog 46=true:=by unfold aggB;rw [Tryz.underlying46]
theorem inf48:Tryz.prog.info? 48=some Tryz.t48:=info_row Tryz.type48
theorem cel48:Tryz.prog.cellsOf 48=1:=by unfold Program.cellsOf;rw [inf48];rfl
theorem ag48:aggB Tryz.prog 48=false:=by unfold aggB;rw [Tryz.underlying48]
theorem inf56:Tryz.prog.info? 56=some Tryz.t56:=info_row Tryz.type56
theorem cel56:Tryz.prog.cellsOf 56=1:=by unfold Program.cellsOf;rw [inf56];rfl
theorem ag56:aggB Tryz.prog 56=false:=by unfold aggB;rw [Tryz.underlying56]
theorem inf66:Tryz.prog.info? 66=some Tryz.t66:=info_row Tryz.type66
theorem cel66:Tryz.prog.cellsOf 66=2:=by unfold Program.cellsOf;rw [inf66];rfl
theorem ag66:aggB Tryz.prog 66=true:=by unfold aggB;rw [Tryz.underlying66]
theorem inf68:Tryz.prog.info? 68=some Tryz.t68:=info_row Tryz.type68
theorem cel68:Tryz.prog.cellsOf 68=1:=by unfold Program.cellsOf;rw [inf68];rfl
theorem ag68:aggB Tryz.prog 68=false:=by unfold aggB;rw [Tryz.underlying68]
theorem inf70:Tryz.prog.info? 70=some Tryz.t70:=info_row Tryz.type70
theorem cel70:Tryz.prog.cellsOf 70=1:=by unfold Program.cellsOf;rw [inf70];rfl
theorem ag70:aggB Tryz.prog 70=true:=by unfold aggB;rw [Tryz.underlying70]
theorem inf72:Tryz.prog.info? 72=some Tryz.t72:=info_row Tryz.type72
theorem cel72:Tryz.prog.cellsOf 72=1:=by unfold Program.cellsOf;rw [inf72];rfl
theorem ag72:aggB Tryz.prog 72=false:=by unfold aggB;rw [Tryz.underlying72]
theorem inf73:Tryz.prog.info? 73=some Tryz.t73:=info_row Tryz.type73
theorem cel73:Tryz.prog.cellsOf 73=1:=by unfold Program.cellsOf;rw [inf73];rfl
theorem ag73:aggB Tryz.prog 73=false:=by unfold aggB;rw [Tryz.underlying73]
theorem inf75:Tryz.prog.info? 75=some Tryz.t75:=info_row Tryz.type75
theorem cel75:Tryz.prog.cellsOf 75=2:=by unfold Program.cellsOf;rw [inf75];rfl
theorem ag75:aggB Tryz.prog 75=true:=by unfold aggB;rw [Tryz.underlying75]
theorem inf77:Tryz.prog.info? 77=some Tryz.t77:=info_row Tryz.type77
theorem cel77:Tryz.prog.cellsOf 77=1:=by unfold Program.cellsOf;rw [inf77];rfl
theorem ag77:aggB Tryz.prog 77=false:=by unfold aggB;rw [Tryz.underlying77]
theorem inf94:Tryz.prog.info? 94=some Tryz.t94:=info_row Tryz.type94
theorem cel94:Tryz.prog.cellsOf 94=12:=by unfold Program.cellsOf;rw [inf94];rfl
theorem ag94:aggB Tryz.prog 94=true:=by unfold aggB;rw [Tryz.underlying94]
theorem inf99:Tryz.prog.info? 99=some Tryz.t99:=info_row Tryz.type99
theorem cel99:Tryz.prog.cellsOf 99=1:=by unfold Program.cellsOf;rw [inf99];rfl
theorem ag99:aggB Tryz.prog 99=false:=by unfold aggB;rw [Tryz.underlying99]
theorem inf101:Tryz.prog.info? 101=some Tryz.t101:=info_row Tryz.type101
theorem cel101:Tryz.prog.cellsOf 101=4:=by unfold Program.cellsOf;rw [inf101];rfl
theorem ag101:aggB Tryz.prog 101=true:=by unfold aggB;rw [Tryz.underlying101]
theorem inf104:Tryz.prog.info? 104=some Tryz.t104:=info_row Tryz.type104
theorem cel104:Tryz.prog.cellsOf 104=1:=by unfold Program.cellsOf;rw [inf104];rfl
theorem ag104:aggB Tryz.prog 104=false:=by unfold aggB;rw [Tryz.underlying104]
theorem inf106:Tryz.prog.info? 106=some Tryz.t106:=info_row Tryz.type106
theorem cel106:Tryz.prog.cellsOf 106=1:=by unfold Program.cellsOf;rw [inf106];rfl
theorem ag106:aggB Tryz.prog 106=false:=by unfold aggB;rw [Tryz.underlying106]
theorem inf109:Tryz.prog.info? 109=some Tryz.t109:=info_row Tryz.type109
theorem cel109:Tryz.prog.cellsOf 109=1:=by unfold Program.cellsOf;rw [inf109];rfl
theorem ag109:aggB Tryz.prog 109=false:=by unfold aggB;rw [Tryz.underlying109]
theorem inf110:Tryz.prog.info? 110=some Tryz.t110:=info_row Tryz.type110
theorem cel110:Tryz.prog.cellsOf 110=1:=by unfold Program.cellsOf;rw [inf110];rfl
theorem ag110:aggB Tryz.prog 110=false:=by unfold aggB;rw [Tryz.underlying110]
theorem inf123:Tryz.prog.info? 123=some Tryz.t123:=info_row Tryz.type123
theorem cel123:Tryz.prog.cellsOf 123=3:=by unfold Program.cellsOf;rw [inf123];rfl
theorem ag123:aggB Tryz.prog 123=true:=by unfold aggB;rw [Tryz.underlying123]
theorem inf136:Tryz.prog.info? 136=some Tryz.t136:=info_row Tryz.type136
theorem cel136:Tryz.prog.cellsOf 136=1:=by unfold Program.cellsOf;rw [inf136];rfl
theorem ag136:aggB Tryz.prog 136=false:=by unfold aggB;rw [Tryz.underlying136]
theorem inf149:Tryz.prog.info? 149=some Tryz.t149:=info_row Tryz.type149
theorem cel149:Tryz.prog.cellsOf 149=1:=by unfold Program.cellsOf;rw [inf149];rfl
theorem ag149:aggB Tryz.prog 149=false:=by unfold aggB;rw [Tryz.underlying149]
theorem inf152:Tryz.prog.info? 152=some Tryz.t152:=info_row Tryz.type152
theorem cel152:Tryz.prog.cellsOf 152=1:=by unfold Program.cellsOf;rw [inf152];rfl
theorem ag152:aggB Tryz.prog 152=false:=by unfold aggB;rw [Tryz.underlying152]
theorem inf158:Tryz.prog.info? 158=some Tryz.t158:=info_row Tryz.type158
theorem cel158:Tryz.prog.cellsOf 158=1:=by unfold Program.cellsOf;rw [inf158];rfl
theorem ag158:aggB Tryz.prog 158=false:=by unfold aggB;rw [Tryz.underlying158]
theorem inf165:Tryz.prog.info? 165=some Tryz.t165:=info_row Tryz.type165
theorem cel165:Tryz.prog.cellsOf 165=3:=by unfold Program.cellsOf;rw [inf165];rfl
theorem ag165:aggB Tryz.prog 165=true:=by unfold aggB;rw [Tryz.underlying165]
theorem inf170:Tryz.prog.info? 170=some Tryz.t170:=info_row Tryz.type170
theorem cel170:Tryz.prog.cellsOf 170=2:=by unfold Program.cellsOf;rw [inf170];rfl
theorem ag170:aggB Tryz.prog 170=true:=by unfold aggB;rw [Tryz.underlying170]
theorem inf176:Tryz.prog.info? 176=some Tryz.t176:=info_row Tryz.type176
theorem cel176:Tryz.prog.cellsOf 176=1:=by unfold Program.cellsOf;rw [inf176];rfl
theorem ag176:aggB Tryz.prog 176=false:=by unfold aggB;rw [Tryz.underlying176]
theorem inf178:Tryz.prog.info? 178=some Tryz.t178:=info_row Tryz.type178
theorem cel178:Tryz.prog.cellsOf 178=1:=by unfold Program.cellsOf;rw [inf178];rfl
theorem ag178:aggB Tryz.prog 178=true:=by unfold aggB;rw [Tryz.underlying178]
theorem eq44:EqFact Tryz.prog 44 2:=EqFact.ints Tryz.underlying44 (by kernel_rfl) (by kernel_rfl) (by intro f hf;simp at hf;rcases hf with rfl|rfl <;> exact ⟨by decide,by first|exact ⟨_,Tryz.underlying3⟩⟩) rfl rfl
theorem eq66:EqFact Tryz.prog 66 2:=EqFact.ints Tryz.underlying66 (by kernel_rfl) (by kernel_rfl) (by intro f hf;simp at hf;rcases hf with rfl|rfl <;> exact ⟨by decide,by first|exact ⟨_,Tryz.underlying3⟩⟩) rfl rfl
theorem eq101:EqFact Tryz.prog 101 4:=EqFact.ints Tryz.underlying101 (by kernel_rfl) (by kernel_rfl) (by intro f hf;simp at hf;rcases hf with rfl|rfl|rfl|rfl <;> exact ⟨by decide,by first|exact ⟨_,Tryz.underlying3⟩⟩) rfl rfl
theorem good2:Go.Av.Good Tryz.prog 2 (tt 2):=⟨⟨Tryz.t2,_,inf2,rfl,rfl,rfl,fun c=>by simp [tt,VRs,VR,Value.cells],rfl,rfl⟩,Tryz.underlying2,(fun h=>by cases h),(fun h=>by cases h)⟩
theorem good3:Go.Av.Good Tryz.prog 3 (tt 3):=⟨⟨Tryz.t3,_,inf3,rfl,rfl,rfl,fun c=>by simp [tt,VRs,VR,Value.cells],rfl,rfl⟩,Tryz.underlying3,(fun h=>by cases h),(fun h=>by cases h)⟩
theorem good4:Go.Av.Good Tryz.prog 4 (tt 4):=⟨⟨Tryz.t4,_,inf4,rfl,rfl,rfl,fun c=>by simp [tt,VRs,VR,Value.cells],rfl,rfl⟩,Tryz.underlying4,(fun h=>by cases h),(fun h=>by cases h)⟩
theorem good5:Go.Av.Good Tryz.prog 5 (tt 5):=⟨⟨Tryz.t5,_,inf5,rfl,rfl,rfl,fun c=>by simp [tt,VRs,VR,Value.cells],rfl,rfl⟩,Tryz.underlying5,(fun h=>by cases h),(fun h=>by cases h)⟩
theorem good9:Go.Av.Good Tryz.prog 9 (tt 9):=⟨⟨Tryz.t9,_,inf9,rfl,rfl,rfl,fun c=>by simp [tt,VRs,VR,Value.cells],rfl,rfl⟩,Tryz.underlying9,(fun h=>by cases h),(fun h=>by cases h)⟩
theorem good21:Go.Av.Good Tryz.prog 21 (tt 21):=⟨⟨Tryz.t21,_,inf21,rfl,rfl,rfl,fun c=>by simp [tt,VRs,VR,Value.cells],rfl,rfl⟩,Tryz.underlying21,(fun h=>by cases h),(fun h=>by cases h)⟩
theorem good22:Go.Av.Good Tryz.prog 22 (tt 22):=⟨⟨Tryz.t22,_,inf22,rfl,rfl,rfl,fun c=>by simp [tt,VRs,VR,Value.cells],rfl,rfl⟩,⟨Tryz.underlying22,by rw [inf3];rfl⟩,(fun h=>by cases h),(fun h=>by cases h)⟩
theorem good23:Go.Av.Good Tryz.prog 23 (tt 23):=⟨⟨Tryz.t23,_,inf23,rfl,rfl,rfl,fun c=>by simp [tt,VRs,VR,Value.cells],rfl,rfl⟩,⟨Tryz.underlying23,by rw [inf66];rfl⟩,(fun h=>by cases h),(fun h=>by cases h)⟩
theorem good24:Go.Av.Good Tryz.prog 24 (tt 24):=⟨⟨Tryz.t24,_,inf24,rfl,rfl,rfl,fun c=>by simp [tt,VRs,VR,Value.cells],rfl,rfl⟩,⟨Tryz.underlying24,by rw [inf46];rfl⟩,(fun h=>by cases h),(fun h=>by cases h)⟩
theorem good26:Go.Av.Good Tryz.prog 26 (tt 26):=⟨⟨Tryz.t26,_,inf26,rfl,rfl,rfl,fun c=>by simp [tt,VRs,VR,Value.cells],rfl,rfl⟩,⟨_,Tryz.underlying26,by simp [cel3,ag3,cel22,ag22,cel23,ag23,cel24,ag24,tt],by simp [inf3,Tryz.underlying3,inf22,Tryz.underlying22,inf23,Tryz.underlying23,inf24,Tryz.underlying24]⟩,(fun h=>by cases h),(fun h=>by cases h)⟩
theorem good32:Go.Av.Good Tryz.prog 32 (tt 32):=⟨⟨Tryz.t32,_,inf32,rfl,rfl,rfl,fun c=>by simp [tt,VRs,VR,Value.cells],rfl,rfl⟩,⟨Tryz.underlying32,by rw [inf26];rfl⟩,(fun h=>by cases h),(fun h=>by cases h)⟩
theorem good33:Go.Av.Good Tryz.prog 33 (tt 33):=⟨⟨Tryz.t33,_,inf33,rfl,rfl,rfl,fun c=>by simp [tt,VRs,VR,Value.cells],rfl,rfl⟩,⟨Tryz.underlying33,by rw [inf9];rfl⟩,(fun h=>by cases h),(fun h=>by cases h)⟩
theorem good34:Go.Av.Good Tryz.prog 34 (tt 34):=⟨⟨Tryz.t34,_,inf34,rfl,rfl,rfl,fun c=>by simp [tt,VRs,VR,Value.cells],rfl,rfl⟩,Tryz.underlying34,(fun h=>by cases h),(fun h=>by cases h)⟩
theorem good44:Go.Av.Good Tryz.prog 44 (tt 44):=⟨⟨Tryz.t44,_,inf44,rfl,rfl,rfl,fun c=>by simp [tt,VRs,VR,Value.cells],rfl,rfl⟩,⟨_,Tryz.underlying44,by simp [cel3,ag3,tt],by simp [inf3,Tryz.underlying3]⟩,fun _=>eq44,(fun h=>by cases h)⟩
theorem good46:Go.Av.Good Tryz.prog 46 (tt 46):=⟨⟨Tryz.t46,_,inf46,rfl,rfl,rfl,fun c=>by simp [tt,VRs,VR,Value.cells],rfl,rfl⟩,⟨_,Tryz.underlying46,by simp [cel3,ag3,cel22,ag22,cel44,ag44,tt],by simp [inf3,Tryz.underlying3,inf22,Tryz.underlying22,inf44,Tryz.underlying44]⟩,(fun h=>by cases h),(fun h=>by cases h)⟩
theorem good48:Go.Av.Good Tryz.prog 48 (tt 48):=⟨⟨Tryz.t48,_,inf48,rfl,rfl,rfl,fun c=>by simp [tt,VRs,VR,Value.cells],rfl,rfl⟩,⟨Tryz.underlying48,by rw [inf44];rfl⟩,(fun h=>by cases h),(fun h=>by cases h)⟩
theorem good56:Go.Av.Good Tryz.prog 56 (tt 56):=⟨⟨Tryz.t56,_,inf56,rfl,rfl,rfl,fun c=>by simp [tt,VRs,VR,Value.cells],rfl,rfl⟩,⟨Tryz.underlying56,by rw [inf101];rfl⟩,(fun h=>by cases h),(fun h=>by cases h)⟩
theorem good66:Go.Av.Good Tryz.prog 66 (tt 66):=⟨⟨Tryz.t66,_,inf66,rfl,rfl,rfl,fun c=>by simp [tt,VRs,VR,Value.cells],rfl,rfl⟩,⟨_,Tryz.underlying66,by simp [cel3,ag3,tt],by simp [inf3,Tryz.underlying3]⟩,fun _=>eq66,(fun h=>by cases h)⟩
theorem good68:Go.Av.Good Tryz.prog 68 (tt 68):=⟨⟨Tryz.t68,_,inf68,rfl,rfl,rfl,fun c=>by simp [tt,VRs,VR,Value.cells],rfl,rfl⟩,Tryz.underlying68,(fun h=>by cases h),(fun h=>by cases h)⟩
theorem good70:Go.Av.Good Tryz.prog 70 (tt 70):=⟨⟨Tryz.t70,_,inf70,rfl,rfl,rfl,fun c=>by simp [tt,VRs,VR,Value.cells],rfl,rfl⟩,⟨_,Tryz.underlying70,by simp [cel68,ag68,tt],by simp [inf68,Tryz.underlying68]⟩,(fun h=>by cases h),(fun h=>by cases h)⟩
theorem good72:Go.Av.Good Tryz.prog 72 (tt 72):=⟨⟨Tryz.t72,_,inf72,rfl,rfl,rfl,fun c=>by simp [tt,VRs,VR,Value.cells],rfl,rfl⟩,⟨_,Tryz.underlying72⟩,(fun h=>by cases h),(fun h=>by cases h)⟩
theorem good73:Go.Av.Good Tryz.prog 73 (tt 73):=⟨⟨Tryz.t73,_,inf73,rfl,rfl,rfl,fun c=>by simp [tt,VRs,VR,Value.cells],rfl,rfl⟩,⟨Tryz.underlying73,by rw [inf5];rfl⟩,(fun h=>by cases h),(fun h=>by cases h)⟩
theorem good75:Go.Av.Good Tryz.prog 75 (tt 75):=⟨⟨Tryz.t75,_,inf75,rfl,rfl,rfl,fun c=>by simp [tt,VRs,VR,Value.cells],rfl,rfl⟩,⟨_,Tryz.underlying75,by simp [cel72,ag72,cel73,ag73,tt],by simp [inf72,Tryz.underlying72,inf73,Tryz.underlying73]⟩,(fun h=>by cases h),(fun h=>by cases h)⟩
theorem good77:Go.Av.Good Tryz.prog 77 (tt 77):=⟨⟨Tryz.t77,_,inf77,rfl,rfl,rfl,fun c=>by simp [tt,VRs,VR,Value.cells],rfl,rfl⟩,⟨_,Tryz.underlying77⟩,(fun h=>by cases h),(fun h=>by cases h)⟩
theorem good94:Go.Av.Good Tryz.prog 94 (tt 94):=⟨⟨Tryz.t94,_,inf94,rfl,rfl,rfl,fun c=>by simp [tt,VRs,VR,Value.cells],rfl,rfl⟩,⟨Tryz.underlying94,by rw [inf3];rfl⟩,(fun h=>by cases h),(fun h=>by cases h)⟩
theorem good99:Go.Av.Good Tryz.prog 99 (tt 99):=⟨⟨Tryz.t99,_,inf99,rfl,rfl,rfl,fun c=>by simp [tt,VRs,VR,Value.cells],rfl,rfl⟩,⟨_,Tryz.underlying99,rfl⟩,(fun h=>by cases h),(fun h=>by cases h)⟩
theorem good101:Go.Av.Good Tryz.prog 101 (tt 101):=⟨⟨Tryz.t101,_,inf101,rfl,rfl,rfl,fun c=>by simp [tt,VRs,VR,Value.cells],rfl,rfl⟩,⟨_,Tryz.underlying101,by simp [cel3,ag3,tt],by simp [inf3,Tryz.underlying3]⟩,fun _=>eq101,(fun h=>by cases h)⟩
theorem good104:Go.Av.Good Tryz.prog 104 (tt 104):=⟨⟨Tryz.t104,_,inf104,rfl,rfl,rfl,fun c=>by simp [tt,VRs,VR,Value.cells],rfl,rfl⟩,⟨_,Tryz.underlying104,rfl⟩,(fun h=>by cases h),(fun h=>by cases h)⟩
theorem good106:Go.Av.Good Tryz.prog 106 (tt 106):=⟨⟨Tryz.t106,_,inf106,rfl,rfl,rfl,fun c=>by simp [tt,VRs,VR,Value.cells],rfl,rfl⟩,⟨_,Tryz.underlying106,rfl⟩,(fun h=>by cases h),(fun h=>by cases h)⟩
theorem good109:Go.Av.Good Tryz.prog 109 (tt 109):=⟨⟨Tryz.t109,_,inf109,rfl,rfl,rfl,fun c=>by simp [tt,VRs,VR,Value.cells],rfl,rfl⟩,Tryz.underlying109,(fun h=>by cases h),(fun h=>by cases h)⟩
theorem good110:Go.Av.Good Tryz.prog 110 (tt 110):=⟨⟨Tryz.t110,_,inf110,rfl,rfl,rfl,fun c=>by simp [tt,VRs,VR,Value.cells],rfl,rfl⟩,⟨_,Tryz.underlying110⟩,(fun h=>by cases h),(fun h=>by cases h)⟩
theorem good123:Go.Av.Good Tryz.prog 123 (tt 123):=⟨⟨Tryz.t123,_,inf123,rfl,rfl,rfl,fun c=>by simp [tt,VRs,VR,Value.cells],rfl,rfl⟩,⟨_,Tryz.underlying123,by simp [cel3,ag3,tt],by simp [inf3,Tryz.underlying3]⟩,(fun h=>by cases h),(fun h=>by cases h)⟩
theorem good136:Go.Av.Good Tryz.prog 136 (tt 136):=⟨⟨Tryz.t136,_,inf136,rfl,rfl,rfl,fun c=>by simp [tt,VRs,VR,Value.cells],rfl,rfl⟩,⟨_,Tryz.underlying136,rfl⟩,(fun h=>by cases h),(fun h=>by cases h)⟩
theorem good149:Go.Av.Good Tryz.prog 149 (tt 149):=⟨⟨Tryz.t149,_,inf149,rfl,rfl,rfl,fun c=>by simp [tt,VRs,VR,Value.cells],rfl,rfl⟩,Tryz.underlying149,(fun h=>by cases h),(fun h=>by cases h)⟩
theorem good152:Go.Av.Good Tryz.prog 152 (tt 152):=⟨⟨Tryz.t152,_,inf152,rfl,rfl,rfl,fun c=>by simp [tt,VRs,VR,Value.cells],rfl,rfl⟩,⟨_,Tryz.underlying152⟩,(fun h=>by cases h),(fun h=>by cases h)⟩
theorem good158:Go.Av.Good Tryz.prog 158 (tt 158):=⟨⟨Tryz.t158,_,inf158,rfl,rfl,rfl,fun c=>by simp [tt,VRs,VR,Value.cells],rfl,rfl⟩,Tryz.underlying158,(fun h=>by cases h),(fun h=>by cases h)⟩
theorem good165:Go.Av.Good Tryz.prog 165 (tt 165):=⟨⟨Tryz.t165,_,inf165,rfl,rfl,rfl,fun c=>by simp [tt,VRs,VR,Value.cells],rfl,rfl⟩,⟨_,Tryz.underlying165,by simp [cel9,ag9,cel77,ag77,tt],by simp [inf9,Tryz.underlying9,inf77,Tryz.underlying77]⟩,(fun h=>by cases h),(fun h=>by cases h)⟩
theorem good170:Go.Av.Good Tryz.prog 170 (tt 170):=⟨⟨Tryz.t170,_,inf170,rfl,rfl,rfl,fun c=>by simp [tt,VRs,VR,Value.cells],rfl,rfl⟩,⟨_,Tryz.underlying170,by simp [cel5,ag5,tt],by simp [inf5,Tryz.underlying5]⟩,(fun h=>by cases h),(fun h=>by cases h)⟩
theorem good176:Go.Av.Good Tryz.prog 176 (tt 176):=⟨⟨Tryz.t176,_,inf176,rfl,rfl,rfl,fun c=>by simp [tt,VRs,VR,Value.cells],rfl,rfl⟩,⟨_,Tryz.underlying176⟩,(fun h=>by cases h),(fun h=>by cases h)⟩
theorem good178:Go.Av.Good Tryz.prog 178 (tt 178):=⟨⟨Tryz.t178,_,inf178,rfl,rfl,rfl,fun c=>by simp [tt,VRs,VR,Value.cells],rfl,rfl⟩,⟨_,Tryz.underlying178,by simp [cel9,ag9,tt],by simp [inf9,Tryz.underlying9]⟩,(fun h=>by cases h),(fun h=>by cases h)⟩
theorem tab:Tab Tryz.prog tt where
 all:=fun t h=>by
  unfold tt at h ⊢
  split at h
  ·exact good2
  ·exact good3
  ·exact good4
  ·exact good5
  ·exact good9
  ·exact good21
  ·exact good22
  ·exact good23
  ·exact good24
  ·exact good26
  ·exact good32
  ·exact good33
  ·exact good34
  ·exact good44
  ·exact good46
  ·exact good48
  ·exact good56
  ·exact good66
  ·exact good68
  ·exact good70
  ·exact good72
  ·exact good73
  ·exact good75
  ·exact good77
  ·exact good94
  ·exact good99
  ·exact good101
  ·exact good104
  ·exact good106
  ·exact good109
  ·exact good110
  ·exact good123
  ·exact good136
  ·exact good149
  ·exact good152
  ·exact good158
  ·exact good165
  ·exact good170
  ·exact good176
  ·exact good178
  ·cases h
 elem:=fun t e h=>by
  unfold tt at h
  split at h <;> first|(cases h;done)|(cases h;rfl)
@[go_sem] theorem tt_3:(∀ (k:IntKind) (n:Int),aconv (tt 2) (tt 68) (.int k n)=some (.int .u64 (wr .u64 n))):=by intros;rfl
@[go_sem] theorem tt_5:(∀ (s:AS) (p:AV),aload (tt 3) s p=(s.row p).bind fun r=>apart false 1 r.2 r.1):=by intro s p;unfold aload;cases s.row p <;> rfl
@[go_sem] theorem tt_6:(∀ ev:Operand→AV,arows tt ev (.alloc 3)=some (1,[[.int .i64 0]],3)):=by intros;rfl
@[go_sem] theorem tt_7:(∀ (ev:Operand→AV) (x:Operand),arows tt ev (.box 3 x)=if noL (ev x)=true∧(ev x).cells.length=1∧(ev x).cells.all AV.cell=true then some (1,[(ev x).cells],3) else none):=by intro ev x;simp [arows,tt,TI.knows]
@[go_sem] theorem tt_8:(∀ (k:IntKind) (n:Int),aconv (tt 3) (tt 5) (.int k n)=some (.int .u8 (wr .u8 n))):=by intros;rfl
@[go_sem] theorem tt_9:(∀ (k:IntKind) (n:Int),aconv (tt 3) (tt 68) (.int k n)=some (.int .u64 (wr .u64 n))):=by intros;rfl
@[go_sem] theorem tt_10:(∀ (k:IntKind) (n:Int),aconv (tt 3) (tt 109) (.int k n)=some (.int .u64 (wr .u64 n))):=by intros;rfl
@[go_sem] theorem tt_11:(∀ (s:AS) (p v:AV),aput (tt 3) s p v=aputz 1 s p v):=fun s p v=>aput_z rfl rfl s p v
@[go_sem] theorem tt_12:(∀ (s:AS) (p:AV),aload (tt 4) s p=(s.row p).bind fun r=>apart false 1 r.2 r.1):=by intro s p;unfold aload;cases s.row p <;> rfl
@[go_sem] theorem tt_13:(∀ ev:Operand→AV,arows tt ev (.alloc 4)=some (1,[[.bool false]],4)):=by intros;rfl
@[go_sem] theorem tt_15:(∀ c a b:Bool,abin (tt 4) .eql c (.bool a) (.bool b)=some (.bool (a == b))):=by intros;rfl
@[go_sem] theorem tt_16:(∀ c a b:Bool,abin (tt 4) .neq c (.bool a) (.bool b)=some (.bool (!(a == b)))):=by intros;rfl
@[go_sem] theorem tt_17:(∀ (s:AS) (p v:AV),aput (tt 4) s p v=aputz 1 s p v):=fun s p v=>aput_z rfl rfl s p v
@[go_sem] theorem tt_18:(∀ (s:AS) (p:AV),aload (tt 5) s p=(s.row p).bind fun r=>apart false 1 r.2 r.1):=by intro s p;unfold aload;cases s.row p <;> rfl
@[go_sem] theorem tt_21:(∀ (k:IntKind) (n:Int),aconv (tt 5) (tt 3) (.int k n)=some (.int .i64 (wr .i64 n))):=by intros;rfl
@[go_sem] theorem tt_22:(∀ (k:IntKind) (n:Int),aconv (tt 5) (tt 21) (.int k n)=some (.int .i32 (wr .i32 n))):=by intros;rfl
@[go_sem] theorem tt_23:(∀ (k:IntKind) (n:Int),aconv (tt 5) (tt 68) (.int k n)=some (.int .u64 (wr .u64 n))):=by intros;rfl
@[go_sem] theorem tt_24:(∀ (k:IntKind) (n:Int),aconv (tt 5) (tt 158) (.int k n)=some (.int .u32 (wr .u32 n))):=by intros;rfl
@[go_sem] theorem tt_25:(∀ (s:AS) (p v:AV),aput (tt 5) s p v=aputz 1 s p v):=fun s p v=>aput_z rfl rfl s p v
@[go_sem] theorem tt_26:(∀ (s:AS) (p:AV),aload (tt 9) s p=(s.row p).bind fun r=>apart false 1 r.2 r.1):=by intro s p;unfold aload;cases s.row p <;> rfl
@[go_sem] theorem tt_29:(∀ (ez:Nat) (l:List UInt8) (lo hi:Option AV),asl (tt 9) ez lo hi (.str l)=aslz l.length lo hi fun a b=>some (.str ((l.drop a).take (b - a)))):=fun ez l lo hi=>asl_str rfl ez lo hi l
@[go_sem] theorem tt_30:(∀ (l:List UInt8),alen (tt 9) (.str l)=some (l.length:Int)):=by intros;rfl
@[go_sem] theorem tt_31:(∀ (s:AS) (p v:AV),aput (tt 9) s p v=aputz 1 s p v):=fun s p v=>aput_z rfl rfl s p v
@[go_sem] theorem tt_36:(∀ (s:AS) (p:AV),aload (tt 22) s p=(s.row p).bind fun r=>apart false 1 r.2 r.1):=by intro s p;unfold aload;cases s.row p <;> rfl
@[go_sem] theorem tt_37:(∀ ev:Operand→AV,arows tt ev (.alloc 22)=some (1,[[.nils]],22)):=by intros;rfl
@[go_sem] theorem tt_38:(∀ (ev:Operand→AV) (x:Operand),arows tt ev (.box 22 x)=if noL (ev x)=true∧(ev x).cells.length=1∧(ev x).cells.all AV.cell=true then some (1,[(ev x).cells],22) else none):=by intro ev x;simp [arows,tt,TI.knows]
@[go_sem] theorem tt_39:(∀ (es:List (List AV)) (k:IntKind) (i:Int),aidx tt 22 (.lst 1 es) (.int k i)=if 0≤i∧i < es.length then some (.iptr (es.getD i.toNat []) 0) else none):=by intros;rfl
@[go_sem] theorem tt_40:(∀ (b:Bid) (o n:Nat) (k:IntKind) (i:Int),aidx tt 22 (.slc b 1 o n) (.int k i)=if 0≤i∧i < n then some (.ptr b (o+i.toNat) 0) else none):=by intros;rfl
@[go_sem] theorem tt_41:(∀ (b:Bid) (e o n:Nat),alen (tt 22) (.slc b e o n)=some (n:Int)):=by intros;rfl
@[go_sem] theorem tt_42:(∀ (e:Nat) (es:List (List AV)),alen (tt 22) (.lst e es)=some (es.length:Int)):=by intros;rfl
@[go_sem] theorem tt_43:(alen (tt 22) .nils=some 0):=by intros;rfl
@[go_sem] theorem tt_50:(elsize tt 22=1):=by intros;rfl
@[go_sem] theorem tt_51:(∀ (ev:Operand→AV) (n:Nat) (ps:List (Nat × Operand)),absl tt ev 22 n ps=if n≤16777216∧n * 1≤16777216∧ps.map (·.1)=List.range n∧(ps.all fun p=>noL (ev p.2) && ((ev p.2).cells.length == 1) && (ev p.2).cells.all AV.cell)=true then some (1,ps.map fun p=>(ev p.2).cells) else none):=by intros;rfl
@[go_sem] theorem tt_54:(∀ (ez b1 o n:Nat) (b:Bid) (lo hi:Option AV),asl (tt 22) ez lo hi (.slc b b1 o n)=aslz n lo hi fun l h=>if b1=ez then some (.slc b b1 (o+l) (h - l)) else none):=fun ez b1 o n b lo hi=>asl_slc rfl ez lo hi b b1 o n
@[go_sem] theorem tt_55:(∀ (ez e:Nat) (es:List (List AV)) (lo hi:Option AV),asl (tt 22) ez lo hi (.lst e es)=aslz es.length lo hi fun l h=>if e=ez then some (.lst e ((es.drop l).take (h - l))) else none):=fun ez e es lo hi=>asl_lst rfl ez lo hi e es
@[go_sem] theorem tt_56:(∀ (h:AH) (id:Bid) (x y:AV),aapp tt h 22 id x y=aappz 1 8 h id x y):=fun h id x y=>by unfold aapp aappz;rfl
@[go_sem] theorem tt_57:(∀ (s:AS) (p v:AV),aput (tt 22) s p v=aputz 1 s p v):=fun s p v=>aput_z rfl rfl s p v
@[go_sem] theorem tt_58:(∀ (s:AS) (p:AV),aload (tt 23) s p=(s.row p).bind fun r=>apart false 1 r.2 r.1):=by intro s p;unfold aload;cases s.row p <;> rfl
@[go_sem] theorem tt_61:(∀ (es:List (List AV)) (k:IntKind) (i:Int),aidx tt 23 (.lst 2 es) (.int k i)=if 0≤i∧i < es.length then some (.iptr (es.getD i.toNat []) 0) else none):=by intros;rfl
@[go_sem] theorem tt_62:(∀ (b:Bid) (o n:Nat) (k:IntKind) (i:Int),aidx tt 23 (.slc b 2 o n) (.int k i)=if 0≤i∧i < n then some (.ptr b (o+i.toNat) 0) else none):=by intros;rfl
@[go_sem] theorem tt_63:(∀ (b:Bid) (e o n:Nat),alen (tt 23) (.slc b e o n)=some (n:Int)):=by intros;rfl
@[go_sem] theorem tt_64:(∀ (e:Nat) (es:List (List AV)),alen (tt 23) (.lst e es)=some (es.length:Int)):=by intros;rfl
@[go_sem] theorem tt_65:(alen (tt 23) .nils=some 0):=by intros;rfl
@[go_sem] theorem tt_72:(elsize tt 23=2):=by intros;rfl
@[go_sem] theorem tt_73:(∀ (ev:Operand→AV) (n:Nat) (ps:List (Nat × Operand)),absl tt ev 23 n ps=if n≤16777216∧n * 2≤16777216∧ps.map (·.1)=List.range n∧(ps.all fun p=>noL (ev p.2) && ((ev p.2).cells.length == 2) && (ev p.2).cells.all AV.cell)=true then some (2,ps.map fun p=>(ev p.2).cells) else none):=by intros;rfl
@[go_sem] theorem tt_78:(∀ (h:AH) (id:Bid) (x y:AV),aapp tt h 23 id x y=aappz 2 16 h id x y):=fun h id x y=>by unfold aapp aappz;rfl
@[go_sem] theorem tt_79:(∀ (s:AS) (p v:AV),aput (tt 23) s p v=aputz 1 s p v):=fun s p v=>aput_z rfl rfl s p v
@[go_sem] theorem tt_80:(∀ (s:AS) (p:AV),aload (tt 24) s p=(s.row p).bind fun r=>apart false 1 r.2 r.1):=by intro s p;unfold aload;cases s.row p <;> rfl
@[go_sem] theorem tt_83:(∀ (es:List (List AV)) (k:IntKind) (i:Int),aidx tt 24 (.lst 7 es) (.int k i)=if 0≤i∧i < es.length then some (.iptr (es.getD i.toNat []) 0) else none):=by intros;rfl
@[go_sem] theorem tt_84:(∀ (b:Bid) (o n:Nat) (k:IntKind) (i:Int),aidx tt 24 (.slc b 7 o n) (.int k i)=if 0≤i∧i < n then some (.ptr b (o+i.toNat) 0) else none):=by intros;rfl
@[go_sem] theorem tt_85:(∀ (b:Bid) (e o n:Nat),alen (tt 24) (.slc b e o n)=some (n:Int)):=by intros;rfl
@[go_sem] theorem tt_86:(∀ (e:Nat) (es:List (List AV)),alen (tt 24) (.lst e es)=some (es.length:Int)):=by intros;rfl
@[go_sem] theorem tt_87:(alen (tt 24) .nils=some 0):=by intros;rfl
@[go_sem] theorem tt_94:(elsize tt 24=7):=by intros;rfl
@[go_sem] theorem tt_95:(∀ (ev:Operand→AV) (n:Nat) (ps:List (Nat × Operand)),absl tt ev 24 n ps=if n≤16777216∧n * 7≤16777216∧ps.map (·.1)=List.range n∧(ps.all fun p=>noL (ev p.2) && ((ev p.2).cells.length == 7) && (ev p.2).cells.all AV.cell)=true then some (7,ps.map fun p=>(ev p.2).cells) else none):=by intros;rfl
@[go_sem] theorem tt_100:(∀ (h:AH) (id:Bid) (x y:AV),aapp tt h 24 id x y=aappz 7 72 h id x y):=fun h id x y=>by unfold aapp aappz;rfl
@[go_sem] theorem tt_101:(∀ (s:AS) (p v:AV),aput (tt 24) s p v=aputz 1 s p v):=fun s p v=>aput_z rfl rfl s p v
@[go_sem] theorem tt_102:(∀ (s:AS) (p:AV),aload (tt 26) s p=(s.row p).bind fun r=>apart true 4 r.2 r.1):=by intro s p;unfold aload;cases s.row p <;> rfl
@[go_sem] theorem tt_103:(∀ ev:Operand→AV,arows tt ev (.alloc 26)=some (4,[[.nils,.nils,.nils,.int .i64 0]],26)):=by intros;rfl
@[go_sem] theorem tt_104:(∀ (ev:Operand→AV) (x:Operand),arows tt ev (.box 26 x)=if noL (ev x)=true∧(ev x).cells.length=4∧(ev x).cells.all AV.cell=true then some (4,[(ev x).cells],26) else none):=by intro ev x;simp [arows,tt,TI.knows]
@[go_sem] theorem tt_105:(∀ v:AV,afieldAddr (tt 26) 0 v=amove 0 v):=by intros;rfl
@[go_sem] theorem tt_107:(∀ v:AV,afieldAddr (tt 26) 1 v=amove 1 v):=by intros;rfl
@[go_sem] theorem tt_109:(∀ v:AV,afieldAddr (tt 26) 2 v=amove 2 v):=by intros;rfl
@[go_sem] theorem tt_111:(∀ v:AV,afieldAddr (tt 26) 3 v=amove 3 v):=by intros;rfl
@[go_sem] theorem tt_113:(∀ ps:List (Nat × AV),abuild tt 26 ps=(afill (fun i=>([(0,1),(1,1),(2,1),(3,1)]:List (Nat × Nat))[i]?) [.nils,.nils,.nils,.int .i64 0] ps).map .agg):=fun ps=>by show Option.map _ (afill _ _ _)=_;congr 2;funext i;rw [← List.getElem?_map];rfl
@[go_sem] theorem tt_114:(∀ (s:AS) (p v:AV),aput (tt 26) s p v=aputz 4 s p v):=fun s p v=>aput_z rfl rfl s p v
@[go_sem] theorem tt_118:(∀ (es:List (List AV)) (k:IntKind) (i:Int),aidx tt 32 (.lst 4 es) (.int k i)=if 0≤i∧i < es.length then some (.iptr (es.getD i.toNat []) 0) else none):=by intros;rfl
@[go_sem] theorem tt_119:(∀ (b:Bid) (o n:Nat) (k:IntKind) (i:Int),aidx tt 32 (.slc b 4 o n) (.int k i)=if 0≤i∧i < n then some (.ptr b (o+i.toNat) 0) else none):=by intros;rfl
@[go_sem] theorem tt_120:(∀ (b:Bid) (e o n:Nat),alen (tt 32) (.slc b e o n)=some (n:Int)):=by intros;rfl
@[go_sem] theorem tt_121:(∀ (e:Nat) (es:List (List AV)),alen (tt 32) (.lst e es)=some (es.length:Int)):=by intros;rfl
@[go_sem] theorem tt_122:(alen (tt 32) .nils=some 0):=by intros;rfl
@[go_sem] theorem tt_129:(elsize tt 32=4):=by intros;rfl
@[go_sem] theorem tt_130:(∀ (ev:Operand→AV) (n:Nat) (ps:List (Nat × Operand)),absl tt ev 32 n ps=if n≤16777216∧n * 4≤16777216∧ps.map (·.1)=List.range n∧(ps.all fun p=>noL (ev p.2) && ((ev p.2).cells.length == 4) && (ev p.2).cells.all AV.cell)=true then some (4,ps.map fun p=>(ev p.2).cells) else none):=by intros;rfl
@[go_sem] theorem tt_140:(∀ (es:List (List AV)) (k:IntKind) (i:Int),aidx tt 33 (.lst 1 es) (.int k i)=if 0≤i∧i < es.length then some (.iptr (es.getD i.toNat []) 0) else none):=by intros;rfl
@[go_sem] theorem tt_141:(∀ (b:Bid) (o n:Nat) (k:IntKind) (i:Int),aidx tt 33 (.slc b 1 o n) (.int k i)=if 0≤i∧i < n then some (.ptr b (o+i.toNat) 0) else none):=by intros;rfl
@[go_sem] theorem tt_142:(∀ (b:Bid) (e o n:Nat),alen (tt 33) (.slc b e o n)=some (n:Int)):=by intros;rfl
@[go_sem] theorem tt_143:(∀ (e:Nat) (es:List (List AV)),alen (tt 33) (.lst e es)=some (es.length:Int)):=by intros;rfl
@[go_sem] theorem tt_144:(alen (tt 33) .nils=some 0):=by intros;rfl
@[go_sem] theorem tt_151:(elsize tt 33=1):=by intros;rfl
@[go_sem] theorem tt_152:(∀ (ev:Operand→AV) (n:Nat) (ps:List (Nat × Operand)),absl tt ev 33 n ps=if n≤16777216∧n * 1≤16777216∧ps.map (·.1)=List.range n∧(ps.all fun p=>noL (ev p.2) && ((ev p.2).cells.length == 1) && (ev p.2).cells.all AV.cell)=true then some (1,ps.map fun p=>(ev p.2).cells) else none):=by intros;rfl
@[go_sem] theorem tt_153:(∀ (k k':IntKind) (l c:Int),amake tt 33 (.int k l) (.int k' c)=if 0≤l∧l≤c∧c * 16≤70368744177664∧c≤70368744177664 then some (1,List.replicate l.toNat [.str []],l.toNat) else none):=by intros;rfl
@[go_sem] theorem tt_155:(∀ (ez b1 o n:Nat) (b:Bid) (lo hi:Option AV),asl (tt 33) ez lo hi (.slc b b1 o n)=aslz n lo hi fun l h=>if b1=ez then some (.slc b b1 (o+l) (h - l)) else none):=fun ez b1 o n b lo hi=>asl_slc rfl ez lo hi b b1 o n
@[go_sem] theorem tt_156:(∀ (ez e:Nat) (es:List (List AV)) (lo hi:Option AV),asl (tt 33) ez lo hi (.lst e es)=aslz es.length lo hi fun l h=>if e=ez then some (.lst e ((es.drop l).take (h - l))) else none):=fun ez e es lo hi=>asl_lst rfl ez lo hi e es
@[go_sem] theorem tt_157:(∀ (h:AH) (id:Bid) (x y:AV),aapp tt h 33 id x y=aappz 1 16 h id x y):=fun h id x y=>by unfold aapp aappz;rfl
@[go_sem] theorem tt_163:(∀ (s:AS) (p:AV),aload (tt 44) s p=(s.row p).bind fun r=>apart true 2 r.2 r.1):=by intro s p;unfold aload;cases s.row p <;> rfl
@[go_sem] theorem tt_164:(∀ ev:Operand→AV,arows tt ev (.alloc 44)=some (2,[[.int .i64 0,.int .i64 0]],44)):=by intros;rfl
@[go_sem] theorem tt_165:(∀ (ev:Operand→AV) (x:Operand),arows tt ev (.box 44 x)=if noL (ev x)=true∧(ev x).cells.length=2∧(ev x).cells.all AV.cell=true then some (2,[(ev x).cells],44) else none):=by intro ev x;simp [arows,tt,TI.knows]
@[go_sem] theorem tt_166:(∀ v:AV,afieldAddr (tt 44) 0 v=amove 0 v):=by intros;rfl
@[go_sem] theorem tt_167:(∀ cs:List AV,afield (tt 44) 0 (.agg cs)=apart false 1 0 cs):=by intros;rfl
@[go_sem] theorem tt_168:(∀ v:AV,afieldAddr (tt 44) 1 v=amove 1 v):=by intros;rfl
@[go_sem] theorem tt_169:(∀ cs:List AV,afield (tt 44) 1 (.agg cs)=apart false 1 1 cs):=by intros;rfl
@[go_sem] theorem tt_170:(∀ ps:List (Nat × AV),abuild tt 44 ps=(afill (fun i=>([(0,1),(1,1)]:List (Nat × Nat))[i]?) [.int .i64 0,.int .i64 0] ps).map .agg):=fun ps=>by show Option.map _ (afill _ _ _)=_;congr 2;funext i;rw [← List.getElem?_map];rfl
@[go_sem] theorem tt_172:(∀ (c:Bool) (x y:List AV),abin (tt 44) .neq c (.agg x) (.agg y)=aeql 2 (fun b=>!b) (ints x) (ints y)):=fun c x y=>by cases hx:ints x <;> cases hy:ints y <;> simp [tt,abin,abinB,aeql,hx,hy]
@[go_sem] theorem tt_173:(∀ (s:AS) (p v:AV),aput (tt 44) s p v=aputz 2 s p v):=fun s p v=>aput_z rfl rfl s p v
@[go_sem] theorem tt_174:(∀ (s:AS) (p:AV),aload (tt 46) s p=(s.row p).bind fun r=>apart true 7 r.2 r.1):=by intro s p;unfold aload;cases s.row p <;> rfl
@[go_sem] theorem tt_175:(∀ ev:Operand→AV,arows tt ev (.alloc 46)=some (7,[[.int .i64 0,.int .i64 0,.int .i64 0,.int .i64 0,.int .i64 0,.int .i64 0,.nils]],46)):=by intros;rfl
@[go_sem] theorem tt_176:(∀ (ev:Operand→AV) (x:Operand),arows tt ev (.box 46 x)=if noL (ev x)=true∧(ev x).cells.length=7∧(ev x).cells.all AV.cell=true then some (7,[(ev x).cells],46) else none):=by intro ev x;simp [arows,tt,TI.knows]
@[go_sem] theorem tt_177:(∀ v:AV,afieldAddr (tt 46) 0 v=amove 0 v):=by intros;rfl
@[go_sem] theorem tt_179:(∀ v:AV,afieldAddr (tt 46) 1 v=amove 2 v):=by intros;rfl
@[go_sem] theorem tt_181:(∀ v:AV,afieldAddr (tt 46) 2 v=amove 4 v):=by intros;rfl
@[go_sem] theorem tt_183:(∀ v:AV,afieldAddr (tt 46) 3 v=amove 5 v):=by intros;rfl
@[go_sem] theorem tt_185:(∀ v:AV,afieldAddr (tt 46) 4 v=amove 6 v):=by intros;rfl
@[go_sem] theorem tt_187:(∀ ps:List (Nat × AV),abuild tt 46 ps=(afill (fun i=>([(0,2),(2,2),(4,1),(5,1),(6,1)]:List (Nat × Nat))[i]?) [.int .i64 0,.int .i64 0,.int .i64 0,.int .i64 0,.int .i64 0,.int .i64 0,.nils] ps).map .agg):=fun ps=>by show Option.map _ (afill _ _ _)=_;congr 2;funext i;rw [← List.getElem?_map];rfl
@[go_sem] theorem tt_188:(∀ (s:AS) (p v:AV),aput (tt 46) s p v=aputz 7 s p v):=fun s p v=>aput_z rfl rfl s p v
@[go_sem] theorem tt_192:(∀ (es:List (List AV)) (k:IntKind) (i:Int),aidx tt 48 (.lst 2 es) (.int k i)=if 0≤i∧i < es.length then some (.iptr (es.getD i.toNat []) 0) else none):=by intros;rfl
@[go_sem] theorem tt_193:(∀ (b:Bid) (o n:Nat) (k:IntKind) (i:Int),aidx tt 48 (.slc b 2 o n) (.int k i)=if 0≤i∧i < n then some (.ptr b (o+i.toNat) 0) else none):=by intros;rfl
@[go_sem] theorem tt_194:(∀ (b:Bid) (e o n:Nat),alen (tt 48) (.slc b e o n)=some (n:Int)):=by intros;rfl
@[go_sem] theorem tt_195:(∀ (e:Nat) (es:List (List AV)),alen (tt 48) (.lst e es)=some (es.length:Int)):=by intros;rfl
@[go_sem] theorem tt_196:(alen (tt 48) .nils=some 0):=by intros;rfl
@[go_sem] theorem tt_203:(elsize tt 48=2):=by intros;rfl
@[go_sem] theorem tt_204:(∀ (ev:Operand→AV) (n:Nat) (ps:List (Nat × Operand)),absl tt ev 48 n ps=if n≤16777216∧n * 2≤16777216∧ps.map (·.1)=List.range n∧(ps.all fun p=>noL (ev p.2) && ((ev p.2).cells.length == 2) && (ev p.2).cells.all AV.cell)=true then some (2,ps.map fun p=>(ev p.2).cells) else none):=by intros;rfl
@[go_sem] theorem tt_209:(∀ (h:AH) (id:Bid) (x y:AV),aapp tt h 48 id x y=aappz 2 16 h id x y):=fun h id x y=>by unfold aapp aappz;rfl
@[go_sem] theorem tt_211:(∀ (s:AS) (p:AV),aload (tt 56) s p=(s.row p).bind fun r=>apart false 1 r.2 r.1):=by intro s p;unfold aload;cases s.row p <;> rfl
@[go_sem] theorem tt_213:(∀ (ev:Operand→AV) (x:Operand),arows tt ev (.box 56 x)=if noL (ev x)=true∧(ev x).cells.length=1∧(ev x).cells.all AV.cell=true then some (1,[(ev x).cells],56) else none):=by intro ev x;simp [arows,tt,TI.knows]
@[go_sem] theorem tt_214:(∀ (es:List (List AV)) (k:IntKind) (i:Int),aidx tt 56 (.lst 4 es) (.int k i)=if 0≤i∧i < es.length then some (.iptr (es.getD i.toNat []) 0) else none):=by intros;rfl
@[go_sem] theorem tt_215:(∀ (b:Bid) (o n:Nat) (k:IntKind) (i:Int),aidx tt 56 (.slc b 4 o n) (.int k i)=if 0≤i∧i < n then some (.ptr b (o+i.toNat) 0) else none):=by intros;rfl
@[go_sem] theorem tt_216:(∀ (b:Bid) (e o n:Nat),alen (tt 56) (.slc b e o n)=some (n:Int)):=by intros;rfl
@[go_sem] theorem tt_217:(∀ (e:Nat) (es:List (List AV)),alen (tt 56) (.lst e es)=some (es.length:Int)):=by intros;rfl
@[go_sem] theorem tt_218:(alen (tt 56) .nils=some 0):=by intros;rfl
@[go_sem] theorem tt_225:(elsize tt 56=4):=by intros;rfl
@[go_sem] theorem tt_226:(∀ (ev:Operand→AV) (n:Nat) (ps:List (Nat × Operand)),absl tt ev 56 n ps=if n≤16777216∧n * 4≤16777216∧ps.map (·.1)=List.range n∧(ps.all fun p=>noL (ev p.2) && ((ev p.2).cells.length == 4) && (ev p.2).cells.all AV.cell)=true then some (4,ps.map fun p=>(ev p.2).cells) else none):=by intros;rfl
@[go_sem] theorem tt_233:(∀ (s:AS) (p:AV),aload (tt 66) s p=(s.row p).bind fun r=>apart true 2 r.2 r.1):=by intro s p;unfold aload;cases s.row p <;> rfl
@[go_sem] theorem tt_234:(∀ ev:Operand→AV,arows tt ev (.alloc 66)=some (2,[[.int .i64 0,.int .i64 0]],66)):=by intros;rfl
@[go_sem] theorem tt_235:(∀ (ev:Operand→AV) (x:Operand),arows tt ev (.box 66 x)=if noL (ev x)=true∧(ev x).cells.length=2∧(ev x).cells.all AV.cell=true then some (2,[(ev x).cells],66) else none):=by intro ev x;simp [arows,tt,TI.knows]
@[go_sem] theorem tt_236:(∀ v:AV,afieldAddr (tt 66) 0 v=amove 0 v):=by intros;rfl
@[go_sem] theorem tt_238:(∀ v:AV,afieldAddr (tt 66) 1 v=amove 1 v):=by intros;rfl
@[go_sem] theorem tt_240:(∀ ps:List (Nat × AV),abuild tt 66 ps=(afill (fun i=>([(0,1),(1,1)]:List (Nat × Nat))[i]?) [.int .i64 0,.int .i64 0] ps).map .agg):=fun ps=>by show Option.map _ (afill _ _ _)=_;congr 2;funext i;rw [← List.getElem?_map];rfl
@[go_sem] theorem tt_241:(∀ (c:Bool) (x y:List AV),abin (tt 66) .eql c (.agg x) (.agg y)=aeql 2 (fun b=>b) (ints x) (ints y)):=fun c x y=>by cases hx:ints x <;> cases hy:ints y <;> simp [tt,abin,abinB,aeql,hx,hy]
@[go_sem] theorem tt_243:(∀ (s:AS) (p v:AV),aput (tt 66) s p v=aputz 2 s p v):=fun s p v=>aput_z rfl rfl s p v
@[go_sem] theorem tt_244:(∀ (s:AS) (p:AV),aload (tt 68) s p=(s.row p).bind fun r=>apart false 1 r.2 r.1):=by intro s p;unfold aload;cases s.row p <;> rfl
@[go_sem] theorem tt_247:(∀ (k:IntKind) (n:Int),aconv (tt 68) (tt 2) (.int k n)=some (.int .i64 (wr .i64 n))):=by intros;rfl
@[go_sem] theorem tt_248:(∀ (k:IntKind) (n:Int),aconv (tt 68) (tt 3) (.int k n)=some (.int .i64 (wr .i64 n))):=by intros;rfl
@[go_sem] theorem tt_249:(∀ (k:IntKind) (n:Int),aconv (tt 68) (tt 5) (.int k n)=some (.int .u8 (wr .u8 n))):=by intros;rfl
@[go_sem] theorem tt_250:(∀ (k:IntKind) (n:Int),aconv (tt 68) (tt 158) (.int k n)=some (.int .u32 (wr .u32 n))):=by intros;rfl
@[go_sem] theorem tt_251:(∀ (s:AS) (p v:AV),aput (tt 68) s p v=aputz 1 s p v):=fun s p v=>aput_z rfl rfl s p v
@[go_sem] theorem tt_254:(∀ (ev:Operand→AV) (x:Operand),arows tt ev (.box 70 x)=if noL (ev x)=true∧(ev x).cells.length=1∧(ev x).cells.all AV.cell=true then some (1,[(ev x).cells],70) else none):=by intro ev x;simp [arows,tt,TI.knows]
@[go_sem] theorem tt_255:(∀ v:AV,afieldAddr (tt 70) 0 v=amove 0 v):=by intros;rfl
@[go_sem] theorem tt_257:(∀ ps:List (Nat × AV),abuild tt 70 ps=(afill (fun i=>([(0,1)]:List (Nat × Nat))[i]?) [.int .u64 0] ps).map .agg):=fun ps=>by show Option.map _ (afill _ _ _)=_;congr 2;funext i;rw [← List.getElem?_map];rfl
@[go_sem] theorem tt_259:(∀ (s:AS) (p:AV),aload (tt 72) s p=(s.row p).bind fun r=>apart false 1 r.2 r.1):=by intro s p;unfold aload;cases s.row p <;> rfl
@[go_sem] theorem tt_262:(∀ (s:AS) (p v:AV),aput (tt 72) s p v=aputz 1 s p v):=fun s p v=>aput_z rfl rfl s p v
@[go_sem] theorem tt_263:(∀ (s:AS) (p:AV),aload (tt 73) s p=(s.row p).bind fun r=>apart false 1 r.2 r.1):=by intro s p;unfold aload;cases s.row p <;> rfl
@[go_sem] theorem tt_266:(∀ (es:List (List AV)) (k:IntKind) (i:Int),aidx tt 73 (.lst 1 es) (.int k i)=if 0≤i∧i < es.length then some (.iptr (es.getD i.toNat []) 0) else none):=by intros;rfl
@[go_sem] theorem tt_267:(∀ (b:Bid) (o n:Nat) (k:IntKind) (i:Int),aidx tt 73 (.slc b 1 o n) (.int k i)=if 0≤i∧i < n then some (.ptr b (o+i.toNat) 0) else none):=by intros;rfl
@[go_sem] theorem tt_268:(∀ (b:Bid) (e o n:Nat),alen (tt 73) (.slc b e o n)=some (n:Int)):=by intros;rfl
@[go_sem] theorem tt_269:(∀ (e:Nat) (es:List (List AV)),alen (tt 73) (.lst e es)=some (es.length:Int)):=by intros;rfl
@[go_sem] theorem tt_270:(alen (tt 73) .nils=some 0):=by intros;rfl
@[go_sem] theorem tt_277:(elsize tt 73=1):=by intros;rfl
@[go_sem] theorem tt_278:(∀ (ev:Operand→AV) (n:Nat) (ps:List (Nat × Operand)),absl tt ev 73 n ps=if n≤16777216∧n * 1≤16777216∧ps.map (·.1)=List.range n∧(ps.all fun p=>noL (ev p.2) && ((ev p.2).cells.length == 1) && (ev p.2).cells.all AV.cell)=true then some (1,ps.map fun p=>(ev p.2).cells) else none):=by intros;rfl
@[go_sem] theorem tt_279:(∀ (k k':IntKind) (l c:Int),amake tt 73 (.int k l) (.int k' c)=if 0≤l∧l≤c∧c * 1≤70368744177664∧c≤70368744177664 then some (1,List.replicate l.toNat [.int .u8 0],l.toNat) else none):=by intros;rfl
@[go_sem] theorem tt_280:(∀ (h:AH) (x y:AV),acopy tt h 73 x y=acopyz 1 h x y):=fun h x y=>by unfold acopy acopyz;rfl
@[go_sem] theorem tt_283:(∀ (h:AH) (id:Bid) (x y:AV),aapp tt h 73 id x y=aappz 1 1 h id x y):=fun h id x y=>by unfold aapp aappz;rfl
@[go_sem] theorem tt_284:(∀ (s:AS) (p v:AV),aput (tt 73) s p v=aputz 1 s p v):=fun s p v=>aput_z rfl rfl s p v
@[go_sem] theorem tt_286:(∀ ev:Operand→AV,arows tt ev (.alloc 75)=some (2,[[.nilp,.nils]],75)):=by intros;rfl
@[go_sem] theorem tt_288:(∀ v:AV,afieldAddr (tt 75) 0 v=amove 0 v):=by intros;rfl
@[go_sem] theorem tt_290:(∀ v:AV,afieldAddr (tt 75) 1 v=amove 1 v):=by intros;rfl
@[go_sem] theorem tt_294:(∀ (s:AS) (p:AV),aload (tt 77) s p=(s.row p).bind fun r=>apart false 1 r.2 r.1):=by intro s p;unfold aload;cases s.row p <;> rfl
@[go_sem] theorem tt_297:(abin (tt 77) .eql true .nilif .nilif=some (.bool true)):=by intros;rfl
@[go_sem] theorem tt_298:(∀ c:Bool,abin (tt 77) .eql c .ifc .nilif=some (.bool false)):=by intros;rfl
@[go_sem] theorem tt_299:(abin (tt 77) .neq true .nilif .nilif=some (.bool false)):=by intros;rfl
@[go_sem] theorem tt_300:(∀ c:Bool,abin (tt 77) .neq c .ifc .nilif=some (.bool true)):=by intros;rfl
@[go_sem] theorem tt_302:(∀ (s:AS) (p:AV),aload (tt 94) s p=(s.row p).bind fun r=>apart true 12 r.2 r.1):=by intro s p;unfold aload;cases s.row p <;> rfl
@[go_sem] theorem tt_303:(∀ ev:Operand→AV,arows tt ev (.alloc 94)=some (12,[[.int .i64 0,.int .i64 0,.int .i64 0,.int .i64 0,.int .i64 0,.int .i64 0,.int .i64 0,.int .i64 0,.int .i64 0,.int .i64 0,.int .i64 0,.int .i64 0]],94)):=by intros;rfl
@[go_sem] theorem tt_304:(∀ (ev:Operand→AV) (x:Operand),arows tt ev (.box 94 x)=if noL (ev x)=true∧(ev x).cells.length=12∧(ev x).cells.all AV.cell=true then some (12,[(ev x).cells],94) else none):=by intro ev x;simp [arows,tt,TI.knows]
@[go_sem] theorem tt_305:(∀ (v:AV) (k:IntKind) (i:Int),aidx tt 94 v (.int k i)=if 0≤i∧i < 12 then amove (i.toNat * 1) v else none):=by intros;rfl
@[go_sem] theorem tt_306:(∀ (cs:List AV) (k:IntKind) (i:Int),aindex tt 94 (.agg cs) (.int k i)=if 0≤i∧i < 12 then apart false 1 (i.toNat * 1) cs else none):=by intros;rfl
@[go_sem] theorem tt_307:(∀ ps:List (Nat × AV),abuild tt 94 ps=(afill (fun i=>some (i * 1,1)) [.int .i64 0,.int .i64 0,.int .i64 0,.int .i64 0,.int .i64 0,.int .i64 0,.int .i64 0,.int .i64 0,.int .i64 0,.int .i64 0,.int .i64 0,.int .i64 0] ps).map .agg):=by intros;rfl
@[go_sem] theorem tt_308:(elsize tt 94=1):=by intros;rfl
@[go_sem] theorem tt_309:(∀ (b:Bid) (m j:Nat),asl (tt 94) 1 none none (.aptr b m j)=if j+12≤m then some (.slc b 1 j 12) else none):=fun b m j=>asl_aptr rfl (by decide) b m j
@[go_sem] theorem tt_310:(∀ (cs:List AV) (j:Nat),asl (tt 94) 1 none none (.iptr cs j)=if j+12≤cs.length then some (.lstx 1 (((cs.drop j).take 12).map fun x=>[x])) else none):=fun cs j=>asl_iptr rfl cs j
@[go_sem] theorem tt_311:(∀ (s:AS) (p v:AV),aput (tt 94) s p v=aputz 12 s p v):=fun s p v=>aput_z rfl rfl s p v
@[go_sem] theorem tt_312:(∀ (s:AS) (p:AV),aload (tt 99) s p=(s.row p).bind fun r=>apart false 1 r.2 r.1):=by intro s p;unfold aload;cases s.row p <;> rfl
@[go_sem] theorem tt_313:(∀ ev:Operand→AV,arows tt ev (.alloc 99)=some (1,[[.nilfn]],99)):=by intros;rfl
@[go_sem] theorem tt_315:(∀ (s:AS) (p v:AV),aput (tt 99) s p v=aputz 1 s p v):=fun s p v=>aput_z rfl rfl s p v
@[go_sem] theorem tt_316:(∀ (s:AS) (p:AV),aload (tt 101) s p=(s.row p).bind fun r=>apart true 4 r.2 r.1):=by intro s p;unfold aload;cases s.row p <;> rfl
@[go_sem] theorem tt_317:(∀ ev:Operand→AV,arows tt ev (.alloc 101)=some (4,[[.int .i64 0,.int .i64 0,.int .i64 0,.int .i64 0]],101)):=by intros;rfl
@[go_sem] theorem tt_321:(∀ v:AV,afieldAddr (tt 101) 1 v=amove 1 v):=by intros;rfl
@[go_sem] theorem tt_323:(∀ v:AV,afieldAddr (tt 101) 2 v=amove 2 v):=by intros;rfl
@[go_sem] theorem tt_325:(∀ v:AV,afieldAddr (tt 101) 3 v=amove 3 v):=by intros;rfl
@[go_sem] theorem tt_327:(∀ ps:List (Nat × AV),abuild tt 101 ps=(afill (fun i=>([(0,1),(1,1),(2,1),(3,1)]:List (Nat × Nat))[i]?) [.int .i64 0,.int .i64 0,.int .i64 0,.int .i64 0] ps).map .agg):=fun ps=>by show Option.map _ (afill _ _ _)=_;congr 2;funext i;rw [← List.getElem?_map];rfl
@[go_sem] theorem tt_328:(∀ (c:Bool) (x y:List AV),abin (tt 101) .eql c (.agg x) (.agg y)=aeql 4 (fun b=>b) (ints x) (ints y)):=fun c x y=>by cases hx:ints x <;> cases hy:ints y <;> simp [tt,abin,abinB,aeql,hx,hy]
@[go_sem] theorem tt_330:(∀ (s:AS) (p v:AV),aput (tt 101) s p v=aputz 4 s p v):=fun s p v=>aput_z rfl rfl s p v
@[go_sem] theorem tt_331:(∀ (s:AS) (p:AV),aload (tt 104) s p=(s.row p).bind fun r=>apart false 1 r.2 r.1):=by intro s p;unfold aload;cases s.row p <;> rfl
@[go_sem] theorem tt_332:(∀ ev:Operand→AV,arows tt ev (.alloc 104)=some (1,[[.nilm]],104)):=by intros;rfl
@[go_sem] theorem tt_334:(∀ (s:AS) (p v:AV),aput (tt 104) s p v=aputz 1 s p v):=fun s p v=>aput_z rfl rfl s p v
@[go_sem] theorem tt_335:(∀ (s:AS) (p:AV),aload (tt 106) s p=(s.row p).bind fun r=>apart false 1 r.2 r.1):=by intro s p;unfold aload;cases s.row p <;> rfl
@[go_sem] theorem tt_336:(∀ ev:Operand→AV,arows tt ev (.alloc 106)=some (1,[[.nilfn]],106)):=by intros;rfl
@[go_sem] theorem tt_338:(∀ (s:AS) (p v:AV),aput (tt 106) s p v=aputz 1 s p v):=fun s p v=>aput_z rfl rfl s p v
@[go_sem] theorem tt_342:(∀ (k:IntKind) (n:Int),aconv (tt 109) (tt 158) (.int k n)=some (.int .u32 (wr .u32 n))):=by intros;rfl
@[go_sem] theorem tt_348:(∀ (s:AS) (p:AV),aload (tt 123) s p=(s.row p).bind fun r=>apart true 3 r.2 r.1):=by intro s p;unfold aload;cases s.row p <;> rfl
@[go_sem] theorem tt_349:(∀ ev:Operand→AV,arows tt ev (.alloc 123)=some (3,[[.int .i64 0,.int .i64 0,.int .i64 0]],123)):=by intros;rfl
@[go_sem] theorem tt_357:(∀ ps:List (Nat × AV),abuild tt 123 ps=(afill (fun i=>([(0,1),(1,1),(2,1)]:List (Nat × Nat))[i]?) [.int .i64 0,.int .i64 0,.int .i64 0] ps).map .agg):=fun ps=>by show Option.map _ (afill _ _ _)=_;congr 2;funext i;rw [← List.getElem?_map];rfl
@[go_sem] theorem tt_358:(∀ (s:AS) (p v:AV),aput (tt 123) s p v=aputz 3 s p v):=fun s p v=>aput_z rfl rfl s p v
@[go_sem] theorem tt_359:(∀ (s:AS) (p:AV),aload (tt 136) s p=(s.row p).bind fun r=>apart false 1 r.2 r.1):=by intro s p;unfold aload;cases s.row p <;> rfl
@[go_sem] theorem tt_361:(∀ (ev:Operand→AV) (x:Operand),arows tt ev (.box 136 x)=if noL (ev x)=true∧(ev x).cells.length=1∧(ev x).cells.all AV.cell=true then some (1,[(ev x).cells],136) else none):=by intro ev x;simp [arows,tt,TI.knows]
@[go_sem] theorem tt_374:(∀ (k:IntKind) (n:Int),aconv (tt 158) (tt 5) (.int k n)=some (.int .u8 (wr .u8 n))):=by intros;rfl
@[go_sem] theorem tt_378:(∀ (ev:Operand→AV) (x:Operand),arows tt ev (.box 165 x)=if noL (ev x)=true∧(ev x).cells.length=3∧(ev x).cells.all AV.cell=true then some (3,[(ev x).cells],165) else none):=by intro ev x;simp [arows,tt,TI.knows]
@[go_sem] theorem tt_385:(∀ ps:List (Nat × AV),abuild tt 165 ps=(afill (fun i=>([(0,1),(1,1),(2,1)]:List (Nat × Nat))[i]?) [.str [],.str [],.nilif] ps).map .agg):=fun ps=>by show Option.map _ (afill _ _ _)=_;congr 2;funext i;rw [← List.getElem?_map];rfl
@[go_sem] theorem tt_387:(∀ (s:AS) (p:AV),aload (tt 170) s p=(s.row p).bind fun r=>apart true 2 r.2 r.1):=by intro s p;unfold aload;cases s.row p <;> rfl
@[go_sem] theorem tt_388:(∀ ev:Operand→AV,arows tt ev (.alloc 170)=some (2,[[.int .u8 0,.int .u8 0]],170)):=by intros;rfl
@[go_sem] theorem tt_390:(∀ v:AV,afieldAddr (tt 170) 0 v=amove 0 v):=by intros;rfl
@[go_sem] theorem tt_392:(∀ v:AV,afieldAddr (tt 170) 1 v=amove 1 v):=by intros;rfl
@[go_sem] theorem tt_395:(∀ (s:AS) (p v:AV),aput (tt 170) s p v=aputz 2 s p v):=fun s p v=>aput_z rfl rfl s p v
@[go_sem] theorem tt_402:(∀ (ev:Operand→AV) (x:Operand),arows tt ev (.box 178 x)=if noL (ev x)=true∧(ev x).cells.length=1∧(ev x).cells.all AV.cell=true then some (1,[(ev x).cells],178) else none):=by intro ev x;simp [arows,tt,TI.knows]
@[go_sem] theorem tt_405:(∀ ps:List (Nat × AV),abuild tt 178 ps=(afill (fun i=>([(0,1)]:List (Nat × Nat))[i]?) [.str []] ps).map .agg):=fun ps=>by show Option.map _ (afill _ _ _)=_;congr 2;funext i;rw [← List.getElem?_map];rfl
end Go.Proofs.YtoafigpikgigaaaGreatDoor
