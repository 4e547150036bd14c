/- Printed by gentab.py: the types that this seat's functions name, as a table of our own; that the table is right. -/
import Derived.Test.YtaijkalhkgjakaaDoorBaseD
import Derived.Test.YtaijkalhkgjakaaDoorProg
import Derived.KernelRfl
set_option linter.all false
set_option linter.unusedSimpArgs false
set_option linter.unusedVariables false
namespace Go.Proofs.YtaijkalhkgjakaaDoor
open Go.Av
def tt:Nat→TI
  | 3=>⟨.int .i64,1,8,[.int .i64 0],false,false⟩
  | 4=>⟨.bool,1,1,[.bool false],false,false⟩
  | 9=>⟨.str,1,16,[.str []],false,false⟩
  | 22=>⟨.slice 76,1,24,[.nils],false,false⟩
  | 23=>⟨.slice 80,1,24,[.nils],false,false⟩
  | 25=>⟨.struct [(0,1,false),(1,1,false)],2,48,[.nils,.nils],false,false⟩
  | 26=>⟨.slice 3,1,24,[.nils],false,false⟩
  | 27=>⟨.int .i64,1,8,[.int .i64 0],false,false⟩
  | 29=>⟨.plain,1,8,[.nilfn],false,false⟩
  | 33=>⟨.slice 25,1,24,[.nils],false,false⟩
  | 35=>⟨.slice 95,1,24,[.nils],false,false⟩
  | 41=>⟨.slice 53,1,24,[.nils],false,false⟩
  | 43=>⟨.slice 51,1,24,[.nils],false,false⟩
  | 45=>⟨.slice 63,1,24,[.nils],false,false⟩
  | 47=>⟨.slice 50,1,24,[.nils],false,false⟩
  | 50=>⟨.slice 4,1,24,[.nils],false,false⟩
  | 51=>⟨.slice 120,1,24,[.nils],false,false⟩
  | 53=>⟨.struct [(0,1,false),(1,1,false),(2,1,false),(3,1,false),(4,1,false),(5,1,false),(6,1,false),(7,1,false),(8,1,false)],9,88,[.int .i64 0,.int .i64 0,.int .i64 0,.int .i64 0,.int .i64 0,.int .i64 0,.int .i64 0,.int .i64 0,.nils],false,false⟩
  | 56=>⟨.struct [(0,1,false),(1,1,false)],2,48,[.nils,.nils],false,false⟩
  | 59=>⟨.slice 56,1,24,[.nils],false,false⟩
  | 63=>⟨.struct [(0,1,false),(1,1,false),(2,1,false)],3,24,[.int .i64 0,.int .i64 0,.int .i64 0],false,false⟩
  | 68=>⟨.slice 26,1,24,[.nils],false,false⟩
  | 76=>⟨.struct [(0,1,false),(1,1,false),(2,1,false)],3,3,[.bool false,.bool false,.bool false],false,true⟩
  | 80=>⟨.struct [(0,1,false),(1,1,false),(2,1,false)],3,24,[.int .i64 0,.int .i64 0,.int .i64 0],true,false⟩
  | 87=>⟨.slice 35,1,24,[.nils],false,false⟩
  | 95=>⟨.struct [(0,1,false),(1,1,false)],2,16,[.int .i64 0,.int .i64 0],true,false⟩
  | 102=>⟨.int .u64,1,8,[.int .u64 0],false,false⟩
  | 104=>⟨.struct [(0,1,false)],1,8,[.int .u64 0],false,false⟩
  | 106=>⟨.array 7 3,7,56,[.int .i64 0,.int .i64 0,.int .i64 0,.int .i64 0,.int .i64 0,.int .i64 0,.int .i64 0],false,false⟩
  | 111=>⟨.struct [(0,1,false),(1,1,false),(2,1,false),(3,1,false)],4,96,[.nils,.nils,.nils,.nils],false,false⟩
  | 116=>⟨.struct [(0,1,false),(1,1,false)],2,16,[.int .i64 0,.int .i64 0],false,false⟩
  | 120=>⟨.struct [(0,1,false),(1,2,true),(3,2,true),(5,1,false),(6,1,false)],7,56,[.int .i64 0,.int .i64 0,.int .i64 0,.int .i64 0,.int .i64 0,.int .i64 0,.int .i64 0],false,false⟩
  | 133=>⟨.plain,1,8,[.nilfn],false,false⟩
  | 135=>⟨.int .u64,1,8,[.int .u64 0],false,false⟩
  | 139=>⟨.array 8 3,8,64,[.int .i64 0,.int .i64 0,.int .i64 0,.int .i64 0,.int .i64 0,.int .i64 0,.int .i64 0,.int .i64 0],false,false⟩
  | 144=>⟨.plain,1,8,[.nilfn],false,false⟩
  | 145=>⟨.array 4 3,4,32,[.int .i64 0,.int .i64 0,.int .i64 0,.int .i64 0],false,false⟩
  | 147=>⟨.struct [(0,7,true),(7,1,false),(8,4,true),(12,7,true),(19,1,false)],20,160,[.int .i64 0,.int .i64 0,.int .i64 0,.int .i64 0,.int .i64 0,.int .i64 0,.int .i64 0,.int .i64 0,.int .i64 0,.int .i64 0,.int .i64 0,.int .i64 0,.int .i64 0,.int .i64 0,.int .i64 0,.int .i64 0,.int .i64 0,.int .i64 0,.int .i64 0,.int .i64 0],false,false⟩
  | 158=>⟨.struct [(0,9,true),(9,1,false),(10,1,false)],11,104,[.int .i64 0,.int .i64 0,.int .i64 0,.int .i64 0,.int .i64 0,.int .i64 0,.int .i64 0,.int .i64 0,.nils,.int .i64 0,.int .i64 0],false,false⟩
  | 167=>⟨.plain,1,8,[.nilfn],false,false⟩
  | 168=>⟨.struct [(0,1,false),(1,1,false),(2,1,false)],3,3,[.bool false,.bool false,.bool false],false,false⟩
  | 169=>⟨.slice 167,1,24,[.nils],false,false⟩
  | 173=>⟨.array 2 3,2,16,[.int .i64 0,.int .i64 0],false,false⟩
  | 176=>⟨.plain,1,8,[.nilfn],false,false⟩
  | _=>⟨.unknown,0,0,[],false,false⟩
theorem info_row {t:TypeId} {r:TypeInfo} (h:Tryd.prog.types[t]?=some r):Tryd.prog.info? t=some r:=by
  have hlt:t < Tryd.prog.types.size:=(Array.getElem?_eq_some_iff.1 h).1
  unfold Tables.info?;rw [if_pos hlt];exact h
theorem inf3:Tryd.prog.info? 3=some Tryd.t3:=info_row Tryd.type3
theorem cel3:Tryd.prog.cellsOf 3=1:=by unfold Program.cellsOf;rw [inf3];rfl
theorem ag3:aggB Tryd.prog 3=false:=by unfold aggB;rw [Tryd.underlying3]
theorem inf4:Tryd.prog.info? 4=some Tryd.t4:=info_row Tryd.type4
theorem cel4:Tryd.prog.cellsOf 4=1:=by unfold Program.cellsOf;rw [inf4];rfl
theorem ag4:aggB Tryd.prog 4=false:=by unfold aggB;rw [Tryd.underlying4]
theorem inf9:Tryd.prog.info? 9=some Tryd.t9:=info_row Tryd.type9
theorem cel9:Tryd.prog.cellsOf 9=1:=by unfold Program.cellsOf;rw [inf9];rfl
theorem ag9:aggB Tryd.prog 9=false:=by unfold aggB;rw [Tryd.underlying9]
theorem inf22:Tryd.prog.info? 22=some Tryd.t22:=info_row Tryd.type22
theorem cel22:Tryd.prog.cellsOf 22=1:=by unfold Program.cellsOf;rw [inf22];rfl
theorem ag22:aggB Tryd.prog 22=false:=by unfold aggB;rw [Tryd.underlying22]
theorem inf23:Tryd.prog.info? 23=some Tryd.t23:=info_row Tryd.type23
theorem cel23:Tryd.prog.cellsOf 23=1:=by unfold Program.cellsOf;rw [inf23];rfl
theorem ag23:aggB Tryd.prog 23=false:=by unfold aggB;rw [Tryd.underlying23]
theorem inf25:Tryd.prog.info? 25=some Tryd.t25:=info_row Tryd.type25
theorem cel25:Tryd.prog.cellsOf 25=2:=by unfold Program.cellsOf;rw [inf25];rfl
theorem ag25:aggB Tryd.prog 25=true:=by unfold aggB;rw [Tryd.underlying25]
theorem inf26:Tryd.prog.info? 26=some Tryd.t26:=info_row Tryd.type26
theorem cel26:Tryd.prog.cellsOf 26=1:=by unfold Program.cellsOf;rw [inf26];rfl
theorem ag26:aggB Tryd.prog 26=false:=by unfold aggB;rw [Tryd.underlying26]
theorem inf27:Tryd.prog.info? 27=some Tryd.t27:=info_row Tryd.type27
theorem cel27:Tryd.prog.cellsOf 27=1:=by unfold Program.cellsOf;rw [inf27];rfl
theorem ag27:aggB Tryd.prog 27=false:=by unfold aggB;rw [Tryd.underlying27]
theorem inf29:Tryd.prog.info? 29=some Tryd.t29:=info_row Tryd.type29
theorem cel29:Tryd.prog.cellsOf 29=1:=by unfold Program.cellsOf;rw [inf29];rfl
theorem ag29:aggB Tryd.prog 29=false:=by unfold aggB;rw [Tryd.underlying29]
theorem inf33:Tryd.prog.info? 33=some Tryd.t33:=info_row Tryd.type33
theorem cel33:Tryd.prog.cellsOf 33=1:=by unfold Program.cellsOf;rw [inf33];rfl
theorem ag33:aggB Tryd.prog 33=false:=by unfold aggB;rw [Tryd.underlying33]
theorem inf35:Tryd.prog.info? 35=some Tryd.t35:=info_row Tryd.type35
theorem cel35:Tryd.prog.cellsOf 35=1:=by unfold Program.cellsOf;rw [inf35];rfl
theorem ag35:aggB Tryd.prog 35=false:=by unfold aggB;rw [Tryd.underlying35]
theorem inf41:Tryd.prog.info? 41=some Tryd.t41:=info_row Tryd.type41
theorem cel41:Tryd.prog.cellsOf 41=1:=by unfold Program.cellsOf;rw [inf41];rfl
theorem ag41:aggB Tryd.prog 41=false:=by unfold aggB;rw [Tryd.underlying41]
theorem inf43:Tryd.prog.info? 43=some Tryd.t43:=info_row Tryd.type43
theorem cel43:Tryd.prog.cellsOf 43=1:=by unfold Program.cellsOf;rw [inf43];rfl
theorem ag43:aggB Tryd.prog 43=false:=by unfold aggB;rw [Tryd.underlying43]
theorem inf45:Tryd.prog.info? 45=some Tryd.t45:=info_row Tryd.type45
theorem cel45:Tryd.prog.cellsOf 45=1:=by unfold Program.cellsOf;rw [inf45];rfl
theorem ag45:aggB Tryd.prog 45=false:=by unfold aggB;rw [Tryd.underlying45]
theorem inf47:Tryd.prog.info? 47=some Tryd.t47:=info_row Tryd.type47
theorem cel47:Tryd.prog.cellsOf 47=1:=by unfold Program.cellsOf;rw [inf47];rfl
theorem ag47:aggB Tryd.prog 47=false:=by unfold aggB;rw [Tryd.underlying47]
theorem inf50:Tryd.prog.info? 50=some Tryd.t50:=info_row Tryd.type50
theorem cel50:Tryd.prog.cellsOf 50=1:=by unfold Program.cellsOf;rw [inf50];rfl
theorem ag50:aggB Tryd.prog 50=false:=by unfold aggB;rw [Tryd.underlying50]
theorem inf51:Tryd.prog.info? 51=some Tryd.t51:=info_row Tryd.type51
theorem cel51:Tryd.prog.cellsOf 51=1:=by unfold Program.cellsOf;rw [inf51];rfl
theorem ag51:aggB Tryd.prog 51=false:=by unfold aggB;rw [Tryd.underlying51]
theorem inf53:Tryd.prog.info? 53=some Tryd.t53:=info_row Tryd.type53
theorem cel53:Tryd.prog.cellsOf 53=9:=by unfold Program.cellsOf;rw [inf53];rfl
theorem ag53:aggB Tryd.prog 53=true:=by unfold aggB;rw [Tryd.underlying53]
theorem inf56:Tryd.prog.info? 56=some Tryd.t56:=info_row Tryd.type56
theorem cel56:Tryd.prog.cellsOf 56=2:=by unfold Program.cellsOf;rw [inf56];rfl
theorem ag56:aggB Tryd.prog 56=true:=by unfold aggB;rw [Tryd.underlying56]
theorem inf59:Tryd.prog.info? 59=some Tryd.t59:=info_row Tryd.type59
theorem cel59:Tryd.prog.cellsOf 59=1:=by unfold Program.cellsOf;rw [inf59];rfl
theorem ag59:aggB Tryd.prog 59=false:=by unfold aggB;rw [Tryd.underlying59]
theorem inf63:Tryd.prog.info? 63=some Tryd.t63:=info_row Tryd.type63
theorem cel63:Tryd.prog.cellsOf 63=3:=by unfold Program.cellsOf;rw [inf63];rfl
theorem ag63:aggB Tryd.prog 63=true:=by unfold aggB;rw [Tryd.underlying63]
theorem inf68:Tryd.prog.info? 68=some Tryd.t68:=info_row Tryd.type68
theorem cel68:Tryd.prog.cellsOf 68=1:=by unfold Program.cellsOf;rw [inf68];rfl
theorem ag68:aggB Tryd.prog 68=false:=by unfold aggB;rw [Tryd.underlying68]
theorem inf76:Tryd.prog.info? 76=some Tryd.t76:=info_row Tryd.type76
theorem cel76:Tryd.prog.cellsOf 76=3:=by unfold Program.cellsOf;rw [inf76];rfl
theorem ag76:aggB Tryd.prog 76=true:=by unfold aggB;rw [Tryd.underlying76]
theorem inf80:Tryd.prog.info? 80=some Tryd.t80:=info_row Tryd.type80
theorem cel80:Tryd.prog.cellsOf 80=3:=by unfold Program.cellsOf;rw [inf80];rfl
theorem ag80:aggB Tryd.prog 80=true:=by unfold aggB;rw [Tryd.underlying80]
theorem inf87:Tryd.prog.info? 87=some Tryd.t87:=info_row Tryd.type87
theorem cel87:Tryd.prog.cellsOf 87=1:=by unfold Program.cellsOf;rw [inf87];rfl
theorem ag87:aggB Tryd.prog 87=false:=by unfold aggB;rw [Tryd.underlying87]
theorem inf95:Tryd.prog.info? 95=some Tryd.t95:=info_row Tryd.type95
theorem cel95:Tryd.prog.cellsOf 95=2:=by unfold Program.cellsOf;rw [inf95];rfl
theorem ag95:aggB Tryd.prog 95=true:=by unfold aggB;rw [Tryd.underlying95]
theorem inf102:Tryd.prog.info? 102=some Tryd.t102:=info_row Tryd.type102
theorem cel102:Tryd.prog.cellsOf 102=1:=by unfold Program.cellsOf;rw [inf102];rfl
theorem ag102:aggB Tryd.prog 102=false:=by unfold aggB;rw [Tryd.underlying102]
theorem inf104:Tryd.prog.info? 104=some Tryd.t104:=info_row Tryd.type104
theorem cel104:Tryd.prog.cellsOf 104=1:=by unfold Program.cellsOf;rw [inf104];rfl
theorem ag104:aggB Tryd.prog 104=true:=by unfold aggB;rw [Tryd.underlying104]
theorem inf106:Tryd.prog.info? 106=some Tryd.t106:=info_row Tryd.type106
theorem cel106:Tryd.prog.cellsOf 106=7:=by unfold Program.cellsOf;rw [inf106];rfl
theorem ag106:aggB Tryd.prog 106=true:=by unfold aggB;rw [Tryd.underlying106]
theorem inf111:Tryd.prog.info? 111=some Tryd.t111:=info_row Tryd.type111
theorem cel111:Tryd.prog.cellsOf 111=4:=by unfold Program.cellsOf;rw [inf111];rfl
theorem ag111:aggB Tryd.prog 111=true:=by unfold aggB;rw [Tryd.underlying111]
theorem inf116:Tryd.prog.info? 116=some Tryd.t116:=info_row Tryd.type116
theorem cel116:Tryd.prog.cellsOf 116=2:=by unfold Program.cellsOf;rw [inf116];rfl
theorem ag116:aggB Tryd.prog 116=true:=by unfold aggB;rw [Tryd.underlying116]
theorem inf120:Tryd.prog.info? 120=some Tryd.t120:=info_row Tryd.type120
theorem cel120:Tryd.prog.cellsOf 120=7:=by unfold Program.cellsOf;rw [inf120];rfl
theorem ag120:aggB Tryd.prog 120=true:=by unfold aggB;rw [Tryd.underlying120]
theorem inf133:Tryd.prog.info? 133=some Tryd.t133:=info_row Tryd.type133
theorem cel133:Tryd.prog.cellsOf 133=1:=by unfold Program.cellsOf;rw [inf133];rfl
theorem ag133:aggB Tryd.prog 133=false:=by unfold aggB;rw [Tryd.underlying133]
theorem inf135:Tryd.prog.info? 135=some Tryd.t135:=info_row Tryd.type135
theorem cel135:Tryd.prog.cellsOf 135=1:=by unfold Program.cellsOf;rw [inf135];rfl
theorem ag135:aggB Tryd.prog 135=false:=by unfold aggB;rw [Tryd.underlying135]
theorem inf139:Tryd.prog.info? 139=some Tryd.t139:=info_row Tryd.type139
theorem cel139:Tryd.prog.cellsOf 139=8:=by unfold Program.cellsOf;rw [inf139];rfl
theorem ag139:aggB Tryd.prog 139=true:=by unfold aggB;rw [Tryd.underlying139]
theorem inf144:Tryd.prog.info? 144=some Tryd.t144:=info_row Tryd.type144
theorem cel144:Tryd.prog.cellsOf 144=1:=by unfold Program.cellsOf;rw [inf144];rfl
theorem ag144:aggB Tryd.prog 144=false:=by unfold aggB;rw [Tryd.underlying144]
theorem inf145:Tryd.prog.info? 145=some Tryd.t145:=info_row Tryd.type145
theorem cel145:Tryd.prog.cellsOf 145=4:=by unfold Program.cellsOf;rw [inf145];rfl
theorem ag145:aggB Tryd.prog 145=true:=by unfold aggB;rw [Tryd.underlying145]
theorem inf147:Tryd.prog.info? 147=some Tryd.t147:=info_row Tryd.type147
theorem cel147:Tryd.prog.cellsOf 147=20:=by unfold Program.cellsOf;rw [inf147];rfl
theorem ag147:aggB Tryd.prog 147=true:=by unfold aggB;rw [Tryd.underlying147]
theorem inf158:Tryd.prog.info? 158=some Tryd.t158:=info_row Tryd.type158
theorem cel158:Tryd.prog.cellsOf 158=11:=by unfold Program.cellsOf;rw [inf158];rfl
theorem ag158:aggB Tryd.prog 158=true:=by unfold aggB;rw [Tryd.underlying158]
theorem inf167:Tryd.prog.info? 167=some Tryd.t167:=info_row Tryd.type167
theorem cel167:Tryd.prog.cellsOf 167=1:=by unfold Program.cellsOf;rw [inf167];rfl
theorem ag167:aggB Tryd.prog 167=false:=by unfold aggB;rw [Tryd.underlying167]
theorem inf168:Tryd.prog.info? 168=some Tryd.t168:=info_row Tryd.type168
theorem cel168:Tryd.prog.cellsOf 168=3:=by unfold Program.cellsOf;rw [inf168];rfl
theorem ag168:aggB Tryd.prog 168=true:=by unfold aggB;rw [Tryd.underlying168]
theorem inf169:Tryd.prog.info? 169=some Tryd.t169:=info_row Tryd.type169
theorem cel169:Tryd.prog.cellsOf 169=1:=by unfold Program.cellsOf;rw [inf169];rfl
theorem ag169:aggB Tryd.prog 169=false:=by unfold aggB;rw [Tryd.underlying169]
theorem inf173:Tryd.prog.info? 173=some Tryd.t173:=info_row Tryd.type173
theorem cel173:Tryd.prog.cellsOf 173=2:=by unfold Program.cellsOf;rw [inf173];rfl
theorem ag173:aggB Tryd.prog 173=true:=by unfold aggB;rw [Tryd.underlying173]
theorem inf176:Tryd.prog.info? 176=some Tryd.t176:=info_row Tryd.type176
theorem cel176:Tryd.prog.cellsOf 176=1:=by unfold Program.cellsOf;rw [inf176];rfl
theorem ag176:aggB Tryd.prog 176=false:=by unfold aggB;rw [Tryd.underlying176]
theorem eq76:EqFactB Tryd.prog 76 3:=EqFactB.flags Tryd.underlying76 (by kernel_rfl) (by kernel_rfl) (by intro f hf;simp at hf;rcases hf with rfl|rfl|rfl <;> exact ⟨by decide,by first|exact Tryd.underlying4⟩) rfl rfl
theorem eq80:EqFact Tryd.prog 80 3:=EqFact.ints Tryd.underlying80 (by kernel_rfl) (by kernel_rfl) (by intro f hf;simp at hf;rcases hf with rfl|rfl|rfl <;> exact ⟨by decide,by first|exact ⟨_,Tryd.underlying3⟩⟩) rfl rfl
theorem eq95:EqFact Tryd.prog 95 2:=EqFact.ints Tryd.underlying95 (by kernel_rfl) (by kernel_rfl) (by intro f hf;simp at hf;rcases hf with rfl|rfl <;> exact ⟨by decide,by first|exact ⟨_,Tryd.underlying3⟩⟩) rfl rfl
theorem good3:Go.Av.Good Tryd.prog 3 (tt 3):=⟨⟨Tryd.t3,_,inf3,rfl,rfl,rfl,fun c=>by simp [tt,VRs,VR,Value.cells],rfl,rfl⟩,Tryd.underlying3,(fun h=>by cases h),(fun h=>by cases h)⟩
theorem good4:Go.Av.Good Tryd.prog 4 (tt 4):=⟨⟨Tryd.t4,_,inf4,rfl,rfl,rfl,fun c=>by simp [tt,VRs,VR,Value.cells],rfl,rfl⟩,Tryd.underlying4,(fun h=>by cases h),(fun h=>by cases h)⟩
theorem good9:Go.Av.Good Tryd.prog 9 (tt 9):=⟨⟨Tryd.t9,_,inf9,rfl,rfl,rfl,fun c=>by simp [tt,VRs,VR,Value.cells],rfl,rfl⟩,Tryd.underlying9,(fun h=>by cases h),(fun h=>by cases h)⟩
theorem good22:Go.Av.Good Tryd.prog 22 (tt 22):=⟨⟨Tryd.t22,_,inf22,rfl,rfl,rfl,fun c=>by simp [tt,VRs,VR,Value.cells],rfl,rfl⟩,⟨Tryd.underlying22,by rw [inf76];rfl⟩,(fun h=>by cases h),(fun h=>by cases h)⟩
theorem good23:Go.Av.Good Tryd.prog 23 (tt 23):=⟨⟨Tryd.t23,_,inf23,rfl,rfl,rfl,fun c=>by simp [tt,VRs,VR,Value.cells],rfl,rfl⟩,⟨Tryd.underlying23,by rw [inf80];rfl⟩,(fun h=>by cases h),(fun h=>by cases h)⟩
theorem good25:Go.Av.Good Tryd.prog 25 (tt 25):=⟨⟨Tryd.t25,_,inf25,rfl,rfl,rfl,fun c=>by simp [tt,VRs,VR,Value.cells],rfl,rfl⟩,⟨_,Tryd.underlying25,by simp [cel22,ag22,cel23,ag23,tt],by simp [inf22,Tryd.underlying22,inf23,Tryd.underlying23]⟩,(fun h=>by cases h),(fun h=>by cases h)⟩
theorem good26:Go.Av.Good Tryd.prog 26 (tt 26):=⟨⟨Tryd.t26,_,inf26,rfl,rfl,rfl,fun c=>by simp [tt,VRs,VR,Value.cells],rfl,rfl⟩,⟨Tryd.underlying26,by rw [inf3];rfl⟩,(fun h=>by cases h),(fun h=>by cases h)⟩
theorem good27:Go.Av.Good Tryd.prog 27 (tt 27):=⟨⟨Tryd.t27,_,inf27,rfl,rfl,rfl,fun c=>by simp [tt,VRs,VR,Value.cells],rfl,rfl⟩,Tryd.underlying27,(fun h=>by cases h),(fun h=>by cases h)⟩
theorem good29:Go.Av.Good Tryd.prog 29 (tt 29):=⟨⟨Tryd.t29,_,inf29,rfl,rfl,rfl,fun c=>by simp [tt,VRs,VR,Value.cells],rfl,rfl⟩,⟨_,Tryd.underlying29,rfl⟩,(fun h=>by cases h),(fun h=>by cases h)⟩
theorem good33:Go.Av.Good Tryd.prog 33 (tt 33):=⟨⟨Tryd.t33,_,inf33,rfl,rfl,rfl,fun c=>by simp [tt,VRs,VR,Value.cells],rfl,rfl⟩,⟨Tryd.underlying33,by rw [inf25];rfl⟩,(fun h=>by cases h),(fun h=>by cases h)⟩
theorem good35:Go.Av.Good Tryd.prog 35 (tt 35):=⟨⟨Tryd.t35,_,inf35,rfl,rfl,rfl,fun c=>by simp [tt,VRs,VR,Value.cells],rfl,rfl⟩,⟨Tryd.underlying35,by rw [inf95];rfl⟩,(fun h=>by cases h),(fun h=>by cases h)⟩
theorem good41:Go.Av.Good Tryd.prog 41 (tt 41):=⟨⟨Tryd.t41,_,inf41,rfl,rfl,rfl,fun c=>by simp [tt,VRs,VR,Value.cells],rfl,rfl⟩,⟨Tryd.underlying41,by rw [inf53];rfl⟩,(fun h=>by cases h),(fun h=>by cases h)⟩
theorem good43:Go.Av.Good Tryd.prog 43 (tt 43):=⟨⟨Tryd.t43,_,inf43,rfl,rfl,rfl,fun c=>by simp [tt,VRs,VR,Value.cells],rfl,rfl⟩,⟨Tryd.underlying43,by rw [inf51];rfl⟩,(fun h=>by cases h),(fun h=>by cases h)⟩
theorem good45:Go.Av.Good Tryd.prog 45 (tt 45):=⟨⟨Tryd.t45,_,inf45,rfl,rfl,rfl,fun c=>by simp [tt,VRs,VR,Value.cells],rfl,rfl⟩,⟨Tryd.underlying45,by rw [inf63];rfl⟩,(fun h=>by cases h),(fun h=>by cases h)⟩
theorem good47:Go.Av.Good Tryd.prog 47 (tt 47):=⟨⟨Tryd.t47,_,inf47,rfl,rfl,rfl,fun c=>by simp [tt,VRs,VR,Value.cells],rfl,rfl⟩,⟨Tryd.underlying47,by rw [inf50];rfl⟩,(fun h=>by cases h),(fun h=>by cases h)⟩
theorem good50:Go.Av.Good Tryd.prog 50 (tt 50):=⟨⟨Tryd.t50,_,inf50,rfl,rfl,rfl,fun c=>by simp [tt,VRs,VR,Value.cells],rfl,rfl⟩,⟨Tryd.underlying50,by rw [inf4];rfl⟩,(fun h=>by cases h),(fun h=>by cases h)⟩
theorem good51:Go.Av.Good Tryd.prog 51 (tt 51):=⟨⟨Tryd.t51,_,inf51,rfl,rfl,rfl,fun c=>by simp [tt,VRs,VR,Value.cells],rfl,rfl⟩,⟨Tryd.underlying51,by rw [inf120];rfl⟩,(fun h=>by cases h),(fun h=>by cases h)⟩
theorem good53:Go.Av.Good Tryd.prog 53 (tt 53):=⟨⟨Tryd.t53,_,inf53,rfl,rfl,rfl,fun c=>by simp [tt,VRs,VR,Value.cells],rfl,rfl⟩,⟨_,Tryd.underlying53,by simp [cel3,ag3,cel51,ag51,tt],by simp [inf3,Tryd.underlying3,inf51,Tryd.underlying51]⟩,(fun h=>by cases h),(fun h=>by cases h)⟩
theorem good56:Go.Av.Good Tryd.prog 56 (tt 56):=⟨⟨Tryd.t56,_,inf56,rfl,rfl,rfl,fun c=>by simp [tt,VRs,VR,Value.cells],rfl,rfl⟩,⟨_,Tryd.underlying56,by simp [cel26,ag26,tt],by simp [inf26,Tryd.underlying26]⟩,(fun h=>by cases h),(fun h=>by cases h)⟩
theorem good59:Go.Av.Good Tryd.prog 59 (tt 59):=⟨⟨Tryd.t59,_,inf59,rfl,rfl,rfl,fun c=>by simp [tt,VRs,VR,Value.cells],rfl,rfl⟩,⟨Tryd.underlying59,by rw [inf56];rfl⟩,(fun h=>by cases h),(fun h=>by cases h)⟩
theorem good63:Go.Av.Good Tryd.prog 63 (tt 63):=⟨⟨Tryd.t63,_,inf63,rfl,rfl,rfl,fun c=>by simp [tt,VRs,VR,Value.cells],rfl,rfl⟩,⟨_,Tryd.underlying63,by simp [cel3,ag3,tt],by simp [inf3,Tryd.underlying3]⟩,(fun h=>by cases h),(fun h=>by cases h)⟩
theorem good68:Go.Av.Good Tryd.prog 68 (tt 68):=⟨⟨Tryd.t68,_,inf68,rfl,rfl,rfl,fun c=>by simp [tt,VRs,VR,Value.cells],rfl,rfl⟩,⟨Tryd.underlying68,by rw [inf26];rfl⟩,(fun h=>by cases h),(fun h=>by cases h)⟩
theorem good76:Go.Av.Good Tryd.prog 76 (tt 76):=⟨⟨Tryd.t76,_,inf76,rfl,rfl,rfl,fun c=>by simp [tt,VRs,VR,Value.cells],rfl,rfl⟩,⟨_,Tryd.underlying76,by simp [cel4,ag4,tt],by simp [inf4,Tryd.underlying4]⟩,(fun h=>by cases h),fun _=>eq76⟩
theorem good80:Go.Av.Good Tryd.prog 80 (tt 80):=⟨⟨Tryd.t80,_,inf80,rfl,rfl,rfl,fun c=>by simp [tt,VRs,VR,Value.cells],rfl,rfl⟩,⟨_,Tryd.underlying80,by simp [cel3,ag3,tt],by simp [inf3,Tryd.underlying3]⟩,fun _=>eq80,(fun h=>by cases h)⟩
theorem good87:Go.Av.Good Tryd.prog 87 (tt 87):=⟨⟨Tryd.t87,_,inf87,rfl,rfl,rfl,fun c=>by simp [tt,VRs,VR,Value.cells],rfl,rfl⟩,⟨Tryd.underlying87,by rw [inf35];rfl⟩,(fun h=>by cases h),(fun h=>by cases h)⟩
theorem good95:Go.Av.Good Tryd.prog 95 (tt 95):=⟨⟨Tryd.t95,_,inf95,rfl,rfl,rfl,fun c=>by simp [tt,VRs,VR,Value.cells],rfl,rfl⟩,⟨_,Tryd.underlying95,by simp [cel3,ag3,tt],by simp [inf3,Tryd.underlying3]⟩,fun _=>eq95,(fun h=>by cases h)⟩
theorem good102:Go.Av.Good Tryd.prog 102 (tt 102):=⟨⟨Tryd.t102,_,inf102,rfl,rfl,rfl,fun c=>by simp [tt,VRs,VR,Value.cells],rfl,rfl⟩,Tryd.underlying102,(fun h=>by cases h),(fun h=>by cases h)⟩
theorem good104:Go.Av.Good Tryd.prog 104 (tt 104):=⟨⟨Tryd.t104,_,inf104,rfl,rfl,rfl,fun c=>by simp [tt,VRs,VR,Value.cells],rfl,rfl⟩,⟨_,Tryd.underlying104,by simp [cel102,ag102,tt],by simp [inf102,Tryd.underlying102]⟩,(fun h=>by cases h),(fun h=>by cases h)⟩
theorem good106:Go.Av.Good Tryd.prog 106 (tt 106):=⟨⟨Tryd.t106,_,inf106,rfl,rfl,rfl,fun c=>by simp [tt,VRs,VR,Value.cells],rfl,rfl⟩,⟨Tryd.underlying106,by rw [inf3];rfl⟩,(fun h=>by cases h),(fun h=>by cases h)⟩
theorem good111:Go.Av.Good Tryd.prog 111 (tt 111):=⟨⟨Tryd.t111,_,inf111,rfl,rfl,rfl,fun c=>by simp [tt,VRs,VR,Value.cells],rfl,rfl⟩,⟨_,Tryd.underlying111,by simp [cel26,ag26,cel35,ag35,cel50,ag50,tt],by simp [inf26,Tryd.underlying26,inf35,Tryd.underlying35,inf50,Tryd.underlying50]⟩,(fun h=>by cases h),(fun h=>by cases h)⟩
theorem good116:Go.Av.Good Tryd.prog 116 (tt 116):=⟨⟨Tryd.t116,_,inf116,rfl,rfl,rfl,fun c=>by simp [tt,VRs,VR,Value.cells],rfl,rfl⟩,⟨_,Tryd.underlying116,by simp [cel3,ag3,tt],by simp [inf3,Tryd.underlying3]⟩,(fun h=>by cases h),(fun h=>by cases h)⟩
theorem good120:Go.Av.Good Tryd.prog 120 (tt 120):=⟨⟨Tryd.t120,_,inf120,rfl,rfl,rfl,fun c=>by simp [tt,VRs,VR,Value.cells],rfl,rfl⟩,⟨_,Tryd.underlying120,by simp [cel3,ag3,cel116,ag116,tt],by simp [inf3,Tryd.underlying3,inf116,Tryd.underlying116]⟩,(fun h=>by cases h),(fun h=>by cases h)⟩
theorem good133:Go.Av.Good Tryd.prog 133 (tt 133):=⟨⟨Tryd.t133,_,inf133,rfl,rfl,rfl,fun c=>by simp [tt,VRs,VR,Value.cells],rfl,rfl⟩,⟨_,Tryd.underlying133,rfl⟩,(fun h=>by cases h),(fun h=>by cases h)⟩
theorem good135:Go.Av.Good Tryd.prog 135 (tt 135):=⟨⟨Tryd.t135,_,inf135,rfl,rfl,rfl,fun c=>by simp [tt,VRs,VR,Value.cells],rfl,rfl⟩,Tryd.underlying135,(fun h=>by cases h),(fun h=>by cases h)⟩
theorem good139:Go.Av.Good Tryd.prog 139 (tt 139):=⟨⟨Tryd.t139,_,inf139,rfl,rfl,rfl,fun c=>by simp [tt,VRs,VR,Value.cells],rfl,rfl⟩,⟨Tryd.underlying139,by rw [inf3];rfl⟩,(fun h=>by cases h),(fun h=>by cases h)⟩
theorem good144:Go.Av.Good Tryd.prog 144 (tt 144):=⟨⟨Tryd.t144,_,inf144,rfl,rfl,rfl,fun c=>by simp [tt,VRs,VR,Value.cells],rfl,rfl⟩,⟨_,Tryd.underlying144,rfl⟩,(fun h=>by cases h),(fun h=>by cases h)⟩
theorem good145:Go.Av.Good Tryd.prog 145 (tt 145):=⟨⟨Tryd.t145,_,inf145,rfl,rfl,rfl,fun c=>by simp [tt,VRs,VR,Value.cells],rfl,rfl⟩,⟨Tryd.underlying145,by rw [inf3];rfl⟩,(fun h=>by cases h),(fun h=>by cases h)⟩
theorem good147:Go.Av.Good Tryd.prog 147 (tt 147):=⟨⟨Tryd.t147,_,inf147,rfl,rfl,rfl,fun c=>by simp [tt,VRs,VR,Value.cells],rfl,rfl⟩,⟨_,Tryd.underlying147,by simp [cel3,ag3,cel106,ag106,cel145,ag145,tt],by simp [inf3,Tryd.underlying3,inf106,Tryd.underlying106,inf145,Tryd.underlying145]⟩,(fun h=>by cases h),(fun h=>by cases h)⟩
theorem good158:Go.Av.Good Tryd.prog 158 (tt 158):=⟨⟨Tryd.t158,_,inf158,rfl,rfl,rfl,fun c=>by simp [tt,VRs,VR,Value.cells],rfl,rfl⟩,⟨_,Tryd.underlying158,by simp [cel3,ag3,cel53,ag53,tt],by simp [inf3,Tryd.underlying3,inf53,Tryd.underlying53]⟩,(fun h=>by cases h),(fun h=>by cases h)⟩
theorem good167:Go.Av.Good Tryd.prog 167 (tt 167):=⟨⟨Tryd.t167,_,inf167,rfl,rfl,rfl,fun c=>by simp [tt,VRs,VR,Value.cells],rfl,rfl⟩,⟨_,Tryd.underlying167,rfl⟩,(fun h=>by cases h),(fun h=>by cases h)⟩
theorem good168:Go.Av.Good Tryd.prog 168 (tt 168):=⟨⟨Tryd.t168,_,inf168,rfl,rfl,rfl,fun c=>by simp [tt,VRs,VR,Value.cells],rfl,rfl⟩,⟨_,Tryd.underlying168,by simp [cel4,ag4,tt],by simp [inf4,Tryd.underlying4]⟩,(fun h=>by cases h),(fun h=>by cases h)⟩
theorem good169:Go.Av.Good Tryd.prog 169 (tt 169):=⟨⟨Tryd.t169,_,inf169,rfl,rfl,rfl,fun c=>by simp [tt,VRs,VR,Value.cells],rfl,rfl⟩,⟨Tryd.underlying169,by rw [inf167];rfl⟩,(fun h=>by cases h),(fun h=>by cases h)⟩
theorem good173:Go.Av.Good Tryd.prog 173 (tt 173):=⟨⟨Tryd.t173,_,inf173,rfl,rfl,rfl,fun c=>by simp [tt,VRs,VR,Value.cells],rfl,rfl⟩,⟨Tryd.underlying173,by rw [inf3];rfl⟩,(fun h=>by cases h),(fun h=>by cases h)⟩
theorem good176:Go.Av.Good Tryd.prog 176 (tt 176):=⟨⟨Tryd.t176,_,inf176,rfl,rfl,rfl,fun c=>by simp [tt,VRs,VR,Value.cells],rfl,rfl⟩,⟨_,Tryd.underlying176,rfl⟩,(fun h=>by cases h),(fun h=>by cases h)⟩
theorem tab:Tab Tryd.prog tt where
  all:=fun t h=>by
    unfold tt at h ⊢
    split at h
    · exact good3
    · exact good4
    · exact good9
    · exact good22
    · exact good23
    · exact good25
    · exact good26
    · exact good27
    · exact good29
    · exact good33
    · exact good35
    · exact good41
    · exact good43
    · exact good45
    · exact good47
    · exact good50
    · exact good51
    · exact good53
    · exact good56
    · exact good59
    · exact good63
    · exact good68
    · exact good76
    · exact good80
    · exact good87
    · exact good95
    · exact good102
    · exact good104
    · exact good106
    · exact good111
    · exact good116
    · exact good120
    · exact good133
    · exact good135
    · exact good139
    · exact good144
    · exact good145
    · exact good147
    · exact good158
    · exact good167
    · exact good168
    · exact good169
    · exact good173
    · exact good176
    · cases h
  elem:=fun t e h=>by
    unfold tt at h
    split at h <;> first|(cases h;done)|(cases h;rfl)
@[go_sem] theorem tt_0:(∀ (s:AS) (p:AV),aload (tt 3) s p=(s.row p).bind fun r=>apart false 1 r.2 r.1):=by intro s p;unfold aload;cases s.row p <;> rfl
@[go_sem] theorem tt_1:(∀ ev:Operand→AV,arows tt ev (.alloc 3)=some (1,[[.int .i64 0]],3)):=by intros;rfl
@[go_sem] theorem tt_2:(∀ (ev:Operand→AV) (x:Operand),arows tt ev (.box 3 x)=if noL (ev x)=true∧(ev x).cells.length=1∧(ev x).cells.all AV.cell=true then some (1,[(ev x).cells],3) else none):=by intro ev x;simp [arows,tt,TI.knows]
@[go_sem] theorem tt_3:(∀ (k:IntKind) (n:Int),aconv (tt 3) (tt 102) (.int k n)=some (.int .u64 (wr .u64 n))):=by intros;rfl
@[go_sem] theorem tt_4:(∀ (s:AS) (p v:AV),aput (tt 3) s p v=aputz 1 s p v):=fun s p v=>aput_z rfl rfl s p v
@[go_sem] theorem tt_5:(∀ (s:AS) (p:AV),aload (tt 4) s p=(s.row p).bind fun r=>apart false 1 r.2 r.1):=by intro s p;unfold aload;cases s.row p <;> rfl
@[go_sem] theorem tt_6:(∀ ev:Operand→AV,arows tt ev (.alloc 4)=some (1,[[.bool false]],4)):=by intros;rfl
@[go_sem] theorem tt_7:(∀ (ev:Operand→AV) (x:Operand),arows tt ev (.box 4 x)=if noL (ev x)=true∧(ev x).cells.length=1∧(ev x).cells.all AV.cell=true then some (1,[(ev x).cells],4) else none):=by intro ev x;simp [arows,tt,TI.knows]
@[go_sem] theorem tt_8:(∀ c a b:Bool,abin (tt 4) .eql c (.bool a) (.bool b)=some (.bool (a == b))):=by intros;rfl
@[go_sem] theorem tt_9:(∀ c a b:Bool,abin (tt 4) .neq c (.bool a) (.bool b)=some (.bool (!(a == b)))):=by intros;rfl
@[go_sem] theorem tt_10:(∀ (s:AS) (p v:AV),aput (tt 4) s p v=aputz 1 s p v):=fun s p v=>aput_z rfl rfl s p v
@[go_sem] theorem tt_11:(∀ (s:AS) (p:AV),aload (tt 9) s p=(s.row p).bind fun r=>apart false 1 r.2 r.1):=by intro s p;unfold aload;cases s.row p <;> rfl
@[go_sem] theorem tt_12:(∀ ev:Operand→AV,arows tt ev (.alloc 9)=some (1,[[.str []]],9)):=by intros;rfl
@[go_sem] theorem tt_13:(∀ (ev:Operand→AV) (x:Operand),arows tt ev (.box 9 x)=if noL (ev x)=true∧(ev x).cells.length=1∧(ev x).cells.all AV.cell=true then some (1,[(ev x).cells],9) else none):=by intro ev x;simp [arows,tt,TI.knows]
@[go_sem] theorem tt_14:(∀ (ez:Nat) (l:List UInt8) (lo hi:Option AV),asl (tt 9) ez lo hi (.str l)=aslz l.length lo hi fun a b=>some (.str ((l.drop a).take (b - a)))):=fun ez l lo hi=>asl_str rfl ez lo hi l
@[go_sem] theorem tt_15:(∀ (l:List UInt8),alen (tt 9) (.str l)=some (l.length:Int)):=by intros;rfl
@[go_sem] theorem tt_16:(∀ (s:AS) (p v:AV),aput (tt 9) s p v=aputz 1 s p v):=fun s p v=>aput_z rfl rfl s p v
@[go_sem] theorem tt_17:(∀ (s:AS) (p:AV),aload (tt 22) s p=(s.row p).bind fun r=>apart false 1 r.2 r.1):=by intro s p;unfold aload;cases s.row p <;> rfl
@[go_sem] theorem tt_18:(∀ ev:Operand→AV,arows tt ev (.alloc 22)=some (1,[[.nils]],22)):=by intros;rfl
@[go_sem] theorem tt_19:(∀ (ev:Operand→AV) (x:Operand),arows tt ev (.box 22 x)=if noL (ev x)=true∧(ev x).cells.length=1∧(ev x).cells.all AV.cell=true then some (1,[(ev x).cells],22) else none):=by intro ev x;simp [arows,tt,TI.knows]
@[go_sem] theorem tt_20:(∀ (es:List (List AV)) (k:IntKind) (i:Int),aidx tt 22 (.lst 3 es) (.int k i)=if 0≤i∧i < es.length then some (.iptr (es.getD i.toNat []) 0) else none):=by intros;rfl
@[go_sem] theorem tt_21:(∀ (b:Bid) (o n:Nat) (k:IntKind) (i:Int),aidx tt 22 (.slc b 3 o n) (.int k i)=if 0≤i∧i < n then some (.ptr b (o+i.toNat) 0) else none):=by intros;rfl
@[go_sem] theorem tt_22:(∀ (b:Bid) (e o n:Nat),alen (tt 22) (.slc b e o n)=some (n:Int)):=by intros;rfl
@[go_sem] theorem tt_23:(∀ (e:Nat) (es:List (List AV)),alen (tt 22) (.lst e es)=some (es.length:Int)):=by intros;rfl
@[go_sem] theorem tt_24:(alen (tt 22) .nils=some 0):=by intros;rfl
@[go_sem] theorem tt_25:(∀ c:Bool,abin (tt 22) .eql c .nils .nils=some (.bool true)):=by intros;rfl
@[go_sem] theorem tt_26:(∀ (c:Bool) (b:Bid) (e i n:Nat),abin (tt 22) .eql c (.slc b e i n) .nils=some (.bool false)):=by intros;rfl
@[go_sem] theorem tt_27:(∀ (c:Bool) (e:Nat) (r:List AV) (es:List (List AV)),abin (tt 22) .eql c (.lst e (r :: es)) .nils=some (.bool false)):=by intros;rfl
@[go_sem] theorem tt_28:(∀ c:Bool,abin (tt 22) .neq c .nils .nils=some (.bool false)):=by intros;rfl
@[go_sem] theorem tt_29:(∀ (c:Bool) (b:Bid) (e i n:Nat),abin (tt 22) .neq c (.slc b e i n) .nils=some (.bool true)):=by intros;rfl
@[go_sem] theorem tt_30:(∀ (c:Bool) (e:Nat) (r:List AV) (es:List (List AV)),abin (tt 22) .neq c (.lst e (r :: es)) .nils=some (.bool true)):=by intros;rfl
@[go_sem] theorem tt_31:(elsize tt 22=3):=by intros;rfl
@[go_sem] theorem tt_32:(∀ (ev:Operand→AV) (n:Nat) (ps:List (Nat × Operand)),absl tt ev 22 n ps=if n≤16777216∧n * 3≤16777216∧ps.map (·.1)=List.range n∧(ps.all fun p=>noL (ev p.2) && ((ev p.2).cells.length == 3) && (ev p.2).cells.all AV.cell)=true then some (3,ps.map fun p=>(ev p.2).cells) else none):=by intros;rfl
@[go_sem] theorem tt_33:(∀ (k k':IntKind) (l c:Int),amake tt 22 (.int k l) (.int k' c)=if 0≤l∧l≤c∧c * 3≤70368744177664∧c≤70368744177664 then some (3,List.replicate l.toNat [.bool false,.bool false,.bool false],l.toNat) else none):=by intros;rfl
@[go_sem] theorem tt_34:(∀ (h:AH) (x y:AV),acopy tt h 22 x y=acopyz 3 h x y):=fun h x y=>by unfold acopy acopyz;rfl
@[go_sem] theorem tt_35:(∀ (ez b1 o n:Nat) (b:Bid) (lo hi:Option AV),asl (tt 22) ez lo hi (.slc b b1 o n)=aslz n lo hi fun l h=>if b1=ez then some (.slc b b1 (o+l) (h - l)) else none):=fun ez b1 o n b lo hi=>asl_slc rfl ez lo hi b b1 o n
@[go_sem] theorem tt_36:(∀ (ez e:Nat) (es:List (List AV)) (lo hi:Option AV),asl (tt 22) ez lo hi (.lst e es)=aslz es.length lo hi fun l h=>if e=ez then some (.lst e ((es.drop l).take (h - l))) else none):=fun ez e es lo hi=>asl_lst rfl ez lo hi e es
@[go_sem] theorem tt_37:(∀ (h:AH) (id:Bid) (x y:AV),aapp tt h 22 id x y=aappz 3 3 h id x y):=fun h id x y=>by unfold aapp aappz;rfl
@[go_sem] theorem tt_38:(∀ (s:AS) (p v:AV),aput (tt 22) s p v=aputz 1 s p v):=fun s p v=>aput_z rfl rfl s p v
@[go_sem] theorem tt_39:(∀ (s:AS) (p:AV),aload (tt 23) s p=(s.row p).bind fun r=>apart false 1 r.2 r.1):=by intro s p;unfold aload;cases s.row p <;> rfl
@[go_sem] theorem tt_40:(∀ ev:Operand→AV,arows tt ev (.alloc 23)=some (1,[[.nils]],23)):=by intros;rfl
@[go_sem] theorem tt_41:(∀ (ev:Operand→AV) (x:Operand),arows tt ev (.box 23 x)=if noL (ev x)=true∧(ev x).cells.length=1∧(ev x).cells.all AV.cell=true then some (1,[(ev x).cells],23) else none):=by intro ev x;simp [arows,tt,TI.knows]
@[go_sem] theorem tt_42:(∀ (es:List (List AV)) (k:IntKind) (i:Int),aidx tt 23 (.lst 3 es) (.int k i)=if 0≤i∧i < es.length then some (.iptr (es.getD i.toNat []) 0) else none):=by intros;rfl
@[go_sem] theorem tt_43:(∀ (b:Bid) (o n:Nat) (k:IntKind) (i:Int),aidx tt 23 (.slc b 3 o n) (.int k i)=if 0≤i∧i < n then some (.ptr b (o+i.toNat) 0) else none):=by intros;rfl
@[go_sem] theorem tt_44:(∀ (b:Bid) (e o n:Nat),alen (tt 23) (.slc b e o n)=some (n:Int)):=by intros;rfl
@[go_sem] theorem tt_45:(∀ (e:Nat) (es:List (List AV)),alen (tt 23) (.lst e es)=some (es.length:Int)):=by intros;rfl
@[go_sem] theorem tt_46:(alen (tt 23) .nils=some 0):=by intros;rfl
@[go_sem] theorem tt_47:(∀ c:Bool,abin (tt 23) .eql c .nils .nils=some (.bool true)):=by intros;rfl
@[go_sem] theorem tt_48:(∀ (c:Bool) (b:Bid) (e i n:Nat),abin (tt 23) .eql c (.slc b e i n) .nils=some (.bool false)):=by intros;rfl
@[go_sem] theorem tt_49:(∀ (c:Bool) (e:Nat) (r:List AV) (es:List (List AV)),abin (tt 23) .eql c (.lst e (r :: es)) .nils=some (.bool false)):=by intros;rfl
@[go_sem] theorem tt_50:(∀ c:Bool,abin (tt 23) .neq c .nils .nils=some (.bool false)):=by intros;rfl
@[go_sem] theorem tt_51:(∀ (c:Bool) (b:Bid) (e i n:Nat),abin (tt 23) .neq c (.slc b e i n) .nils=some (.bool true)):=by intros;rfl
@[go_sem] theorem tt_52:(∀ (c:Bool) (e:Nat) (r:List AV) (es:List (List AV)),abin (tt 23) .neq c (.lst e (r :: es)) .nils=some (.bool true)):=by intros;rfl
@[go_sem] theorem tt_53:(elsize tt 23=3):=by intros;rfl
@[go_sem] theorem tt_54:(∀ (ev:Operand→AV) (n:Nat) (ps:List (Nat × Operand)),absl tt ev 23 n ps=if n≤16777216∧n * 3≤16777216∧ps.map (·.1)=List.range n∧(ps.all fun p=>noL (ev p.2) && ((ev p.2).cells.length == 3) && (ev p.2).cells.all AV.cell)=true then some (3,ps.map fun p=>(ev p.2).cells) else none):=by intros;rfl
@[go_sem] theorem tt_55:(∀ (k k':IntKind) (l c:Int),amake tt 23 (.int k l) (.int k' c)=if 0≤l∧l≤c∧c * 24≤70368744177664∧c≤70368744177664 then some (3,List.replicate l.toNat [.int .i64 0,.int .i64 0,.int .i64 0],l.toNat) else none):=by intros;rfl
@[go_sem] theorem tt_56:(∀ (h:AH) (x y:AV),acopy tt h 23 x y=acopyz 3 h x y):=fun h x y=>by unfold acopy acopyz;rfl
@[go_sem] theorem tt_57:(∀ (ez b1 o n:Nat) (b:Bid) (lo hi:Option AV),asl (tt 23) ez lo hi (.slc b b1 o n)=aslz n lo hi fun l h=>if b1=ez then some (.slc b b1 (o+l) (h - l)) else none):=fun ez b1 o n b lo hi=>asl_slc rfl ez lo hi b b1 o n
@[go_sem] theorem tt_58:(∀ (ez e:Nat) (es:List (List AV)) (lo hi:Option AV),asl (tt 23) ez lo hi (.lst e es)=aslz es.length lo hi fun l h=>if e=ez then some (.lst e ((es.drop l).take (h - l))) else none):=fun ez e es lo hi=>asl_lst rfl ez lo hi e es
@[go_sem] theorem tt_59:(∀ (h:AH) (id:Bid) (x y:AV),aapp tt h 23 id x y=aappz 3 24 h id x y):=fun h id x y=>by unfold aapp aappz;rfl
@[go_sem] theorem tt_60:(∀ (s:AS) (p v:AV),aput (tt 23) s p v=aputz 1 s p v):=fun s p v=>aput_z rfl rfl s p v
@[go_sem] theorem tt_61:(∀ (s:AS) (p:AV),aload (tt 25) s p=(s.row p).bind fun r=>apart true 2 r.2 r.1):=by intro s p;unfold aload;cases s.row p <;> rfl
@[go_sem] theorem tt_62:(∀ ev:Operand→AV,arows tt ev (.alloc 25)=some (2,[[.nils,.nils]],25)):=by intros;rfl
@[go_sem] theorem tt_63:(∀ (ev:Operand→AV) (x:Operand),arows tt ev (.box 25 x)=if noL (ev x)=true∧(ev x).cells.length=2∧(ev x).cells.all AV.cell=true then some (2,[(ev x).cells],25) else none):=by intro ev x;simp [arows,tt,TI.knows]
@[go_sem] theorem tt_64:(∀ v:AV,afieldAddr (tt 25) 0 v=amove 0 v):=by intros;rfl
@[go_sem] theorem tt_65:(∀ cs:List AV,afield (tt 25) 0 (.agg cs)=apart false 1 0 cs):=by intros;rfl
@[go_sem] theorem tt_66:(∀ v:AV,afieldAddr (tt 25) 1 v=amove 1 v):=by intros;rfl
@[go_sem] theorem tt_67:(∀ cs:List AV,afield (tt 25) 1 (.agg cs)=apart false 1 1 cs):=by intros;rfl
@[go_sem] theorem tt_68:(∀ ps:List (Nat × AV),abuild tt 25 ps=(afill (fun i=>([(0,1),(1,1)]:List (Nat × Nat))[i]?) [.nils,.nils] ps).map .agg):=fun ps=>by show Option.map _ (afill _ _ _)=_;congr 2;funext i;rw [← List.getElem?_map];rfl
@[go_sem] theorem tt_69:(∀ (s:AS) (p v:AV),aput (tt 25) s p v=aputz 2 s p v):=fun s p v=>aput_z rfl rfl s p v
@[go_sem] theorem tt_70:(∀ (s:AS) (p:AV),aload (tt 26) s p=(s.row p).bind fun r=>apart false 1 r.2 r.1):=by intro s p;unfold aload;cases s.row p <;> rfl
@[go_sem] theorem tt_71:(∀ ev:Operand→AV,arows tt ev (.alloc 26)=some (1,[[.nils]],26)):=by intros;rfl
@[go_sem] theorem tt_72:(∀ (ev:Operand→AV) (x:Operand),arows tt ev (.box 26 x)=if noL (ev x)=true∧(ev x).cells.length=1∧(ev x).cells.all AV.cell=true then some (1,[(ev x).cells],26) else none):=by intro ev x;simp [arows,tt,TI.knows]
@[go_sem] theorem tt_73:(∀ (es:List (List AV)) (k:IntKind) (i:Int),aidx tt 26 (.lst 1 es) (.int k i)=if 0≤i∧i < es.length then some (.iptr (es.getD i.toNat []) 0) else none):=by intros;rfl
@[go_sem] theorem tt_74:(∀ (b:Bid) (o n:Nat) (k:IntKind) (i:Int),aidx tt 26 (.slc b 1 o n) (.int k i)=if 0≤i∧i < n then some (.ptr b (o+i.toNat) 0) else none):=by intros;rfl
@[go_sem] theorem tt_75:(∀ (b:Bid) (e o n:Nat),alen (tt 26) (.slc b e o n)=some (n:Int)):=by intros;rfl
@[go_sem] theorem tt_76:(∀ (e:Nat) (es:List (List AV)),alen (tt 26) (.lst e es)=some (es.length:Int)):=by intros;rfl
@[go_sem] theorem tt_77:(alen (tt 26) .nils=some 0):=by intros;rfl
@[go_sem] theorem tt_78:(∀ c:Bool,abin (tt 26) .eql c .nils .nils=some (.bool true)):=by intros;rfl
@[go_sem] theorem tt_79:(∀ (c:Bool) (b:Bid) (e i n:Nat),abin (tt 26) .eql c (.slc b e i n) .nils=some (.bool false)):=by intros;rfl
@[go_sem] theorem tt_80:(∀ (c:Bool) (e:Nat) (r:List AV) (es:List (List AV)),abin (tt 26) .eql c (.lst e (r :: es)) .nils=some (.bool false)):=by intros;rfl
@[go_sem] theorem tt_81:(∀ c:Bool,abin (tt 26) .neq c .nils .nils=some (.bool false)):=by intros;rfl
@[go_sem] theorem tt_82:(∀ (c:Bool) (b:Bid) (e i n:Nat),abin (tt 26) .neq c (.slc b e i n) .nils=some (.bool true)):=by intros;rfl
@[go_sem] theorem tt_83:(∀ (c:Bool) (e:Nat) (r:List AV) (es:List (List AV)),abin (tt 26) .neq c (.lst e (r :: es)) .nils=some (.bool true)):=by intros;rfl
@[go_sem] theorem tt_84:(elsize tt 26=1):=by intros;rfl
@[go_sem] theorem tt_85:(∀ (ev:Operand→AV) (n:Nat) (ps:List (Nat × Operand)),absl tt ev 26 n ps=if n≤16777216∧n * 1≤16777216∧ps.map (·.1)=List.range n∧(ps.all fun p=>noL (ev p.2) && ((ev p.2).cells.length == 1) && (ev p.2).cells.all AV.cell)=true then some (1,ps.map fun p=>(ev p.2).cells) else none):=by intros;rfl
@[go_sem] theorem tt_86:(∀ (k k':IntKind) (l c:Int),amake tt 26 (.int k l) (.int k' c)=if 0≤l∧l≤c∧c * 8≤70368744177664∧c≤70368744177664 then some (1,List.replicate l.toNat [.int .i64 0],l.toNat) else none):=by intros;rfl
@[go_sem] theorem tt_87:(∀ (h:AH) (x y:AV),acopy tt h 26 x y=acopyz 1 h x y):=fun h x y=>by unfold acopy acopyz;rfl
@[go_sem] theorem tt_88:(∀ (ez b1 o n:Nat) (b:Bid) (lo hi:Option AV),asl (tt 26) ez lo hi (.slc b b1 o n)=aslz n lo hi fun l h=>if b1=ez then some (.slc b b1 (o+l) (h - l)) else none):=fun ez b1 o n b lo hi=>asl_slc rfl ez lo hi b b1 o n
@[go_sem] theorem tt_89:(∀ (ez e:Nat) (es:List (List AV)) (lo hi:Option AV),asl (tt 26) ez lo hi (.lst e es)=aslz es.length lo hi fun l h=>if e=ez then some (.lst e ((es.drop l).take (h - l))) else none):=fun ez e es lo hi=>asl_lst rfl ez lo hi e es
@[go_sem] theorem tt_90:(∀ (h:AH) (id:Bid) (x y:AV),aapp tt h 26 id x y=aappz 1 8 h id x y):=fun h id x y=>by unfold aapp aappz;rfl
@[go_sem] theorem tt_91:(∀ (s:AS) (p v:AV),aput (tt 26) s p v=aputz 1 s p v):=fun s p v=>aput_z rfl rfl s p v
@[go_sem] theorem tt_92:(∀ (s:AS) (p:AV),aload (tt 27) s p=(s.row p).bind fun r=>apart false 1 r.2 r.1):=by intro s p;unfold aload;cases s.row p <;> rfl
@[go_sem] theorem tt_93:(∀ ev:Operand→AV,arows tt ev (.alloc 27)=some (1,[[.int .i64 0]],27)):=by intros;rfl
@[go_sem] theorem tt_94:(∀ (ev:Operand→AV) (x:Operand),arows tt ev (.box 27 x)=if noL (ev x)=true∧(ev x).cells.length=1∧(ev x).cells.all AV.cell=true then some (1,[(ev x).cells],27) else none):=by intro ev x;simp [arows,tt,TI.knows]
@[go_sem] theorem tt_95:(∀ (s:AS) (p v:AV),aput (tt 27) s p v=aputz 1 s p v):=fun s p v=>aput_z rfl rfl s p v
@[go_sem] theorem tt_96:(∀ (s:AS) (p:AV),aload (tt 29) s p=(s.row p).bind fun r=>apart false 1 r.2 r.1):=by intro s p;unfold aload;cases s.row p <;> rfl
@[go_sem] theorem tt_97:(∀ ev:Operand→AV,arows tt ev (.alloc 29)=some (1,[[.nilfn]],29)):=by intros;rfl
@[go_sem] theorem tt_98:(∀ (ev:Operand→AV) (x:Operand),arows tt ev (.box 29 x)=if noL (ev x)=true∧(ev x).cells.length=1∧(ev x).cells.all AV.cell=true then some (1,[(ev x).cells],29) else none):=by intro ev x;simp [arows,tt,TI.knows]
@[go_sem] theorem tt_99:(∀ (s:AS) (p v:AV),aput (tt 29) s p v=aputz 1 s p v):=fun s p v=>aput_z rfl rfl s p v
@[go_sem] theorem tt_100:(∀ (s:AS) (p:AV),aload (tt 33) s p=(s.row p).bind fun r=>apart false 1 r.2 r.1):=by intro s p;unfold aload;cases s.row p <;> rfl
@[go_sem] theorem tt_101:(∀ ev:Operand→AV,arows tt ev (.alloc 33)=some (1,[[.nils]],33)):=by intros;rfl
@[go_sem] theorem tt_102:(∀ (ev:Operand→AV) (x:Operand),arows tt ev (.box 33 x)=if noL (ev x)=true∧(ev x).cells.length=1∧(ev x).cells.all AV.cell=true then some (1,[(ev x).cells],33) else none):=by intro ev x;simp [arows,tt,TI.knows]
@[go_sem] theorem tt_103:(∀ (es:List (List AV)) (k:IntKind) (i:Int),aidx tt 33 (.lst 2 es) (.int k i)=if 0≤i∧i < es.length then some (.iptr (es.getD i.toNat []) 0) else none):=by intros;rfl
@[go_sem] theorem tt_104:(∀ (b:Bid) (o n:Nat) (k:IntKind) (i:Int),aidx tt 33 (.slc b 2 o n) (.int k i)=if 0≤i∧i < n then some (.ptr b (o+i.toNat) 0) else none):=by intros;rfl
@[go_sem] theorem tt_105:(∀ (b:Bid) (e o n:Nat),alen (tt 33) (.slc b e o n)=some (n:Int)):=by intros;rfl
@[go_sem] theorem tt_106:(∀ (e:Nat) (es:List (List AV)),alen (tt 33) (.lst e es)=some (es.length:Int)):=by intros;rfl
@[go_sem] theorem tt_107:(alen (tt 33) .nils=some 0):=by intros;rfl
@[go_sem] theorem tt_108:(∀ c:Bool,abin (tt 33) .eql c .nils .nils=some (.bool true)):=by intros;rfl
@[go_sem] theorem tt_109:(∀ (c:Bool) (b:Bid) (e i n:Nat),abin (tt 33) .eql c (.slc b e i n) .nils=some (.bool false)):=by intros;rfl
@[go_sem] theorem tt_110:(∀ (c:Bool) (e:Nat) (r:List AV) (es:List (List AV)),abin (tt 33) .eql c (.lst e (r :: es)) .nils=some (.bool false)):=by intros;rfl
@[go_sem] theorem tt_111:(∀ c:Bool,abin (tt 33) .neq c .nils .nils=some (.bool false)):=by intros;rfl
@[go_sem] theorem tt_112:(∀ (c:Bool) (b:Bid) (e i n:Nat),abin (tt 33) .neq c (.slc b e i n) .nils=some (.bool true)):=by intros;rfl
@[go_sem] theorem tt_113:(∀ (c:Bool) (e:Nat) (r:List AV) (es:List (List AV)),abin (tt 33) .neq c (.lst e (r :: es)) .nils=some (.bool true)):=by intros;rfl
@[go_sem] theorem tt_114:(elsize tt 33=2):=by intros;rfl
@[go_sem] theorem tt_115:(∀ (ev:Operand→AV) (n:Nat) (ps:List (Nat × Operand)),absl tt ev 33 n ps=if n≤16777216∧n * 2≤16777216∧ps.map (·.1)=List.range n∧(ps.all fun p=>noL (ev p.2) && ((ev p.2).cells.length == 2) && (ev p.2).cells.all AV.cell)=true then some (2,ps.map fun p=>(ev p.2).cells) else none):=by intros;rfl
@[go_sem] theorem tt_116:(∀ (k k':IntKind) (l c:Int),amake tt 33 (.int k l) (.int k' c)=if 0≤l∧l≤c∧c * 48≤70368744177664∧c≤70368744177664 then some (2,List.replicate l.toNat [.nils,.nils],l.toNat) else none):=by intros;rfl
@[go_sem] theorem tt_117:(∀ (h:AH) (x y:AV),acopy tt h 33 x y=acopyz 2 h x y):=fun h x y=>by unfold acopy acopyz;rfl
@[go_sem] theorem tt_118:(∀ (ez b1 o n:Nat) (b:Bid) (lo hi:Option AV),asl (tt 33) ez lo hi (.slc b b1 o n)=aslz n lo hi fun l h=>if b1=ez then some (.slc b b1 (o+l) (h - l)) else none):=fun ez b1 o n b lo hi=>asl_slc rfl ez lo hi b b1 o n
@[go_sem] theorem tt_119:(∀ (ez e:Nat) (es:List (List AV)) (lo hi:Option AV),asl (tt 33) ez lo hi (.lst e es)=aslz es.length lo hi fun l h=>if e=ez then some (.lst e ((es.drop l).take (h - l))) else none):=fun ez e es lo hi=>asl_lst rfl ez lo hi e es
@[go_sem] theorem tt_120:(∀ (h:AH) (id:Bid) (x y:AV),aapp tt h 33 id x y=aappz 2 48 h id x y):=fun h id x y=>by unfold aapp aappz;rfl
@[go_sem] theorem tt_121:(∀ (s:AS) (p v:AV),aput (tt 33) s p v=aputz 1 s p v):=fun s p v=>aput_z rfl rfl s p v
@[go_sem] theorem tt_122:(∀ (s:AS) (p:AV),aload (tt 35) s p=(s.row p).bind fun r=>apart false 1 r.2 r.1):=by intro s p;unfold aload;cases s.row p <;> rfl
@[go_sem] theorem tt_123:(∀ ev:Operand→AV,arows tt ev (.alloc 35)=some (1,[[.nils]],35)):=by intros;rfl
@[go_sem] theorem tt_124:(∀ (ev:Operand→AV) (x:Operand),arows tt ev (.box 35 x)=if noL (ev x)=true∧(ev x).cells.length=1∧(ev x).cells.all AV.cell=true then some (1,[(ev x).cells],35) else none):=by intro ev x;simp [arows,tt,TI.knows]
@[go_sem] theorem tt_125:(∀ (es:List (List AV)) (k:IntKind) (i:Int),aidx tt 35 (.lst 2 es) (.int k i)=if 0≤i∧i < es.length then some (.iptr (es.getD i.toNat []) 0) else none):=by intros;rfl
@[go_sem] theorem tt_126:(∀ (b:Bid) (o n:Nat) (k:IntKind) (i:Int),aidx tt 35 (.slc b 2 o n) (.int k i)=if 0≤i∧i < n then some (.ptr b (o+i.toNat) 0) else none):=by intros;rfl
@[go_sem] theorem tt_127:(∀ (b:Bid) (e o n:Nat),alen (tt 35) (.slc b e o n)=some (n:Int)):=by intros;rfl
@[go_sem] theorem tt_128:(∀ (e:Nat) (es:List (List AV)),alen (tt 35) (.lst e es)=some (es.length:Int)):=by intros;rfl
@[go_sem] theorem tt_129:(alen (tt 35) .nils=some 0):=by intros;rfl
@[go_sem] theorem tt_130:(∀ c:Bool,abin (tt 35) .eql c .nils .nils=some (.bool true)):=by intros;rfl
@[go_sem] theorem tt_131:(∀ (c:Bool) (b:Bid) (e i n:Nat),abin (tt 35) .eql c (.slc b e i n) .nils=some (.bool false)):=by intros;rfl
@[go_sem] theorem tt_132:(∀ (c:Bool) (e:Nat) (r:List AV) (es:List (List AV)),abin (tt 35) .eql c (.lst e (r :: es)) .nils=some (.bool false)):=by intros;rfl
@[go_sem] theorem tt_133:(∀ c:Bool,abin (tt 35) .neq c .nils .nils=some (.bool false)):=by intros;rfl
@[go_sem] theorem tt_134:(∀ (c:Bool) (b:Bid) (e i n:Nat),abin (tt 35) .neq c (.slc b e i n) .nils=some (.bool true)):=by intros;rfl
@[go_sem] theorem tt_135:(∀ (c:Bool) (e:Nat) (r:List AV) (es:List (List AV)),abin (tt 35) .neq c (.lst e (r :: es)) .nils=some (.bool true)):=by intros;rfl
@[go_sem] theorem tt_136:(elsize tt 35=2):=by intros;rfl
@[go_sem] theorem tt_137:(∀ (ev:Operand→AV) (n:Nat) (ps:List (Nat × Operand)),absl tt ev 35 n ps=if n≤16777216∧n * 2≤16777216∧ps.map (·.1)=List.range n∧(ps.all fun p=>noL (ev p.2) && ((ev p.2).cells.length == 2) && (ev p.2).cells.all AV.cell)=true then some (2,ps.map fun p=>(ev p.2).cells) else none):=by intros;rfl
@[go_sem] theorem tt_138:(∀ (k k':IntKind) (l c:Int),amake tt 35 (.int k l) (.int k' c)=if 0≤l∧l≤c∧c * 16≤70368744177664∧c≤70368744177664 then some (2,List.replicate l.toNat [.int .i64 0,.int .i64 0],l.toNat) else none):=by intros;rfl
@[go_sem] theorem tt_139:(∀ (h:AH) (x y:AV),acopy tt h 35 x y=acopyz 2 h x y):=fun h x y=>by unfold acopy acopyz;rfl
@[go_sem] theorem tt_140:(∀ (ez b1 o n:Nat) (b:Bid) (lo hi:Option AV),asl (tt 35) ez lo hi (.slc b b1 o n)=aslz n lo hi fun l h=>if b1=ez then some (.slc b b1 (o+l) (h - l)) else none):=fun ez b1 o n b lo hi=>asl_slc rfl ez lo hi b b1 o n
@[go_sem] theorem tt_141:(∀ (ez e:Nat) (es:List (List AV)) (lo hi:Option AV),asl (tt 35) ez lo hi (.lst e es)=aslz es.length lo hi fun l h=>if e=ez then some (.lst e ((es.drop l).take (h - l))) else none):=fun ez e es lo hi=>asl_lst rfl ez lo hi e es
@[go_sem] theorem tt_142:(∀ (h:AH) (id:Bid) (x y:AV),aapp tt h 35 id x y=aappz 2 16 h id x y):=fun h id x y=>by unfold aapp aappz;rfl
@[go_sem] theorem tt_143:(∀ (s:AS) (p v:AV),aput (tt 35) s p v=aputz 1 s p v):=fun s p v=>aput_z rfl rfl s p v
@[go_sem] theorem tt_144:(∀ (s:AS) (p:AV),aload (tt 41) s p=(s.row p).bind fun r=>apart false 1 r.2 r.1):=by intro s p;unfold aload;cases s.row p <;> rfl
@[go_sem] theorem tt_145:(∀ ev:Operand→AV,arows tt ev (.alloc 41)=some (1,[[.nils]],41)):=by intros;rfl
@[go_sem] theorem tt_146:(∀ (ev:Operand→AV) (x:Operand),arows tt ev (.box 41 x)=if noL (ev x)=true∧(ev x).cells.length=1∧(ev x).cells.all AV.cell=true then some (1,[(ev x).cells],41) else none):=by intro ev x;simp [arows,tt,TI.knows]
@[go_sem] theorem tt_147:(∀ (es:List (List AV)) (k:IntKind) (i:Int),aidx tt 41 (.lst 9 es) (.int k i)=if 0≤i∧i < es.length then some (.iptr (es.getD i.toNat []) 0) else none):=by intros;rfl
@[go_sem] theorem tt_148:(∀ (b:Bid) (o n:Nat) (k:IntKind) (i:Int),aidx tt 41 (.slc b 9 o n) (.int k i)=if 0≤i∧i < n then some (.ptr b (o+i.toNat) 0) else none):=by intros;rfl
@[go_sem] theorem tt_149:(∀ (b:Bid) (e o n:Nat),alen (tt 41) (.slc b e o n)=some (n:Int)):=by intros;rfl
@[go_sem] theorem tt_150:(∀ (e:Nat) (es:List (List AV)),alen (tt 41) (.lst e es)=some (es.length:Int)):=by intros;rfl
@[go_sem] theorem tt_151:(alen (tt 41) .nils=some 0):=by intros;rfl
@[go_sem] theorem tt_152:(∀ c:Bool,abin (tt 41) .eql c .nils .nils=some (.bool true)):=by intros;rfl
@[go_sem] theorem tt_153:(∀ (c:Bool) (b:Bid) (e i n:Nat),abin (tt 41) .eql c (.slc b e i n) .nils=some (.bool false)):=by intros;rfl
@[go_sem] theorem tt_154:(∀ (c:Bool) (e:Nat) (r:List AV) (es:List (List AV)),abin (tt 41) .eql c (.lst e (r :: es)) .nils=some (.bool false)):=by intros;rfl
@[go_sem] theorem tt_155:(∀ c:Bool,abin (tt 41) .neq c .nils .nils=some (.bool false)):=by intros;rfl
@[go_sem] theorem tt_156:(∀ (c:Bool) (b:Bid) (e i n:Nat),abin (tt 41) .neq c (.slc b e i n) .nils=some (.bool true)):=by intros;rfl
@[go_sem] theorem tt_157:(∀ (c:Bool) (e:Nat) (r:List AV) (es:List (List AV)),abin (tt 41) .neq c (.lst e (r :: es)) .nils=some (.bool true)):=by intros;rfl
@[go_sem] theorem tt_158:(elsize tt 41=9):=by intros;rfl
@[go_sem] theorem tt_159:(∀ (ev:Operand→AV) (n:Nat) (ps:List (Nat × Operand)),absl tt ev 41 n ps=if n≤16777216∧n * 9≤16777216∧ps.map (·.1)=List.range n∧(ps.all fun p=>noL (ev p.2) && ((ev p.2).cells.length == 9) && (ev p.2).cells.all AV.cell)=true then some (9,ps.map fun p=>(ev p.2).cells) else none):=by intros;rfl
@[go_sem] theorem tt_160:(∀ (k k':IntKind) (l c:Int),amake tt 41 (.int k l) (.int k' c)=if 0≤l∧l≤c∧c * 88≤70368744177664∧c≤70368744177664 then some (9,List.replicate l.toNat [.int .i64 0,.int .i64 0,.int .i64 0,.int .i64 0,.int .i64 0,.int .i64 0,.int .i64 0,.int .i64 0,.nils],l.toNat) else none):=by intros;rfl
@[go_sem] theorem tt_161:(∀ (h:AH) (x y:AV),acopy tt h 41 x y=acopyz 9 h x y):=fun h x y=>by unfold acopy acopyz;rfl
@[go_sem] theorem tt_162:(∀ (ez b1 o n:Nat) (b:Bid) (lo hi:Option AV),asl (tt 41) ez lo hi (.slc b b1 o n)=aslz n lo hi fun l h=>if b1=ez then some (.slc b b1 (o+l) (h - l)) else none):=fun ez b1 o n b lo hi=>asl_slc rfl ez lo hi b b1 o n
@[go_sem] theorem tt_163:(∀ (ez e:Nat) (es:List (List AV)) (lo hi:Option AV),asl (tt 41) ez lo hi (.lst e es)=aslz es.length lo hi fun l h=>if e=ez then some (.lst e ((es.drop l).take (h - l))) else none):=fun ez e es lo hi=>asl_lst rfl ez lo hi e es
@[go_sem] theorem tt_164:(∀ (h:AH) (id:Bid) (x y:AV),aapp tt h 41 id x y=aappz 9 88 h id x y):=fun h id x y=>by unfold aapp aappz;rfl
@[go_sem] theorem tt_165:(∀ (s:AS) (p v:AV),aput (tt 41) s p v=aputz 1 s p v):=fun s p v=>aput_z rfl rfl s p v
@[go_sem] theorem tt_166:(∀ (s:AS) (p:AV),aload (tt 43) s p=(s.row p).bind fun r=>apart false 1 r.2 r.1):=by intro s p;unfold aload;cases s.row p <;> rfl
@[go_sem] theorem tt_167:(∀ ev:Operand→AV,arows tt ev (.alloc 43)=some (1,[[.nils]],43)):=by intros;rfl
@[go_sem] theorem tt_168:(∀ (ev:Operand→AV) (x:Operand),arows tt ev (.box 43 x)=if noL (ev x)=true∧(ev x).cells.length=1∧(ev x).cells.all AV.cell=true then some (1,[(ev x).cells],43) else none):=by intro ev x;simp [arows,tt,TI.knows]
@[go_sem] theorem tt_169:(∀ (es:List (List AV)) (k:IntKind) (i:Int),aidx tt 43 (.lst 1 es) (.int k i)=if 0≤i∧i < es.length then some (.iptr (es.getD i.toNat []) 0) else none):=by intros;rfl
@[go_sem] theorem tt_170:(∀ (b:Bid) (o n:Nat) (k:IntKind) (i:Int),aidx tt 43 (.slc b 1 o n) (.int k i)=if 0≤i∧i < n then some (.ptr b (o+i.toNat) 0) else none):=by intros;rfl
@[go_sem] theorem tt_171:(∀ (b:Bid) (e o n:Nat),alen (tt 43) (.slc b e o n)=some (n:Int)):=by intros;rfl
@[go_sem] theorem tt_172:(∀ (e:Nat) (es:List (List AV)),alen (tt 43) (.lst e es)=some (es.length:Int)):=by intros;rfl
@[go_sem] theorem tt_173:(alen (tt 43) .nils=some 0):=by intros;rfl
@[go_sem] theorem tt_174:(∀ c:Bool,abin (tt 43) .eql c .nils .nils=some (.bool true)):=by intros;rfl
@[go_sem] theorem tt_175:(∀ (c:Bool) (b:Bid) (e i n:Nat),abin (tt 43) .eql c (.slc b e i n) .nils=some (.bool false)):=by intros;rfl
@[go_sem] theorem tt_176:(∀ (c:Bool) (e:Nat) (r:List AV) (es:List (List AV)),abin (tt 43) .eql c (.lst e (r :: es)) .nils=some (.bool false)):=by intros;rfl
@[go_sem] theorem tt_177:(∀ c:Bool,abin (tt 43) .neq c .nils .nils=some (.bool false)):=by intros;rfl
@[go_sem] theorem tt_178:(∀ (c:Bool) (b:Bid) (e i n:Nat),abin (tt 43) .neq c (.slc b e i n) .nils=some (.bool true)):=by intros;rfl
@[go_sem] theorem tt_179:(∀ (c:Bool) (e:Nat) (r:List AV) (es:List (List AV)),abin (tt 43) .neq c (.lst e (r :: es)) .nils=some (.bool true)):=by intros;rfl
@[go_sem] theorem tt_180:(elsize tt 43=1):=by intros;rfl
@[go_sem] theorem tt_181:(∀ (ev:Operand→AV) (n:Nat) (ps:List (Nat × Operand)),absl tt ev 43 n ps=if n≤16777216∧n * 1≤16777216∧ps.map (·.1)=List.range n∧(ps.all fun p=>noL (ev p.2) && ((ev p.2).cells.length == 1) && (ev p.2).cells.all AV.cell)=true then some (1,ps.map fun p=>(ev p.2).cells) else none):=by intros;rfl
@[go_sem] theorem tt_182:(∀ (k k':IntKind) (l c:Int),amake tt 43 (.int k l) (.int k' c)=if 0≤l∧l≤c∧c * 24≤70368744177664∧c≤70368744177664 then some (1,List.replicate l.toNat [.nils],l.toNat) else none):=by intros;rfl
@[go_sem] theorem tt_183:(∀ (h:AH) (x y:AV),acopy tt h 43 x y=acopyz 1 h x y):=fun h x y=>by unfold acopy acopyz;rfl
@[go_sem] theorem tt_184:(∀ (ez b1 o n:Nat) (b:Bid) (lo hi:Option AV),asl (tt 43) ez lo hi (.slc b b1 o n)=aslz n lo hi fun l h=>if b1=ez then some (.slc b b1 (o+l) (h - l)) else none):=fun ez b1 o n b lo hi=>asl_slc rfl ez lo hi b b1 o n
@[go_sem] theorem tt_185:(∀ (ez e:Nat) (es:List (List AV)) (lo hi:Option AV),asl (tt 43) ez lo hi (.lst e es)=aslz es.length lo hi fun l h=>if e=ez then some (.lst e ((es.drop l).take (h - l))) else none):=fun ez e es lo hi=>asl_lst rfl ez lo hi e es
@[go_sem] theorem tt_186:(∀ (h:AH) (id:Bid) (x y:AV),aapp tt h 43 id x y=aappz 1 24 h id x y):=fun h id x y=>by unfold aapp aappz;rfl
@[go_sem] theorem tt_187:(∀ (s:AS) (p v:AV),aput (tt 43) s p v=aputz 1 s p v):=fun s p v=>aput_z rfl rfl s p v
@[go_sem] theorem tt_188:(∀ (s:AS) (p:AV),aload (tt 45) s p=(s.row p).bind fun r=>apart false 1 r.2 r.1):=by intro s p;unfold aload;cases s.row p <;> rfl
@[go_sem] theorem tt_189:(∀ ev:Operand→AV,arows tt ev (.alloc 45)=some (1,[[.nils]],45)):=by intros;rfl
@[go_sem] theorem tt_190:(∀ (ev:Operand→AV) (x:Operand),arows tt ev (.box 45 x)=if noL (ev x)=true∧(ev x).cells.length=1∧(ev x).cells.all AV.cell=true then some (1,[(ev x).cells],45) else none):=by intro ev x;simp [arows,tt,TI.knows]
@[go_sem] theorem tt_191:(∀ (es:List (List AV)) (k:IntKind) (i:Int),aidx tt 45 (.lst 3 es) (.int k i)=if 0≤i∧i < es.length then some (.iptr (es.getD i.toNat []) 0) else none):=by intros;rfl
@[go_sem] theorem tt_192:(∀ (b:Bid) (o n:Nat) (k:IntKind) (i:Int),aidx tt 45 (.slc b 3 o n) (.int k i)=if 0≤i∧i < n then some (.ptr b (o+i.toNat) 0) else none):=by intros;rfl
@[go_sem] theorem tt_193:(∀ (b:Bid) (e o n:Nat),alen (tt 45) (.slc b e o n)=some (n:Int)):=by intros;rfl
@[go_sem] theorem tt_194:(∀ (e:Nat) (es:List (List AV)),alen (tt 45) (.lst e es)=some (es.length:Int)):=by intros;rfl
@[go_sem] theorem tt_195:(alen (tt 45) .nils=some 0):=by intros;rfl
@[go_sem] theorem tt_196:(∀ c:Bool,abin (tt 45) .eql c .nils .nils=some (.bool true)):=by intros;rfl
@[go_sem] theorem tt_197:(∀ (c:Bool) (b:Bid) (e i n:Nat),abin (tt 45) .eql c (.slc b e i n) .nils=some (.bool false)):=by intros;rfl
@[go_sem] theorem tt_198:(∀ (c:Bool) (e:Nat) (r:List AV) (es:List (List AV)),abin (tt 45) .eql c (.lst e (r :: es)) .nils=some (.bool false)):=by intros;rfl
@[go_sem] theorem tt_199:(∀ c:Bool,abin (tt 45) .neq c .nils .nils=some (.bool false)):=by intros;rfl
@[go_sem] theorem tt_200:(∀ (c:Bool) (b:Bid) (e i n:Nat),abin (tt 45) .neq c (.slc b e i n) .nils=some (.bool true)):=by intros;rfl
@[go_sem] theorem tt_201:(∀ (c:Bool) (e:Nat) (r:List AV) (es:List (List AV)),abin (tt 45) .neq c (.lst e (r :: es)) .nils=some (.bool true)):=by intros;rfl
@[go_sem] theorem tt_202:(elsize tt 45=3):=by intros;rfl
@[go_sem] theorem tt_203:(∀ (ev:Operand→AV) (n:Nat) (ps:List (Nat × Operand)),absl tt ev 45 n ps=if n≤16777216∧n * 3≤16777216∧ps.map (·.1)=List.range n∧(ps.all fun p=>noL (ev p.2) && ((ev p.2).cells.length == 3) && (ev p.2).cells.all AV.cell)=true then some (3,ps.map fun p=>(ev p.2).cells) else none):=by intros;rfl
@[go_sem] theorem tt_204:(∀ (k k':IntKind) (l c:Int),amake tt 45 (.int k l) (.int k' c)=if 0≤l∧l≤c∧c * 24≤70368744177664∧c≤70368744177664 then some (3,List.replicate l.toNat [.int .i64 0,.int .i64 0,.int .i64 0],l.toNat) else none):=by intros;rfl
@[go_sem] theorem tt_205:(∀ (h:AH) (x y:AV),acopy tt h 45 x y=acopyz 3 h x y):=fun h x y=>by unfold acopy acopyz;rfl
@[go_sem] theorem tt_206:(∀ (ez b1 o n:Nat) (b:Bid) (lo hi:Option AV),asl (tt 45) ez lo hi (.slc b b1 o n)=aslz n lo hi fun l h=>if b1=ez then some (.slc b b1 (o+l) (h - l)) else none):=fun ez b1 o n b lo hi=>asl_slc rfl ez lo hi b b1 o n
@[go_sem] theorem tt_207:(∀ (ez e:Nat) (es:List (List AV)) (lo hi:Option AV),asl (tt 45) ez lo hi (.lst e es)=aslz es.length lo hi fun l h=>if e=ez then some (.lst e ((es.drop l).take (h - l))) else none):=fun ez e es lo hi=>asl_lst rfl ez lo hi e es
@[go_sem] theorem tt_208:(∀ (h:AH) (id:Bid) (x y:AV),aapp tt h 45 id x y=aappz 3 24 h id x y):=fun h id x y=>by unfold aapp aappz;rfl
@[go_sem] theorem tt_209:(∀ (s:AS) (p v:AV),aput (tt 45) s p v=aputz 1 s p v):=fun s p v=>aput_z rfl rfl s p v
@[go_sem] theorem tt_210:(∀ (s:AS) (p:AV),aload (tt 47) s p=(s.row p).bind fun r=>apart false 1 r.2 r.1):=by intro s p;unfold aload;cases s.row p <;> rfl
@[go_sem] theorem tt_211:(∀ ev:Operand→AV,arows tt ev (.alloc 47)=some (1,[[.nils]],47)):=by intros;rfl
@[go_sem] theorem tt_212:(∀ (ev:Operand→AV) (x:Operand),arows tt ev (.box 47 x)=if noL (ev x)=true∧(ev x).cells.length=1∧(ev x).cells.all AV.cell=true then some (1,[(ev x).cells],47) else none):=by intro ev x;simp [arows,tt,TI.knows]
@[go_sem] theorem tt_213:(∀ (es:List (List AV)) (k:IntKind) (i:Int),aidx tt 47 (.lst 1 es) (.int k i)=if 0≤i∧i < es.length then some (.iptr (es.getD i.toNat []) 0) else none):=by intros;rfl
@[go_sem] theorem tt_214:(∀ (b:Bid) (o n:Nat) (k:IntKind) (i:Int),aidx tt 47 (.slc b 1 o n) (.int k i)=if 0≤i∧i < n then some (.ptr b (o+i.toNat) 0) else none):=by intros;rfl
@[go_sem] theorem tt_215:(∀ (b:Bid) (e o n:Nat),alen (tt 47) (.slc b e o n)=some (n:Int)):=by intros;rfl
@[go_sem] theorem tt_216:(∀ (e:Nat) (es:List (List AV)),alen (tt 47) (.lst e es)=some (es.length:Int)):=by intros;rfl
@[go_sem] theorem tt_217:(alen (tt 47) .nils=some 0):=by intros;rfl
@[go_sem] theorem tt_218:(∀ c:Bool,abin (tt 47) .eql c .nils .nils=some (.bool true)):=by intros;rfl
@[go_sem] theorem tt_219:(∀ (c:Bool) (b:Bid) (e i n:Nat),abin (tt 47) .eql c (.slc b e i n) .nils=some (.bool false)):=by intros;rfl
@[go_sem] theorem tt_220:(∀ (c:Bool) (e:Nat) (r:List AV) (es:List (List AV)),abin (tt 47) .eql c (.lst e (r :: es)) .nils=some (.bool false)):=by intros;rfl
@[go_sem] theorem tt_221:(∀ c:Bool,abin (tt 47) .neq c .nils .nils=some (.bool false)):=by intros;rfl
@[go_sem] theorem tt_222:(∀ (c:Bool) (b:Bid) (e i n:Nat),abin (tt 47) .neq c (.slc b e i n) .nils=some (.bool true)):=by intros;rfl
@[go_sem] theorem tt_223:(∀ (c:Bool) (e:Nat) (r:List AV) (es:List (List AV)),abin (tt 47) .neq c (.lst e (r :: es)) .nils=some (.bool true)):=by intros;rfl
@[go_sem] theorem tt_224:(elsize tt 47=1):=by intros;rfl
@[go_sem] theorem tt_225:(∀ (ev:Operand→AV) (n:Nat) (ps:List (Nat × Operand)),absl tt ev 47 n ps=if n≤16777216∧n * 1≤16777216∧ps.map (·.1)=List.range n∧(ps.all fun p=>noL (ev p.2) && ((ev p.2).cells.length == 1) && (ev p.2).cells.all AV.cell)=true then some (1,ps.map fun p=>(ev p.2).cells) else none):=by intros;rfl
@[go_sem] theorem tt_226:(∀ (k k':IntKind) (l c:Int),amake tt 47 (.int k l) (.int k' c)=if 0≤l∧l≤c∧c * 24≤70368744177664∧c≤70368744177664 then some (1,List.replicate l.toNat [.nils],l.toNat) else none):=by intros;rfl
@[go_sem] theorem tt_227:(∀ (h:AH) (x y:AV),acopy tt h 47 x y=acopyz 1 h x y):=fun h x y=>by unfold acopy acopyz;rfl
@[go_sem] theorem tt_228:(∀ (ez b1 o n:Nat) (b:Bid) (lo hi:Option AV),asl (tt 47) ez lo hi (.slc b b1 o n)=aslz n lo hi fun l h=>if b1=ez then some (.slc b b1 (o+l) (h - l)) else none):=fun ez b1 o n b lo hi=>asl_slc rfl ez lo hi b b1 o n
@[go_sem] theorem tt_229:(∀ (ez e:Nat) (es:List (List AV)) (lo hi:Option AV),asl (tt 47) ez lo hi (.lst e es)=aslz es.length lo hi fun l h=>if e=ez then some (.lst e ((es.drop l).take (h - l))) else none):=fun ez e es lo hi=>asl_lst rfl ez lo hi e es
@[go_sem] theorem tt_230:(∀ (h:AH) (id:Bid) (x y:AV),aapp tt h 47 id x y=aappz 1 24 h id x y):=fun h id x y=>by unfold aapp aappz;rfl
@[go_sem] theorem tt_231:(∀ (s:AS) (p v:AV),aput (tt 47) s p v=aputz 1 s p v):=fun s p v=>aput_z rfl rfl s p v
@[go_sem] theorem tt_232:(∀ (s:AS) (p:AV),aload (tt 50) s p=(s.row p).bind fun r=>apart false 1 r.2 r.1):=by intro s p;unfold aload;cases s.row p <;> rfl
@[go_sem] theorem tt_233:(∀ ev:Operand→AV,arows tt ev (.alloc 50)=some (1,[[.nils]],50)):=by intros;rfl
@[go_sem] theorem tt_234:(∀ (ev:Operand→AV) (x:Operand),arows tt ev (.box 50 x)=if noL (ev x)=true∧(ev x).cells.length=1∧(ev x).cells.all AV.cell=true then some (1,[(ev x).cells],50) else none):=by intro ev x;simp [arows,tt,TI.knows]
@[go_sem] theorem tt_235:(∀ (es:List (List AV)) (k:IntKind) (i:Int),aidx tt 50 (.lst 1 es) (.int k i)=if 0≤i∧i < es.length then some (.iptr (es.getD i.toNat []) 0) else none):=by intros;rfl
@[go_sem] theorem tt_236:(∀ (b:Bid) (o n:Nat) (k:IntKind) (i:Int),aidx tt 50 (.slc b 1 o n) (.int k i)=if 0≤i∧i < n then some (.ptr b (o+i.toNat) 0) else none):=by intros;rfl
@[go_sem] theorem tt_237:(∀ (b:Bid) (e o n:Nat),alen (tt 50) (.slc b e o n)=some (n:Int)):=by intros;rfl
@[go_sem] theorem tt_238:(∀ (e:Nat) (es:List (List AV)),alen (tt 50) (.lst e es)=some (es.length:Int)):=by intros;rfl
@[go_sem] theorem tt_239:(alen (tt 50) .nils=some 0):=by intros;rfl
@[go_sem] theorem tt_240:(∀ c:Bool,abin (tt 50) .eql c .nils .nils=some (.bool true)):=by intros;rfl
@[go_sem] theorem tt_241:(∀ (c:Bool) (b:Bid) (e i n:Nat),abin (tt 50) .eql c (.slc b e i n) .nils=some (.bool false)):=by intros;rfl
@[go_sem] theorem tt_242:(∀ (c:Bool) (e:Nat) (r:List AV) (es:List (List AV)),abin (tt 50) .eql c (.lst e (r :: es)) .nils=some (.bool false)):=by intros;rfl
@[go_sem] theorem tt_243:(∀ c:Bool,abin (tt 50) .neq c .nils .nils=some (.bool false)):=by intros;rfl
@[go_sem] theorem tt_244:(∀ (c:Bool) (b:Bid) (e i n:Nat),abin (tt 50) .neq c (.slc b e i n) .nils=some (.bool true)):=by intros;rfl
@[go_sem] theorem tt_245:(∀ (c:Bool) (e:Nat) (r:List AV) (es:List (List AV)),abin (tt 50) .neq c (.lst e (r :: es)) .nils=some (.bool true)):=by intros;rfl
@[go_sem] theorem tt_246:(elsize tt 50=1):=by intros;rfl
@[go_sem] theorem tt_247:(∀ (ev:Operand→AV) (n:Nat) (ps:List (Nat × Operand)),absl tt ev 50 n ps=if n≤16777216∧n * 1≤16777216∧ps.map (·.1)=List.range n∧(ps.all fun p=>noL (ev p.2) && ((ev p.2).cells.length == 1) && (ev p.2).cells.all AV.cell)=true then some (1,ps.map fun p=>(ev p.2).cells) else none):=by intros;rfl
@[go_sem] theorem tt_248:(∀ (k k':IntKind) (l c:Int),amake tt 50 (.int k l) (.int k' c)=if 0≤l∧l≤c∧c * 1≤70368744177664∧c≤70368744177664 then some (1,List.replicate l.toNat [.bool false],l.toNat) else none):=by intros;rfl
@[go_sem] theorem tt_249:(∀ (h:AH) (x y:AV),acopy tt h 50 x y=acopyz 1 h x y):=fun h x y=>by unfold acopy acopyz;rfl
@[go_sem] theorem tt_250:(∀ (ez b1 o n:Nat) (b:Bid) (lo hi:Option AV),asl (tt 50) ez lo hi (.slc b b1 o n)=aslz n lo hi fun l h=>if b1=ez then some (.slc b b1 (o+l) (h - l)) else none):=fun ez b1 o n b lo hi=>asl_slc rfl ez lo hi b b1 o n
@[go_sem] theorem tt_251:(∀ (ez e:Nat) (es:List (List AV)) (lo hi:Option AV),asl (tt 50) ez lo hi (.lst e es)=aslz es.length lo hi fun l h=>if e=ez then some (.lst e ((es.drop l).take (h - l))) else none):=fun ez e es lo hi=>asl_lst rfl ez lo hi e es
@[go_sem] theorem tt_252:(∀ (h:AH) (id:Bid) (x y:AV),aapp tt h 50 id x y=aappz 1 1 h id x y):=fun h id x y=>by unfold aapp aappz;rfl
@[go_sem] theorem tt_253:(∀ (s:AS) (p v:AV),aput (tt 50) s p v=aputz 1 s p v):=fun s p v=>aput_z rfl rfl s p v
@[go_sem] theorem tt_254:(∀ (s:AS) (p:AV),aload (tt 51) s p=(s.row p).bind fun r=>apart false 1 r.2 r.1):=by intro s p;unfold aload;cases s.row p <;> rfl
@[go_sem] theorem tt_255:(∀ ev:Operand→AV,arows tt ev (.alloc 51)=some (1,[[.nils]],51)):=by intros;rfl
@[go_sem] theorem tt_256:(∀ (ev:Operand→AV) (x:Operand),arows tt ev (.box 51 x)=if noL (ev x)=true∧(ev x).cells.length=1∧(ev x).cells.all AV.cell=true then some (1,[(ev x).cells],51) else none):=by intro ev x;simp [arows,tt,TI.knows]
@[go_sem] theorem tt_257:(∀ (es:List (List AV)) (k:IntKind) (i:Int),aidx tt 51 (.lst 7 es) (.int k i)=if 0≤i∧i < es.length then some (.iptr (es.getD i.toNat []) 0) else none):=by intros;rfl
@[go_sem] theorem tt_258:(∀ (b:Bid) (o n:Nat) (k:IntKind) (i:Int),aidx tt 51 (.slc b 7 o n) (.int k i)=if 0≤i∧i < n then some (.ptr b (o+i.toNat) 0) else none):=by intros;rfl
@[go_sem] theorem tt_259:(∀ (b:Bid) (e o n:Nat),alen (tt 51) (.slc b e o n)=some (n:Int)):=by intros;rfl
@[go_sem] theorem tt_260:(∀ (e:Nat) (es:List (List AV)),alen (tt 51) (.lst e es)=some (es.length:Int)):=by intros;rfl
@[go_sem] theorem tt_261:(alen (tt 51) .nils=some 0):=by intros;rfl
@[go_sem] theorem tt_262:(∀ c:Bool,abin (tt 51) .eql c .nils .nils=some (.bool true)):=by intros;rfl
@[go_sem] theorem tt_263:(∀ (c:Bool) (b:Bid) (e i n:Nat),abin (tt 51) .eql c (.slc b e i n) .nils=some (.bool false)):=by intros;rfl
@[go_sem] theorem tt_264:(∀ (c:Bool) (e:Nat) (r:List AV) (es:List (List AV)),abin (tt 51) .eql c (.lst e (r :: es)) .nils=some (.bool false)):=by intros;rfl
@[go_sem] theorem tt_265:(∀ c:Bool,abin (tt 51) .neq c .nils .nils=some (.bool false)):=by intros;rfl
@[go_sem] theorem tt_266:(∀ (c:Bool) (b:Bid) (e i n:Nat),abin (tt 51) .neq c (.slc b e i n) .nils=some (.bool true)):=by intros;rfl
@[go_sem] theorem tt_267:(∀ (c:Bool) (e:Nat) (r:List AV) (es:List (List AV)),abin (tt 51) .neq c (.lst e (r :: es)) .nils=some (.bool true)):=by intros;rfl
@[go_sem] theorem tt_268:(elsize tt 51=7):=by intros;rfl
@[go_sem] theorem tt_269:(∀ (ev:Operand→AV) (n:Nat) (ps:List (Nat × Operand)),absl tt ev 51 n ps=if n≤16777216∧n * 7≤16777216∧ps.map (·.1)=List.range n∧(ps.all fun p=>noL (ev p.2) && ((ev p.2).cells.length == 7) && (ev p.2).cells.all AV.cell)=true then some (7,ps.map fun p=>(ev p.2).cells) else none):=by intros;rfl
@[go_sem] theorem tt_270:(∀ (k k':IntKind) (l c:Int),amake tt 51 (.int k l) (.int k' c)=if 0≤l∧l≤c∧c * 56≤70368744177664∧c≤70368744177664 then some (7,List.replicate l.toNat [.int .i64 0,.int .i64 0,.int .i64 0,.int .i64 0,.int .i64 0,.int .i64 0,.int .i64 0],l.toNat) else none):=by intros;rfl
@[go_sem] theorem tt_271:(∀ (h:AH) (x y:AV),acopy tt h 51 x y=acopyz 7 h x y):=fun h x y=>by unfold acopy acopyz;rfl
@[go_sem] theorem tt_272:(∀ (ez b1 o n:Nat) (b:Bid) (lo hi:Option AV),asl (tt 51) ez lo hi (.slc b b1 o n)=aslz n lo hi fun l h=>if b1=ez then some (.slc b b1 (o+l) (h - l)) else none):=fun ez b1 o n b lo hi=>asl_slc rfl ez lo hi b b1 o n
@[go_sem] theorem tt_273:(∀ (ez e:Nat) (es:List (List AV)) (lo hi:Option AV),asl (tt 51) ez lo hi (.lst e es)=aslz es.length lo hi fun l h=>if e=ez then some (.lst e ((es.drop l).take (h - l))) else none):=fun ez e es lo hi=>asl_lst rfl ez lo hi e es
@[go_sem] theorem tt_274:(∀ (h:AH) (id:Bid) (x y:AV),aapp tt h 51 id x y=aappz 7 56 h id x y):=fun h id x y=>by unfold aapp aappz;rfl
@[go_sem] theorem tt_275:(∀ (s:AS) (p v:AV),aput (tt 51) s p v=aputz 1 s p v):=fun s p v=>aput_z rfl rfl s p v
@[go_sem] theorem tt_276:(∀ (s:AS) (p:AV),aload (tt 53) s p=(s.row p).bind fun r=>apart true 9 r.2 r.1):=by intro s p;unfold aload;cases s.row p <;> rfl
@[go_sem] theorem tt_277:(∀ ev:Operand→AV,arows tt ev (.alloc 53)=some (9,[[.int .i64 0,.int .i64 0,.int .i64 0,.int .i64 0,.int .i64 0,.int .i64 0,.int .i64 0,.int .i64 0,.nils]],53)):=by intros;rfl
@[go_sem] theorem tt_278:(∀ (ev:Operand→AV) (x:Operand),arows tt ev (.box 53 x)=if noL (ev x)=true∧(ev x).cells.length=9∧(ev x).cells.all AV.cell=true then some (9,[(ev x).cells],53) else none):=by intro ev x;simp [arows,tt,TI.knows]
@[go_sem] theorem tt_279:(∀ v:AV,afieldAddr (tt 53) 0 v=amove 0 v):=by intros;rfl
@[go_sem] theorem tt_280:(∀ cs:List AV,afield (tt 53) 0 (.agg cs)=apart false 1 0 cs):=by intros;rfl
@[go_sem] theorem tt_281:(∀ v:AV,afieldAddr (tt 53) 1 v=amove 1 v):=by intros;rfl
@[go_sem] theorem tt_282:(∀ cs:List AV,afield (tt 53) 1 (.agg cs)=apart false 1 1 cs):=by intros;rfl
@[go_sem] theorem tt_283:(∀ v:AV,afieldAddr (tt 53) 2 v=amove 2 v):=by intros;rfl
@[go_sem] theorem tt_284:(∀ cs:List AV,afield (tt 53) 2 (.agg cs)=apart false 1 2 cs):=by intros;rfl
@[go_sem] theorem tt_285:(∀ v:AV,afieldAddr (tt 53) 3 v=amove 3 v):=by intros;rfl
@[go_sem] theorem tt_286:(∀ cs:List AV,afield (tt 53) 3 (.agg cs)=apart false 1 3 cs):=by intros;rfl
@[go_sem] theorem tt_287:(∀ v:AV,afieldAddr (tt 53) 4 v=amove 4 v):=by intros;rfl
@[go_sem] theorem tt_288:(∀ cs:List AV,afield (tt 53) 4 (.agg cs)=apart false 1 4 cs):=by intros;rfl
@[go_sem] theorem tt_289:(∀ v:AV,afieldAddr (tt 53) 5 v=amove 5 v):=by intros;rfl
@[go_sem] theorem tt_290:(∀ cs:List AV,afield (tt 53) 5 (.agg cs)=apart false 1 5 cs):=by intros;rfl
@[go_sem] theorem tt_291:(∀ v:AV,afieldAddr (tt 53) 6 v=amove 6 v):=by intros;rfl
@[go_sem] theorem tt_292:(∀ cs:List AV,afield (tt 53) 6 (.agg cs)=apart false 1 6 cs):=by intros;rfl
@[go_sem] theorem tt_293:(∀ v:AV,afieldAddr (tt 53) 7 v=amove 7 v):=by intros;rfl
@[go_sem] theorem tt_294:(∀ cs:List AV,afield (tt 53) 7 (.agg cs)=apart false 1 7 cs):=by intros;rfl
@[go_sem] theorem tt_295:(∀ v:AV,afieldAddr (tt 53) 8 v=amove 8 v):=by intros;rfl
@[go_sem] theorem tt_296:(∀ cs:List AV,afield (tt 53) 8 (.agg cs)=apart false 1 8 cs):=by intros;rfl
@[go_sem] theorem tt_297:(∀ ps:List (Nat × AV),abuild tt 53 ps=(afill (fun i=>([(0,1),(1,1),(2,1),(3,1),(4,1),(5,1),(6,1),(7,1),(8,1)]:List (Nat × Nat))[i]?) [.int .i64 0,.int .i64 0,.int .i64 0,.int .i64 0,.int .i64 0,.int .i64 0,.int .i64 0,.int .i64 0,.nils] ps).map .agg):=fun ps=>by show Option.map _ (afill _ _ _)=_;congr 2;funext i;rw [← List.getElem?_map];rfl
@[go_sem] theorem tt_298:(∀ (s:AS) (p v:AV),aput (tt 53) s p v=aputz 9 s p v):=fun s p v=>aput_z rfl rfl s p v
@[go_sem] theorem tt_299:(∀ (s:AS) (p:AV),aload (tt 56) s p=(s.row p).bind fun r=>apart true 2 r.2 r.1):=by intro s p;unfold aload;cases s.row p <;> rfl
@[go_sem] theorem tt_300:(∀ ev:Operand→AV,arows tt ev (.alloc 56)=some (2,[[.nils,.nils]],56)):=by intros;rfl
@[go_sem] theorem tt_301:(∀ (ev:Operand→AV) (x:Operand),arows tt ev (.box 56 x)=if noL (ev x)=true∧(ev x).cells.length=2∧(ev x).cells.all AV.cell=true then some (2,[(ev x).cells],56) else none):=by intro ev x;simp [arows,tt,TI.knows]
@[go_sem] theorem tt_302:(∀ v:AV,afieldAddr (tt 56) 0 v=amove 0 v):=by intros;rfl
@[go_sem] theorem tt_303:(∀ cs:List AV,afield (tt 56) 0 (.agg cs)=apart false 1 0 cs):=by intros;rfl
@[go_sem] theorem tt_304:(∀ v:AV,afieldAddr (tt 56) 1 v=amove 1 v):=by intros;rfl
@[go_sem] theorem tt_305:(∀ cs:List AV,afield (tt 56) 1 (.agg cs)=apart false 1 1 cs):=by intros;rfl
@[go_sem] theorem tt_306:(∀ ps:List (Nat × AV),abuild tt 56 ps=(afill (fun i=>([(0,1),(1,1)]:List (Nat × Nat))[i]?) [.nils,.nils] ps).map .agg):=fun ps=>by show Option.map _ (afill _ _ _)=_;congr 2;funext i;rw [← List.getElem?_map];rfl
@[go_sem] theorem tt_307:(∀ (s:AS) (p v:AV),aput (tt 56) s p v=aputz 2 s p v):=fun s p v=>aput_z rfl rfl s p v
@[go_sem] theorem tt_308:(∀ (s:AS) (p:AV),aload (tt 59) s p=(s.row p).bind fun r=>apart false 1 r.2 r.1):=by intro s p;unfold aload;cases s.row p <;> rfl
@[go_sem] theorem tt_309:(∀ ev:Operand→AV,arows tt ev (.alloc 59)=some (1,[[.nils]],59)):=by intros;rfl
@[go_sem] theorem tt_310:(∀ (ev:Operand→AV) (x:Operand),arows tt ev (.box 59 x)=if noL (ev x)=true∧(ev x).cells.length=1∧(ev x).cells.all AV.cell=true then some (1,[(ev x).cells],59) else none):=by intro ev x;simp [arows,tt,TI.knows]
@[go_sem] theorem tt_311:(∀ (es:List (List AV)) (k:IntKind) (i:Int),aidx tt 59 (.lst 2 es) (.int k i)=if 0≤i∧i < es.length then some (.iptr (es.getD i.toNat []) 0) else none):=by intros;rfl
@[go_sem] theorem tt_312:(∀ (b:Bid) (o n:Nat) (k:IntKind) (i:Int),aidx tt 59 (.slc b 2 o n) (.int k i)=if 0≤i∧i < n then some (.ptr b (o+i.toNat) 0) else none):=by intros;rfl
@[go_sem] theorem tt_313:(∀ (b:Bid) (e o n:Nat),alen (tt 59) (.slc b e o n)=some (n:Int)):=by intros;rfl
@[go_sem] theorem tt_314:(∀ (e:Nat) (es:List (List AV)),alen (tt 59) (.lst e es)=some (es.length:Int)):=by intros;rfl
@[go_sem] theorem tt_315:(alen (tt 59) .nils=some 0):=by intros;rfl
@[go_sem] theorem tt_316:(∀ c:Bool,abin (tt 59) .eql c .nils .nils=some (.bool true)):=by intros;rfl
@[go_sem] theorem tt_317:(∀ (c:Bool) (b:Bid) (e i n:Nat),abin (tt 59) .eql c (.slc b e i n) .nils=some (.bool false)):=by intros;rfl
@[go_sem] theorem tt_318:(∀ (c:Bool) (e:Nat) (r:List AV) (es:List (List AV)),abin (tt 59) .eql c (.lst e (r :: es)) .nils=some (.bool false)):=by intros;rfl
@[go_sem] theorem tt_319:(∀ c:Bool,abin (tt 59) .neq c .nils .nils=some (.bool false)):=by intros;rfl
@[go_sem] theorem tt_320:(∀ (c:Bool) (b:Bid) (e i n:Nat),abin (tt 59) .neq c (.slc b e i n) .nils=some (.bool true)):=by intros;rfl
@[go_sem] theorem tt_321:(∀ (c:Bool) (e:Nat) (r:List AV) (es:List (List AV)),abin (tt 59) .neq c (.lst e (r :: es)) .nils=some (.bool true)):=by intros;rfl
@[go_sem] theorem tt_322:(elsize tt 59=2):=by intros;rfl
@[go_sem] theorem tt_323:(∀ (ev:Operand→AV) (n:Nat) (ps:List (Nat × Operand)),absl tt ev 59 n ps=if n≤16777216∧n * 2≤16777216∧ps.map (·.1)=List.range n∧(ps.all fun p=>noL (ev p.2) && ((ev p.2).cells.length == 2) && (ev p.2).cells.all AV.cell)=true then some (2,ps.map fun p=>(ev p.2).cells) else none):=by intros;rfl
@[go_sem] theorem tt_324:(∀ (k k':IntKind) (l c:Int),amake tt 59 (.int k l) (.int k' c)=if 0≤l∧l≤c∧c * 48≤70368744177664∧c≤70368744177664 then some (2,List.replicate l.toNat [.nils,.nils],l.toNat) else none):=by intros;rfl
@[go_sem] theorem tt_325:(∀ (h:AH) (x y:AV),acopy tt h 59 x y=acopyz 2 h x y):=fun h x y=>by unfold acopy acopyz;rfl
@[go_sem] theorem tt_326:(∀ (ez b1 o n:Nat) (b:Bid) (lo hi:Option AV),asl (tt 59) ez lo hi (.slc b b1 o n)=aslz n lo hi fun l h=>if b1=ez then some (.slc b b1 (o+l) (h - l)) else none):=fun ez b1 o n b lo hi=>asl_slc rfl ez lo hi b b1 o n
@[go_sem] theorem tt_327:(∀ (ez e:Nat) (es:List (List AV)) (lo hi:Option AV),asl (tt 59) ez lo hi (.lst e es)=aslz es.length lo hi fun l h=>if e=ez then some (.lst e ((es.drop l).take (h - l))) else none):=fun ez e es lo hi=>asl_lst rfl ez lo hi e es
@[go_sem] theorem tt_328:(∀ (h:AH) (id:Bid) (x y:AV),aapp tt h 59 id x y=aappz 2 48 h id x y):=fun h id x y=>by unfold aapp aappz;rfl
@[go_sem] theorem tt_329:(∀ (s:AS) (p v:AV),aput (tt 59) s p v=aputz 1 s p v):=fun s p v=>aput_z rfl rfl s p v
@[go_sem] theorem tt_330:(∀ (s:AS) (p:AV),aload (tt 63) s p=(s.row p).bind fun r=>apart true 3 r.2 r.1):=by intro s p;unfold aload;cases s.row p <;> rfl
@[go_sem] theorem tt_331:(∀ ev:Operand→AV,arows tt ev (.alloc 63)=some (3,[[.int .i64 0,.int .i64 0,.int .i64 0]],63)):=by intros;rfl
@[go_sem] theorem tt_332:(∀ (ev:Operand→AV) (x:Operand),arows tt ev (.box 63 x)=if noL (ev x)=true∧(ev x).cells.length=3∧(ev x).cells.all AV.cell=true then some (3,[(ev x).cells],63) else none):=by intro ev x;simp [arows,tt,TI.knows]
@[go_sem] theorem tt_333:(∀ v:AV,afieldAddr (tt 63) 0 v=amove 0 v):=by intros;rfl
@[go_sem] theorem tt_334:(∀ cs:List AV,afield (tt 63) 0 (.agg cs)=apart false 1 0 cs):=by intros;rfl
@[go_sem] theorem tt_335:(∀ v:AV,afieldAddr (tt 63) 1 v=amove 1 v):=by intros;rfl
@[go_sem] theorem tt_336:(∀ cs:List AV,afield (tt 63) 1 (.agg cs)=apart false 1 1 cs):=by intros;rfl
@[go_sem] theorem tt_337:(∀ v:AV,afieldAddr (tt 63) 2 v=amove 2 v):=by intros;rfl
@[go_sem] theorem tt_338:(∀ cs:List AV,afield (tt 63) 2 (.agg cs)=apart false 1 2 cs):=by intros;rfl
@[go_sem] theorem tt_339:(∀ ps:List (Nat × AV),abuild tt 63 ps=(afill (fun i=>([(0,1),(1,1),(2,1)]:List (Nat × Nat))[i]?) [.int .i64 0,.int .i64 0,.int .i64 0] ps).map .agg):=fun ps=>by show Option.map _ (afill _ _ _)=_;congr 2;funext i;rw [← List.getElem?_map];rfl
@[go_sem] theorem tt_340:(∀ (s:AS) (p v:AV),aput (tt 63) s p v=aputz 3 s p v):=fun s p v=>aput_z rfl rfl s p v
@[go_sem] theorem tt_341:(∀ (s:AS) (p:AV),aload (tt 68) s p=(s.row p).bind fun r=>apart false 1 r.2 r.1):=by intro s p;unfold aload;cases s.row p <;> rfl
@[go_sem] theorem tt_342:(∀ ev:Operand→AV,arows tt ev (.alloc 68)=some (1,[[.nils]],68)):=by intros;rfl
@[go_sem] theorem tt_343:(∀ (ev:Operand→AV) (x:Operand),arows tt ev (.box 68 x)=if noL (ev x)=true∧(ev x).cells.length=1∧(ev x).cells.all AV.cell=true then some (1,[(ev x).cells],68) else none):=by intro ev x;simp [arows,tt,TI.knows]
@[go_sem] theorem tt_344:(∀ (es:List (List AV)) (k:IntKind) (i:Int),aidx tt 68 (.lst 1 es) (.int k i)=if 0≤i∧i < es.length then some (.iptr (es.getD i.toNat []) 0) else none):=by intros;rfl
@[go_sem] theorem tt_345:(∀ (b:Bid) (o n:Nat) (k:IntKind) (i:Int),aidx tt 68 (.slc b 1 o n) (.int k i)=if 0≤i∧i < n then some (.ptr b (o+i.toNat) 0) else none):=by intros;rfl
@[go_sem] theorem tt_346:(∀ (b:Bid) (e o n:Nat),alen (tt 68) (.slc b e o n)=some (n:Int)):=by intros;rfl
@[go_sem] theorem tt_347:(∀ (e:Nat) (es:List (List AV)),alen (tt 68) (.lst e es)=some (es.length:Int)):=by intros;rfl
@[go_sem] theorem tt_348:(alen (tt 68) .nils=some 0):=by intros;rfl
@[go_sem] theorem tt_349:(∀ c:Bool,abin (tt 68) .eql c .nils .nils=some (.bool true)):=by intros;rfl
@[go_sem] theorem tt_350:(∀ (c:Bool) (b:Bid) (e i n:Nat),abin (tt 68) .eql c (.slc b e i n) .nils=some (.bool false)):=by intros;rfl
@[go_sem] theorem tt_351:(∀ (c:Bool) (e:Nat) (r:List AV) (es:List (List AV)),abin (tt 68) .eql c (.lst e (r :: es)) .nils=some (.bool false)):=by intros;rfl
@[go_sem] theorem tt_352:(∀ c:Bool,abin (tt 68) .neq c .nils .nils=some (.bool false)):=by intros;rfl
@[go_sem] theorem tt_353:(∀ (c:Bool) (b:Bid) (e i n:Nat),abin (tt 68) .neq c (.slc b e i n) .nils=some (.bool true)):=by intros;rfl
@[go_sem] theorem tt_354:(∀ (c:Bool) (e:Nat) (r:List AV) (es:List (List AV)),abin (tt 68) .neq c (.lst e (r :: es)) .nils=some (.bool true)):=by intros;rfl
@[go_sem] theorem tt_355:(elsize tt 68=1):=by intros;rfl
@[go_sem] theorem tt_356:(∀ (ev:Operand→AV) (n:Nat) (ps:List (Nat × Operand)),absl tt ev 68 n ps=if n≤16777216∧n * 1≤16777216∧ps.map (·.1)=List.range n∧(ps.all fun p=>noL (ev p.2) && ((ev p.2).cells.length == 1) && (ev p.2).cells.all AV.cell)=true then some (1,ps.map fun p=>(ev p.2).cells) else none):=by intros;rfl
@[go_sem] theorem tt_357:(∀ (k k':IntKind) (l c:Int),amake tt 68 (.int k l) (.int k' c)=if 0≤l∧l≤c∧c * 24≤70368744177664∧c≤70368744177664 then some (1,List.replicate l.toNat [.nils],l.toNat) else none):=by intros;rfl
@[go_sem] theorem tt_358:(∀ (h:AH) (x y:AV),acopy tt h 68 x y=acopyz 1 h x y):=fun h x y=>by unfold acopy acopyz;rfl
@[go_sem] theorem tt_359:(∀ (ez b1 o n:Nat) (b:Bid) (lo hi:Option AV),asl (tt 68) ez lo hi (.slc b b1 o n)=aslz n lo hi fun l h=>if b1=ez then some (.slc b b1 (o+l) (h - l)) else none):=fun ez b1 o n b lo hi=>asl_slc rfl ez lo hi b b1 o n
@[go_sem] theorem tt_360:(∀ (ez e:Nat) (es:List (List AV)) (lo hi:Option AV),asl (tt 68) ez lo hi (.lst e es)=aslz es.length lo hi fun l h=>if e=ez then some (.lst e ((es.drop l).take (h - l))) else none):=fun ez e es lo hi=>asl_lst rfl ez lo hi e es
@[go_sem] theorem tt_361:(∀ (h:AH) (id:Bid) (x y:AV),aapp tt h 68 id x y=aappz 1 24 h id x y):=fun h id x y=>by unfold aapp aappz;rfl
@[go_sem] theorem tt_362:(∀ (s:AS) (p v:AV),aput (tt 68) s p v=aputz 1 s p v):=fun s p v=>aput_z rfl rfl s p v
@[go_sem] theorem tt_363:(∀ (s:AS) (p:AV),aload (tt 76) s p=(s.row p).bind fun r=>apart true 3 r.2 r.1):=by intro s p;unfold aload;cases s.row p <;> rfl
@[go_sem] theorem tt_364:(∀ ev:Operand→AV,arows tt ev (.alloc 76)=some (3,[[.bool false,.bool false,.bool false]],76)):=by intros;rfl
@[go_sem] theorem tt_365:(∀ (ev:Operand→AV) (x:Operand),arows tt ev (.box 76 x)=if noL (ev x)=true∧(ev x).cells.length=3∧(ev x).cells.all AV.cell=true then some (3,[(ev x).cells],76) else none):=by intro ev x;simp [arows,tt,TI.knows]
@[go_sem] theorem tt_366:(∀ v:AV,afieldAddr (tt 76) 0 v=amove 0 v):=by intros;rfl
@[go_sem] theorem tt_367:(∀ cs:List AV,afield (tt 76) 0 (.agg cs)=apart false 1 0 cs):=by intros;rfl
@[go_sem] theorem tt_368:(∀ v:AV,afieldAddr (tt 76) 1 v=amove 1 v):=by intros;rfl
@[go_sem] theorem tt_369:(∀ cs:List AV,afield (tt 76) 1 (.agg cs)=apart false 1 1 cs):=by intros;rfl
@[go_sem] theorem tt_370:(∀ v:AV,afieldAddr (tt 76) 2 v=amove 2 v):=by intros;rfl
@[go_sem] theorem tt_371:(∀ cs:List AV,afield (tt 76) 2 (.agg cs)=apart false 1 2 cs):=by intros;rfl
@[go_sem] theorem tt_372:(∀ ps:List (Nat × AV),abuild tt 76 ps=(afill (fun i=>([(0,1),(1,1),(2,1)]:List (Nat × Nat))[i]?) [.bool false,.bool false,.bool false] ps).map .agg):=fun ps=>by show Option.map _ (afill _ _ _)=_;congr 2;funext i;rw [← List.getElem?_map];rfl
@[go_sem] theorem tt_373:(∀ (c:Bool) (x y:List AV),abin (tt 76) .eql c (.agg x) (.agg y)=abinB (tt 76) .eql x y):=fun c x y=>by cases hx:ints x <;> cases hy:ints y <;> rfl
@[go_sem] theorem tt_374:(∀ (c:Bool) (x y:List AV),abin (tt 76) .neq c (.agg x) (.agg y)=abinB (tt 76) .neq x y):=fun c x y=>by cases hx:ints x <;> cases hy:ints y <;> rfl
@[go_sem] theorem tt_375:(∀ (s:AS) (p v:AV),aput (tt 76) s p v=aputz 3 s p v):=fun s p v=>aput_z rfl rfl s p v
@[go_sem] theorem tt_376:(∀ (s:AS) (p:AV),aload (tt 80) s p=(s.row p).bind fun r=>apart true 3 r.2 r.1):=by intro s p;unfold aload;cases s.row p <;> rfl
@[go_sem] theorem tt_377:(∀ ev:Operand→AV,arows tt ev (.alloc 80)=some (3,[[.int .i64 0,.int .i64 0,.int .i64 0]],80)):=by intros;rfl
@[go_sem] theorem tt_378:(∀ (ev:Operand→AV) (x:Operand),arows tt ev (.box 80 x)=if noL (ev x)=true∧(ev x).cells.length=3∧(ev x).cells.all AV.cell=true then some (3,[(ev x).cells],80) else none):=by intro ev x;simp [arows,tt,TI.knows]
@[go_sem] theorem tt_379:(∀ v:AV,afieldAddr (tt 80) 0 v=amove 0 v):=by intros;rfl
@[go_sem] theorem tt_380:(∀ cs:List AV,afield (tt 80) 0 (.agg cs)=apart false 1 0 cs):=by intros;rfl
@[go_sem] theorem tt_381:(∀ v:AV,afieldAddr (tt 80) 1 v=amove 1 v):=by intros;rfl
@[go_sem] theorem tt_382:(∀ cs:List AV,afield (tt 80) 1 (.agg cs)=apart false 1 1 cs):=by intros;rfl
@[go_sem] theorem tt_383:(∀ v:AV,afieldAddr (tt 80) 2 v=amove 2 v):=by intros;rfl
@[go_sem] theorem tt_384:(∀ cs:List AV,afield (tt 80) 2 (.agg cs)=apart false 1 2 cs):=by intros;rfl
@[go_sem] theorem tt_385:(∀ ps:List (Nat × AV),abuild tt 80 ps=(afill (fun i=>([(0,1),(1,1),(2,1)]:List (Nat × Nat))[i]?) [.int .i64 0,.int .i64 0,.int .i64 0] ps).map .agg):=fun ps=>by show Option.map _ (afill _ _ _)=_;congr 2;funext i;rw [← List.getElem?_map];rfl
@[go_sem] theorem tt_386:(∀ (c:Bool) (x y:List AV),abin (tt 80) .eql c (.agg x) (.agg y)=aeql 3 (fun b=>b) (ints x) (ints y)):=fun c x y=>by cases hx:ints x <;> cases hy:ints y <;> simp [tt,abin,abinB,aeql,hx,hy]
@[go_sem] theorem tt_387:(∀ (c:Bool) (x y:List AV),abin (tt 80) .neq c (.agg x) (.agg y)=aeql 3 (fun b=>!b) (ints x) (ints y)):=fun c x y=>by cases hx:ints x <;> cases hy:ints y <;> simp [tt,abin,abinB,aeql,hx,hy]
@[go_sem] theorem tt_388:(∀ (s:AS) (p v:AV),aput (tt 80) s p v=aputz 3 s p v):=fun s p v=>aput_z rfl rfl s p v
@[go_sem] theorem tt_389:(∀ (s:AS) (p:AV),aload (tt 87) s p=(s.row p).bind fun r=>apart false 1 r.2 r.1):=by intro s p;unfold aload;cases s.row p <;> rfl
@[go_sem] theorem tt_390:(∀ ev:Operand→AV,arows tt ev (.alloc 87)=some (1,[[.nils]],87)):=by intros;rfl
@[go_sem] theorem tt_391:(∀ (ev:Operand→AV) (x:Operand),arows tt ev (.box 87 x)=if noL (ev x)=true∧(ev x).cells.length=1∧(ev x).cells.all AV.cell=true then some (1,[(ev x).cells],87) else none):=by intro ev x;simp [arows,tt,TI.knows]
@[go_sem] theorem tt_392:(∀ (es:List (List AV)) (k:IntKind) (i:Int),aidx tt 87 (.lst 1 es) (.int k i)=if 0≤i∧i < es.length then some (.iptr (es.getD i.toNat []) 0) else none):=by intros;rfl
@[go_sem] theorem tt_393:(∀ (b:Bid) (o n:Nat) (k:IntKind) (i:Int),aidx tt 87 (.slc b 1 o n) (.int k i)=if 0≤i∧i < n then some (.ptr b (o+i.toNat) 0) else none):=by intros;rfl
@[go_sem] theorem tt_394:(∀ (b:Bid) (e o n:Nat),alen (tt 87) (.slc b e o n)=some (n:Int)):=by intros;rfl
@[go_sem] theorem tt_395:(∀ (e:Nat) (es:List (List AV)),alen (tt 87) (.lst e es)=some (es.length:Int)):=by intros;rfl
@[go_sem] theorem tt_396:(alen (tt 87) .nils=some 0):=by intros;rfl
@[go_sem] theorem tt_397:(∀ c:Bool,abin (tt 87) .eql c .nils .nils=some (.bool true)):=by intros;rfl
@[go_sem] theorem tt_398:(∀ (c:Bool) (b:Bid) (e i n:Nat),abin (tt 87) .eql c (.slc b e i n) .nils=some (.bool false)):=by intros;rfl
@[go_sem] theorem tt_399:(∀ (c:Bool) (e:Nat) (r:List AV) (es:List (List AV)),abin (tt 87) .eql c (.lst e (r :: es)) .nils=some (.bool false)):=by intros;rfl
@[go_sem] theorem tt_400:(∀ c:Bool,abin (tt 87) .neq c .nils .nils=some (.bool false)):=by intros;rfl
@[go_sem] theorem tt_401:(∀ (c:Bool) (b:Bid) (e i n:Nat),abin (tt 87) .neq c (.slc b e i n) .nils=some (.bool true)):=by intros;rfl
@[go_sem] theorem tt_402:(∀ (c:Bool) (e:Nat) (r:List AV) (es:List (List AV)),abin (tt 87) .neq c (.lst e (r :: es)) .nils=some (.bool true)):=by intros;rfl
@[go_sem] theorem tt_403:(elsize tt 87=1):=by intros;rfl
@[go_sem] theorem tt_404:(∀ (ev:Operand→AV) (n:Nat) (ps:List (Nat × Operand)),absl tt ev 87 n ps=if n≤16777216∧n * 1≤16777216∧ps.map (·.1)=List.range n∧(ps.all fun p=>noL (ev p.2) && ((ev p.2).cells.length == 1) && (ev p.2).cells.all AV.cell)=true then some (1,ps.map fun p=>(ev p.2).cells) else none):=by intros;rfl
@[go_sem] theorem tt_405:(∀ (k k':IntKind) (l c:Int),amake tt 87 (.int k l) (.int k' c)=if 0≤l∧l≤c∧c * 24≤70368744177664∧c≤70368744177664 then some (1,List.replicate l.toNat [.nils],l.toNat) else none):=by intros;rfl
@[go_sem] theorem tt_406:(∀ (h:AH) (x y:AV),acopy tt h 87 x y=acopyz 1 h x y):=fun h x y=>by unfold acopy acopyz;rfl
@[go_sem] theorem tt_407:(∀ (ez b1 o n:Nat) (b:Bid) (lo hi:Option AV),asl (tt 87) ez lo hi (.slc b b1 o n)=aslz n lo hi fun l h=>if b1=ez then some (.slc b b1 (o+l) (h - l)) else none):=fun ez b1 o n b lo hi=>asl_slc rfl ez lo hi b b1 o n
@[go_sem] theorem tt_408:(∀ (ez e:Nat) (es:List (List AV)) (lo hi:Option AV),asl (tt 87) ez lo hi (.lst e es)=aslz es.length lo hi fun l h=>if e=ez then some (.lst e ((es.drop l).take (h - l))) else none):=fun ez e es lo hi=>asl_lst rfl ez lo hi e es
@[go_sem] theorem tt_409:(∀ (h:AH) (id:Bid) (x y:AV),aapp tt h 87 id x y=aappz 1 24 h id x y):=fun h id x y=>by unfold aapp aappz;rfl
@[go_sem] theorem tt_410:(∀ (s:AS) (p v:AV),aput (tt 87) s p v=aputz 1 s p v):=fun s p v=>aput_z rfl rfl s p v
@[go_sem] theorem tt_411:(∀ (s:AS) (p:AV),aload (tt 95) s p=(s.row p).bind fun r=>apart true 2 r.2 r.1):=by intro s p;unfold aload;cases s.row p <;> rfl
@[go_sem] theorem tt_412:(∀ ev:Operand→AV,arows tt ev (.alloc 95)=some (2,[[.int .i64 0,.int .i64 0]],95)):=by intros;rfl
@[go_sem] theorem tt_413:(∀ (ev:Operand→AV) (x:Operand),arows tt ev (.box 95 x)=if noL (ev x)=true∧(ev x).cells.length=2∧(ev x).cells.all AV.cell=true then some (2,[(ev x).cells],95) else none):=by intro ev x;simp [arows,tt,TI.knows]
@[go_sem] theorem tt_414:(∀ v:AV,afieldAddr (tt 95) 0 v=amove 0 v):=by intros;rfl
@[go_sem] theorem tt_415:(∀ cs:List AV,afield (tt 95) 0 (.agg cs)=apart false 1 0 cs):=by intros;rfl
@[go_sem] theorem tt_416:(∀ v:AV,afieldAddr (tt 95) 1 v=amove 1 v):=by intros;rfl
@[go_sem] theorem tt_417:(∀ cs:List AV,afield (tt 95) 1 (.agg cs)=apart false 1 1 cs):=by intros;rfl
@[go_sem] theorem tt_418:(∀ ps:List (Nat × AV),abuild tt 95 ps=(afill (fun i=>([(0,1),(1,1)]:List (Nat × Nat))[i]?) [.int .i64 0,.int .i64 0] ps).map .agg):=fun ps=>by show Option.map _ (afill _ _ _)=_;congr 2;funext i;rw [← List.getElem?_map];rfl
@[go_sem] theorem tt_419:(∀ (c:Bool) (x y:List AV),abin (tt 95) .eql c (.agg x) (.agg y)=aeql 2 (fun b=>b) (ints x) (ints y)):=fun c x y=>by cases hx:ints x <;> cases hy:ints y <;> simp [tt,abin,abinB,aeql,hx,hy]
@[go_sem] theorem tt_420:(∀ (c:Bool) (x y:List AV),abin (tt 95) .neq c (.agg x) (.agg y)=aeql 2 (fun b=>!b) (ints x) (ints y)):=fun c x y=>by cases hx:ints x <;> cases hy:ints y <;> simp [tt,abin,abinB,aeql,hx,hy]
@[go_sem] theorem tt_421:(∀ (s:AS) (p v:AV),aput (tt 95) s p v=aputz 2 s p v):=fun s p v=>aput_z rfl rfl s p v
@[go_sem] theorem tt_422:(∀ (s:AS) (p:AV),aload (tt 102) s p=(s.row p).bind fun r=>apart false 1 r.2 r.1):=by intro s p;unfold aload;cases s.row p <;> rfl
@[go_sem] theorem tt_423:(∀ ev:Operand→AV,arows tt ev (.alloc 102)=some (1,[[.int .u64 0]],102)):=by intros;rfl
@[go_sem] theorem tt_424:(∀ (ev:Operand→AV) (x:Operand),arows tt ev (.box 102 x)=if noL (ev x)=true∧(ev x).cells.length=1∧(ev x).cells.all AV.cell=true then some (1,[(ev x).cells],102) else none):=by intro ev x;simp [arows,tt,TI.knows]
@[go_sem] theorem tt_425:(∀ (k:IntKind) (n:Int),aconv (tt 102) (tt 3) (.int k n)=some (.int .i64 (wr .i64 n))):=by intros;rfl
@[go_sem] theorem tt_426:(∀ (s:AS) (p v:AV),aput (tt 102) s p v=aputz 1 s p v):=fun s p v=>aput_z rfl rfl s p v
@[go_sem] theorem tt_427:(∀ (s:AS) (p:AV),aload (tt 104) s p=(s.row p).bind fun r=>apart true 1 r.2 r.1):=by intro s p;unfold aload;cases s.row p <;> rfl
@[go_sem] theorem tt_428:(∀ ev:Operand→AV,arows tt ev (.alloc 104)=some (1,[[.int .u64 0]],104)):=by intros;rfl
@[go_sem] theorem tt_429:(∀ (ev:Operand→AV) (x:Operand),arows tt ev (.box 104 x)=if noL (ev x)=true∧(ev x).cells.length=1∧(ev x).cells.all AV.cell=true then some (1,[(ev x).cells],104) else none):=by intro ev x;simp [arows,tt,TI.knows]
@[go_sem] theorem tt_430:(∀ v:AV,afieldAddr (tt 104) 0 v=amove 0 v):=by intros;rfl
@[go_sem] theorem tt_431:(∀ cs:List AV,afield (tt 104) 0 (.agg cs)=apart false 1 0 cs):=by intros;rfl
@[go_sem] theorem tt_432:(∀ ps:List (Nat × AV),abuild tt 104 ps=(afill (fun i=>([(0,1)]:List (Nat × Nat))[i]?) [.int .u64 0] ps).map .agg):=fun ps=>by show Option.map _ (afill _ _ _)=_;congr 2;funext i;rw [← List.getElem?_map];rfl
@[go_sem] theorem tt_433:(∀ (s:AS) (p v:AV),aput (tt 104) s p v=aputz 1 s p v):=fun s p v=>aput_z rfl rfl s p v
@[go_sem] theorem tt_434:(∀ (s:AS) (p:AV),aload (tt 106) s p=(s.row p).bind fun r=>apart true 7 r.2 r.1):=by intro s p;unfold aload;cases s.row p <;> rfl
@[go_sem] theorem tt_435:(∀ ev:Operand→AV,arows tt ev (.alloc 106)=some (7,[[.int .i64 0,.int .i64 0,.int .i64 0,.int .i64 0,.int .i64 0,.int .i64 0,.int .i64 0]],106)):=by intros;rfl
@[go_sem] theorem tt_436:(∀ (ev:Operand→AV) (x:Operand),arows tt ev (.box 106 x)=if noL (ev x)=true∧(ev x).cells.length=7∧(ev x).cells.all AV.cell=true then some (7,[(ev x).cells],106) else none):=by intro ev x;simp [arows,tt,TI.knows]
@[go_sem] theorem tt_437:(∀ (v:AV) (k:IntKind) (i:Int),aidx tt 106 v (.int k i)=if 0≤i∧i < 7 then amove (i.toNat * 1) v else none):=by intros;rfl
@[go_sem] theorem tt_438:(∀ (cs:List AV) (k:IntKind) (i:Int),aindex tt 106 (.agg cs) (.int k i)=if 0≤i∧i < 7 then apart false 1 (i.toNat * 1) cs else none):=by intros;rfl
@[go_sem] theorem tt_439:(∀ ps:List (Nat × AV),abuild tt 106 ps=(afill (fun i=>some (i * 1,1)) [.int .i64 0,.int .i64 0,.int .i64 0,.int .i64 0,.int .i64 0,.int .i64 0,.int .i64 0] ps).map .agg):=by intros;rfl
@[go_sem] theorem tt_440:(elsize tt 106=1):=by intros;rfl
@[go_sem] theorem tt_441:(∀ (b:Bid) (m j:Nat),asl (tt 106) 1 none none (.aptr b m j)=if j+7≤m then some (.slc b 1 j 7) else none):=fun b m j=>asl_aptr rfl (by decide) b m j
@[go_sem] theorem tt_442:(∀ (cs:List AV) (j:Nat),asl (tt 106) 1 none none (.iptr cs j)=if j+7≤cs.length then some (.lstx 1 (((cs.drop j).take 7).map fun x=>[x])) else none):=fun cs j=>asl_iptr rfl cs j
@[go_sem] theorem tt_443:(∀ (s:AS) (p v:AV),aput (tt 106) s p v=aputz 7 s p v):=fun s p v=>aput_z rfl rfl s p v
@[go_sem] theorem tt_444:(∀ (s:AS) (p:AV),aload (tt 111) s p=(s.row p).bind fun r=>apart true 4 r.2 r.1):=by intro s p;unfold aload;cases s.row p <;> rfl
@[go_sem] theorem tt_445:(∀ ev:Operand→AV,arows tt ev (.alloc 111)=some (4,[[.nils,.nils,.nils,.nils]],111)):=by intros;rfl
@[go_sem] theorem tt_446:(∀ (ev:Operand→AV) (x:Operand),arows tt ev (.box 111 x)=if noL (ev x)=true∧(ev x).cells.length=4∧(ev x).cells.all AV.cell=true then some (4,[(ev x).cells],111) else none):=by intro ev x;simp [arows,tt,TI.knows]
@[go_sem] theorem tt_447:(∀ v:AV,afieldAddr (tt 111) 0 v=amove 0 v):=by intros;rfl
@[go_sem] theorem tt_448:(∀ cs:List AV,afield (tt 111) 0 (.agg cs)=apart false 1 0 cs):=by intros;rfl
@[go_sem] theorem tt_449:(∀ v:AV,afieldAddr (tt 111) 1 v=amove 1 v):=by intros;rfl
@[go_sem] theorem tt_450:(∀ cs:List AV,afield (tt 111) 1 (.agg cs)=apart false 1 1 cs):=by intros;rfl
@[go_sem] theorem tt_451:(∀ v:AV,afieldAddr (tt 111) 2 v=amove 2 v):=by intros;rfl
@[go_sem] theorem tt_452:(∀ cs:List AV,afield (tt 111) 2 (.agg cs)=apart false 1 2 cs):=by intros;rfl
@[go_sem] theorem tt_453:(∀ v:AV,afieldAddr (tt 111) 3 v=amove 3 v):=by intros;rfl
@[go_sem] theorem tt_454:(∀ cs:List AV,afield (tt 111) 3 (.agg cs)=apart false 1 3 cs):=by intros;rfl
@[go_sem] theorem tt_455:(∀ ps:List (Nat × AV),abuild tt 111 ps=(afill (fun i=>([(0,1),(1,1),(2,1),(3,1)]:List (Nat × Nat))[i]?) [.nils,.nils,.nils,.nils] ps).map .agg):=fun ps=>by show Option.map _ (afill _ _ _)=_;congr 2;funext i;rw [← List.getElem?_map];rfl
@[go_sem] theorem tt_456:(∀ (s:AS) (p v:AV),aput (tt 111) s p v=aputz 4 s p v):=fun s p v=>aput_z rfl rfl s p v
@[go_sem] theorem tt_457:(∀ (s:AS) (p:AV),aload (tt 116) s p=(s.row p).bind fun r=>apart true 2 r.2 r.1):=by intro s p;unfold aload;cases s.row p <;> rfl
@[go_sem] theorem tt_458:(∀ ev:Operand→AV,arows tt ev (.alloc 116)=some (2,[[.int .i64 0,.int .i64 0]],116)):=by intros;rfl
@[go_sem] theorem tt_459:(∀ (ev:Operand→AV) (x:Operand),arows tt ev (.box 116 x)=if noL (ev x)=true∧(ev x).cells.length=2∧(ev x).cells.all AV.cell=true then some (2,[(ev x).cells],116) else none):=by intro ev x;simp [arows,tt,TI.knows]
@[go_sem] theorem tt_460:(∀ v:AV,afieldAddr (tt 116) 0 v=amove 0 v):=by intros;rfl
@[go_sem] theorem tt_461:(∀ cs:List AV,afield (tt 116) 0 (.agg cs)=apart false 1 0 cs):=by intros;rfl
@[go_sem] theorem tt_462:(∀ v:AV,afieldAddr (tt 116) 1 v=amove 1 v):=by intros;rfl
@[go_sem] theorem tt_463:(∀ cs:List AV,afield (tt 116) 1 (.agg cs)=apart false 1 1 cs):=by intros;rfl
@[go_sem] theorem tt_464:(∀ ps:List (Nat × AV),abuild tt 116 ps=(afill (fun i=>([(0,1),(1,1)]:List (Nat × Nat))[i]?) [.int .i64 0,.int .i64 0] ps).map .agg):=fun ps=>by show Option.map _ (afill _ _ _)=_;congr 2;funext i;rw [← List.getElem?_map];rfl
@[go_sem] theorem tt_465:(∀ (s:AS) (p v:AV),aput (tt 116) s p v=aputz 2 s p v):=fun s p v=>aput_z rfl rfl s p v
@[go_sem] theorem tt_466:(∀ (s:AS) (p:AV),aload (tt 120) s p=(s.row p).bind fun r=>apart true 7 r.2 r.1):=by intro s p;unfold aload;cases s.row p <;> rfl
@[go_sem] theorem tt_467:(∀ ev:Operand→AV,arows tt ev (.alloc 120)=some (7,[[.int .i64 0,.int .i64 0,.int .i64 0,.int .i64 0,.int .i64 0,.int .i64 0,.int .i64 0]],120)):=by intros;rfl
@[go_sem] theorem tt_468:(∀ (ev:Operand→AV) (x:Operand),arows tt ev (.box 120 x)=if noL (ev x)=true∧(ev x).cells.length=7∧(ev x).cells.all AV.cell=true then some (7,[(ev x).cells],120) else none):=by intro ev x;simp [arows,tt,TI.knows]
@[go_sem] theorem tt_469:(∀ v:AV,afieldAddr (tt 120) 0 v=amove 0 v):=by intros;rfl
@[go_sem] theorem tt_470:(∀ cs:List AV,afield (tt 120) 0 (.agg cs)=apart false 1 0 cs):=by intros;rfl
@[go_sem] theorem tt_471:(∀ v:AV,afieldAddr (tt 120) 1 v=amove 1 v):=by intros;rfl
@[go_sem] theorem tt_472:(∀ cs:List AV,afield (tt 120) 1 (.agg cs)=apart true 2 1 cs):=by intros;rfl
@[go_sem] theorem tt_473:(∀ v:AV,afieldAddr (tt 120) 2 v=amove 3 v):=by intros;rfl
@[go_sem] theorem tt_474:(∀ cs:List AV,afield (tt 120) 2 (.agg cs)=apart true 2 3 cs):=by intros;rfl
@[go_sem] theorem tt_475:(∀ v:AV,afieldAddr (tt 120) 3 v=amove 5 v):=by intros;rfl
@[go_sem] theorem tt_476:(∀ cs:List AV,afield (tt 120) 3 (.agg cs)=apart false 1 5 cs):=by intros;rfl
@[go_sem] theorem tt_477:(∀ v:AV,afieldAddr (tt 120) 4 v=amove 6 v):=by intros;rfl
@[go_sem] theorem tt_478:(∀ cs:List AV,afield (tt 120) 4 (.agg cs)=apart false 1 6 cs):=by intros;rfl
@[go_sem] theorem tt_479:(∀ ps:List (Nat × AV),abuild tt 120 ps=(afill (fun i=>([(0,1),(1,2),(3,2),(5,1),(6,1)]:List (Nat × Nat))[i]?) [.int .i64 0,.int .i64 0,.int .i64 0,.int .i64 0,.int .i64 0,.int .i64 0,.int .i64 0] ps).map .agg):=fun ps=>by show Option.map _ (afill _ _ _)=_;congr 2;funext i;rw [← List.getElem?_map];rfl
@[go_sem] theorem tt_480:(∀ (s:AS) (p v:AV),aput (tt 120) s p v=aputz 7 s p v):=fun s p v=>aput_z rfl rfl s p v
@[go_sem] theorem tt_481:(∀ (s:AS) (p:AV),aload (tt 133) s p=(s.row p).bind fun r=>apart false 1 r.2 r.1):=by intro s p;unfold aload;cases s.row p <;> rfl
@[go_sem] theorem tt_482:(∀ ev:Operand→AV,arows tt ev (.alloc 133)=some (1,[[.nilfn]],133)):=by intros;rfl
@[go_sem] theorem tt_483:(∀ (ev:Operand→AV) (x:Operand),arows tt ev (.box 133 x)=if noL (ev x)=true∧(ev x).cells.length=1∧(ev x).cells.all AV.cell=true then some (1,[(ev x).cells],133) else none):=by intro ev x;simp [arows,tt,TI.knows]
@[go_sem] theorem tt_484:(∀ (s:AS) (p v:AV),aput (tt 133) s p v=aputz 1 s p v):=fun s p v=>aput_z rfl rfl s p v
@[go_sem] theorem tt_485:(∀ (s:AS) (p:AV),aload (tt 135) s p=(s.row p).bind fun r=>apart false 1 r.2 r.1):=by intro s p;unfold aload;cases s.row p <;> rfl
@[go_sem] theorem tt_486:(∀ ev:Operand→AV,arows tt ev (.alloc 135)=some (1,[[.int .u64 0]],135)):=by intros;rfl
@[go_sem] theorem tt_487:(∀ (ev:Operand→AV) (x:Operand),arows tt ev (.box 135 x)=if noL (ev x)=true∧(ev x).cells.length=1∧(ev x).cells.all AV.cell=true then some (1,[(ev x).cells],135) else none):=by intro ev x;simp [arows,tt,TI.knows]
@[go_sem] theorem tt_488:(∀ (s:AS) (p v:AV),aput (tt 135) s p v=aputz 1 s p v):=fun s p v=>aput_z rfl rfl s p v
@[go_sem] theorem tt_489:(∀ (s:AS) (p:AV),aload (tt 139) s p=(s.row p).bind fun r=>apart true 8 r.2 r.1):=by intro s p;unfold aload;cases s.row p <;> rfl
@[go_sem] theorem tt_490:(∀ ev:Operand→AV,arows tt ev (.alloc 139)=some (8,[[.int .i64 0,.int .i64 0,.int .i64 0,.int .i64 0,.int .i64 0,.int .i64 0,.int .i64 0,.int .i64 0]],139)):=by intros;rfl
@[go_sem] theorem tt_491:(∀ (ev:Operand→AV) (x:Operand),arows tt ev (.box 139 x)=if noL (ev x)=true∧(ev x).cells.length=8∧(ev x).cells.all AV.cell=true then some (8,[(ev x).cells],139) else none):=by intro ev x;simp [arows,tt,TI.knows]
@[go_sem] theorem tt_492:(∀ (v:AV) (k:IntKind) (i:Int),aidx tt 139 v (.int k i)=if 0≤i∧i < 8 then amove (i.toNat * 1) v else none):=by intros;rfl
@[go_sem] theorem tt_493:(∀ (cs:List AV) (k:IntKind) (i:Int),aindex tt 139 (.agg cs) (.int k i)=if 0≤i∧i < 8 then apart false 1 (i.toNat * 1) cs else none):=by intros;rfl
@[go_sem] theorem tt_494:(∀ ps:List (Nat × AV),abuild tt 139 ps=(afill (fun i=>some (i * 1,1)) [.int .i64 0,.int .i64 0,.int .i64 0,.int .i64 0,.int .i64 0,.int .i64 0,.int .i64 0,.int .i64 0] ps).map .agg):=by intros;rfl
@[go_sem] theorem tt_495:(elsize tt 139=1):=by intros;rfl
@[go_sem] theorem tt_496:(∀ (b:Bid) (m j:Nat),asl (tt 139) 1 none none (.aptr b m j)=if j+8≤m then some (.slc b 1 j 8) else none):=fun b m j=>asl_aptr rfl (by decide) b m j
@[go_sem] theorem tt_497:(∀ (cs:List AV) (j:Nat),asl (tt 139) 1 none none (.iptr cs j)=if j+8≤cs.length then some (.lstx 1 (((cs.drop j).take 8).map fun x=>[x])) else none):=fun cs j=>asl_iptr rfl cs j
@[go_sem] theorem tt_498:(∀ (s:AS) (p v:AV),aput (tt 139) s p v=aputz 8 s p v):=fun s p v=>aput_z rfl rfl s p v
@[go_sem] theorem tt_499:(∀ (s:AS) (p:AV),aload (tt 144) s p=(s.row p).bind fun r=>apart false 1 r.2 r.1):=by intro s p;unfold aload;cases s.row p <;> rfl
@[go_sem] theorem tt_500:(∀ ev:Operand→AV,arows tt ev (.alloc 144)=some (1,[[.nilfn]],144)):=by intros;rfl
@[go_sem] theorem tt_501:(∀ (ev:Operand→AV) (x:Operand),arows tt ev (.box 144 x)=if noL (ev x)=true∧(ev x).cells.length=1∧(ev x).cells.all AV.cell=true then some (1,[(ev x).cells],144) else none):=by intro ev x;simp [arows,tt,TI.knows]
@[go_sem] theorem tt_502:(∀ (s:AS) (p v:AV),aput (tt 144) s p v=aputz 1 s p v):=fun s p v=>aput_z rfl rfl s p v
@[go_sem] theorem tt_503:(∀ (s:AS) (p:AV),aload (tt 145) s p=(s.row p).bind fun r=>apart true 4 r.2 r.1):=by intro s p;unfold aload;cases s.row p <;> rfl
@[go_sem] theorem tt_504:(∀ ev:Operand→AV,arows tt ev (.alloc 145)=some (4,[[.int .i64 0,.int .i64 0,.int .i64 0,.int .i64 0]],145)):=by intros;rfl
@[go_sem] theorem tt_505:(∀ (ev:Operand→AV) (x:Operand),arows tt ev (.box 145 x)=if noL (ev x)=true∧(ev x).cells.length=4∧(ev x).cells.all AV.cell=true then some (4,[(ev x).cells],145) else none):=by intro ev x;simp [arows,tt,TI.knows]
@[go_sem] theorem tt_506:(∀ (v:AV) (k:IntKind) (i:Int),aidx tt 145 v (.int k i)=if 0≤i∧i < 4 then amove (i.toNat * 1) v else none):=by intros;rfl
@[go_sem] theorem tt_507:(∀ (cs:List AV) (k:IntKind) (i:Int),aindex tt 145 (.agg cs) (.int k i)=if 0≤i∧i < 4 then apart false 1 (i.toNat * 1) cs else none):=by intros;rfl
@[go_sem] theorem tt_508:(∀ ps:List (Nat × AV),abuild tt 145 ps=(afill (fun i=>some (i * 1,1)) [.int .i64 0,.int .i64 0,.int .i64 0,.int .i64 0] ps).map .agg):=by intros;rfl
@[go_sem] theorem tt_509:(elsize tt 145=1):=by intros;rfl
@[go_sem] theorem tt_510:(∀ (b:Bid) (m j:Nat),asl (tt 145) 1 none none (.aptr b m j)=if j+4≤m then some (.slc b 1 j 4) else none):=fun b m j=>asl_aptr rfl (by decide) b m j
@[go_sem] theorem tt_511:(∀ (cs:List AV) (j:Nat),asl (tt 145) 1 none none (.iptr cs j)=if j+4≤cs.length then some (.lstx 1 (((cs.drop j).take 4).map fun x=>[x])) else none):=fun cs j=>asl_iptr rfl cs j
@[go_sem] theorem tt_512:(∀ (s:AS) (p v:AV),aput (tt 145) s p v=aputz 4 s p v):=fun s p v=>aput_z rfl rfl s p v
@[go_sem] theorem tt_513:(∀ (s:AS) (p:AV),aload (tt 147) s p=(s.row p).bind fun r=>apart true 20 r.2 r.1):=by intro s p;unfold aload;cases s.row p <;> rfl
@[go_sem] theorem tt_514:(∀ ev:Operand→AV,arows tt ev (.alloc 147)=some (20,[[.int .i64 0,.int .i64 0,.int .i64 0,.int .i64 0,.int .i64 0,.int .i64 0,.int .i64 0,.int .i64 0,.int .i64 0,.int .i64 0,.int .i64 0,.int .i64 0,.int .i64 0,.int .i64 0,.int .i64 0,.int .i64 0,.int .i64 0,.int .i64 0,.int .i64 0,.int .i64 0]],147)):=by intros;rfl
@[go_sem] theorem tt_515:(∀ (ev:Operand→AV) (x:Operand),arows tt ev (.box 147 x)=if noL (ev x)=true∧(ev x).cells.length=20∧(ev x).cells.all AV.cell=true then some (20,[(ev x).cells],147) else none):=by intro ev x;simp [arows,tt,TI.knows]
@[go_sem] theorem tt_516:(∀ v:AV,afieldAddr (tt 147) 0 v=amove 0 v):=by intros;rfl
@[go_sem] theorem tt_517:(∀ cs:List AV,afield (tt 147) 0 (.agg cs)=apart true 7 0 cs):=by intros;rfl
@[go_sem] theorem tt_518:(∀ v:AV,afieldAddr (tt 147) 1 v=amove 7 v):=by intros;rfl
@[go_sem] theorem tt_519:(∀ cs:List AV,afield (tt 147) 1 (.agg cs)=apart false 1 7 cs):=by intros;rfl
@[go_sem] theorem tt_520:(∀ v:AV,afieldAddr (tt 147) 2 v=amove 8 v):=by intros;rfl
@[go_sem] theorem tt_521:(∀ cs:List AV,afield (tt 147) 2 (.agg cs)=apart true 4 8 cs):=by intros;rfl
@[go_sem] theorem tt_522:(∀ v:AV,afieldAddr (tt 147) 3 v=amove 12 v):=by intros;rfl
@[go_sem] theorem tt_523:(∀ cs:List AV,afield (tt 147) 3 (.agg cs)=apart true 7 12 cs):=by intros;rfl
@[go_sem] theorem tt_524:(∀ v:AV,afieldAddr (tt 147) 4 v=amove 19 v):=by intros;rfl
@[go_sem] theorem tt_525:(∀ cs:List AV,afield (tt 147) 4 (.agg cs)=apart false 1 19 cs):=by intros;rfl
@[go_sem] theorem tt_526:(∀ ps:List (Nat × AV),abuild tt 147 ps=(afill (fun i=>([(0,7),(7,1),(8,4),(12,7),(19,1)]:List (Nat × Nat))[i]?) [.int .i64 0,.int .i64 0,.int .i64 0,.int .i64 0,.int .i64 0,.int .i64 0,.int .i64 0,.int .i64 0,.int .i64 0,.int .i64 0,.int .i64 0,.int .i64 0,.int .i64 0,.int .i64 0,.int .i64 0,.int .i64 0,.int .i64 0,.int .i64 0,.int .i64 0,.int .i64 0] ps).map .agg):=fun ps=>by show Option.map _ (afill _ _ _)=_;congr 2;funext i;rw [← List.getElem?_map];rfl
@[go_sem] theorem tt_527:(∀ (s:AS) (p v:AV),aput (tt 147) s p v=aputz 20 s p v):=fun s p v=>aput_z rfl rfl s p v
@[go_sem] theorem tt_528:(∀ (s:AS) (p:AV),aload (tt 158) s p=(s.row p).bind fun r=>apart true 11 r.2 r.1):=by intro s p;unfold aload;cases s.row p <;> rfl
@[go_sem] theorem tt_529:(∀ ev:Operand→AV,arows tt ev (.alloc 158)=some (11,[[.int .i64 0,.int .i64 0,.int .i64 0,.int .i64 0,.int .i64 0,.int .i64 0,.int .i64 0,.int .i64 0,.nils,.int .i64 0,.int .i64 0]],158)):=by intros;rfl
@[go_sem] theorem tt_530:(∀ (ev:Operand→AV) (x:Operand),arows tt ev (.box 158 x)=if noL (ev x)=true∧(ev x).cells.length=11∧(ev x).cells.all AV.cell=true then some (11,[(ev x).cells],158) else none):=by intro ev x;simp [arows,tt,TI.knows]
@[go_sem] theorem tt_531:(∀ v:AV,afieldAddr (tt 158) 0 v=amove 0 v):=by intros;rfl
@[go_sem] theorem tt_532:(∀ cs:List AV,afield (tt 158) 0 (.agg cs)=apart true 9 0 cs):=by intros;rfl
@[go_sem] theorem tt_533:(∀ v:AV,afieldAddr (tt 158) 1 v=amove 9 v):=by intros;rfl
@[go_sem] theorem tt_534:(∀ cs:List AV,afield (tt 158) 1 (.agg cs)=apart false 1 9 cs):=by intros;rfl
@[go_sem] theorem tt_535:(∀ v:AV,afieldAddr (tt 158) 2 v=amove 10 v):=by intros;rfl
@[go_sem] theorem tt_536:(∀ cs:List AV,afield (tt 158) 2 (.agg cs)=apart false 1 10 cs):=by intros;rfl
@[go_sem] theorem tt_537:(∀ ps:List (Nat × AV),abuild tt 158 ps=(afill (fun i=>([(0,9),(9,1),(10,1)]:List (Nat × Nat))[i]?) [.int .i64 0,.int .i64 0,.int .i64 0,.int .i64 0,.int .i64 0,.int .i64 0,.int .i64 0,.int .i64 0,.nils,.int .i64 0,.int .i64 0] ps).map .agg):=fun ps=>by show Option.map _ (afill _ _ _)=_;congr 2;funext i;rw [← List.getElem?_map];rfl
@[go_sem] theorem tt_538:(∀ (s:AS) (p v:AV),aput (tt 158) s p v=aputz 11 s p v):=fun s p v=>aput_z rfl rfl s p v
@[go_sem] theorem tt_539:(∀ (s:AS) (p:AV),aload (tt 167) s p=(s.row p).bind fun r=>apart false 1 r.2 r.1):=by intro s p;unfold aload;cases s.row p <;> rfl
@[go_sem] theorem tt_540:(∀ ev:Operand→AV,arows tt ev (.alloc 167)=some (1,[[.nilfn]],167)):=by intros;rfl
@[go_sem] theorem tt_541:(∀ (ev:Operand→AV) (x:Operand),arows tt ev (.box 167 x)=if noL (ev x)=true∧(ev x).cells.length=1∧(ev x).cells.all AV.cell=true then some (1,[(ev x).cells],167) else none):=by intro ev x;simp [arows,tt,TI.knows]
@[go_sem] theorem tt_542:(∀ (s:AS) (p v:AV),aput (tt 167) s p v=aputz 1 s p v):=fun s p v=>aput_z rfl rfl s p v
@[go_sem] theorem tt_543:(∀ (s:AS) (p:AV),aload (tt 168) s p=(s.row p).bind fun r=>apart true 3 r.2 r.1):=by intro s p;unfold aload;cases s.row p <;> rfl
@[go_sem] theorem tt_544:(∀ ev:Operand→AV,arows tt ev (.alloc 168)=some (3,[[.bool false,.bool false,.bool false]],168)):=by intros;rfl
@[go_sem] theorem tt_545:(∀ (ev:Operand→AV) (x:Operand),arows tt ev (.box 168 x)=if noL (ev x)=true∧(ev x).cells.length=3∧(ev x).cells.all AV.cell=true then some (3,[(ev x).cells],168) else none):=by intro ev x;simp [arows,tt,TI.knows]
@[go_sem] theorem tt_546:(∀ v:AV,afieldAddr (tt 168) 0 v=amove 0 v):=by intros;rfl
@[go_sem] theorem tt_547:(∀ cs:List AV,afield (tt 168) 0 (.agg cs)=apart false 1 0 cs):=by intros;rfl
@[go_sem] theorem tt_548:(∀ v:AV,afieldAddr (tt 168) 1 v=amove 1 v):=by intros;rfl
@[go_sem] theorem tt_549:(∀ cs:List AV,afield (tt 168) 1 (.agg cs)=apart false 1 1 cs):=by intros;rfl
@[go_sem] theorem tt_550:(∀ v:AV,afieldAddr (tt 168) 2 v=amove 2 v):=by intros;rfl
@[go_sem] theorem tt_551:(∀ cs:List AV,afield (tt 168) 2 (.agg cs)=apart false 1 2 cs):=by intros;rfl
@[go_sem] theorem tt_552:(∀ ps:List (Nat × AV),abuild tt 168 ps=(afill (fun i=>([(0,1),(1,1),(2,1)]:List (Nat × Nat))[i]?) [.bool false,.bool false,.bool false] ps).map .agg):=fun ps=>by show Option.map _ (afill _ _ _)=_;congr 2;funext i;rw [← List.getElem?_map];rfl
@[go_sem] theorem tt_553:(∀ (s:AS) (p v:AV),aput (tt 168) s p v=aputz 3 s p v):=fun s p v=>aput_z rfl rfl s p v
@[go_sem] theorem tt_554:(∀ (s:AS) (p:AV),aload (tt 169) s p=(s.row p).bind fun r=>apart false 1 r.2 r.1):=by intro s p;unfold aload;cases s.row p <;> rfl
@[go_sem] theorem tt_555:(∀ ev:Operand→AV,arows tt ev (.alloc 169)=some (1,[[.nils]],169)):=by intros;rfl
@[go_sem] theorem tt_556:(∀ (ev:Operand→AV) (x:Operand),arows tt ev (.box 169 x)=if noL (ev x)=true∧(ev x).cells.length=1∧(ev x).cells.all AV.cell=true then some (1,[(ev x).cells],169) else none):=by intro ev x;simp [arows,tt,TI.knows]
@[go_sem] theorem tt_557:(∀ (es:List (List AV)) (k:IntKind) (i:Int),aidx tt 169 (.lst 1 es) (.int k i)=if 0≤i∧i < es.length then some (.iptr (es.getD i.toNat []) 0) else none):=by intros;rfl
@[go_sem] theorem tt_558:(∀ (b:Bid) (o n:Nat) (k:IntKind) (i:Int),aidx tt 169 (.slc b 1 o n) (.int k i)=if 0≤i∧i < n then some (.ptr b (o+i.toNat) 0) else none):=by intros;rfl
@[go_sem] theorem tt_559:(∀ (b:Bid) (e o n:Nat),alen (tt 169) (.slc b e o n)=some (n:Int)):=by intros;rfl
@[go_sem] theorem tt_560:(∀ (e:Nat) (es:List (List AV)),alen (tt 169) (.lst e es)=some (es.length:Int)):=by intros;rfl
@[go_sem] theorem tt_561:(alen (tt 169) .nils=some 0):=by intros;rfl
@[go_sem] theorem tt_562:(∀ c:Bool,abin (tt 169) .eql c .nils .nils=some (.bool true)):=by intros;rfl
@[go_sem] theorem tt_563:(∀ (c:Bool) (b:Bid) (e i n:Nat),abin (tt 169) .eql c (.slc b e i n) .nils=some (.bool false)):=by intros;rfl
@[go_sem] theorem tt_564:(∀ (c:Bool) (e:Nat) (r:List AV) (es:List (List AV)),abin (tt 169) .eql c (.lst e (r :: es)) .nils=some (.bool false)):=by intros;rfl
@[go_sem] theorem tt_565:(∀ c:Bool,abin (tt 169) .neq c .nils .nils=some (.bool false)):=by intros;rfl
@[go_sem] theorem tt_566:(∀ (c:Bool) (b:Bid) (e i n:Nat),abin (tt 169) .neq c (.slc b e i n) .nils=some (.bool true)):=by intros;rfl
@[go_sem] theorem tt_567:(∀ (c:Bool) (e:Nat) (r:List AV) (es:List (List AV)),abin (tt 169) .neq c (.lst e (r :: es)) .nils=some (.bool true)):=by intros;rfl
@[go_sem] theorem tt_568:(elsize tt 169=1):=by intros;rfl
@[go_sem] theorem tt_569:(∀ (ev:Operand→AV) (n:Nat) (ps:List (Nat × Operand)),absl tt ev 169 n ps=if n≤16777216∧n * 1≤16777216∧ps.map (·.1)=List.range n∧(ps.all fun p=>noL (ev p.2) && ((ev p.2).cells.length == 1) && (ev p.2).cells.all AV.cell)=true then some (1,ps.map fun p=>(ev p.2).cells) else none):=by intros;rfl
@[go_sem] theorem tt_570:(∀ (k k':IntKind) (l c:Int),amake tt 169 (.int k l) (.int k' c)=if 0≤l∧l≤c∧c * 8≤70368744177664∧c≤70368744177664 then some (1,List.replicate l.toNat [.nilfn],l.toNat) else none):=by intros;rfl
@[go_sem] theorem tt_571:(∀ (h:AH) (x y:AV),acopy tt h 169 x y=acopyz 1 h x y):=fun h x y=>by unfold acopy acopyz;rfl
@[go_sem] theorem tt_572:(∀ (ez b1 o n:Nat) (b:Bid) (lo hi:Option AV),asl (tt 169) ez lo hi (.slc b b1 o n)=aslz n lo hi fun l h=>if b1=ez then some (.slc b b1 (o+l) (h - l)) else none):=fun ez b1 o n b lo hi=>asl_slc rfl ez lo hi b b1 o n
@[go_sem] theorem tt_573:(∀ (ez e:Nat) (es:List (List AV)) (lo hi:Option AV),asl (tt 169) ez lo hi (.lst e es)=aslz es.length lo hi fun l h=>if e=ez then some (.lst e ((es.drop l).take (h - l))) else none):=fun ez e es lo hi=>asl_lst rfl ez lo hi e es
@[go_sem] theorem tt_574:(∀ (h:AH) (id:Bid) (x y:AV),aapp tt h 169 id x y=aappz 1 8 h id x y):=fun h id x y=>by unfold aapp aappz;rfl
@[go_sem] theorem tt_575:(∀ (s:AS) (p v:AV),aput (tt 169) s p v=aputz 1 s p v):=fun s p v=>aput_z rfl rfl s p v
@[go_sem] theorem tt_576:(∀ (s:AS) (p:AV),aload (tt 173) s p=(s.row p).bind fun r=>apart true 2 r.2 r.1):=by intro s p;unfold aload;cases s.row p <;> rfl
@[go_sem] theorem tt_577:(∀ ev:Operand→AV,arows tt ev (.alloc 173)=some (2,[[.int .i64 0,.int .i64 0]],173)):=by intros;rfl
@[go_sem] theorem tt_578:(∀ (ev:Operand→AV) (x:Operand),arows tt ev (.box 173 x)=if noL (ev x)=true∧(ev x).cells.length=2∧(ev x).cells.all AV.cell=true then some (2,[(ev x).cells],173) else none):=by intro ev x;simp [arows,tt,TI.knows]
@[go_sem] theorem tt_579:(∀ (v:AV) (k:IntKind) (i:Int),aidx tt 173 v (.int k i)=if 0≤i∧i < 2 then amove (i.toNat * 1) v else none):=by intros;rfl
@[go_sem] theorem tt_580:(∀ (cs:List AV) (k:IntKind) (i:Int),aindex tt 173 (.agg cs) (.int k i)=if 0≤i∧i < 2 then apart false 1 (i.toNat * 1) cs else none):=by intros;rfl
@[go_sem] theorem tt_581:(∀ ps:List (Nat × AV),abuild tt 173 ps=(afill (fun i=>some (i * 1,1)) [.int .i64 0,.int .i64 0] ps).map .agg):=by intros;rfl
@[go_sem] theorem tt_582:(elsize tt 173=1):=by intros;rfl
@[go_sem] theorem tt_583:(∀ (b:Bid) (m j:Nat),asl (tt 173) 1 none none (.aptr b m j)=if j+2≤m then some (.slc b 1 j 2) else none):=fun b m j=>asl_aptr rfl (by decide) b m j
@[go_sem] theorem tt_584:(∀ (cs:List AV) (j:Nat),asl (tt 173) 1 none none (.iptr cs j)=if j+2≤cs.length then some (.lstx 1 (((cs.drop j).take 2).map fun x=>[x])) else none):=fun cs j=>asl_iptr rfl cs j
@[go_sem] theorem tt_585:(∀ (s:AS) (p v:AV),aput (tt 173) s p v=aputz 2 s p v):=fun s p v=>aput_z rfl rfl s p v
@[go_sem] theorem tt_586:(∀ (s:AS) (p:AV),aload (tt 176) s p=(s.row p).bind fun r=>apart false 1 r.2 r.1):=by intro s p;unfold aload;cases s.row p <;> rfl
@[go_sem] theorem tt_587:(∀ ev:Operand→AV,arows tt ev (.alloc 176)=some (1,[[.nilfn]],176)):=by intros;rfl
@[go_sem] theorem tt_588:(∀ (ev:Operand→AV) (x:Operand),arows tt ev (.box 176 x)=if noL (ev x)=true∧(ev x).cells.length=1∧(ev x).cells.all AV.cell=true then some (1,[(ev x).cells],176) else none):=by intro ev x;simp [arows,tt,TI.knows]
@[go_sem] theorem tt_589:(∀ (s:AS) (p v:AV),aput (tt 176) s p v=aputz 1 s p v):=fun s p v=>aput_z rfl rfl s p v
end Go.Proofs.YtaijkalhkgjakaaDoor
