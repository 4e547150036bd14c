/- Printed by gentab.py: the types that this seat's functions name, as a table of our own; that the table is right. -/
import Derived.Test.YtoafigpikgigaaaDoorBaseD
import Derived.Test.YtoafigpikgigaaaDoorProg
import Derived.KernelRfl
set_option linter.all false
set_option linter.unusedSimpArgs false
set_option linter.unusedVariables false
namespace Go.Proofs.YtoafigpikgigaaaDoor
open Go.Av
def tt:Nat→TI
 | 2=>⟨.int .i64,1,8,[.int .i64 0],false,false⟩
 | 3=>⟨.int .i64,1,8,[.int .i64 0],false,false⟩
 | 4=>⟨.bool,1,1,[.bool false],false,false⟩
 | 5=>⟨.int .u8,1,1,[.int .u8 0],false,false⟩
 | 9=>⟨.str,1,16,[.str []],false,false⟩
 | 22=>⟨.slice 3,1,24,[.nils],false,false⟩
 | 23=>⟨.slice 29,1,24,[.nils],false,false⟩
 | 24=>⟨.slice 33,1,24,[.nils],false,false⟩
 | 26=>⟨.struct [(0,1,false),(1,1,false),(2,1,false),(3,1,false)],4,80,[.nils,.nils,.nils,.int .i64 0],false,false⟩
 | 29=>⟨.struct [(0,1,false),(1,1,false)],2,16,[.int .i64 0,.int .i64 0],false,false⟩
 | 31=>⟨.struct [(0,1,false),(1,1,false)],2,16,[.int .i64 0,.int .i64 0],true,false⟩
 | 33=>⟨.struct [(0,2,true),(2,2,true),(4,1,false),(5,1,false),(6,1,false)],7,72,[.int .i64 0,.int .i64 0,.int .i64 0,.int .i64 0,.int .i64 0,.int .i64 0,.nils],false,false⟩
 | 35=>⟨.int .i64,1,8,[.int .i64 0],false,false⟩
 | 37=>⟨.slice 22,1,24,[.nils],false,false⟩
 | 38=>⟨.slice 4,1,24,[.nils],false,false⟩
 | 42=>⟨.slice 31,1,24,[.nils],false,false⟩
 | 45=>⟨.slice 52,1,24,[.nils],false,false⟩
 | 52=>⟨.struct [(0,1,false),(1,1,false),(2,1,false)],3,24,[.int .i64 0,.int .i64 0,.int .i64 0],true,false⟩
 | 57=>⟨.slice 79,1,24,[.nils],false,false⟩
 | 63=>⟨.plain,1,8,[.nilm],false,false⟩
 | 67=>⟨.array 12 3,12,96,[.int .i64 0,.int .i64 0,.int .i64 0,.int .i64 0,.int .i64 0,.int .i64 0,.int .i64 0,.int .i64 0,.int .i64 0,.int .i64 0,.int .i64 0,.int .i64 0],true,false⟩
 | 79=>⟨.struct [(0,1,false),(1,1,false),(2,1,false),(3,1,false)],4,32,[.int .i64 0,.int .i64 0,.int .i64 0,.int .i64 0],true,false⟩
 | 84=>⟨.plain,1,8,[.nilfn],false,false⟩
 | 87=>⟨.plain,1,8,[.nilm],false,false⟩
 | 90=>⟨.plain,1,8,[.nilfn],false,false⟩
 | 102=>⟨.ptr,1,8,[.nilp],false,false⟩
 | 103=>⟨.slice 5,1,24,[.nils],false,false⟩
 | 105=>⟨.struct [(0,1,false),(1,1,false)],2,32,[.nilp,.nils],false,false⟩
 | 120=>⟨.ptr,1,8,[.nilp],false,false⟩
 | 121=>⟨.plain,1,8,[.nilfn],false,false⟩
 | 126=>⟨.int .u64,1,8,[.int .u64 0],false,false⟩
 | 134=>⟨.int .u32,1,4,[.int .u32 0],false,false⟩
 | 136=>⟨.int .u64,1,8,[.int .u64 0],false,false⟩
 | _=>⟨.unknown,0,0,[],false,false⟩
theorem info_row {t:TypeId} {r:TypeInfo} (h:Tryd.prog.types[t]?=some r):Tryd.prog.info? t=some r:=by
 have hlt:t < Tryd.prog.types.size:=(Array.getElem?_eq_some_iff.1 h).1
 unfold Tables.info?;rw [if_pos hlt];exact h
theorem inf2:Tryd.prog.info? 2=some Tryd.t2:=info_row Tryd.type2
theorem cel2:Tryd.prog.cellsOf 2=1:=by unfold Program.cellsOf;rw [inf2];rfl
theorem ag2:aggB Tryd.prog 2=false:=by unfold aggB;rw [Tryd.underlying2]
theorem inf3:Tryd.prog.info? 3=some Tryd.t3:=info_row Tryd.type3
theorem cel3:Tryd.prog.cellsOf 3=1:=by unfold Program.cellsOf;rw [inf3];rfl
theorem ag3:aggB Tryd.prog 3=false:=by unfold aggB;rw [Tryd.underlying3]
theorem inf4:Tryd.prog.info? 4=some Tryd.t4:=info_row Tryd.type4
theorem cel4:Tryd.prog.cellsOf 4=1:=by unfold Program.cellsOf;rw [inf4];rfl
theorem ag4:aggB Tryd.prog 4=false:=by unfold aggB;rw [Tryd.underlying4]
theorem inf5:Tryd.prog.info? 5=some Tryd.t5:=info_row Tryd.type5
theorem cel5:Tryd.prog.cellsOf 5=1:=by unfold Program.cellsOf;rw [inf5];rfl
theorem ag5:aggB Tryd.prog 5=false:=by unfold aggB;rw [Tryd.underlying5]
theorem inf9:Tryd.prog.info? 9=some Tryd.t9:=info_row Tryd.type9
theorem cel9:Tryd.prog.cellsOf 9=1:=by unfold Program.cellsOf;rw [inf9];rfl
theorem ag9:aggB Tryd.prog 9=false:=by unfold aggB;rw [Tryd.underlying9]
theorem inf22:Tryd.prog.info? 22=some Tryd.t22:=info_row Tryd.type22
theorem cel22:Tryd.prog.cellsOf 22=1:=by unfold Program.cellsOf;rw [inf22];rfl
theorem ag22:aggB Tryd.prog 22=false:=by unfold aggB;rw [Tryd.underlying22]
theorem inf23:Tryd.prog.info? 23=some Tryd.t23:=info_row Tryd.type23
theorem cel23:Tryd.prog.cellsOf 23=1:=by unfold Program.cellsOf;rw [inf23];rfl
theorem ag23:aggB Tryd.prog 23=false:=by unfold aggB;rw [Tryd.underlying23]
theorem inf24:Tryd.prog.info? 24=some Tryd.t24:=info_row Tryd.type24
theorem cel24:Tryd.prog.cellsOf 24=1:=by unfold Program.cellsOf;rw [inf24];rfl
theorem ag24:aggB Tryd.prog 24=false:=by unfold aggB;rw [Tryd.underlying24]
theorem inf26:Tryd.prog.info? 26=some Tryd.t26:=info_row Tryd.type26
theorem cel26:Tryd.prog.cellsOf 26=4:=by unfold Program.cellsOf;rw [inf26];rfl
theorem ag26:aggB Tryd.prog 26=true:=by unfold aggB;rw [Tryd.underlying26]
theorem inf29:Tryd.prog.info? 29=some Tryd.t29:=info_row Tryd.type29
theorem cel29:Tryd.prog.cellsOf 29=2:=by unfold Program.cellsOf;rw [inf29];rfl
theorem ag29:aggB Tryd.prog 29=true:=by unfold aggB;rw [Tryd.underlying29]
theorem inf31:Tryd.prog.info? 31=some Tryd.t31:=info_row Tryd.type31
theorem cel31:Tryd.prog.cellsOf 31=2:=by unfold Program.cellsOf;rw [inf31];rfl
theorem ag31:aggB Tryd.prog 31=true:=by unfold aggB;rw [Tryd.underlying31]
theorem inf33:Tryd.prog.info? 33=some Tryd.t33:=info_row Tryd.type33
theorem cel33:Tryd.prog.cellsOf 33=7:=by unfold Program.cellsOf;rw [inf33];rfl
theorem ag33:aggB Tryd.prog 33=true:=by unfold aggB;rw [Tryd.underlying33]
theorem inf35:Tryd.prog.info? 35=some Tryd.t35:=info_row Tryd.type35
theorem cel35:Tryd.prog.cellsOf 35=1:=by unfold Program.cellsOf;rw [inf35];rfl
theorem ag35:aggB Tryd.prog 35=false:=by unfold aggB;rw [Tryd.underlying35]
theorem inf37:Tryd.prog.info? 37=some Tryd.t37:=info_row Tryd.type37
theorem cel37:Tryd.prog.cellsOf 37=1:=by unfold Program.cellsOf;rw [inf37];rfl
theorem ag37:aggB Tryd.prog 37=false:=by unfold aggB;rw [Tryd.underlying37]
theorem inf38:Tryd.prog.info? 38=some Tryd.t38:=info_row Tryd.type38
theorem cel38:Tryd.prog.cellsOf 38=1:=by unfold Program.cellsOf;rw [inf38];rfl
theorem ag38:aggB Tryd.prog 38=false:=by unfold aggB;rw [Tryd.underlying38]
theorem inf42:Tryd.prog.info? 42=some Tryd.t42:=info_row Tryd.type42
theorem cel42:Tryd.prog.cellsOf 42=1:=by unfold Program.cellsOf;rw [inf42];rfl
theorem ag42:aggB Tryd.prog 42=false:=by unfold aggB;rw [Tryd.underlying42]
theorem inf45:Tryd.prog.info? 45=some Tryd.t45:=info_row Tryd.type45
theorem cel45:Tryd.prog.cellsOf 45=1:=by unfold Program.cellsOf;rw [inf45];rfl
theorem ag45:aggB Tryd.prog 45=false:=by unfold aggB;rw [Tryd.underlying45]
theorem inf52:Tryd.prog.info? 52=some Tryd.t52:=info_row Tryd.type52
theorem cel52:Tryd.prog.cellsOf 52=3:=by unfold Program.cellsOf;rw [inf52];rfl
theorem ag52:aggB Tryd.prog 52=true:=by unfold aggB;rw [Tryd.underlying52]
theorem inf57:Tryd.prog.info? 57=some Tryd.t57:=info_row Tryd.type57
theorem cel57:Tryd.prog.cellsOf 57=1:=by unfold Program.cellsOf;rw [inf57];rfl
theorem ag57:aggB Tryd.prog 57=false:=by unfold aggB;rw [Tryd.underlying57]
theorem inf63:Tryd.prog.info? 63=some Tryd.t63:=info_row Tryd.type63
theorem cel63:Tryd.prog.cellsOf 63=1:=by unfold Program.cellsOf;rw [inf63];rfl
theorem ag63:aggB Tryd.prog 63=false:=by unfold aggB;rw [Tryd.underlying63]
theorem inf67:Tryd.prog.info? 67=some Tryd.t67:=info_row Tryd.type67
theorem cel67:Tryd.prog.cellsOf 67=12:=by unfold Program.cellsOf;rw [inf67];rfl
theorem ag67:aggB Tryd.prog 67=true:=by unfold aggB;rw [Tryd.underlying67]
theorem inf79:Tryd.prog.info? 79=some Tryd.t79:=info_row Tryd.type79
theorem cel79:Tryd.prog.cellsOf 79=4:=by unfold Program.cellsOf;rw [inf79];rfl
theorem ag79:aggB Tryd.prog 79=true:=by unfold aggB;rw [Tryd.underlying79]
theorem inf84:Tryd.prog.info? 84=some Tryd.t84:=info_row Tryd.type84
theorem cel84:Tryd.prog.cellsOf 84=1:=by unfold Program.cellsOf;rw [inf84];rfl
theorem ag84:aggB Tryd.prog 84=false:=by unfold aggB;rw [Tryd.underlying84]
theorem inf87:Tryd.prog.info? 87=some Tryd.t87:=info_row Tryd.type87
theorem cel87:Tryd.prog.cellsOf 87=1:=by unfold Program.cellsOf;rw [inf87];rfl
theorem ag87:aggB Tryd.prog 87=false:=by unfold aggB;rw [Tryd.underlying87]
theorem inf90:Tryd.prog.info? 90=some Tryd.t90:=info_row Tryd.type90
theorem cel90:Tryd.prog.cellsOf 90=1:=by unfold Program.cellsOf;rw [inf90];rfl
theorem ag90:aggB Tryd.prog 90=false:=by unfold aggB;rw [Tryd.underlying90]
theorem inf102:Tryd.prog.info? 102=some Tryd.t102:=info_row Tryd.type102
theorem cel102:Tryd.prog.cellsOf 102=1:=by unfold Program.cellsOf;rw [inf102];rfl
theorem ag102:aggB Tryd.prog 102=false:=by unfold aggB;rw [Tryd.underlying102]
theorem inf103:Tryd.prog.info? 103=some Tryd.t103:=info_row Tryd.type103
theorem cel103:Tryd.prog.cellsOf 103=1:=by unfold Program.cellsOf;rw [inf103];rfl
theorem ag103:aggB Tryd.prog 103=false:=by unfold aggB;rw [Tryd.underlying103]
theorem inf105:Tryd.prog.info? 105=some Tryd.t105:=info_row Tryd.type105
theorem cel105:Tryd.prog.cellsOf 105=2:=by unfold Program.cellsOf;rw [inf105];rfl
theorem ag105:aggB Tryd.prog 105=true:=by unfold aggB;rw [Tryd.underlying105]
theorem inf120:Tryd.prog.info? 120=some Tryd.t120:=info_row Tryd.type120
theorem cel120:Tryd.prog.cellsOf 120=1:=by unfold Program.cellsOf;rw [inf120];rfl
theorem ag120:aggB Tryd.prog 120=false:=by unfold aggB;rw [Tryd.underlying120]
theorem inf121:Tryd.prog.info? 121=some Tryd.t121:=info_row Tryd.type121
theorem cel121:Tryd.prog.cellsOf 121=1:=by unfold Program.cellsOf;rw [inf121];rfl
theorem ag121:aggB Tryd.prog 121=false:=by unfold aggB;rw [Tryd.underlying121]
theorem inf126:Tryd.prog.info? 126=some Tryd.t126:=info_row Tryd.type126
theorem cel126:Tryd.prog.cellsOf 126=1:=by unfold Program.cellsOf;rw [inf126];rfl
theorem ag126:aggB Tryd.prog 126=false:=by unfold aggB;rw [Tryd.underlying126]
theorem inf134:Tryd.prog.info? 134=some Tryd.t134:=info_row Tryd.type134
theorem cel134:Tryd.prog.cellsOf 134=1:=by unfold Program.cellsOf;rw [inf134];rfl
theorem ag134:aggB Tryd.prog 134=false:=by unfold aggB;rw [Tryd.underlying134]
theorem inf136:Tryd.prog.info? 136=some Tryd.t136:=info_row Tryd.type136
theorem cel136:Tryd.prog.cellsOf 136=1:=by unfold Program.cellsOf;rw [inf136];rfl
theorem ag136:aggB Tryd.prog 136=false:=by unfold aggB;rw [Tryd.underlying136]
theorem eq31:EqFact Tryd.prog 31 2:=EqFact.ints Tryd.underlying31 (by kernel_rfl) (by kernel_rfl) (by intro f hf;simp at hf;rcases hf with rfl|rfl <;> exact ⟨by decide,by first|exact ⟨_,Tryd.underlying3⟩⟩) rfl rfl
theorem eq52:EqFact Tryd.prog 52 3:=EqFact.ints Tryd.underlying52 (by kernel_rfl) (by kernel_rfl) (by intro f hf;simp at hf;rcases hf with rfl|rfl|rfl <;> exact ⟨by decide,by first|exact ⟨_,Tryd.underlying3⟩⟩) rfl rfl
theorem eq67:EqFact Tryd.prog 67 12:=EqFact.arr Tryd.underlying67 Tryd.underlying3 inf3 cel3 (by kernel_rfl)
theorem eq79:EqFact Tryd.prog 79 4:=EqFact.ints Tryd.underlying79 (by kernel_rfl) (by kernel_rfl) (by intro f hf;simp at hf;rcases hf with rfl|rfl|rfl|rfl <;> exact ⟨by decide,by first|exact ⟨_,Tryd.underlying3⟩⟩) rfl rfl
theorem good2:Go.Av.Good Tryd.prog 2 (tt 2):=⟨⟨Tryd.t2,_,inf2,rfl,rfl,rfl,fun c=>by simp [tt,VRs,VR,Value.cells],rfl,rfl⟩,Tryd.underlying2,(fun h=>by cases h),(fun h=>by cases h)⟩
theorem good3:Go.Av.Good Tryd.prog 3 (tt 3):=⟨⟨Tryd.t3,_,inf3,rfl,rfl,rfl,fun c=>by simp [tt,VRs,VR,Value.cells],rfl,rfl⟩,Tryd.underlying3,(fun h=>by cases h),(fun h=>by cases h)⟩
theorem good4:Go.Av.Good Tryd.prog 4 (tt 4):=⟨⟨Tryd.t4,_,inf4,rfl,rfl,rfl,fun c=>by simp [tt,VRs,VR,Value.cells],rfl,rfl⟩,Tryd.underlying4,(fun h=>by cases h),(fun h=>by cases h)⟩
theorem good5:Go.Av.Good Tryd.prog 5 (tt 5):=⟨⟨Tryd.t5,_,inf5,rfl,rfl,rfl,fun c=>by simp [tt,VRs,VR,Value.cells],rfl,rfl⟩,Tryd.underlying5,(fun h=>by cases h),(fun h=>by cases h)⟩
theorem good9:Go.Av.Good Tryd.prog 9 (tt 9):=⟨⟨Tryd.t9,_,inf9,rfl,rfl,rfl,fun c=>by simp [tt,VRs,VR,Value.cells],rfl,rfl⟩,Tryd.underlying9,(fun h=>by cases h),(fun h=>by cases h)⟩
theorem good22:Go.Av.Good Tryd.prog 22 (tt 22):=⟨⟨Tryd.t22,_,inf22,rfl,rfl,rfl,fun c=>by simp [tt,VRs,VR,Value.cells],rfl,rfl⟩,⟨Tryd.underlying22,by rw [inf3];rfl⟩,(fun h=>by cases h),(fun h=>by cases h)⟩
theorem good23:Go.Av.Good Tryd.prog 23 (tt 23):=⟨⟨Tryd.t23,_,inf23,rfl,rfl,rfl,fun c=>by simp [tt,VRs,VR,Value.cells],rfl,rfl⟩,⟨Tryd.underlying23,by rw [inf29];rfl⟩,(fun h=>by cases h),(fun h=>by cases h)⟩
theorem good24:Go.Av.Good Tryd.prog 24 (tt 24):=⟨⟨Tryd.t24,_,inf24,rfl,rfl,rfl,fun c=>by simp [tt,VRs,VR,Value.cells],rfl,rfl⟩,⟨Tryd.underlying24,by rw [inf33];rfl⟩,(fun h=>by cases h),(fun h=>by cases h)⟩
theorem good26:Go.Av.Good Tryd.prog 26 (tt 26):=⟨⟨Tryd.t26,_,inf26,rfl,rfl,rfl,fun c=>by simp [tt,VRs,VR,Value.cells],rfl,rfl⟩,⟨_,Tryd.underlying26,by simp [cel3,ag3,cel22,ag22,cel23,ag23,cel24,ag24,tt],by simp [inf3,Tryd.underlying3,inf22,Tryd.underlying22,inf23,Tryd.underlying23,inf24,Tryd.underlying24]⟩,(fun h=>by cases h),(fun h=>by cases h)⟩
theorem good29:Go.Av.Good Tryd.prog 29 (tt 29):=⟨⟨Tryd.t29,_,inf29,rfl,rfl,rfl,fun c=>by simp [tt,VRs,VR,Value.cells],rfl,rfl⟩,⟨_,Tryd.underlying29,by simp [cel3,ag3,tt],by simp [inf3,Tryd.underlying3]⟩,(fun h=>by cases h),(fun h=>by cases h)⟩
theorem good31:Go.Av.Good Tryd.prog 31 (tt 31):=⟨⟨Tryd.t31,_,inf31,rfl,rfl,rfl,fun c=>by simp [tt,VRs,VR,Value.cells],rfl,rfl⟩,⟨_,Tryd.underlying31,by simp [cel3,ag3,tt],by simp [inf3,Tryd.underlying3]⟩,fun _=>eq31,(fun h=>by cases h)⟩
theorem good33:Go.Av.Good Tryd.prog 33 (tt 33):=⟨⟨Tryd.t33,_,inf33,rfl,rfl,rfl,fun c=>by simp [tt,VRs,VR,Value.cells],rfl,rfl⟩,⟨_,Tryd.underlying33,by simp [cel3,ag3,cel22,ag22,cel31,ag31,tt],by simp [inf3,Tryd.underlying3,inf22,Tryd.underlying22,inf31,Tryd.underlying31]⟩,(fun h=>by cases h),(fun h=>by cases h)⟩
theorem good35:Go.Av.Good Tryd.prog 35 (tt 35):=⟨⟨Tryd.t35,_,inf35,rfl,rfl,rfl,fun c=>by simp [tt,VRs,VR,Value.cells],rfl,rfl⟩,Tryd.underlying35,(fun h=>by cases h),(fun h=>by cases h)⟩
theorem good37:Go.Av.Good Tryd.prog 37 (tt 37):=⟨⟨Tryd.t37,_,inf37,rfl,rfl,rfl,fun c=>by simp [tt,VRs,VR,Value.cells],rfl,rfl⟩,⟨Tryd.underlying37,by rw [inf22];rfl⟩,(fun h=>by cases h),(fun h=>by cases h)⟩
theorem good38:Go.Av.Good Tryd.prog 38 (tt 38):=⟨⟨Tryd.t38,_,inf38,rfl,rfl,rfl,fun c=>by simp [tt,VRs,VR,Value.cells],rfl,rfl⟩,⟨Tryd.underlying38,by rw [inf4];rfl⟩,(fun h=>by cases h),(fun h=>by cases h)⟩
theorem good42:Go.Av.Good Tryd.prog 42 (tt 42):=⟨⟨Tryd.t42,_,inf42,rfl,rfl,rfl,fun c=>by simp [tt,VRs,VR,Value.cells],rfl,rfl⟩,⟨Tryd.underlying42,by rw [inf31];rfl⟩,(fun h=>by cases h),(fun h=>by cases h)⟩
theorem good45:Go.Av.Good Tryd.prog 45 (tt 45):=⟨⟨Tryd.t45,_,inf45,rfl,rfl,rfl,fun c=>by simp [tt,VRs,VR,Value.cells],rfl,rfl⟩,⟨Tryd.underlying45,by rw [inf52];rfl⟩,(fun h=>by cases h),(fun h=>by cases h)⟩
theorem good52:Go.Av.Good Tryd.prog 52 (tt 52):=⟨⟨Tryd.t52,_,inf52,rfl,rfl,rfl,fun c=>by simp [tt,VRs,VR,Value.cells],rfl,rfl⟩,⟨_,Tryd.underlying52,by simp [cel3,ag3,tt],by simp [inf3,Tryd.underlying3]⟩,fun _=>eq52,(fun h=>by cases h)⟩
theorem good57:Go.Av.Good Tryd.prog 57 (tt 57):=⟨⟨Tryd.t57,_,inf57,rfl,rfl,rfl,fun c=>by simp [tt,VRs,VR,Value.cells],rfl,rfl⟩,⟨Tryd.underlying57,by rw [inf79];rfl⟩,(fun h=>by cases h),(fun h=>by cases h)⟩
theorem good63:Go.Av.Good Tryd.prog 63 (tt 63):=⟨⟨Tryd.t63,_,inf63,rfl,rfl,rfl,fun c=>by simp [tt,VRs,VR,Value.cells],rfl,rfl⟩,⟨_,Tryd.underlying63,rfl⟩,(fun h=>by cases h),(fun h=>by cases h)⟩
theorem good67:Go.Av.Good Tryd.prog 67 (tt 67):=⟨⟨Tryd.t67,_,inf67,rfl,rfl,rfl,fun c=>by simp [tt,VRs,VR,Value.cells],rfl,rfl⟩,⟨Tryd.underlying67,by rw [inf3];rfl⟩,fun _=>eq67,(fun h=>by cases h)⟩
theorem good79:Go.Av.Good Tryd.prog 79 (tt 79):=⟨⟨Tryd.t79,_,inf79,rfl,rfl,rfl,fun c=>by simp [tt,VRs,VR,Value.cells],rfl,rfl⟩,⟨_,Tryd.underlying79,by simp [cel3,ag3,tt],by simp [inf3,Tryd.underlying3]⟩,fun _=>eq79,(fun h=>by cases h)⟩
theorem good84:Go.Av.Good Tryd.prog 84 (tt 84):=⟨⟨Tryd.t84,_,inf84,rfl,rfl,rfl,fun c=>by simp [tt,VRs,VR,Value.cells],rfl,rfl⟩,⟨_,Tryd.underlying84,rfl⟩,(fun h=>by cases h),(fun h=>by cases h)⟩
theorem good87:Go.Av.Good Tryd.prog 87 (tt 87):=⟨⟨Tryd.t87,_,inf87,rfl,rfl,rfl,fun c=>by simp [tt,VRs,VR,Value.cells],rfl,rfl⟩,⟨_,Tryd.underlying87,rfl⟩,(fun h=>by cases h),(fun h=>by cases h)⟩
theorem good90:Go.Av.Good Tryd.prog 90 (tt 90):=⟨⟨Tryd.t90,_,inf90,rfl,rfl,rfl,fun c=>by simp [tt,VRs,VR,Value.cells],rfl,rfl⟩,⟨_,Tryd.underlying90,rfl⟩,(fun h=>by cases h),(fun h=>by cases h)⟩
theorem good102:Go.Av.Good Tryd.prog 102 (tt 102):=⟨⟨Tryd.t102,_,inf102,rfl,rfl,rfl,fun c=>by simp [tt,VRs,VR,Value.cells],rfl,rfl⟩,⟨_,Tryd.underlying102⟩,(fun h=>by cases h),(fun h=>by cases h)⟩
theorem good103:Go.Av.Good Tryd.prog 103 (tt 103):=⟨⟨Tryd.t103,_,inf103,rfl,rfl,rfl,fun c=>by simp [tt,VRs,VR,Value.cells],rfl,rfl⟩,⟨Tryd.underlying103,by rw [inf5];rfl⟩,(fun h=>by cases h),(fun h=>by cases h)⟩
theorem good105:Go.Av.Good Tryd.prog 105 (tt 105):=⟨⟨Tryd.t105,_,inf105,rfl,rfl,rfl,fun c=>by simp [tt,VRs,VR,Value.cells],rfl,rfl⟩,⟨_,Tryd.underlying105,by simp [cel102,ag102,cel103,ag103,tt],by simp [inf102,Tryd.underlying102,inf103,Tryd.underlying103]⟩,(fun h=>by cases h),(fun h=>by cases h)⟩
theorem good120:Go.Av.Good Tryd.prog 120 (tt 120):=⟨⟨Tryd.t120,_,inf120,rfl,rfl,rfl,fun c=>by simp [tt,VRs,VR,Value.cells],rfl,rfl⟩,⟨_,Tryd.underlying120⟩,(fun h=>by cases h),(fun h=>by cases h)⟩
theorem good121:Go.Av.Good Tryd.prog 121 (tt 121):=⟨⟨Tryd.t121,_,inf121,rfl,rfl,rfl,fun c=>by simp [tt,VRs,VR,Value.cells],rfl,rfl⟩,⟨_,Tryd.underlying121,rfl⟩,(fun h=>by cases h),(fun h=>by cases h)⟩
theorem good126:Go.Av.Good Tryd.prog 126 (tt 126):=⟨⟨Tryd.t126,_,inf126,rfl,rfl,rfl,fun c=>by simp [tt,VRs,VR,Value.cells],rfl,rfl⟩,Tryd.underlying126,(fun h=>by cases h),(fun h=>by cases h)⟩
theorem good134:Go.Av.Good Tryd.prog 134 (tt 134):=⟨⟨Tryd.t134,_,inf134,rfl,rfl,rfl,fun c=>by simp [tt,VRs,VR,Value.cells],rfl,rfl⟩,Tryd.underlying134,(fun h=>by cases h),(fun h=>by cases h)⟩
theorem good136:Go.Av.Good Tryd.prog 136 (tt 136):=⟨⟨Tryd.t136,_,inf136,rfl,rfl,rfl,fun c=>by simp [tt,VRs,VR,Value.cells],rfl,rfl⟩,Tryd.underlying136,(fun h=>by cases h),(fun h=>by cases h)⟩
theorem tab:Tab Tryd.prog tt where
 all:=fun t h=>by
  unfold tt at h ⊢
  split at h
  ·exact good2
  ·exact good3
  ·exact good4
  ·exact good5
  ·exact good9
  ·exact good22
  ·exact good23
  ·exact good24
  ·exact good26
  ·exact good29
  ·exact good31
  ·exact good33
  ·exact good35
  ·exact good37
  ·exact good38
  ·exact good42
  ·exact good45
  ·exact good52
  ·exact good57
  ·exact good63
  ·exact good67
  ·exact good79
  ·exact good84
  ·exact good87
  ·exact good90
  ·exact good102
  ·exact good103
  ·exact good105
  ·exact good120
  ·exact good121
  ·exact good126
  ·exact good134
  ·exact good136
  ·cases h
 elem:=fun t e h=>by
  unfold tt at h
  split at h <;> first|(cases h;done)|(cases h;rfl)
@[go_sem] theorem tt_3:(∀ (k:IntKind) (n:Int),aconv (tt 2) (tt 126) (.int k n)=some (.int .u64 (wr .u64 n))):=by intros;rfl
@[go_sem] theorem tt_5:(∀ (s:AS) (p:AV),aload (tt 3) s p=(s.row p).bind fun r=>apart false 1 r.2 r.1):=by intro s p;unfold aload;cases s.row p <;> rfl
@[go_sem] theorem tt_6:(∀ ev:Operand→AV,arows tt ev (.alloc 3)=some (1,[[.int .i64 0]],3)):=by intros;rfl
@[go_sem] theorem tt_7:(∀ (ev:Operand→AV) (x:Operand),arows tt ev (.box 3 x)=if noL (ev x)=true∧(ev x).cells.length=1∧(ev x).cells.all AV.cell=true then some (1,[(ev x).cells],3) else none):=by intro ev x;simp [arows,tt,TI.knows]
@[go_sem] theorem tt_8:(∀ (k:IntKind) (n:Int),aconv (tt 3) (tt 126) (.int k n)=some (.int .u64 (wr .u64 n))):=by intros;rfl
@[go_sem] theorem tt_9:(∀ (k:IntKind) (n:Int),aconv (tt 3) (tt 136) (.int k n)=some (.int .u64 (wr .u64 n))):=by intros;rfl
@[go_sem] theorem tt_10:(∀ (s:AS) (p v:AV),aput (tt 3) s p v=aputz 1 s p v):=fun s p v=>aput_z rfl rfl s p v
@[go_sem] theorem tt_11:(∀ (s:AS) (p:AV),aload (tt 4) s p=(s.row p).bind fun r=>apart false 1 r.2 r.1):=by intro s p;unfold aload;cases s.row p <;> rfl
@[go_sem] theorem tt_12:(∀ ev:Operand→AV,arows tt ev (.alloc 4)=some (1,[[.bool false]],4)):=by intros;rfl
@[go_sem] theorem tt_15:(∀ c a b:Bool,abin (tt 4) .neq c (.bool a) (.bool b)=some (.bool (!(a == b)))):=by intros;rfl
@[go_sem] theorem tt_16:(∀ (s:AS) (p v:AV),aput (tt 4) s p v=aputz 1 s p v):=fun s p v=>aput_z rfl rfl s p v
@[go_sem] theorem tt_17:(∀ (s:AS) (p:AV),aload (tt 5) s p=(s.row p).bind fun r=>apart false 1 r.2 r.1):=by intro s p;unfold aload;cases s.row p <;> rfl
@[go_sem] theorem tt_20:(∀ (k:IntKind) (n:Int),aconv (tt 5) (tt 3) (.int k n)=some (.int .i64 (wr .i64 n))):=by intros;rfl
@[go_sem] theorem tt_21:(∀ (s:AS) (p v:AV),aput (tt 5) s p v=aputz 1 s p v):=fun s p v=>aput_z rfl rfl s p v
@[go_sem] theorem tt_25:(∀ (ez:Nat) (l:List UInt8) (lo hi:Option AV),asl (tt 9) ez lo hi (.str l)=aslz l.length lo hi fun a b=>some (.str ((l.drop a).take (b - a)))):=fun ez l lo hi=>asl_str rfl ez lo hi l
@[go_sem] theorem tt_26:(∀ (l:List UInt8),alen (tt 9) (.str l)=some (l.length:Int)):=by intros;rfl
@[go_sem] theorem tt_28:(∀ (s:AS) (p:AV),aload (tt 22) s p=(s.row p).bind fun r=>apart false 1 r.2 r.1):=by intro s p;unfold aload;cases s.row p <;> rfl
@[go_sem] theorem tt_29:(∀ ev:Operand→AV,arows tt ev (.alloc 22)=some (1,[[.nils]],22)):=by intros;rfl
@[go_sem] theorem tt_30:(∀ (ev:Operand→AV) (x:Operand),arows tt ev (.box 22 x)=if noL (ev x)=true∧(ev x).cells.length=1∧(ev x).cells.all AV.cell=true then some (1,[(ev x).cells],22) else none):=by intro ev x;simp [arows,tt,TI.knows]
@[go_sem] theorem tt_31:(∀ (es:List (List AV)) (k:IntKind) (i:Int),aidx tt 22 (.lst 1 es) (.int k i)=if 0≤i∧i < es.length then some (.iptr (es.getD i.toNat []) 0) else none):=by intros;rfl
@[go_sem] theorem tt_32:(∀ (b:Bid) (o n:Nat) (k:IntKind) (i:Int),aidx tt 22 (.slc b 1 o n) (.int k i)=if 0≤i∧i < n then some (.ptr b (o+i.toNat) 0) else none):=by intros;rfl
@[go_sem] theorem tt_33:(∀ (b:Bid) (e o n:Nat),alen (tt 22) (.slc b e o n)=some (n:Int)):=by intros;rfl
@[go_sem] theorem tt_34:(∀ (e:Nat) (es:List (List AV)),alen (tt 22) (.lst e es)=some (es.length:Int)):=by intros;rfl
@[go_sem] theorem tt_35:(alen (tt 22) .nils=some 0):=by intros;rfl
@[go_sem] theorem tt_42:(elsize tt 22=1):=by intros;rfl
@[go_sem] theorem tt_43:(∀ (ev:Operand→AV) (n:Nat) (ps:List (Nat × Operand)),absl tt ev 22 n ps=if n≤16777216∧n * 1≤16777216∧ps.map (·.1)=List.range n∧(ps.all fun p=>noL (ev p.2) && ((ev p.2).cells.length == 1) && (ev p.2).cells.all AV.cell)=true then some (1,ps.map fun p=>(ev p.2).cells) else none):=by intros;rfl
@[go_sem] theorem tt_46:(∀ (ez b1 o n:Nat) (b:Bid) (lo hi:Option AV),asl (tt 22) ez lo hi (.slc b b1 o n)=aslz n lo hi fun l h=>if b1=ez then some (.slc b b1 (o+l) (h - l)) else none):=fun ez b1 o n b lo hi=>asl_slc rfl ez lo hi b b1 o n
@[go_sem] theorem tt_47:(∀ (ez e:Nat) (es:List (List AV)) (lo hi:Option AV),asl (tt 22) ez lo hi (.lst e es)=aslz es.length lo hi fun l h=>if e=ez then some (.lst e ((es.drop l).take (h - l))) else none):=fun ez e es lo hi=>asl_lst rfl ez lo hi e es
@[go_sem] theorem tt_48:(∀ (h:AH) (id:Bid) (x y:AV),aapp tt h 22 id x y=aappz 1 8 h id x y):=fun h id x y=>by unfold aapp aappz;rfl
@[go_sem] theorem tt_49:(∀ (s:AS) (p v:AV),aput (tt 22) s p v=aputz 1 s p v):=fun s p v=>aput_z rfl rfl s p v
@[go_sem] theorem tt_50:(∀ (s:AS) (p:AV),aload (tt 23) s p=(s.row p).bind fun r=>apart false 1 r.2 r.1):=by intro s p;unfold aload;cases s.row p <;> rfl
@[go_sem] theorem tt_53:(∀ (es:List (List AV)) (k:IntKind) (i:Int),aidx tt 23 (.lst 2 es) (.int k i)=if 0≤i∧i < es.length then some (.iptr (es.getD i.toNat []) 0) else none):=by intros;rfl
@[go_sem] theorem tt_54:(∀ (b:Bid) (o n:Nat) (k:IntKind) (i:Int),aidx tt 23 (.slc b 2 o n) (.int k i)=if 0≤i∧i < n then some (.ptr b (o+i.toNat) 0) else none):=by intros;rfl
@[go_sem] theorem tt_55:(∀ (b:Bid) (e o n:Nat),alen (tt 23) (.slc b e o n)=some (n:Int)):=by intros;rfl
@[go_sem] theorem tt_56:(∀ (e:Nat) (es:List (List AV)),alen (tt 23) (.lst e es)=some (es.length:Int)):=by intros;rfl
@[go_sem] theorem tt_57:(alen (tt 23) .nils=some 0):=by intros;rfl
@[go_sem] theorem tt_64:(elsize tt 23=2):=by intros;rfl
@[go_sem] theorem tt_65:(∀ (ev:Operand→AV) (n:Nat) (ps:List (Nat × Operand)),absl tt ev 23 n ps=if n≤16777216∧n * 2≤16777216∧ps.map (·.1)=List.range n∧(ps.all fun p=>noL (ev p.2) && ((ev p.2).cells.length == 2) && (ev p.2).cells.all AV.cell)=true then some (2,ps.map fun p=>(ev p.2).cells) else none):=by intros;rfl
@[go_sem] theorem tt_72:(∀ (s:AS) (p:AV),aload (tt 24) s p=(s.row p).bind fun r=>apart false 1 r.2 r.1):=by intro s p;unfold aload;cases s.row p <;> rfl
@[go_sem] theorem tt_75:(∀ (es:List (List AV)) (k:IntKind) (i:Int),aidx tt 24 (.lst 7 es) (.int k i)=if 0≤i∧i < es.length then some (.iptr (es.getD i.toNat []) 0) else none):=by intros;rfl
@[go_sem] theorem tt_76:(∀ (b:Bid) (o n:Nat) (k:IntKind) (i:Int),aidx tt 24 (.slc b 7 o n) (.int k i)=if 0≤i∧i < n then some (.ptr b (o+i.toNat) 0) else none):=by intros;rfl
@[go_sem] theorem tt_77:(∀ (b:Bid) (e o n:Nat),alen (tt 24) (.slc b e o n)=some (n:Int)):=by intros;rfl
@[go_sem] theorem tt_78:(∀ (e:Nat) (es:List (List AV)),alen (tt 24) (.lst e es)=some (es.length:Int)):=by intros;rfl
@[go_sem] theorem tt_79:(alen (tt 24) .nils=some 0):=by intros;rfl
@[go_sem] theorem tt_86:(elsize tt 24=7):=by intros;rfl
@[go_sem] theorem tt_87:(∀ (ev:Operand→AV) (n:Nat) (ps:List (Nat × Operand)),absl tt ev 24 n ps=if n≤16777216∧n * 7≤16777216∧ps.map (·.1)=List.range n∧(ps.all fun p=>noL (ev p.2) && ((ev p.2).cells.length == 7) && (ev p.2).cells.all AV.cell)=true then some (7,ps.map fun p=>(ev p.2).cells) else none):=by intros;rfl
@[go_sem] theorem tt_94:(∀ (s:AS) (p:AV),aload (tt 26) s p=(s.row p).bind fun r=>apart true 4 r.2 r.1):=by intro s p;unfold aload;cases s.row p <;> rfl
@[go_sem] theorem tt_95:(∀ ev:Operand→AV,arows tt ev (.alloc 26)=some (4,[[.nils,.nils,.nils,.int .i64 0]],26)):=by intros;rfl
@[go_sem] theorem tt_96:(∀ (ev:Operand→AV) (x:Operand),arows tt ev (.box 26 x)=if noL (ev x)=true∧(ev x).cells.length=4∧(ev x).cells.all AV.cell=true then some (4,[(ev x).cells],26) else none):=by intro ev x;simp [arows,tt,TI.knows]
@[go_sem] theorem tt_97:(∀ v:AV,afieldAddr (tt 26) 0 v=amove 0 v):=by intros;rfl
@[go_sem] theorem tt_99:(∀ v:AV,afieldAddr (tt 26) 1 v=amove 1 v):=by intros;rfl
@[go_sem] theorem tt_101:(∀ v:AV,afieldAddr (tt 26) 2 v=amove 2 v):=by intros;rfl
@[go_sem] theorem tt_103:(∀ v:AV,afieldAddr (tt 26) 3 v=amove 3 v):=by intros;rfl
@[go_sem] theorem tt_105:(∀ ps:List (Nat × AV),abuild tt 26 ps=(afill (fun i=>([(0,1),(1,1),(2,1),(3,1)]:List (Nat × Nat))[i]?) [.nils,.nils,.nils,.int .i64 0] ps).map .agg):=fun ps=>by show Option.map _ (afill _ _ _)=_;congr 2;funext i;rw [← List.getElem?_map];rfl
@[go_sem] theorem tt_106:(∀ (s:AS) (p v:AV),aput (tt 26) s p v=aputz 4 s p v):=fun s p v=>aput_z rfl rfl s p v
@[go_sem] theorem tt_107:(∀ (s:AS) (p:AV),aload (tt 29) s p=(s.row p).bind fun r=>apart true 2 r.2 r.1):=by intro s p;unfold aload;cases s.row p <;> rfl
@[go_sem] theorem tt_108:(∀ ev:Operand→AV,arows tt ev (.alloc 29)=some (2,[[.int .i64 0,.int .i64 0]],29)):=by intros;rfl
@[go_sem] theorem tt_109:(∀ (ev:Operand→AV) (x:Operand),arows tt ev (.box 29 x)=if noL (ev x)=true∧(ev x).cells.length=2∧(ev x).cells.all AV.cell=true then some (2,[(ev x).cells],29) else none):=by intro ev x;simp [arows,tt,TI.knows]
@[go_sem] theorem tt_110:(∀ v:AV,afieldAddr (tt 29) 0 v=amove 0 v):=by intros;rfl
@[go_sem] theorem tt_112:(∀ v:AV,afieldAddr (tt 29) 1 v=amove 1 v):=by intros;rfl
@[go_sem] theorem tt_114:(∀ ps:List (Nat × AV),abuild tt 29 ps=(afill (fun i=>([(0,1),(1,1)]:List (Nat × Nat))[i]?) [.int .i64 0,.int .i64 0] ps).map .agg):=fun ps=>by show Option.map _ (afill _ _ _)=_;congr 2;funext i;rw [← List.getElem?_map];rfl
@[go_sem] theorem tt_115:(∀ (s:AS) (p v:AV),aput (tt 29) s p v=aputz 2 s p v):=fun s p v=>aput_z rfl rfl s p v
@[go_sem] theorem tt_116:(∀ (s:AS) (p:AV),aload (tt 31) s p=(s.row p).bind fun r=>apart true 2 r.2 r.1):=by intro s p;unfold aload;cases s.row p <;> rfl
@[go_sem] theorem tt_117:(∀ ev:Operand→AV,arows tt ev (.alloc 31)=some (2,[[.int .i64 0,.int .i64 0]],31)):=by intros;rfl
@[go_sem] theorem tt_118:(∀ (ev:Operand→AV) (x:Operand),arows tt ev (.box 31 x)=if noL (ev x)=true∧(ev x).cells.length=2∧(ev x).cells.all AV.cell=true then some (2,[(ev x).cells],31) else none):=by intro ev x;simp [arows,tt,TI.knows]
@[go_sem] theorem tt_119:(∀ v:AV,afieldAddr (tt 31) 0 v=amove 0 v):=by intros;rfl
@[go_sem] theorem tt_120:(∀ cs:List AV,afield (tt 31) 0 (.agg cs)=apart false 1 0 cs):=by intros;rfl
@[go_sem] theorem tt_121:(∀ v:AV,afieldAddr (tt 31) 1 v=amove 1 v):=by intros;rfl
@[go_sem] theorem tt_122:(∀ cs:List AV,afield (tt 31) 1 (.agg cs)=apart false 1 1 cs):=by intros;rfl
@[go_sem] theorem tt_123:(∀ ps:List (Nat × AV),abuild tt 31 ps=(afill (fun i=>([(0,1),(1,1)]:List (Nat × Nat))[i]?) [.int .i64 0,.int .i64 0] ps).map .agg):=fun ps=>by show Option.map _ (afill _ _ _)=_;congr 2;funext i;rw [← List.getElem?_map];rfl
@[go_sem] theorem tt_125:(∀ (c:Bool) (x y:List AV),abin (tt 31) .neq c (.agg x) (.agg y)=aeql 2 (fun b=>!b) (ints x) (ints y)):=fun c x y=>by cases hx:ints x <;> cases hy:ints y <;> simp [tt,abin,abinB,aeql,hx,hy]
@[go_sem] theorem tt_126:(∀ (s:AS) (p v:AV),aput (tt 31) s p v=aputz 2 s p v):=fun s p v=>aput_z rfl rfl s p v
@[go_sem] theorem tt_127:(∀ (s:AS) (p:AV),aload (tt 33) s p=(s.row p).bind fun r=>apart true 7 r.2 r.1):=by intro s p;unfold aload;cases s.row p <;> rfl
@[go_sem] theorem tt_128:(∀ ev:Operand→AV,arows tt ev (.alloc 33)=some (7,[[.int .i64 0,.int .i64 0,.int .i64 0,.int .i64 0,.int .i64 0,.int .i64 0,.nils]],33)):=by intros;rfl
@[go_sem] theorem tt_129:(∀ (ev:Operand→AV) (x:Operand),arows tt ev (.box 33 x)=if noL (ev x)=true∧(ev x).cells.length=7∧(ev x).cells.all AV.cell=true then some (7,[(ev x).cells],33) else none):=by intro ev x;simp [arows,tt,TI.knows]
@[go_sem] theorem tt_130:(∀ v:AV,afieldAddr (tt 33) 0 v=amove 0 v):=by intros;rfl
@[go_sem] theorem tt_132:(∀ v:AV,afieldAddr (tt 33) 1 v=amove 2 v):=by intros;rfl
@[go_sem] theorem tt_134:(∀ v:AV,afieldAddr (tt 33) 2 v=amove 4 v):=by intros;rfl
@[go_sem] theorem tt_136:(∀ v:AV,afieldAddr (tt 33) 3 v=amove 5 v):=by intros;rfl
@[go_sem] theorem tt_138:(∀ v:AV,afieldAddr (tt 33) 4 v=amove 6 v):=by intros;rfl
@[go_sem] theorem tt_140:(∀ ps:List (Nat × AV),abuild tt 33 ps=(afill (fun i=>([(0,2),(2,2),(4,1),(5,1),(6,1)]:List (Nat × Nat))[i]?) [.int .i64 0,.int .i64 0,.int .i64 0,.int .i64 0,.int .i64 0,.int .i64 0,.nils] ps).map .agg):=fun ps=>by show Option.map _ (afill _ _ _)=_;congr 2;funext i;rw [← List.getElem?_map];rfl
@[go_sem] theorem tt_141:(∀ (s:AS) (p v:AV),aput (tt 33) s p v=aputz 7 s p v):=fun s p v=>aput_z rfl rfl s p v
@[go_sem] theorem tt_149:(∀ (es:List (List AV)) (k:IntKind) (i:Int),aidx tt 37 (.lst 1 es) (.int k i)=if 0≤i∧i < es.length then some (.iptr (es.getD i.toNat []) 0) else none):=by intros;rfl
@[go_sem] theorem tt_150:(∀ (b:Bid) (o n:Nat) (k:IntKind) (i:Int),aidx tt 37 (.slc b 1 o n) (.int k i)=if 0≤i∧i < n then some (.ptr b (o+i.toNat) 0) else none):=by intros;rfl
@[go_sem] theorem tt_151:(∀ (b:Bid) (e o n:Nat),alen (tt 37) (.slc b e o n)=some (n:Int)):=by intros;rfl
@[go_sem] theorem tt_152:(∀ (e:Nat) (es:List (List AV)),alen (tt 37) (.lst e es)=some (es.length:Int)):=by intros;rfl
@[go_sem] theorem tt_153:(alen (tt 37) .nils=some 0):=by intros;rfl
@[go_sem] theorem tt_160:(elsize tt 37=1):=by intros;rfl
@[go_sem] theorem tt_161:(∀ (ev:Operand→AV) (n:Nat) (ps:List (Nat × Operand)),absl tt ev 37 n ps=if n≤16777216∧n * 1≤16777216∧ps.map (·.1)=List.range n∧(ps.all fun p=>noL (ev p.2) && ((ev p.2).cells.length == 1) && (ev p.2).cells.all AV.cell)=true then some (1,ps.map fun p=>(ev p.2).cells) else none):=by intros;rfl
@[go_sem] theorem tt_171:(∀ (es:List (List AV)) (k:IntKind) (i:Int),aidx tt 38 (.lst 1 es) (.int k i)=if 0≤i∧i < es.length then some (.iptr (es.getD i.toNat []) 0) else none):=by intros;rfl
@[go_sem] theorem tt_172:(∀ (b:Bid) (o n:Nat) (k:IntKind) (i:Int),aidx tt 38 (.slc b 1 o n) (.int k i)=if 0≤i∧i < n then some (.ptr b (o+i.toNat) 0) else none):=by intros;rfl
@[go_sem] theorem tt_182:(elsize tt 38=1):=by intros;rfl
@[go_sem] theorem tt_183:(∀ (ev:Operand→AV) (n:Nat) (ps:List (Nat × Operand)),absl tt ev 38 n ps=if n≤16777216∧n * 1≤16777216∧ps.map (·.1)=List.range n∧(ps.all fun p=>noL (ev p.2) && ((ev p.2).cells.length == 1) && (ev p.2).cells.all AV.cell)=true then some (1,ps.map fun p=>(ev p.2).cells) else none):=by intros;rfl
@[go_sem] theorem tt_193:(∀ (es:List (List AV)) (k:IntKind) (i:Int),aidx tt 42 (.lst 2 es) (.int k i)=if 0≤i∧i < es.length then some (.iptr (es.getD i.toNat []) 0) else none):=by intros;rfl
@[go_sem] theorem tt_194:(∀ (b:Bid) (o n:Nat) (k:IntKind) (i:Int),aidx tt 42 (.slc b 2 o n) (.int k i)=if 0≤i∧i < n then some (.ptr b (o+i.toNat) 0) else none):=by intros;rfl
@[go_sem] theorem tt_195:(∀ (b:Bid) (e o n:Nat),alen (tt 42) (.slc b e o n)=some (n:Int)):=by intros;rfl
@[go_sem] theorem tt_196:(∀ (e:Nat) (es:List (List AV)),alen (tt 42) (.lst e es)=some (es.length:Int)):=by intros;rfl
@[go_sem] theorem tt_197:(alen (tt 42) .nils=some 0):=by intros;rfl
@[go_sem] theorem tt_204:(elsize tt 42=2):=by intros;rfl
@[go_sem] theorem tt_205:(∀ (ev:Operand→AV) (n:Nat) (ps:List (Nat × Operand)),absl tt ev 42 n ps=if n≤16777216∧n * 2≤16777216∧ps.map (·.1)=List.range n∧(ps.all fun p=>noL (ev p.2) && ((ev p.2).cells.length == 2) && (ev p.2).cells.all AV.cell)=true then some (2,ps.map fun p=>(ev p.2).cells) else none):=by intros;rfl
@[go_sem] theorem tt_210:(∀ (h:AH) (id:Bid) (x y:AV),aapp tt h 42 id x y=aappz 2 16 h id x y):=fun h id x y=>by unfold aapp aappz;rfl
@[go_sem] theorem tt_212:(∀ (s:AS) (p:AV),aload (tt 45) s p=(s.row p).bind fun r=>apart false 1 r.2 r.1):=by intro s p;unfold aload;cases s.row p <;> rfl
@[go_sem] theorem tt_213:(∀ ev:Operand→AV,arows tt ev (.alloc 45)=some (1,[[.nils]],45)):=by intros;rfl
@[go_sem] theorem tt_215:(∀ (es:List (List AV)) (k:IntKind) (i:Int),aidx tt 45 (.lst 3 es) (.int k i)=if 0≤i∧i < es.length then some (.iptr (es.getD i.toNat []) 0) else none):=by intros;rfl
@[go_sem] theorem tt_216:(∀ (b:Bid) (o n:Nat) (k:IntKind) (i:Int),aidx tt 45 (.slc b 3 o n) (.int k i)=if 0≤i∧i < n then some (.ptr b (o+i.toNat) 0) else none):=by intros;rfl
@[go_sem] theorem tt_217:(∀ (b:Bid) (e o n:Nat),alen (tt 45) (.slc b e o n)=some (n:Int)):=by intros;rfl
@[go_sem] theorem tt_218:(∀ (e:Nat) (es:List (List AV)),alen (tt 45) (.lst e es)=some (es.length:Int)):=by intros;rfl
@[go_sem] theorem tt_219:(alen (tt 45) .nils=some 0):=by intros;rfl
@[go_sem] theorem tt_226:(elsize tt 45=3):=by intros;rfl
@[go_sem] theorem tt_227:(∀ (ev:Operand→AV) (n:Nat) (ps:List (Nat × Operand)),absl tt ev 45 n ps=if n≤16777216∧n * 3≤16777216∧ps.map (·.1)=List.range n∧(ps.all fun p=>noL (ev p.2) && ((ev p.2).cells.length == 3) && (ev p.2).cells.all AV.cell)=true then some (3,ps.map fun p=>(ev p.2).cells) else none):=by intros;rfl
@[go_sem] theorem tt_232:(∀ (h:AH) (id:Bid) (x y:AV),aapp tt h 45 id x y=aappz 3 24 h id x y):=fun h id x y=>by unfold aapp aappz;rfl
@[go_sem] theorem tt_233:(∀ (s:AS) (p v:AV),aput (tt 45) s p v=aputz 1 s p v):=fun s p v=>aput_z rfl rfl s p v
@[go_sem] theorem tt_234:(∀ (s:AS) (p:AV),aload (tt 52) s p=(s.row p).bind fun r=>apart true 3 r.2 r.1):=by intro s p;unfold aload;cases s.row p <;> rfl
@[go_sem] theorem tt_235:(∀ ev:Operand→AV,arows tt ev (.alloc 52)=some (3,[[.int .i64 0,.int .i64 0,.int .i64 0]],52)):=by intros;rfl
@[go_sem] theorem tt_237:(∀ v:AV,afieldAddr (tt 52) 0 v=amove 0 v):=by intros;rfl
@[go_sem] theorem tt_239:(∀ v:AV,afieldAddr (tt 52) 1 v=amove 1 v):=by intros;rfl
@[go_sem] theorem tt_243:(∀ ps:List (Nat × AV),abuild tt 52 ps=(afill (fun i=>([(0,1),(1,1),(2,1)]:List (Nat × Nat))[i]?) [.int .i64 0,.int .i64 0,.int .i64 0] ps).map .agg):=fun ps=>by show Option.map _ (afill _ _ _)=_;congr 2;funext i;rw [← List.getElem?_map];rfl
@[go_sem] theorem tt_244:(∀ (c:Bool) (x y:List AV),abin (tt 52) .eql c (.agg x) (.agg y)=aeql 3 (fun b=>b) (ints x) (ints y)):=fun c x y=>by cases hx:ints x <;> cases hy:ints y <;> simp [tt,abin,abinB,aeql,hx,hy]
@[go_sem] theorem tt_246:(∀ (s:AS) (p v:AV),aput (tt 52) s p v=aputz 3 s p v):=fun s p v=>aput_z rfl rfl s p v
@[go_sem] theorem tt_247:(∀ (s:AS) (p:AV),aload (tt 57) s p=(s.row p).bind fun r=>apart false 1 r.2 r.1):=by intro s p;unfold aload;cases s.row p <;> rfl
@[go_sem] theorem tt_248:(∀ ev:Operand→AV,arows tt ev (.alloc 57)=some (1,[[.nils]],57)):=by intros;rfl
@[go_sem] theorem tt_249:(∀ (ev:Operand→AV) (x:Operand),arows tt ev (.box 57 x)=if noL (ev x)=true∧(ev x).cells.length=1∧(ev x).cells.all AV.cell=true then some (1,[(ev x).cells],57) else none):=by intro ev x;simp [arows,tt,TI.knows]
@[go_sem] theorem tt_250:(∀ (es:List (List AV)) (k:IntKind) (i:Int),aidx tt 57 (.lst 4 es) (.int k i)=if 0≤i∧i < es.length then some (.iptr (es.getD i.toNat []) 0) else none):=by intros;rfl
@[go_sem] theorem tt_251:(∀ (b:Bid) (o n:Nat) (k:IntKind) (i:Int),aidx tt 57 (.slc b 4 o n) (.int k i)=if 0≤i∧i < n then some (.ptr b (o+i.toNat) 0) else none):=by intros;rfl
@[go_sem] theorem tt_252:(∀ (b:Bid) (e o n:Nat),alen (tt 57) (.slc b e o n)=some (n:Int)):=by intros;rfl
@[go_sem] theorem tt_253:(∀ (e:Nat) (es:List (List AV)),alen (tt 57) (.lst e es)=some (es.length:Int)):=by intros;rfl
@[go_sem] theorem tt_254:(alen (tt 57) .nils=some 0):=by intros;rfl
@[go_sem] theorem tt_261:(elsize tt 57=4):=by intros;rfl
@[go_sem] theorem tt_262:(∀ (ev:Operand→AV) (n:Nat) (ps:List (Nat × Operand)),absl tt ev 57 n ps=if n≤16777216∧n * 4≤16777216∧ps.map (·.1)=List.range n∧(ps.all fun p=>noL (ev p.2) && ((ev p.2).cells.length == 4) && (ev p.2).cells.all AV.cell)=true then some (4,ps.map fun p=>(ev p.2).cells) else none):=by intros;rfl
@[go_sem] theorem tt_265:(∀ (ez b1 o n:Nat) (b:Bid) (lo hi:Option AV),asl (tt 57) ez lo hi (.slc b b1 o n)=aslz n lo hi fun l h=>if b1=ez then some (.slc b b1 (o+l) (h - l)) else none):=fun ez b1 o n b lo hi=>asl_slc rfl ez lo hi b b1 o n
@[go_sem] theorem tt_266:(∀ (ez e:Nat) (es:List (List AV)) (lo hi:Option AV),asl (tt 57) ez lo hi (.lst e es)=aslz es.length lo hi fun l h=>if e=ez then some (.lst e ((es.drop l).take (h - l))) else none):=fun ez e es lo hi=>asl_lst rfl ez lo hi e es
@[go_sem] theorem tt_267:(∀ (h:AH) (id:Bid) (x y:AV),aapp tt h 57 id x y=aappz 4 32 h id x y):=fun h id x y=>by unfold aapp aappz;rfl
@[go_sem] theorem tt_268:(∀ (s:AS) (p v:AV),aput (tt 57) s p v=aputz 1 s p v):=fun s p v=>aput_z rfl rfl s p v
@[go_sem] theorem tt_269:(∀ (s:AS) (p:AV),aload (tt 63) s p=(s.row p).bind fun r=>apart false 1 r.2 r.1):=by intro s p;unfold aload;cases s.row p <;> rfl
@[go_sem] theorem tt_270:(∀ ev:Operand→AV,arows tt ev (.alloc 63)=some (1,[[.nilm]],63)):=by intros;rfl
@[go_sem] theorem tt_272:(∀ (s:AS) (p v:AV),aput (tt 63) s p v=aputz 1 s p v):=fun s p v=>aput_z rfl rfl s p v
@[go_sem] theorem tt_273:(∀ (s:AS) (p:AV),aload (tt 67) s p=(s.row p).bind fun r=>apart true 12 r.2 r.1):=by intro s p;unfold aload;cases s.row p <;> rfl
@[go_sem] theorem tt_274:(∀ ev:Operand→AV,arows tt ev (.alloc 67)=some (12,[[.int .i64 0,.int .i64 0,.int .i64 0,.int .i64 0,.int .i64 0,.int .i64 0,.int .i64 0,.int .i64 0,.int .i64 0,.int .i64 0,.int .i64 0,.int .i64 0]],67)):=by intros;rfl
@[go_sem] theorem tt_275:(∀ (ev:Operand→AV) (x:Operand),arows tt ev (.box 67 x)=if noL (ev x)=true∧(ev x).cells.length=12∧(ev x).cells.all AV.cell=true then some (12,[(ev x).cells],67) else none):=by intro ev x;simp [arows,tt,TI.knows]
@[go_sem] theorem tt_276:(∀ (v:AV) (k:IntKind) (i:Int),aidx tt 67 v (.int k i)=if 0≤i∧i < 12 then amove (i.toNat * 1) v else none):=by intros;rfl
@[go_sem] theorem tt_277:(∀ (cs:List AV) (k:IntKind) (i:Int),aindex tt 67 (.agg cs) (.int k i)=if 0≤i∧i < 12 then apart false 1 (i.toNat * 1) cs else none):=by intros;rfl
@[go_sem] theorem tt_278:(∀ ps:List (Nat × AV),abuild tt 67 ps=(afill (fun i=>some (i * 1,1)) [.int .i64 0,.int .i64 0,.int .i64 0,.int .i64 0,.int .i64 0,.int .i64 0,.int .i64 0,.int .i64 0,.int .i64 0,.int .i64 0,.int .i64 0,.int .i64 0] ps).map .agg):=by intros;rfl
@[go_sem] theorem tt_280:(∀ (c:Bool) (x y:List AV),abin (tt 67) .neq c (.agg x) (.agg y)=aeql 12 (fun b=>!b) (ints x) (ints y)):=fun c x y=>by cases hx:ints x <;> cases hy:ints y <;> simp [tt,abin,abinB,aeql,hx,hy]
@[go_sem] theorem tt_281:(elsize tt 67=1):=by intros;rfl
@[go_sem] theorem tt_282:(∀ (b:Bid) (m j:Nat),asl (tt 67) 1 none none (.aptr b m j)=if j+12≤m then some (.slc b 1 j 12) else none):=fun b m j=>asl_aptr rfl (by decide) b m j
@[go_sem] theorem tt_283:(∀ (cs:List AV) (j:Nat),asl (tt 67) 1 none none (.iptr cs j)=if j+12≤cs.length then some (.lstx 1 (((cs.drop j).take 12).map fun x=>[x])) else none):=fun cs j=>asl_iptr rfl cs j
@[go_sem] theorem tt_284:(∀ (s:AS) (p v:AV),aput (tt 67) s p v=aputz 12 s p v):=fun s p v=>aput_z rfl rfl s p v
@[go_sem] theorem tt_285:(∀ (s:AS) (p:AV),aload (tt 79) s p=(s.row p).bind fun r=>apart true 4 r.2 r.1):=by intro s p;unfold aload;cases s.row p <;> rfl
@[go_sem] theorem tt_286:(∀ ev:Operand→AV,arows tt ev (.alloc 79)=some (4,[[.int .i64 0,.int .i64 0,.int .i64 0,.int .i64 0]],79)):=by intros;rfl
@[go_sem] theorem tt_290:(∀ v:AV,afieldAddr (tt 79) 1 v=amove 1 v):=by intros;rfl
@[go_sem] theorem tt_292:(∀ v:AV,afieldAddr (tt 79) 2 v=amove 2 v):=by intros;rfl
@[go_sem] theorem tt_294:(∀ v:AV,afieldAddr (tt 79) 3 v=amove 3 v):=by intros;rfl
@[go_sem] theorem tt_296:(∀ ps:List (Nat × AV),abuild tt 79 ps=(afill (fun i=>([(0,1),(1,1),(2,1),(3,1)]:List (Nat × Nat))[i]?) [.int .i64 0,.int .i64 0,.int .i64 0,.int .i64 0] ps).map .agg):=fun ps=>by show Option.map _ (afill _ _ _)=_;congr 2;funext i;rw [← List.getElem?_map];rfl
@[go_sem] theorem tt_297:(∀ (c:Bool) (x y:List AV),abin (tt 79) .eql c (.agg x) (.agg y)=aeql 4 (fun b=>b) (ints x) (ints y)):=fun c x y=>by cases hx:ints x <;> cases hy:ints y <;> simp [tt,abin,abinB,aeql,hx,hy]
@[go_sem] theorem tt_299:(∀ (s:AS) (p v:AV),aput (tt 79) s p v=aputz 4 s p v):=fun s p v=>aput_z rfl rfl s p v
@[go_sem] theorem tt_300:(∀ (s:AS) (p:AV),aload (tt 84) s p=(s.row p).bind fun r=>apart false 1 r.2 r.1):=by intro s p;unfold aload;cases s.row p <;> rfl
@[go_sem] theorem tt_301:(∀ ev:Operand→AV,arows tt ev (.alloc 84)=some (1,[[.nilfn]],84)):=by intros;rfl
@[go_sem] theorem tt_303:(∀ (s:AS) (p v:AV),aput (tt 84) s p v=aputz 1 s p v):=fun s p v=>aput_z rfl rfl s p v
@[go_sem] theorem tt_304:(∀ (s:AS) (p:AV),aload (tt 87) s p=(s.row p).bind fun r=>apart false 1 r.2 r.1):=by intro s p;unfold aload;cases s.row p <;> rfl
@[go_sem] theorem tt_305:(∀ ev:Operand→AV,arows tt ev (.alloc 87)=some (1,[[.nilm]],87)):=by intros;rfl
@[go_sem] theorem tt_307:(∀ (s:AS) (p v:AV),aput (tt 87) s p v=aputz 1 s p v):=fun s p v=>aput_z rfl rfl s p v
@[go_sem] theorem tt_308:(∀ (s:AS) (p:AV),aload (tt 90) s p=(s.row p).bind fun r=>apart false 1 r.2 r.1):=by intro s p;unfold aload;cases s.row p <;> rfl
@[go_sem] theorem tt_309:(∀ ev:Operand→AV,arows tt ev (.alloc 90)=some (1,[[.nilfn]],90)):=by intros;rfl
@[go_sem] theorem tt_311:(∀ (s:AS) (p v:AV),aput (tt 90) s p v=aputz 1 s p v):=fun s p v=>aput_z rfl rfl s p v
@[go_sem] theorem tt_312:(∀ (s:AS) (p:AV),aload (tt 102) s p=(s.row p).bind fun r=>apart false 1 r.2 r.1):=by intro s p;unfold aload;cases s.row p <;> rfl
@[go_sem] theorem tt_315:(∀ (s:AS) (p v:AV),aput (tt 102) s p v=aputz 1 s p v):=fun s p v=>aput_z rfl rfl s p v
@[go_sem] theorem tt_316:(∀ (s:AS) (p:AV),aload (tt 103) s p=(s.row p).bind fun r=>apart false 1 r.2 r.1):=by intro s p;unfold aload;cases s.row p <;> rfl
@[go_sem] theorem tt_319:(∀ (es:List (List AV)) (k:IntKind) (i:Int),aidx tt 103 (.lst 1 es) (.int k i)=if 0≤i∧i < es.length then some (.iptr (es.getD i.toNat []) 0) else none):=by intros;rfl
@[go_sem] theorem tt_320:(∀ (b:Bid) (o n:Nat) (k:IntKind) (i:Int),aidx tt 103 (.slc b 1 o n) (.int k i)=if 0≤i∧i < n then some (.ptr b (o+i.toNat) 0) else none):=by intros;rfl
@[go_sem] theorem tt_321:(∀ (b:Bid) (e o n:Nat),alen (tt 103) (.slc b e o n)=some (n:Int)):=by intros;rfl
@[go_sem] theorem tt_322:(∀ (e:Nat) (es:List (List AV)),alen (tt 103) (.lst e es)=some (es.length:Int)):=by intros;rfl
@[go_sem] theorem tt_323:(alen (tt 103) .nils=some 0):=by intros;rfl
@[go_sem] theorem tt_330:(elsize tt 103=1):=by intros;rfl
@[go_sem] theorem tt_331:(∀ (ev:Operand→AV) (n:Nat) (ps:List (Nat × Operand)),absl tt ev 103 n ps=if n≤16777216∧n * 1≤16777216∧ps.map (·.1)=List.range n∧(ps.all fun p=>noL (ev p.2) && ((ev p.2).cells.length == 1) && (ev p.2).cells.all AV.cell)=true then some (1,ps.map fun p=>(ev p.2).cells) else none):=by intros;rfl
@[go_sem] theorem tt_336:(∀ (h:AH) (id:Bid) (x y:AV),aapp tt h 103 id x y=aappz 1 1 h id x y):=fun h id x y=>by unfold aapp aappz;rfl
@[go_sem] theorem tt_337:(∀ (s:AS) (p v:AV),aput (tt 103) s p v=aputz 1 s p v):=fun s p v=>aput_z rfl rfl s p v
@[go_sem] theorem tt_339:(∀ ev:Operand→AV,arows tt ev (.alloc 105)=some (2,[[.nilp,.nils]],105)):=by intros;rfl
@[go_sem] theorem tt_341:(∀ v:AV,afieldAddr (tt 105) 0 v=amove 0 v):=by intros;rfl
@[go_sem] theorem tt_343:(∀ v:AV,afieldAddr (tt 105) 1 v=amove 1 v):=by intros;rfl
@[go_sem] theorem tt_351:(∀ (s:AS) (p:AV),aload (tt 121) s p=(s.row p).bind fun r=>apart false 1 r.2 r.1):=by intro s p;unfold aload;cases s.row p <;> rfl
@[go_sem] theorem tt_353:(∀ (ev:Operand→AV) (x:Operand),arows tt ev (.box 121 x)=if noL (ev x)=true∧(ev x).cells.length=1∧(ev x).cells.all AV.cell=true then some (1,[(ev x).cells],121) else none):=by intro ev x;simp [arows,tt,TI.knows]
@[go_sem] theorem tt_355:(∀ (s:AS) (p:AV),aload (tt 126) s p=(s.row p).bind fun r=>apart false 1 r.2 r.1):=by intro s p;unfold aload;cases s.row p <;> rfl
@[go_sem] theorem tt_358:(∀ (k:IntKind) (n:Int),aconv (tt 126) (tt 5) (.int k n)=some (.int .u8 (wr .u8 n))):=by intros;rfl
@[go_sem] theorem tt_359:(∀ (k:IntKind) (n:Int),aconv (tt 126) (tt 134) (.int k n)=some (.int .u32 (wr .u32 n))):=by intros;rfl
@[go_sem] theorem tt_364:(∀ (k:IntKind) (n:Int),aconv (tt 134) (tt 5) (.int k n)=some (.int .u8 (wr .u8 n))):=by intros;rfl
@[go_sem] theorem tt_369:(∀ (k:IntKind) (n:Int),aconv (tt 136) (tt 134) (.int k n)=some (.int .u32 (wr .u32 n))):=by intros;rfl
end Go.Proofs.YtoafigpikgigaaaDoor
