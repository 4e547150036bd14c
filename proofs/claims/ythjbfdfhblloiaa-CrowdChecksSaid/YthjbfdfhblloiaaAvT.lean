/- Printed by gentab.py: the types that this seat's functions name, as a table of our own; that the table is right. -/
import Derived.Test.YthjbfdfhblloiaaBaseD
import Derived.Test.YthjbfdfhblloiaaProg
import Derived.KernelRfl
set_option linter.all false
set_option linter.unusedSimpArgs false
set_option linter.unusedVariables false
namespace Go.Proofs.Ythjbfdfhblloiaa
open Go.Av
def tt:Nat→TI
  | 3=>⟨.int .i64,1,8,[.int .i64 0],false⟩
  | 4=>⟨.bool,1,1,[.bool false],false⟩
  | 22=>⟨.slice 3,1,24,[.nils],false⟩
  | 23=>⟨.slice 103,1,24,[.nils],false⟩
  | 24=>⟨.slice 63,1,24,[.nils],false⟩
  | 26=>⟨.struct [(0,1,false),(1,1,false),(2,1,false),(3,1,false)],4,80,[.nils,.nils,.nils,.int .i64 0],false⟩
  | 27=>⟨.slice 29,1,24,[.nils],false⟩
  | 29=>⟨.struct [(0,1,false),(1,1,false),(2,1,false),(3,1,false)],4,32,[.int .i64 0,.int .i64 0,.int .i64 0,.int .i64 0],true⟩
  | 36=>⟨.int .i64,1,8,[.int .i64 0],false⟩
  | 41=>⟨.slice 26,1,24,[.nils],false⟩
  | 42=>⟨.slice 27,1,24,[.nils],false⟩
  | 50=>⟨.slice 22,1,24,[.nils],false⟩
  | 56=>⟨.slice 61,1,24,[.nils],false⟩
  | 59=>⟨.slice 65,1,24,[.nils],false⟩
  | 61=>⟨.struct [(0,1,false),(1,1,false)],2,16,[.int .i64 0,.int .i64 0],true⟩
  | 63=>⟨.struct [(0,2,true),(2,2,true),(4,1,false),(5,1,false),(6,1,false)],7,72,[.int .i64 0,.int .i64 0,.int .i64 0,.int .i64 0,.int .i64 0,.int .i64 0,.nils],false⟩
  | 65=>⟨.struct [(0,1,false),(1,1,false)],2,16,[.int .i64 0,.int .i64 0],false⟩
  | 69=>⟨.plain,1,8,[.nilfn],false⟩
  | 76=>⟨.slice 4,1,24,[.nils],false⟩
  | 83=>⟨.plain,1,8,[.nilfn],false⟩
  | 84=>⟨.slice 92,1,24,[.nils],false⟩
  | 92=>⟨.struct [(0,1,false),(1,1,false),(2,1,false)],3,24,[.int .i64 0,.int .i64 0,.int .i64 0],true⟩
  | 98=>⟨.int .u64,1,8,[.int .u64 0],false⟩
  | 100=>⟨.struct [(0,1,false)],1,8,[.int .u64 0],false⟩
  | 103=>⟨.struct [(0,1,false),(1,1,false)],2,16,[.int .i64 0,.int .i64 0],true⟩
  | 105=>⟨.int .u64,1,8,[.int .u64 0],false⟩
  | 111=>⟨.plain,1,8,[.nilfn],false⟩
  | 113=>⟨.array 12 3,12,96,[.int .i64 0,.int .i64 0,.int .i64 0,.int .i64 0,.int .i64 0,.int .i64 0,.int .i64 0,.int .i64 0,.int .i64 0,.int .i64 0,.int .i64 0,.int .i64 0],true⟩
  | 120=>⟨.plain,1,8,[.nilm],false⟩
  | 129=>⟨.plain,1,8,[.nilm],false⟩
  | _=>⟨.unknown,0,0,[],false⟩
theorem info_row {t:TypeId} {r:TypeInfo} (h:Try.prog.types[t]?=some r):Try.prog.info? t=some r:=by
  have hlt:t < Try.prog.types.size:=(Array.getElem?_eq_some_iff.1 h).1
  unfold Tables.info?;rw [if_pos hlt];exact h
theorem inf3:Try.prog.info? 3=some Try.t3:=info_row Try.type3
theorem cel3:Try.prog.cellsOf 3=1:=by unfold Program.cellsOf;rw [inf3];rfl
theorem ag3:aggB Try.prog 3=false:=by unfold aggB;rw [Try.underlying3]
theorem inf4:Try.prog.info? 4=some Try.t4:=info_row Try.type4
theorem cel4:Try.prog.cellsOf 4=1:=by unfold Program.cellsOf;rw [inf4];rfl
theorem ag4:aggB Try.prog 4=false:=by unfold aggB;rw [Try.underlying4]
theorem inf22:Try.prog.info? 22=some Try.t22:=info_row Try.type22
theorem cel22:Try.prog.cellsOf 22=1:=by unfold Program.cellsOf;rw [inf22];rfl
theorem ag22:aggB Try.prog 22=false:=by unfold aggB;rw [Try.underlying22]
theorem inf23:Try.prog.info? 23=some Try.t23:=info_row Try.type23
theorem cel23:Try.prog.cellsOf 23=1:=by unfold Program.cellsOf;rw [inf23];rfl
theorem ag23:aggB Try.prog 23=false:=by unfold aggB;rw [Try.underlying23]
theorem inf24:Try.prog.info? 24=some Try.t24:=info_row Try.type24
theorem cel24:Try.prog.cellsOf 24=1:=by unfold Program.cellsOf;rw [inf24];rfl
theorem ag24:aggB Try.prog 24=false:=by unfold aggB;rw [Try.underlying24]
theorem inf26:Try.prog.info? 26=some Try.t26:=info_row Try.type26
theorem cel26:Try.prog.cellsOf 26=4:=by unfold Program.cellsOf;rw [inf26];rfl
theorem ag26:aggB Try.prog 26=true:=by unfold aggB;rw [Try.underlying26]
theorem inf27:Try.prog.info? 27=some Try.t27:=info_row Try.type27
theorem cel27:Try.prog.cellsOf 27=1:=by unfold Program.cellsOf;rw [inf27];rfl
theorem ag27:aggB Try.prog 27=false:=by unfold aggB;rw [Try.underlying27]
theorem inf29:Try.prog.info? 29=some Try.t29:=info_row Try.type29
theorem cel29:Try.prog.cellsOf 29=4:=by unfold Program.cellsOf;rw [inf29];rfl
theorem ag29:aggB Try.prog 29=true:=by unfold aggB;rw [Try.underlying29]
theorem inf36:Try.prog.info? 36=some Try.t36:=info_row Try.type36
theorem cel36:Try.prog.cellsOf 36=1:=by unfold Program.cellsOf;rw [inf36];rfl
theorem ag36:aggB Try.prog 36=false:=by unfold aggB;rw [Try.underlying36]
theorem inf41:Try.prog.info? 41=some Try.t41:=info_row Try.type41
theorem cel41:Try.prog.cellsOf 41=1:=by unfold Program.cellsOf;rw [inf41];rfl
theorem ag41:aggB Try.prog 41=false:=by unfold aggB;rw [Try.underlying41]
theorem inf42:Try.prog.info? 42=some Try.t42:=info_row Try.type42
theorem cel42:Try.prog.cellsOf 42=1:=by unfold Program.cellsOf;rw [inf42];rfl
theorem ag42:aggB Try.prog 42=false:=by unfold aggB;rw [Try.underlying42]
theorem inf50:Try.prog.info? 50=some Try.t50:=info_row Try.type50
theorem cel50:Try.prog.cellsOf 50=1:=by unfold Program.cellsOf;rw [inf50];rfl
theorem ag50:aggB Try.prog 50=false:=by unfold aggB;rw [Try.underlying50]
theorem inf56:Try.prog.info? 56=some Try.t56:=info_row Try.type56
theorem cel56:Try.prog.cellsOf 56=1:=by unfold Program.cellsOf;rw [inf56];rfl
theorem ag56:aggB Try.prog 56=false:=by unfold aggB;rw [Try.underlying56]
theorem inf59:Try.prog.info? 59=some Try.t59:=info_row Try.type59
theorem cel59:Try.prog.cellsOf 59=1:=by unfold Program.cellsOf;rw [inf59];rfl
theorem ag59:aggB Try.prog 59=false:=by unfold aggB;rw [Try.underlying59]
theorem inf61:Try.prog.info? 61=some Try.t61:=info_row Try.type61
theorem cel61:Try.prog.cellsOf 61=2:=by unfold Program.cellsOf;rw [inf61];rfl
theorem ag61:aggB Try.prog 61=true:=by unfold aggB;rw [Try.underlying61]
theorem inf63:Try.prog.info? 63=some Try.t63:=info_row Try.type63
theorem cel63:Try.prog.cellsOf 63=7:=by unfold Program.cellsOf;rw [inf63];rfl
theorem ag63:aggB Try.prog 63=true:=by unfold aggB;rw [Try.underlying63]
theorem inf65:Try.prog.info? 65=some Try.t65:=info_row Try.type65
theorem cel65:Try.prog.cellsOf 65=2:=by unfold Program.cellsOf;rw [inf65];rfl
theorem ag65:aggB Try.prog 65=true:=by unfold aggB;rw [Try.underlying65]
theorem inf69:Try.prog.info? 69=some Try.t69:=info_row Try.type69
theorem cel69:Try.prog.cellsOf 69=1:=by unfold Program.cellsOf;rw [inf69];rfl
theorem ag69:aggB Try.prog 69=false:=by unfold aggB;rw [Try.underlying69]
theorem inf76:Try.prog.info? 76=some Try.t76:=info_row Try.type76
theorem cel76:Try.prog.cellsOf 76=1:=by unfold Program.cellsOf;rw [inf76];rfl
theorem ag76:aggB Try.prog 76=false:=by unfold aggB;rw [Try.underlying76]
theorem inf83:Try.prog.info? 83=some Try.t83:=info_row Try.type83
theorem cel83:Try.prog.cellsOf 83=1:=by unfold Program.cellsOf;rw [inf83];rfl
theorem ag83:aggB Try.prog 83=false:=by unfold aggB;rw [Try.underlying83]
theorem inf84:Try.prog.info? 84=some Try.t84:=info_row Try.type84
theorem cel84:Try.prog.cellsOf 84=1:=by unfold Program.cellsOf;rw [inf84];rfl
theorem ag84:aggB Try.prog 84=false:=by unfold aggB;rw [Try.underlying84]
theorem inf92:Try.prog.info? 92=some Try.t92:=info_row Try.type92
theorem cel92:Try.prog.cellsOf 92=3:=by unfold Program.cellsOf;rw [inf92];rfl
theorem ag92:aggB Try.prog 92=true:=by unfold aggB;rw [Try.underlying92]
theorem inf98:Try.prog.info? 98=some Try.t98:=info_row Try.type98
theorem cel98:Try.prog.cellsOf 98=1:=by unfold Program.cellsOf;rw [inf98];rfl
theorem ag98:aggB Try.prog 98=false:=by unfold aggB;rw [Try.underlying98]
theorem inf100:Try.prog.info? 100=some Try.t100:=info_row Try.type100
theorem cel100:Try.prog.cellsOf 100=1:=by unfold Program.cellsOf;rw [inf100];rfl
theorem ag100:aggB Try.prog 100=true:=by unfold aggB;rw [Try.underlying100]
theorem inf103:Try.prog.info? 103=some Try.t103:=info_row Try.type103
theorem cel103:Try.prog.cellsOf 103=2:=by unfold Program.cellsOf;rw [inf103];rfl
theorem ag103:aggB Try.prog 103=true:=by unfold aggB;rw [Try.underlying103]
theorem inf105:Try.prog.info? 105=some Try.t105:=info_row Try.type105
theorem cel105:Try.prog.cellsOf 105=1:=by unfold Program.cellsOf;rw [inf105];rfl
theorem ag105:aggB Try.prog 105=false:=by unfold aggB;rw [Try.underlying105]
theorem inf111:Try.prog.info? 111=some Try.t111:=info_row Try.type111
theorem cel111:Try.prog.cellsOf 111=1:=by unfold Program.cellsOf;rw [inf111];rfl
theorem ag111:aggB Try.prog 111=false:=by unfold aggB;rw [Try.underlying111]
theorem inf113:Try.prog.info? 113=some Try.t113:=info_row Try.type113
theorem cel113:Try.prog.cellsOf 113=12:=by unfold Program.cellsOf;rw [inf113];rfl
theorem ag113:aggB Try.prog 113=true:=by unfold aggB;rw [Try.underlying113]
theorem inf120:Try.prog.info? 120=some Try.t120:=info_row Try.type120
theorem cel120:Try.prog.cellsOf 120=1:=by unfold Program.cellsOf;rw [inf120];rfl
theorem ag120:aggB Try.prog 120=false:=by unfold aggB;rw [Try.underlying120]
theorem inf129:Try.prog.info? 129=some Try.t129:=info_row Try.type129
theorem cel129:Try.prog.cellsOf 129=1:=by unfold Program.cellsOf;rw [inf129];rfl
theorem ag129:aggB Try.prog 129=false:=by unfold aggB;rw [Try.underlying129]
theorem eq29:EqFact Try.prog 29 4:=EqFact.ints Try.underlying29 (by kernel_rfl) (by kernel_rfl) (by intro f hf;simp at hf;rcases hf with rfl|rfl|rfl|rfl <;> exact ⟨by decide,by first|exact ⟨_,Try.underlying3⟩⟩) rfl rfl
theorem eq61:EqFact Try.prog 61 2:=EqFact.ints Try.underlying61 (by kernel_rfl) (by kernel_rfl) (by intro f hf;simp at hf;rcases hf with rfl|rfl <;> exact ⟨by decide,by first|exact ⟨_,Try.underlying3⟩⟩) rfl rfl
theorem eq92:EqFact Try.prog 92 3:=EqFact.ints Try.underlying92 (by kernel_rfl) (by kernel_rfl) (by intro f hf;simp at hf;rcases hf with rfl|rfl|rfl <;> exact ⟨by decide,by first|exact ⟨_,Try.underlying3⟩⟩) rfl rfl
theorem eq103:EqFact Try.prog 103 2:=EqFact.ints Try.underlying103 (by kernel_rfl) (by kernel_rfl) (by intro f hf;simp at hf;rcases hf with rfl|rfl <;> exact ⟨by decide,by first|exact ⟨_,Try.underlying3⟩⟩) rfl rfl
theorem eq113:EqFact Try.prog 113 12:=EqFact.arr Try.underlying113 Try.underlying3 inf3 cel3 (by kernel_rfl)
theorem good3:Go.Av.Good Try.prog 3 (tt 3):=⟨⟨Try.t3,_,inf3,rfl,rfl,rfl,fun c=>by simp [tt,VRs,VR,Value.cells],rfl,rfl⟩,Try.underlying3,fun h=>by cases h⟩
theorem good4:Go.Av.Good Try.prog 4 (tt 4):=⟨⟨Try.t4,_,inf4,rfl,rfl,rfl,fun c=>by simp [tt,VRs,VR,Value.cells],rfl,rfl⟩,Try.underlying4,fun h=>by cases h⟩
theorem good22:Go.Av.Good Try.prog 22 (tt 22):=⟨⟨Try.t22,_,inf22,rfl,rfl,rfl,fun c=>by simp [tt,VRs,VR,Value.cells],rfl,rfl⟩,⟨Try.underlying22,by rw [inf3];rfl⟩,fun h=>by cases h⟩
theorem good23:Go.Av.Good Try.prog 23 (tt 23):=⟨⟨Try.t23,_,inf23,rfl,rfl,rfl,fun c=>by simp [tt,VRs,VR,Value.cells],rfl,rfl⟩,⟨Try.underlying23,by rw [inf103];rfl⟩,fun h=>by cases h⟩
theorem good24:Go.Av.Good Try.prog 24 (tt 24):=⟨⟨Try.t24,_,inf24,rfl,rfl,rfl,fun c=>by simp [tt,VRs,VR,Value.cells],rfl,rfl⟩,⟨Try.underlying24,by rw [inf63];rfl⟩,fun h=>by cases h⟩
theorem good26:Go.Av.Good Try.prog 26 (tt 26):=⟨⟨Try.t26,_,inf26,rfl,rfl,rfl,fun c=>by simp [tt,VRs,VR,Value.cells],rfl,rfl⟩,⟨_,Try.underlying26,by simp [cel3,ag3,cel22,ag22,cel23,ag23,cel24,ag24,tt],by simp [inf3,Try.underlying3,inf22,Try.underlying22,inf23,Try.underlying23,inf24,Try.underlying24]⟩,fun h=>by cases h⟩
theorem good27:Go.Av.Good Try.prog 27 (tt 27):=⟨⟨Try.t27,_,inf27,rfl,rfl,rfl,fun c=>by simp [tt,VRs,VR,Value.cells],rfl,rfl⟩,⟨Try.underlying27,by rw [inf29];rfl⟩,fun h=>by cases h⟩
theorem good29:Go.Av.Good Try.prog 29 (tt 29):=⟨⟨Try.t29,_,inf29,rfl,rfl,rfl,fun c=>by simp [tt,VRs,VR,Value.cells],rfl,rfl⟩,⟨_,Try.underlying29,by simp [cel3,ag3,tt],by simp [inf3,Try.underlying3]⟩,fun _=>eq29⟩
theorem good36:Go.Av.Good Try.prog 36 (tt 36):=⟨⟨Try.t36,_,inf36,rfl,rfl,rfl,fun c=>by simp [tt,VRs,VR,Value.cells],rfl,rfl⟩,Try.underlying36,fun h=>by cases h⟩
theorem good41:Go.Av.Good Try.prog 41 (tt 41):=⟨⟨Try.t41,_,inf41,rfl,rfl,rfl,fun c=>by simp [tt,VRs,VR,Value.cells],rfl,rfl⟩,⟨Try.underlying41,by rw [inf26];rfl⟩,fun h=>by cases h⟩
theorem good42:Go.Av.Good Try.prog 42 (tt 42):=⟨⟨Try.t42,_,inf42,rfl,rfl,rfl,fun c=>by simp [tt,VRs,VR,Value.cells],rfl,rfl⟩,⟨Try.underlying42,by rw [inf27];rfl⟩,fun h=>by cases h⟩
theorem good50:Go.Av.Good Try.prog 50 (tt 50):=⟨⟨Try.t50,_,inf50,rfl,rfl,rfl,fun c=>by simp [tt,VRs,VR,Value.cells],rfl,rfl⟩,⟨Try.underlying50,by rw [inf22];rfl⟩,fun h=>by cases h⟩
theorem good56:Go.Av.Good Try.prog 56 (tt 56):=⟨⟨Try.t56,_,inf56,rfl,rfl,rfl,fun c=>by simp [tt,VRs,VR,Value.cells],rfl,rfl⟩,⟨Try.underlying56,by rw [inf61];rfl⟩,fun h=>by cases h⟩
theorem good59:Go.Av.Good Try.prog 59 (tt 59):=⟨⟨Try.t59,_,inf59,rfl,rfl,rfl,fun c=>by simp [tt,VRs,VR,Value.cells],rfl,rfl⟩,⟨Try.underlying59,by rw [inf65];rfl⟩,fun h=>by cases h⟩
theorem good61:Go.Av.Good Try.prog 61 (tt 61):=⟨⟨Try.t61,_,inf61,rfl,rfl,rfl,fun c=>by simp [tt,VRs,VR,Value.cells],rfl,rfl⟩,⟨_,Try.underlying61,by simp [cel3,ag3,tt],by simp [inf3,Try.underlying3]⟩,fun _=>eq61⟩
theorem good63:Go.Av.Good Try.prog 63 (tt 63):=⟨⟨Try.t63,_,inf63,rfl,rfl,rfl,fun c=>by simp [tt,VRs,VR,Value.cells],rfl,rfl⟩,⟨_,Try.underlying63,by simp [cel3,ag3,cel22,ag22,cel61,ag61,tt],by simp [inf3,Try.underlying3,inf22,Try.underlying22,inf61,Try.underlying61]⟩,fun h=>by cases h⟩
theorem good65:Go.Av.Good Try.prog 65 (tt 65):=⟨⟨Try.t65,_,inf65,rfl,rfl,rfl,fun c=>by simp [tt,VRs,VR,Value.cells],rfl,rfl⟩,⟨_,Try.underlying65,by simp [cel3,ag3,tt],by simp [inf3,Try.underlying3]⟩,fun h=>by cases h⟩
theorem good69:Go.Av.Good Try.prog 69 (tt 69):=⟨⟨Try.t69,_,inf69,rfl,rfl,rfl,fun c=>by simp [tt,VRs,VR,Value.cells],rfl,rfl⟩,⟨_,Try.underlying69,rfl⟩,fun h=>by cases h⟩
theorem good76:Go.Av.Good Try.prog 76 (tt 76):=⟨⟨Try.t76,_,inf76,rfl,rfl,rfl,fun c=>by simp [tt,VRs,VR,Value.cells],rfl,rfl⟩,⟨Try.underlying76,by rw [inf4];rfl⟩,fun h=>by cases h⟩
theorem good83:Go.Av.Good Try.prog 83 (tt 83):=⟨⟨Try.t83,_,inf83,rfl,rfl,rfl,fun c=>by simp [tt,VRs,VR,Value.cells],rfl,rfl⟩,⟨_,Try.underlying83,rfl⟩,fun h=>by cases h⟩
theorem good84:Go.Av.Good Try.prog 84 (tt 84):=⟨⟨Try.t84,_,inf84,rfl,rfl,rfl,fun c=>by simp [tt,VRs,VR,Value.cells],rfl,rfl⟩,⟨Try.underlying84,by rw [inf92];rfl⟩,fun h=>by cases h⟩
theorem good92:Go.Av.Good Try.prog 92 (tt 92):=⟨⟨Try.t92,_,inf92,rfl,rfl,rfl,fun c=>by simp [tt,VRs,VR,Value.cells],rfl,rfl⟩,⟨_,Try.underlying92,by simp [cel3,ag3,tt],by simp [inf3,Try.underlying3]⟩,fun _=>eq92⟩
theorem good98:Go.Av.Good Try.prog 98 (tt 98):=⟨⟨Try.t98,_,inf98,rfl,rfl,rfl,fun c=>by simp [tt,VRs,VR,Value.cells],rfl,rfl⟩,Try.underlying98,fun h=>by cases h⟩
theorem good100:Go.Av.Good Try.prog 100 (tt 100):=⟨⟨Try.t100,_,inf100,rfl,rfl,rfl,fun c=>by simp [tt,VRs,VR,Value.cells],rfl,rfl⟩,⟨_,Try.underlying100,by simp [cel98,ag98,tt],by simp [inf98,Try.underlying98]⟩,fun h=>by cases h⟩
theorem good103:Go.Av.Good Try.prog 103 (tt 103):=⟨⟨Try.t103,_,inf103,rfl,rfl,rfl,fun c=>by simp [tt,VRs,VR,Value.cells],rfl,rfl⟩,⟨_,Try.underlying103,by simp [cel3,ag3,tt],by simp [inf3,Try.underlying3]⟩,fun _=>eq103⟩
theorem good105:Go.Av.Good Try.prog 105 (tt 105):=⟨⟨Try.t105,_,inf105,rfl,rfl,rfl,fun c=>by simp [tt,VRs,VR,Value.cells],rfl,rfl⟩,Try.underlying105,fun h=>by cases h⟩
theorem good111:Go.Av.Good Try.prog 111 (tt 111):=⟨⟨Try.t111,_,inf111,rfl,rfl,rfl,fun c=>by simp [tt,VRs,VR,Value.cells],rfl,rfl⟩,⟨_,Try.underlying111,rfl⟩,fun h=>by cases h⟩
theorem good113:Go.Av.Good Try.prog 113 (tt 113):=⟨⟨Try.t113,_,inf113,rfl,rfl,rfl,fun c=>by simp [tt,VRs,VR,Value.cells],rfl,rfl⟩,⟨Try.underlying113,by rw [inf3];rfl⟩,fun _=>eq113⟩
theorem good120:Go.Av.Good Try.prog 120 (tt 120):=⟨⟨Try.t120,_,inf120,rfl,rfl,rfl,fun c=>by simp [tt,VRs,VR,Value.cells],rfl,rfl⟩,⟨_,Try.underlying120,rfl⟩,fun h=>by cases h⟩
theorem good129:Go.Av.Good Try.prog 129 (tt 129):=⟨⟨Try.t129,_,inf129,rfl,rfl,rfl,fun c=>by simp [tt,VRs,VR,Value.cells],rfl,rfl⟩,⟨_,Try.underlying129,rfl⟩,fun h=>by cases h⟩
theorem tab:Tab Try.prog tt where
  all:=fun t h=>by
    unfold tt at h ⊢
    split at h
    · exact good3
    · exact good4
    · exact good22
    · exact good23
    · exact good24
    · exact good26
    · exact good27
    · exact good29
    · exact good36
    · exact good41
    · exact good42
    · exact good50
    · exact good56
    · exact good59
    · exact good61
    · exact good63
    · exact good65
    · exact good69
    · exact good76
    · exact good83
    · exact good84
    · exact good92
    · exact good98
    · exact good100
    · exact good103
    · exact good105
    · exact good111
    · exact good113
    · exact good120
    · exact good129
    · cases h
  elem:=fun t e h=>by
    unfold tt at h
    split at h <;> first|(cases h;done)|(cases h;rfl)
@[go_sem] theorem tt_0:(∀ (s:AS) (p:AV),aload (tt 3) s p=(s.row p).bind fun r=>apart false 1 r.2 r.1):=by intro s p;unfold aload;cases s.row p <;> rfl
@[go_sem] theorem tt_1:(∀ ev:Operand→AV,arows tt ev (.alloc 3)=some (1,[[.int .i64 0]],3)):=by intros;rfl
@[go_sem] theorem tt_2:(∀ (ev:Operand→AV) (x:Operand),arows tt ev (.box 3 x)=if noL (ev x)=true∧(ev x).cells.length=1∧(ev x).cells.all AV.cell=true then some (1,[(ev x).cells],3) else none):=by intro ev x;simp [arows,tt,TI.knows]
@[go_sem] theorem tt_3:(∀ (k:IntKind) (n:Int),aconv (tt 3) (tt 98) (.int k n)=some (.int .u64 (wr .u64 n))):=by intros;rfl
@[go_sem] theorem tt_4:(∀ (s:AS) (p v:AV),aput (tt 3) s p v=aputz 1 s p v):=fun s p v=>aput_z rfl rfl s p v
@[go_sem] theorem tt_5:(∀ (s:AS) (p:AV),aload (tt 4) s p=(s.row p).bind fun r=>apart false 1 r.2 r.1):=by intro s p;unfold aload;cases s.row p <;> rfl
@[go_sem] theorem tt_6:(∀ ev:Operand→AV,arows tt ev (.alloc 4)=some (1,[[.bool false]],4)):=by intros;rfl
@[go_sem] theorem tt_7:(∀ (ev:Operand→AV) (x:Operand),arows tt ev (.box 4 x)=if noL (ev x)=true∧(ev x).cells.length=1∧(ev x).cells.all AV.cell=true then some (1,[(ev x).cells],4) else none):=by intro ev x;simp [arows,tt,TI.knows]
@[go_sem] theorem tt_8:(∀ c a b:Bool,abin (tt 4) .eql c (.bool a) (.bool b)=some (.bool (a == b))):=by intros;rfl
@[go_sem] theorem tt_9:(∀ c a b:Bool,abin (tt 4) .neq c (.bool a) (.bool b)=some (.bool (!(a == b)))):=by intros;rfl
@[go_sem] theorem tt_10:(∀ (s:AS) (p v:AV),aput (tt 4) s p v=aputz 1 s p v):=fun s p v=>aput_z rfl rfl s p v
@[go_sem] theorem tt_11:(∀ (s:AS) (p:AV),aload (tt 22) s p=(s.row p).bind fun r=>apart false 1 r.2 r.1):=by intro s p;unfold aload;cases s.row p <;> rfl
@[go_sem] theorem tt_12:(∀ ev:Operand→AV,arows tt ev (.alloc 22)=some (1,[[.nils]],22)):=by intros;rfl
@[go_sem] theorem tt_13:(∀ (ev:Operand→AV) (x:Operand),arows tt ev (.box 22 x)=if noL (ev x)=true∧(ev x).cells.length=1∧(ev x).cells.all AV.cell=true then some (1,[(ev x).cells],22) else none):=by intro ev x;simp [arows,tt,TI.knows]
@[go_sem] theorem tt_14:(∀ (es:List (List AV)) (k:IntKind) (i:Int),aidx tt 22 (.lst 1 es) (.int k i)=if 0≤i∧i < es.length then some (.iptr (es.getD i.toNat []) 0) else none):=by intros;rfl
@[go_sem] theorem tt_15:(∀ (b:Bid) (o n:Nat) (k:IntKind) (i:Int),aidx tt 22 (.slc b 1 o n) (.int k i)=if 0≤i∧i < n then some (.ptr b (o+i.toNat) 0) else none):=by intros;rfl
@[go_sem] theorem tt_16:(∀ (b:Bid) (e o n:Nat),alen (tt 22) (.slc b e o n)=some (n:Int)):=by intros;rfl
@[go_sem] theorem tt_17:(∀ (e:Nat) (es:List (List AV)),alen (tt 22) (.lst e es)=some (es.length:Int)):=by intros;rfl
@[go_sem] theorem tt_18:(alen (tt 22) .nils=some 0):=by intros;rfl
@[go_sem] theorem tt_19:(∀ c:Bool,abin (tt 22) .eql c .nils .nils=some (.bool true)):=by intros;rfl
@[go_sem] theorem tt_20:(∀ (c:Bool) (b:Bid) (e i n:Nat),abin (tt 22) .eql c (.slc b e i n) .nils=some (.bool false)):=by intros;rfl
@[go_sem] theorem tt_21:(∀ (c:Bool) (e:Nat) (r:List AV) (es:List (List AV)),abin (tt 22) .eql c (.lst e (r :: es)) .nils=some (.bool false)):=by intros;rfl
@[go_sem] theorem tt_22:(∀ c:Bool,abin (tt 22) .neq c .nils .nils=some (.bool false)):=by intros;rfl
@[go_sem] theorem tt_23:(∀ (c:Bool) (b:Bid) (e i n:Nat),abin (tt 22) .neq c (.slc b e i n) .nils=some (.bool true)):=by intros;rfl
@[go_sem] theorem tt_24:(∀ (c:Bool) (e:Nat) (r:List AV) (es:List (List AV)),abin (tt 22) .neq c (.lst e (r :: es)) .nils=some (.bool true)):=by intros;rfl
@[go_sem] theorem tt_25:(elsize tt 22=1):=by intros;rfl
@[go_sem] theorem tt_26:(∀ (ev:Operand→AV) (n:Nat) (ps:List (Nat × Operand)),absl tt ev 22 n ps=if n≤16777216∧n * 1≤16777216∧ps.map (·.1)=List.range n∧(ps.all fun p=>noL (ev p.2) && ((ev p.2).cells.length == 1) && (ev p.2).cells.all AV.cell)=true then some (1,ps.map fun p=>(ev p.2).cells) else none):=by intros;rfl
@[go_sem] theorem tt_27:(∀ (k k':IntKind) (l c:Int),amake tt 22 (.int k l) (.int k' c)=if 0≤l∧l≤c∧c * 8≤70368744177664∧c≤70368744177664 then some (1,List.replicate l.toNat [.int .i64 0],l.toNat) else none):=by intros;rfl
@[go_sem] theorem tt_28:(∀ (h:AH) (x y:AV),acopy tt h 22 x y=acopyz 1 h x y):=fun h x y=>by unfold acopy acopyz;rfl
@[go_sem] theorem tt_29:(∀ (ez b1 o n:Nat) (b:Bid) (lo hi:Option AV),asl (tt 22) ez lo hi (.slc b b1 o n)=aslz n lo hi fun l h=>if b1=ez then some (.slc b b1 (o+l) (h - l)) else none):=fun ez b1 o n b lo hi=>asl_slc rfl ez lo hi b b1 o n
@[go_sem] theorem tt_30:(∀ (ez e:Nat) (es:List (List AV)) (lo hi:Option AV),asl (tt 22) ez lo hi (.lst e es)=aslz es.length lo hi fun l h=>if e=ez then some (.lst e ((es.drop l).take (h - l))) else none):=fun ez e es lo hi=>asl_lst rfl ez lo hi e es
@[go_sem] theorem tt_31:(∀ (h:AH) (id:Bid) (x y:AV),aapp tt h 22 id x y=aappz 1 8 h id x y):=fun h id x y=>by unfold aapp aappz;rfl
@[go_sem] theorem tt_32:(∀ (s:AS) (p v:AV),aput (tt 22) s p v=aputz 1 s p v):=fun s p v=>aput_z rfl rfl s p v
@[go_sem] theorem tt_33:(∀ (s:AS) (p:AV),aload (tt 23) s p=(s.row p).bind fun r=>apart false 1 r.2 r.1):=by intro s p;unfold aload;cases s.row p <;> rfl
@[go_sem] theorem tt_34:(∀ ev:Operand→AV,arows tt ev (.alloc 23)=some (1,[[.nils]],23)):=by intros;rfl
@[go_sem] theorem tt_35:(∀ (ev:Operand→AV) (x:Operand),arows tt ev (.box 23 x)=if noL (ev x)=true∧(ev x).cells.length=1∧(ev x).cells.all AV.cell=true then some (1,[(ev x).cells],23) else none):=by intro ev x;simp [arows,tt,TI.knows]
@[go_sem] theorem tt_36:(∀ (es:List (List AV)) (k:IntKind) (i:Int),aidx tt 23 (.lst 2 es) (.int k i)=if 0≤i∧i < es.length then some (.iptr (es.getD i.toNat []) 0) else none):=by intros;rfl
@[go_sem] theorem tt_37:(∀ (b:Bid) (o n:Nat) (k:IntKind) (i:Int),aidx tt 23 (.slc b 2 o n) (.int k i)=if 0≤i∧i < n then some (.ptr b (o+i.toNat) 0) else none):=by intros;rfl
@[go_sem] theorem tt_38:(∀ (b:Bid) (e o n:Nat),alen (tt 23) (.slc b e o n)=some (n:Int)):=by intros;rfl
@[go_sem] theorem tt_39:(∀ (e:Nat) (es:List (List AV)),alen (tt 23) (.lst e es)=some (es.length:Int)):=by intros;rfl
@[go_sem] theorem tt_40:(alen (tt 23) .nils=some 0):=by intros;rfl
@[go_sem] theorem tt_41:(∀ c:Bool,abin (tt 23) .eql c .nils .nils=some (.bool true)):=by intros;rfl
@[go_sem] theorem tt_42:(∀ (c:Bool) (b:Bid) (e i n:Nat),abin (tt 23) .eql c (.slc b e i n) .nils=some (.bool false)):=by intros;rfl
@[go_sem] theorem tt_43:(∀ (c:Bool) (e:Nat) (r:List AV) (es:List (List AV)),abin (tt 23) .eql c (.lst e (r :: es)) .nils=some (.bool false)):=by intros;rfl
@[go_sem] theorem tt_44:(∀ c:Bool,abin (tt 23) .neq c .nils .nils=some (.bool false)):=by intros;rfl
@[go_sem] theorem tt_45:(∀ (c:Bool) (b:Bid) (e i n:Nat),abin (tt 23) .neq c (.slc b e i n) .nils=some (.bool true)):=by intros;rfl
@[go_sem] theorem tt_46:(∀ (c:Bool) (e:Nat) (r:List AV) (es:List (List AV)),abin (tt 23) .neq c (.lst e (r :: es)) .nils=some (.bool true)):=by intros;rfl
@[go_sem] theorem tt_47:(elsize tt 23=2):=by intros;rfl
@[go_sem] theorem tt_48:(∀ (ev:Operand→AV) (n:Nat) (ps:List (Nat × Operand)),absl tt ev 23 n ps=if n≤16777216∧n * 2≤16777216∧ps.map (·.1)=List.range n∧(ps.all fun p=>noL (ev p.2) && ((ev p.2).cells.length == 2) && (ev p.2).cells.all AV.cell)=true then some (2,ps.map fun p=>(ev p.2).cells) else none):=by intros;rfl
@[go_sem] theorem tt_49:(∀ (k k':IntKind) (l c:Int),amake tt 23 (.int k l) (.int k' c)=if 0≤l∧l≤c∧c * 16≤70368744177664∧c≤70368744177664 then some (2,List.replicate l.toNat [.int .i64 0,.int .i64 0],l.toNat) else none):=by intros;rfl
@[go_sem] theorem tt_50:(∀ (h:AH) (x y:AV),acopy tt h 23 x y=acopyz 2 h x y):=fun h x y=>by unfold acopy acopyz;rfl
@[go_sem] theorem tt_51:(∀ (ez b1 o n:Nat) (b:Bid) (lo hi:Option AV),asl (tt 23) ez lo hi (.slc b b1 o n)=aslz n lo hi fun l h=>if b1=ez then some (.slc b b1 (o+l) (h - l)) else none):=fun ez b1 o n b lo hi=>asl_slc rfl ez lo hi b b1 o n
@[go_sem] theorem tt_52:(∀ (ez e:Nat) (es:List (List AV)) (lo hi:Option AV),asl (tt 23) ez lo hi (.lst e es)=aslz es.length lo hi fun l h=>if e=ez then some (.lst e ((es.drop l).take (h - l))) else none):=fun ez e es lo hi=>asl_lst rfl ez lo hi e es
@[go_sem] theorem tt_53:(∀ (h:AH) (id:Bid) (x y:AV),aapp tt h 23 id x y=aappz 2 16 h id x y):=fun h id x y=>by unfold aapp aappz;rfl
@[go_sem] theorem tt_54:(∀ (s:AS) (p v:AV),aput (tt 23) s p v=aputz 1 s p v):=fun s p v=>aput_z rfl rfl s p v
@[go_sem] theorem tt_55:(∀ (s:AS) (p:AV),aload (tt 24) s p=(s.row p).bind fun r=>apart false 1 r.2 r.1):=by intro s p;unfold aload;cases s.row p <;> rfl
@[go_sem] theorem tt_56:(∀ ev:Operand→AV,arows tt ev (.alloc 24)=some (1,[[.nils]],24)):=by intros;rfl
@[go_sem] theorem tt_57:(∀ (ev:Operand→AV) (x:Operand),arows tt ev (.box 24 x)=if noL (ev x)=true∧(ev x).cells.length=1∧(ev x).cells.all AV.cell=true then some (1,[(ev x).cells],24) else none):=by intro ev x;simp [arows,tt,TI.knows]
@[go_sem] theorem tt_58:(∀ (es:List (List AV)) (k:IntKind) (i:Int),aidx tt 24 (.lst 7 es) (.int k i)=if 0≤i∧i < es.length then some (.iptr (es.getD i.toNat []) 0) else none):=by intros;rfl
@[go_sem] theorem tt_59:(∀ (b:Bid) (o n:Nat) (k:IntKind) (i:Int),aidx tt 24 (.slc b 7 o n) (.int k i)=if 0≤i∧i < n then some (.ptr b (o+i.toNat) 0) else none):=by intros;rfl
@[go_sem] theorem tt_60:(∀ (b:Bid) (e o n:Nat),alen (tt 24) (.slc b e o n)=some (n:Int)):=by intros;rfl
@[go_sem] theorem tt_61:(∀ (e:Nat) (es:List (List AV)),alen (tt 24) (.lst e es)=some (es.length:Int)):=by intros;rfl
@[go_sem] theorem tt_62:(alen (tt 24) .nils=some 0):=by intros;rfl
@[go_sem] theorem tt_63:(∀ c:Bool,abin (tt 24) .eql c .nils .nils=some (.bool true)):=by intros;rfl
@[go_sem] theorem tt_64:(∀ (c:Bool) (b:Bid) (e i n:Nat),abin (tt 24) .eql c (.slc b e i n) .nils=some (.bool false)):=by intros;rfl
@[go_sem] theorem tt_65:(∀ (c:Bool) (e:Nat) (r:List AV) (es:List (List AV)),abin (tt 24) .eql c (.lst e (r :: es)) .nils=some (.bool false)):=by intros;rfl
@[go_sem] theorem tt_66:(∀ c:Bool,abin (tt 24) .neq c .nils .nils=some (.bool false)):=by intros;rfl
@[go_sem] theorem tt_67:(∀ (c:Bool) (b:Bid) (e i n:Nat),abin (tt 24) .neq c (.slc b e i n) .nils=some (.bool true)):=by intros;rfl
@[go_sem] theorem tt_68:(∀ (c:Bool) (e:Nat) (r:List AV) (es:List (List AV)),abin (tt 24) .neq c (.lst e (r :: es)) .nils=some (.bool true)):=by intros;rfl
@[go_sem] theorem tt_69:(elsize tt 24=7):=by intros;rfl
@[go_sem] theorem tt_70:(∀ (ev:Operand→AV) (n:Nat) (ps:List (Nat × Operand)),absl tt ev 24 n ps=if n≤16777216∧n * 7≤16777216∧ps.map (·.1)=List.range n∧(ps.all fun p=>noL (ev p.2) && ((ev p.2).cells.length == 7) && (ev p.2).cells.all AV.cell)=true then some (7,ps.map fun p=>(ev p.2).cells) else none):=by intros;rfl
@[go_sem] theorem tt_71:(∀ (k k':IntKind) (l c:Int),amake tt 24 (.int k l) (.int k' c)=if 0≤l∧l≤c∧c * 72≤70368744177664∧c≤70368744177664 then some (7,List.replicate l.toNat [.int .i64 0,.int .i64 0,.int .i64 0,.int .i64 0,.int .i64 0,.int .i64 0,.nils],l.toNat) else none):=by intros;rfl
@[go_sem] theorem tt_72:(∀ (h:AH) (x y:AV),acopy tt h 24 x y=acopyz 7 h x y):=fun h x y=>by unfold acopy acopyz;rfl
@[go_sem] theorem tt_73:(∀ (ez b1 o n:Nat) (b:Bid) (lo hi:Option AV),asl (tt 24) ez lo hi (.slc b b1 o n)=aslz n lo hi fun l h=>if b1=ez then some (.slc b b1 (o+l) (h - l)) else none):=fun ez b1 o n b lo hi=>asl_slc rfl ez lo hi b b1 o n
@[go_sem] theorem tt_74:(∀ (ez e:Nat) (es:List (List AV)) (lo hi:Option AV),asl (tt 24) ez lo hi (.lst e es)=aslz es.length lo hi fun l h=>if e=ez then some (.lst e ((es.drop l).take (h - l))) else none):=fun ez e es lo hi=>asl_lst rfl ez lo hi e es
@[go_sem] theorem tt_75:(∀ (h:AH) (id:Bid) (x y:AV),aapp tt h 24 id x y=aappz 7 72 h id x y):=fun h id x y=>by unfold aapp aappz;rfl
@[go_sem] theorem tt_76:(∀ (s:AS) (p v:AV),aput (tt 24) s p v=aputz 1 s p v):=fun s p v=>aput_z rfl rfl s p v
@[go_sem] theorem tt_77:(∀ (s:AS) (p:AV),aload (tt 26) s p=(s.row p).bind fun r=>apart true 4 r.2 r.1):=by intro s p;unfold aload;cases s.row p <;> rfl
@[go_sem] theorem tt_78:(∀ ev:Operand→AV,arows tt ev (.alloc 26)=some (4,[[.nils,.nils,.nils,.int .i64 0]],26)):=by intros;rfl
@[go_sem] theorem tt_79:(∀ (ev:Operand→AV) (x:Operand),arows tt ev (.box 26 x)=if noL (ev x)=true∧(ev x).cells.length=4∧(ev x).cells.all AV.cell=true then some (4,[(ev x).cells],26) else none):=by intro ev x;simp [arows,tt,TI.knows]
@[go_sem] theorem tt_80:(∀ v:AV,afieldAddr (tt 26) 0 v=amove 0 v):=by intros;rfl
@[go_sem] theorem tt_81:(∀ cs:List AV,afield (tt 26) 0 (.agg cs)=apart false 1 0 cs):=by intros;rfl
@[go_sem] theorem tt_82:(∀ v:AV,afieldAddr (tt 26) 1 v=amove 1 v):=by intros;rfl
@[go_sem] theorem tt_83:(∀ cs:List AV,afield (tt 26) 1 (.agg cs)=apart false 1 1 cs):=by intros;rfl
@[go_sem] theorem tt_84:(∀ v:AV,afieldAddr (tt 26) 2 v=amove 2 v):=by intros;rfl
@[go_sem] theorem tt_85:(∀ cs:List AV,afield (tt 26) 2 (.agg cs)=apart false 1 2 cs):=by intros;rfl
@[go_sem] theorem tt_86:(∀ v:AV,afieldAddr (tt 26) 3 v=amove 3 v):=by intros;rfl
@[go_sem] theorem tt_87:(∀ cs:List AV,afield (tt 26) 3 (.agg cs)=apart false 1 3 cs):=by intros;rfl
@[go_sem] theorem tt_88:(∀ ps:List (Nat × AV),abuild tt 26 ps=(afill (fun i=>([(0,1),(1,1),(2,1),(3,1)]:List (Nat × Nat))[i]?) [.nils,.nils,.nils,.int .i64 0] ps).map .agg):=fun ps=>by show Option.map _ (afill _ _ _)=_;congr 2;funext i;rw [← List.getElem?_map];rfl
@[go_sem] theorem tt_89:(∀ (s:AS) (p v:AV),aput (tt 26) s p v=aputz 4 s p v):=fun s p v=>aput_z rfl rfl s p v
@[go_sem] theorem tt_90:(∀ (s:AS) (p:AV),aload (tt 27) s p=(s.row p).bind fun r=>apart false 1 r.2 r.1):=by intro s p;unfold aload;cases s.row p <;> rfl
@[go_sem] theorem tt_91:(∀ ev:Operand→AV,arows tt ev (.alloc 27)=some (1,[[.nils]],27)):=by intros;rfl
@[go_sem] theorem tt_92:(∀ (ev:Operand→AV) (x:Operand),arows tt ev (.box 27 x)=if noL (ev x)=true∧(ev x).cells.length=1∧(ev x).cells.all AV.cell=true then some (1,[(ev x).cells],27) else none):=by intro ev x;simp [arows,tt,TI.knows]
@[go_sem] theorem tt_93:(∀ (es:List (List AV)) (k:IntKind) (i:Int),aidx tt 27 (.lst 4 es) (.int k i)=if 0≤i∧i < es.length then some (.iptr (es.getD i.toNat []) 0) else none):=by intros;rfl
@[go_sem] theorem tt_94:(∀ (b:Bid) (o n:Nat) (k:IntKind) (i:Int),aidx tt 27 (.slc b 4 o n) (.int k i)=if 0≤i∧i < n then some (.ptr b (o+i.toNat) 0) else none):=by intros;rfl
@[go_sem] theorem tt_95:(∀ (b:Bid) (e o n:Nat),alen (tt 27) (.slc b e o n)=some (n:Int)):=by intros;rfl
@[go_sem] theorem tt_96:(∀ (e:Nat) (es:List (List AV)),alen (tt 27) (.lst e es)=some (es.length:Int)):=by intros;rfl
@[go_sem] theorem tt_97:(alen (tt 27) .nils=some 0):=by intros;rfl
@[go_sem] theorem tt_98:(∀ c:Bool,abin (tt 27) .eql c .nils .nils=some (.bool true)):=by intros;rfl
@[go_sem] theorem tt_99:(∀ (c:Bool) (b:Bid) (e i n:Nat),abin (tt 27) .eql c (.slc b e i n) .nils=some (.bool false)):=by intros;rfl
@[go_sem] theorem tt_100:(∀ (c:Bool) (e:Nat) (r:List AV) (es:List (List AV)),abin (tt 27) .eql c (.lst e (r :: es)) .nils=some (.bool false)):=by intros;rfl
@[go_sem] theorem tt_101:(∀ c:Bool,abin (tt 27) .neq c .nils .nils=some (.bool false)):=by intros;rfl
@[go_sem] theorem tt_102:(∀ (c:Bool) (b:Bid) (e i n:Nat),abin (tt 27) .neq c (.slc b e i n) .nils=some (.bool true)):=by intros;rfl
@[go_sem] theorem tt_103:(∀ (c:Bool) (e:Nat) (r:List AV) (es:List (List AV)),abin (tt 27) .neq c (.lst e (r :: es)) .nils=some (.bool true)):=by intros;rfl
@[go_sem] theorem tt_104:(elsize tt 27=4):=by intros;rfl
@[go_sem] theorem tt_105:(∀ (ev:Operand→AV) (n:Nat) (ps:List (Nat × Operand)),absl tt ev 27 n ps=if n≤16777216∧n * 4≤16777216∧ps.map (·.1)=List.range n∧(ps.all fun p=>noL (ev p.2) && ((ev p.2).cells.length == 4) && (ev p.2).cells.all AV.cell)=true then some (4,ps.map fun p=>(ev p.2).cells) else none):=by intros;rfl
@[go_sem] theorem tt_106:(∀ (k k':IntKind) (l c:Int),amake tt 27 (.int k l) (.int k' c)=if 0≤l∧l≤c∧c * 32≤70368744177664∧c≤70368744177664 then some (4,List.replicate l.toNat [.int .i64 0,.int .i64 0,.int .i64 0,.int .i64 0],l.toNat) else none):=by intros;rfl
@[go_sem] theorem tt_107:(∀ (h:AH) (x y:AV),acopy tt h 27 x y=acopyz 4 h x y):=fun h x y=>by unfold acopy acopyz;rfl
@[go_sem] theorem tt_108:(∀ (ez b1 o n:Nat) (b:Bid) (lo hi:Option AV),asl (tt 27) ez lo hi (.slc b b1 o n)=aslz n lo hi fun l h=>if b1=ez then some (.slc b b1 (o+l) (h - l)) else none):=fun ez b1 o n b lo hi=>asl_slc rfl ez lo hi b b1 o n
@[go_sem] theorem tt_109:(∀ (ez e:Nat) (es:List (List AV)) (lo hi:Option AV),asl (tt 27) ez lo hi (.lst e es)=aslz es.length lo hi fun l h=>if e=ez then some (.lst e ((es.drop l).take (h - l))) else none):=fun ez e es lo hi=>asl_lst rfl ez lo hi e es
@[go_sem] theorem tt_110:(∀ (h:AH) (id:Bid) (x y:AV),aapp tt h 27 id x y=aappz 4 32 h id x y):=fun h id x y=>by unfold aapp aappz;rfl
@[go_sem] theorem tt_111:(∀ (s:AS) (p v:AV),aput (tt 27) s p v=aputz 1 s p v):=fun s p v=>aput_z rfl rfl s p v
@[go_sem] theorem tt_112:(∀ (s:AS) (p:AV),aload (tt 29) s p=(s.row p).bind fun r=>apart true 4 r.2 r.1):=by intro s p;unfold aload;cases s.row p <;> rfl
@[go_sem] theorem tt_113:(∀ ev:Operand→AV,arows tt ev (.alloc 29)=some (4,[[.int .i64 0,.int .i64 0,.int .i64 0,.int .i64 0]],29)):=by intros;rfl
@[go_sem] theorem tt_114:(∀ (ev:Operand→AV) (x:Operand),arows tt ev (.box 29 x)=if noL (ev x)=true∧(ev x).cells.length=4∧(ev x).cells.all AV.cell=true then some (4,[(ev x).cells],29) else none):=by intro ev x;simp [arows,tt,TI.knows]
@[go_sem] theorem tt_115:(∀ v:AV,afieldAddr (tt 29) 0 v=amove 0 v):=by intros;rfl
@[go_sem] theorem tt_116:(∀ cs:List AV,afield (tt 29) 0 (.agg cs)=apart false 1 0 cs):=by intros;rfl
@[go_sem] theorem tt_117:(∀ v:AV,afieldAddr (tt 29) 1 v=amove 1 v):=by intros;rfl
@[go_sem] theorem tt_118:(∀ cs:List AV,afield (tt 29) 1 (.agg cs)=apart false 1 1 cs):=by intros;rfl
@[go_sem] theorem tt_119:(∀ v:AV,afieldAddr (tt 29) 2 v=amove 2 v):=by intros;rfl
@[go_sem] theorem tt_120:(∀ cs:List AV,afield (tt 29) 2 (.agg cs)=apart false 1 2 cs):=by intros;rfl
@[go_sem] theorem tt_121:(∀ v:AV,afieldAddr (tt 29) 3 v=amove 3 v):=by intros;rfl
@[go_sem] theorem tt_122:(∀ cs:List AV,afield (tt 29) 3 (.agg cs)=apart false 1 3 cs):=by intros;rfl
@[go_sem] theorem tt_123:(∀ ps:List (Nat × AV),abuild tt 29 ps=(afill (fun i=>([(0,1),(1,1),(2,1),(3,1)]:List (Nat × Nat))[i]?) [.int .i64 0,.int .i64 0,.int .i64 0,.int .i64 0] ps).map .agg):=fun ps=>by show Option.map _ (afill _ _ _)=_;congr 2;funext i;rw [← List.getElem?_map];rfl
@[go_sem] theorem tt_124:(∀ (c:Bool) (x y:List AV),abin (tt 29) .eql c (.agg x) (.agg y)=aeql 4 (fun b=>b) (ints x) (ints y)):=fun c x y=>by cases hx:ints x <;> cases hy:ints y <;> simp [tt,abin,aeql,hx,hy]
@[go_sem] theorem tt_125:(∀ (c:Bool) (x y:List AV),abin (tt 29) .neq c (.agg x) (.agg y)=aeql 4 (fun b=>!b) (ints x) (ints y)):=fun c x y=>by cases hx:ints x <;> cases hy:ints y <;> simp [tt,abin,aeql,hx,hy]
@[go_sem] theorem tt_126:(∀ (s:AS) (p v:AV),aput (tt 29) s p v=aputz 4 s p v):=fun s p v=>aput_z rfl rfl s p v
@[go_sem] theorem tt_127:(∀ (s:AS) (p:AV),aload (tt 36) s p=(s.row p).bind fun r=>apart false 1 r.2 r.1):=by intro s p;unfold aload;cases s.row p <;> rfl
@[go_sem] theorem tt_128:(∀ ev:Operand→AV,arows tt ev (.alloc 36)=some (1,[[.int .i64 0]],36)):=by intros;rfl
@[go_sem] theorem tt_129:(∀ (ev:Operand→AV) (x:Operand),arows tt ev (.box 36 x)=if noL (ev x)=true∧(ev x).cells.length=1∧(ev x).cells.all AV.cell=true then some (1,[(ev x).cells],36) else none):=by intro ev x;simp [arows,tt,TI.knows]
@[go_sem] theorem tt_130:(∀ (s:AS) (p v:AV),aput (tt 36) s p v=aputz 1 s p v):=fun s p v=>aput_z rfl rfl s p v
@[go_sem] theorem tt_131:(∀ (s:AS) (p:AV),aload (tt 41) s p=(s.row p).bind fun r=>apart false 1 r.2 r.1):=by intro s p;unfold aload;cases s.row p <;> rfl
@[go_sem] theorem tt_132:(∀ ev:Operand→AV,arows tt ev (.alloc 41)=some (1,[[.nils]],41)):=by intros;rfl
@[go_sem] theorem tt_133:(∀ (ev:Operand→AV) (x:Operand),arows tt ev (.box 41 x)=if noL (ev x)=true∧(ev x).cells.length=1∧(ev x).cells.all AV.cell=true then some (1,[(ev x).cells],41) else none):=by intro ev x;simp [arows,tt,TI.knows]
@[go_sem] theorem tt_134:(∀ (es:List (List AV)) (k:IntKind) (i:Int),aidx tt 41 (.lst 4 es) (.int k i)=if 0≤i∧i < es.length then some (.iptr (es.getD i.toNat []) 0) else none):=by intros;rfl
@[go_sem] theorem tt_135:(∀ (b:Bid) (o n:Nat) (k:IntKind) (i:Int),aidx tt 41 (.slc b 4 o n) (.int k i)=if 0≤i∧i < n then some (.ptr b (o+i.toNat) 0) else none):=by intros;rfl
@[go_sem] theorem tt_136:(∀ (b:Bid) (e o n:Nat),alen (tt 41) (.slc b e o n)=some (n:Int)):=by intros;rfl
@[go_sem] theorem tt_137:(∀ (e:Nat) (es:List (List AV)),alen (tt 41) (.lst e es)=some (es.length:Int)):=by intros;rfl
@[go_sem] theorem tt_138:(alen (tt 41) .nils=some 0):=by intros;rfl
@[go_sem] theorem tt_139:(∀ c:Bool,abin (tt 41) .eql c .nils .nils=some (.bool true)):=by intros;rfl
@[go_sem] theorem tt_140:(∀ (c:Bool) (b:Bid) (e i n:Nat),abin (tt 41) .eql c (.slc b e i n) .nils=some (.bool false)):=by intros;rfl
@[go_sem] theorem tt_141:(∀ (c:Bool) (e:Nat) (r:List AV) (es:List (List AV)),abin (tt 41) .eql c (.lst e (r :: es)) .nils=some (.bool false)):=by intros;rfl
@[go_sem] theorem tt_142:(∀ c:Bool,abin (tt 41) .neq c .nils .nils=some (.bool false)):=by intros;rfl
@[go_sem] theorem tt_143:(∀ (c:Bool) (b:Bid) (e i n:Nat),abin (tt 41) .neq c (.slc b e i n) .nils=some (.bool true)):=by intros;rfl
@[go_sem] theorem tt_144:(∀ (c:Bool) (e:Nat) (r:List AV) (es:List (List AV)),abin (tt 41) .neq c (.lst e (r :: es)) .nils=some (.bool true)):=by intros;rfl
@[go_sem] theorem tt_145:(elsize tt 41=4):=by intros;rfl
@[go_sem] theorem tt_146:(∀ (ev:Operand→AV) (n:Nat) (ps:List (Nat × Operand)),absl tt ev 41 n ps=if n≤16777216∧n * 4≤16777216∧ps.map (·.1)=List.range n∧(ps.all fun p=>noL (ev p.2) && ((ev p.2).cells.length == 4) && (ev p.2).cells.all AV.cell)=true then some (4,ps.map fun p=>(ev p.2).cells) else none):=by intros;rfl
@[go_sem] theorem tt_147:(∀ (k k':IntKind) (l c:Int),amake tt 41 (.int k l) (.int k' c)=if 0≤l∧l≤c∧c * 80≤70368744177664∧c≤70368744177664 then some (4,List.replicate l.toNat [.nils,.nils,.nils,.int .i64 0],l.toNat) else none):=by intros;rfl
@[go_sem] theorem tt_148:(∀ (h:AH) (x y:AV),acopy tt h 41 x y=acopyz 4 h x y):=fun h x y=>by unfold acopy acopyz;rfl
@[go_sem] theorem tt_149:(∀ (ez b1 o n:Nat) (b:Bid) (lo hi:Option AV),asl (tt 41) ez lo hi (.slc b b1 o n)=aslz n lo hi fun l h=>if b1=ez then some (.slc b b1 (o+l) (h - l)) else none):=fun ez b1 o n b lo hi=>asl_slc rfl ez lo hi b b1 o n
@[go_sem] theorem tt_150:(∀ (ez e:Nat) (es:List (List AV)) (lo hi:Option AV),asl (tt 41) ez lo hi (.lst e es)=aslz es.length lo hi fun l h=>if e=ez then some (.lst e ((es.drop l).take (h - l))) else none):=fun ez e es lo hi=>asl_lst rfl ez lo hi e es
@[go_sem] theorem tt_151:(∀ (h:AH) (id:Bid) (x y:AV),aapp tt h 41 id x y=aappz 4 80 h id x y):=fun h id x y=>by unfold aapp aappz;rfl
@[go_sem] theorem tt_152:(∀ (s:AS) (p v:AV),aput (tt 41) s p v=aputz 1 s p v):=fun s p v=>aput_z rfl rfl s p v
@[go_sem] theorem tt_153:(∀ (s:AS) (p:AV),aload (tt 42) s p=(s.row p).bind fun r=>apart false 1 r.2 r.1):=by intro s p;unfold aload;cases s.row p <;> rfl
@[go_sem] theorem tt_154:(∀ ev:Operand→AV,arows tt ev (.alloc 42)=some (1,[[.nils]],42)):=by intros;rfl
@[go_sem] theorem tt_155:(∀ (ev:Operand→AV) (x:Operand),arows tt ev (.box 42 x)=if noL (ev x)=true∧(ev x).cells.length=1∧(ev x).cells.all AV.cell=true then some (1,[(ev x).cells],42) else none):=by intro ev x;simp [arows,tt,TI.knows]
@[go_sem] theorem tt_156:(∀ (es:List (List AV)) (k:IntKind) (i:Int),aidx tt 42 (.lst 1 es) (.int k i)=if 0≤i∧i < es.length then some (.iptr (es.getD i.toNat []) 0) else none):=by intros;rfl
@[go_sem] theorem tt_157:(∀ (b:Bid) (o n:Nat) (k:IntKind) (i:Int),aidx tt 42 (.slc b 1 o n) (.int k i)=if 0≤i∧i < n then some (.ptr b (o+i.toNat) 0) else none):=by intros;rfl
@[go_sem] theorem tt_158:(∀ (b:Bid) (e o n:Nat),alen (tt 42) (.slc b e o n)=some (n:Int)):=by intros;rfl
@[go_sem] theorem tt_159:(∀ (e:Nat) (es:List (List AV)),alen (tt 42) (.lst e es)=some (es.length:Int)):=by intros;rfl
@[go_sem] theorem tt_160:(alen (tt 42) .nils=some 0):=by intros;rfl
@[go_sem] theorem tt_161:(∀ c:Bool,abin (tt 42) .eql c .nils .nils=some (.bool true)):=by intros;rfl
@[go_sem] theorem tt_162:(∀ (c:Bool) (b:Bid) (e i n:Nat),abin (tt 42) .eql c (.slc b e i n) .nils=some (.bool false)):=by intros;rfl
@[go_sem] theorem tt_163:(∀ (c:Bool) (e:Nat) (r:List AV) (es:List (List AV)),abin (tt 42) .eql c (.lst e (r :: es)) .nils=some (.bool false)):=by intros;rfl
@[go_sem] theorem tt_164:(∀ c:Bool,abin (tt 42) .neq c .nils .nils=some (.bool false)):=by intros;rfl
@[go_sem] theorem tt_165:(∀ (c:Bool) (b:Bid) (e i n:Nat),abin (tt 42) .neq c (.slc b e i n) .nils=some (.bool true)):=by intros;rfl
@[go_sem] theorem tt_166:(∀ (c:Bool) (e:Nat) (r:List AV) (es:List (List AV)),abin (tt 42) .neq c (.lst e (r :: es)) .nils=some (.bool true)):=by intros;rfl
@[go_sem] theorem tt_167:(elsize tt 42=1):=by intros;rfl
@[go_sem] theorem tt_168:(∀ (ev:Operand→AV) (n:Nat) (ps:List (Nat × Operand)),absl tt ev 42 n ps=if n≤16777216∧n * 1≤16777216∧ps.map (·.1)=List.range n∧(ps.all fun p=>noL (ev p.2) && ((ev p.2).cells.length == 1) && (ev p.2).cells.all AV.cell)=true then some (1,ps.map fun p=>(ev p.2).cells) else none):=by intros;rfl
@[go_sem] theorem tt_169:(∀ (k k':IntKind) (l c:Int),amake tt 42 (.int k l) (.int k' c)=if 0≤l∧l≤c∧c * 24≤70368744177664∧c≤70368744177664 then some (1,List.replicate l.toNat [.nils],l.toNat) else none):=by intros;rfl
@[go_sem] theorem tt_170:(∀ (h:AH) (x y:AV),acopy tt h 42 x y=acopyz 1 h x y):=fun h x y=>by unfold acopy acopyz;rfl
@[go_sem] theorem tt_171:(∀ (ez b1 o n:Nat) (b:Bid) (lo hi:Option AV),asl (tt 42) ez lo hi (.slc b b1 o n)=aslz n lo hi fun l h=>if b1=ez then some (.slc b b1 (o+l) (h - l)) else none):=fun ez b1 o n b lo hi=>asl_slc rfl ez lo hi b b1 o n
@[go_sem] theorem tt_172:(∀ (ez e:Nat) (es:List (List AV)) (lo hi:Option AV),asl (tt 42) ez lo hi (.lst e es)=aslz es.length lo hi fun l h=>if e=ez then some (.lst e ((es.drop l).take (h - l))) else none):=fun ez e es lo hi=>asl_lst rfl ez lo hi e es
@[go_sem] theorem tt_173:(∀ (h:AH) (id:Bid) (x y:AV),aapp tt h 42 id x y=aappz 1 24 h id x y):=fun h id x y=>by unfold aapp aappz;rfl
@[go_sem] theorem tt_174:(∀ (s:AS) (p v:AV),aput (tt 42) s p v=aputz 1 s p v):=fun s p v=>aput_z rfl rfl s p v
@[go_sem] theorem tt_175:(∀ (s:AS) (p:AV),aload (tt 50) s p=(s.row p).bind fun r=>apart false 1 r.2 r.1):=by intro s p;unfold aload;cases s.row p <;> rfl
@[go_sem] theorem tt_176:(∀ ev:Operand→AV,arows tt ev (.alloc 50)=some (1,[[.nils]],50)):=by intros;rfl
@[go_sem] theorem tt_177:(∀ (ev:Operand→AV) (x:Operand),arows tt ev (.box 50 x)=if noL (ev x)=true∧(ev x).cells.length=1∧(ev x).cells.all AV.cell=true then some (1,[(ev x).cells],50) else none):=by intro ev x;simp [arows,tt,TI.knows]
@[go_sem] theorem tt_178:(∀ (es:List (List AV)) (k:IntKind) (i:Int),aidx tt 50 (.lst 1 es) (.int k i)=if 0≤i∧i < es.length then some (.iptr (es.getD i.toNat []) 0) else none):=by intros;rfl
@[go_sem] theorem tt_179:(∀ (b:Bid) (o n:Nat) (k:IntKind) (i:Int),aidx tt 50 (.slc b 1 o n) (.int k i)=if 0≤i∧i < n then some (.ptr b (o+i.toNat) 0) else none):=by intros;rfl
@[go_sem] theorem tt_180:(∀ (b:Bid) (e o n:Nat),alen (tt 50) (.slc b e o n)=some (n:Int)):=by intros;rfl
@[go_sem] theorem tt_181:(∀ (e:Nat) (es:List (List AV)),alen (tt 50) (.lst e es)=some (es.length:Int)):=by intros;rfl
@[go_sem] theorem tt_182:(alen (tt 50) .nils=some 0):=by intros;rfl
@[go_sem] theorem tt_183:(∀ c:Bool,abin (tt 50) .eql c .nils .nils=some (.bool true)):=by intros;rfl
@[go_sem] theorem tt_184:(∀ (c:Bool) (b:Bid) (e i n:Nat),abin (tt 50) .eql c (.slc b e i n) .nils=some (.bool false)):=by intros;rfl
@[go_sem] theorem tt_185:(∀ (c:Bool) (e:Nat) (r:List AV) (es:List (List AV)),abin (tt 50) .eql c (.lst e (r :: es)) .nils=some (.bool false)):=by intros;rfl
@[go_sem] theorem tt_186:(∀ c:Bool,abin (tt 50) .neq c .nils .nils=some (.bool false)):=by intros;rfl
@[go_sem] theorem tt_187:(∀ (c:Bool) (b:Bid) (e i n:Nat),abin (tt 50) .neq c (.slc b e i n) .nils=some (.bool true)):=by intros;rfl
@[go_sem] theorem tt_188:(∀ (c:Bool) (e:Nat) (r:List AV) (es:List (List AV)),abin (tt 50) .neq c (.lst e (r :: es)) .nils=some (.bool true)):=by intros;rfl
@[go_sem] theorem tt_189:(elsize tt 50=1):=by intros;rfl
@[go_sem] theorem tt_190:(∀ (ev:Operand→AV) (n:Nat) (ps:List (Nat × Operand)),absl tt ev 50 n ps=if n≤16777216∧n * 1≤16777216∧ps.map (·.1)=List.range n∧(ps.all fun p=>noL (ev p.2) && ((ev p.2).cells.length == 1) && (ev p.2).cells.all AV.cell)=true then some (1,ps.map fun p=>(ev p.2).cells) else none):=by intros;rfl
@[go_sem] theorem tt_191:(∀ (k k':IntKind) (l c:Int),amake tt 50 (.int k l) (.int k' c)=if 0≤l∧l≤c∧c * 24≤70368744177664∧c≤70368744177664 then some (1,List.replicate l.toNat [.nils],l.toNat) else none):=by intros;rfl
@[go_sem] theorem tt_192:(∀ (h:AH) (x y:AV),acopy tt h 50 x y=acopyz 1 h x y):=fun h x y=>by unfold acopy acopyz;rfl
@[go_sem] theorem tt_193:(∀ (ez b1 o n:Nat) (b:Bid) (lo hi:Option AV),asl (tt 50) ez lo hi (.slc b b1 o n)=aslz n lo hi fun l h=>if b1=ez then some (.slc b b1 (o+l) (h - l)) else none):=fun ez b1 o n b lo hi=>asl_slc rfl ez lo hi b b1 o n
@[go_sem] theorem tt_194:(∀ (ez e:Nat) (es:List (List AV)) (lo hi:Option AV),asl (tt 50) ez lo hi (.lst e es)=aslz es.length lo hi fun l h=>if e=ez then some (.lst e ((es.drop l).take (h - l))) else none):=fun ez e es lo hi=>asl_lst rfl ez lo hi e es
@[go_sem] theorem tt_195:(∀ (h:AH) (id:Bid) (x y:AV),aapp tt h 50 id x y=aappz 1 24 h id x y):=fun h id x y=>by unfold aapp aappz;rfl
@[go_sem] theorem tt_196:(∀ (s:AS) (p v:AV),aput (tt 50) s p v=aputz 1 s p v):=fun s p v=>aput_z rfl rfl s p v
@[go_sem] theorem tt_197:(∀ (s:AS) (p:AV),aload (tt 56) s p=(s.row p).bind fun r=>apart false 1 r.2 r.1):=by intro s p;unfold aload;cases s.row p <;> rfl
@[go_sem] theorem tt_198:(∀ ev:Operand→AV,arows tt ev (.alloc 56)=some (1,[[.nils]],56)):=by intros;rfl
@[go_sem] theorem tt_199:(∀ (ev:Operand→AV) (x:Operand),arows tt ev (.box 56 x)=if noL (ev x)=true∧(ev x).cells.length=1∧(ev x).cells.all AV.cell=true then some (1,[(ev x).cells],56) else none):=by intro ev x;simp [arows,tt,TI.knows]
@[go_sem] theorem tt_200:(∀ (es:List (List AV)) (k:IntKind) (i:Int),aidx tt 56 (.lst 2 es) (.int k i)=if 0≤i∧i < es.length then some (.iptr (es.getD i.toNat []) 0) else none):=by intros;rfl
@[go_sem] theorem tt_201:(∀ (b:Bid) (o n:Nat) (k:IntKind) (i:Int),aidx tt 56 (.slc b 2 o n) (.int k i)=if 0≤i∧i < n then some (.ptr b (o+i.toNat) 0) else none):=by intros;rfl
@[go_sem] theorem tt_202:(∀ (b:Bid) (e o n:Nat),alen (tt 56) (.slc b e o n)=some (n:Int)):=by intros;rfl
@[go_sem] theorem tt_203:(∀ (e:Nat) (es:List (List AV)),alen (tt 56) (.lst e es)=some (es.length:Int)):=by intros;rfl
@[go_sem] theorem tt_204:(alen (tt 56) .nils=some 0):=by intros;rfl
@[go_sem] theorem tt_205:(∀ c:Bool,abin (tt 56) .eql c .nils .nils=some (.bool true)):=by intros;rfl
@[go_sem] theorem tt_206:(∀ (c:Bool) (b:Bid) (e i n:Nat),abin (tt 56) .eql c (.slc b e i n) .nils=some (.bool false)):=by intros;rfl
@[go_sem] theorem tt_207:(∀ (c:Bool) (e:Nat) (r:List AV) (es:List (List AV)),abin (tt 56) .eql c (.lst e (r :: es)) .nils=some (.bool false)):=by intros;rfl
@[go_sem] theorem tt_208:(∀ c:Bool,abin (tt 56) .neq c .nils .nils=some (.bool false)):=by intros;rfl
@[go_sem] theorem tt_209:(∀ (c:Bool) (b:Bid) (e i n:Nat),abin (tt 56) .neq c (.slc b e i n) .nils=some (.bool true)):=by intros;rfl
@[go_sem] theorem tt_210:(∀ (c:Bool) (e:Nat) (r:List AV) (es:List (List AV)),abin (tt 56) .neq c (.lst e (r :: es)) .nils=some (.bool true)):=by intros;rfl
@[go_sem] theorem tt_211:(elsize tt 56=2):=by intros;rfl
@[go_sem] theorem tt_212:(∀ (ev:Operand→AV) (n:Nat) (ps:List (Nat × Operand)),absl tt ev 56 n ps=if n≤16777216∧n * 2≤16777216∧ps.map (·.1)=List.range n∧(ps.all fun p=>noL (ev p.2) && ((ev p.2).cells.length == 2) && (ev p.2).cells.all AV.cell)=true then some (2,ps.map fun p=>(ev p.2).cells) else none):=by intros;rfl
@[go_sem] theorem tt_213:(∀ (k k':IntKind) (l c:Int),amake tt 56 (.int k l) (.int k' c)=if 0≤l∧l≤c∧c * 16≤70368744177664∧c≤70368744177664 then some (2,List.replicate l.toNat [.int .i64 0,.int .i64 0],l.toNat) else none):=by intros;rfl
@[go_sem] theorem tt_214:(∀ (h:AH) (x y:AV),acopy tt h 56 x y=acopyz 2 h x y):=fun h x y=>by unfold acopy acopyz;rfl
@[go_sem] theorem tt_215:(∀ (ez b1 o n:Nat) (b:Bid) (lo hi:Option AV),asl (tt 56) ez lo hi (.slc b b1 o n)=aslz n lo hi fun l h=>if b1=ez then some (.slc b b1 (o+l) (h - l)) else none):=fun ez b1 o n b lo hi=>asl_slc rfl ez lo hi b b1 o n
@[go_sem] theorem tt_216:(∀ (ez e:Nat) (es:List (List AV)) (lo hi:Option AV),asl (tt 56) ez lo hi (.lst e es)=aslz es.length lo hi fun l h=>if e=ez then some (.lst e ((es.drop l).take (h - l))) else none):=fun ez e es lo hi=>asl_lst rfl ez lo hi e es
@[go_sem] theorem tt_217:(∀ (h:AH) (id:Bid) (x y:AV),aapp tt h 56 id x y=aappz 2 16 h id x y):=fun h id x y=>by unfold aapp aappz;rfl
@[go_sem] theorem tt_218:(∀ (s:AS) (p v:AV),aput (tt 56) s p v=aputz 1 s p v):=fun s p v=>aput_z rfl rfl s p v
@[go_sem] theorem tt_219:(∀ (s:AS) (p:AV),aload (tt 59) s p=(s.row p).bind fun r=>apart false 1 r.2 r.1):=by intro s p;unfold aload;cases s.row p <;> rfl
@[go_sem] theorem tt_220:(∀ ev:Operand→AV,arows tt ev (.alloc 59)=some (1,[[.nils]],59)):=by intros;rfl
@[go_sem] theorem tt_221:(∀ (ev:Operand→AV) (x:Operand),arows tt ev (.box 59 x)=if noL (ev x)=true∧(ev x).cells.length=1∧(ev x).cells.all AV.cell=true then some (1,[(ev x).cells],59) else none):=by intro ev x;simp [arows,tt,TI.knows]
@[go_sem] theorem tt_222:(∀ (es:List (List AV)) (k:IntKind) (i:Int),aidx tt 59 (.lst 2 es) (.int k i)=if 0≤i∧i < es.length then some (.iptr (es.getD i.toNat []) 0) else none):=by intros;rfl
@[go_sem] theorem tt_223:(∀ (b:Bid) (o n:Nat) (k:IntKind) (i:Int),aidx tt 59 (.slc b 2 o n) (.int k i)=if 0≤i∧i < n then some (.ptr b (o+i.toNat) 0) else none):=by intros;rfl
@[go_sem] theorem tt_224:(∀ (b:Bid) (e o n:Nat),alen (tt 59) (.slc b e o n)=some (n:Int)):=by intros;rfl
@[go_sem] theorem tt_225:(∀ (e:Nat) (es:List (List AV)),alen (tt 59) (.lst e es)=some (es.length:Int)):=by intros;rfl
@[go_sem] theorem tt_226:(alen (tt 59) .nils=some 0):=by intros;rfl
@[go_sem] theorem tt_227:(∀ c:Bool,abin (tt 59) .eql c .nils .nils=some (.bool true)):=by intros;rfl
@[go_sem] theorem tt_228:(∀ (c:Bool) (b:Bid) (e i n:Nat),abin (tt 59) .eql c (.slc b e i n) .nils=some (.bool false)):=by intros;rfl
@[go_sem] theorem tt_229:(∀ (c:Bool) (e:Nat) (r:List AV) (es:List (List AV)),abin (tt 59) .eql c (.lst e (r :: es)) .nils=some (.bool false)):=by intros;rfl
@[go_sem] theorem tt_230:(∀ c:Bool,abin (tt 59) .neq c .nils .nils=some (.bool false)):=by intros;rfl
@[go_sem] theorem tt_231:(∀ (c:Bool) (b:Bid) (e i n:Nat),abin (tt 59) .neq c (.slc b e i n) .nils=some (.bool true)):=by intros;rfl
@[go_sem] theorem tt_232:(∀ (c:Bool) (e:Nat) (r:List AV) (es:List (List AV)),abin (tt 59) .neq c (.lst e (r :: es)) .nils=some (.bool true)):=by intros;rfl
@[go_sem] theorem tt_233:(elsize tt 59=2):=by intros;rfl
@[go_sem] theorem tt_234:(∀ (ev:Operand→AV) (n:Nat) (ps:List (Nat × Operand)),absl tt ev 59 n ps=if n≤16777216∧n * 2≤16777216∧ps.map (·.1)=List.range n∧(ps.all fun p=>noL (ev p.2) && ((ev p.2).cells.length == 2) && (ev p.2).cells.all AV.cell)=true then some (2,ps.map fun p=>(ev p.2).cells) else none):=by intros;rfl
@[go_sem] theorem tt_235:(∀ (k k':IntKind) (l c:Int),amake tt 59 (.int k l) (.int k' c)=if 0≤l∧l≤c∧c * 16≤70368744177664∧c≤70368744177664 then some (2,List.replicate l.toNat [.int .i64 0,.int .i64 0],l.toNat) else none):=by intros;rfl
@[go_sem] theorem tt_236:(∀ (h:AH) (x y:AV),acopy tt h 59 x y=acopyz 2 h x y):=fun h x y=>by unfold acopy acopyz;rfl
@[go_sem] theorem tt_237:(∀ (ez b1 o n:Nat) (b:Bid) (lo hi:Option AV),asl (tt 59) ez lo hi (.slc b b1 o n)=aslz n lo hi fun l h=>if b1=ez then some (.slc b b1 (o+l) (h - l)) else none):=fun ez b1 o n b lo hi=>asl_slc rfl ez lo hi b b1 o n
@[go_sem] theorem tt_238:(∀ (ez e:Nat) (es:List (List AV)) (lo hi:Option AV),asl (tt 59) ez lo hi (.lst e es)=aslz es.length lo hi fun l h=>if e=ez then some (.lst e ((es.drop l).take (h - l))) else none):=fun ez e es lo hi=>asl_lst rfl ez lo hi e es
@[go_sem] theorem tt_239:(∀ (h:AH) (id:Bid) (x y:AV),aapp tt h 59 id x y=aappz 2 16 h id x y):=fun h id x y=>by unfold aapp aappz;rfl
@[go_sem] theorem tt_240:(∀ (s:AS) (p v:AV),aput (tt 59) s p v=aputz 1 s p v):=fun s p v=>aput_z rfl rfl s p v
@[go_sem] theorem tt_241:(∀ (s:AS) (p:AV),aload (tt 61) s p=(s.row p).bind fun r=>apart true 2 r.2 r.1):=by intro s p;unfold aload;cases s.row p <;> rfl
@[go_sem] theorem tt_242:(∀ ev:Operand→AV,arows tt ev (.alloc 61)=some (2,[[.int .i64 0,.int .i64 0]],61)):=by intros;rfl
@[go_sem] theorem tt_243:(∀ (ev:Operand→AV) (x:Operand),arows tt ev (.box 61 x)=if noL (ev x)=true∧(ev x).cells.length=2∧(ev x).cells.all AV.cell=true then some (2,[(ev x).cells],61) else none):=by intro ev x;simp [arows,tt,TI.knows]
@[go_sem] theorem tt_244:(∀ v:AV,afieldAddr (tt 61) 0 v=amove 0 v):=by intros;rfl
@[go_sem] theorem tt_245:(∀ cs:List AV,afield (tt 61) 0 (.agg cs)=apart false 1 0 cs):=by intros;rfl
@[go_sem] theorem tt_246:(∀ v:AV,afieldAddr (tt 61) 1 v=amove 1 v):=by intros;rfl
@[go_sem] theorem tt_247:(∀ cs:List AV,afield (tt 61) 1 (.agg cs)=apart false 1 1 cs):=by intros;rfl
@[go_sem] theorem tt_248:(∀ ps:List (Nat × AV),abuild tt 61 ps=(afill (fun i=>([(0,1),(1,1)]:List (Nat × Nat))[i]?) [.int .i64 0,.int .i64 0] ps).map .agg):=fun ps=>by show Option.map _ (afill _ _ _)=_;congr 2;funext i;rw [← List.getElem?_map];rfl
@[go_sem] theorem tt_249:(∀ (c:Bool) (x y:List AV),abin (tt 61) .eql c (.agg x) (.agg y)=aeql 2 (fun b=>b) (ints x) (ints y)):=fun c x y=>by cases hx:ints x <;> cases hy:ints y <;> simp [tt,abin,aeql,hx,hy]
@[go_sem] theorem tt_250:(∀ (c:Bool) (x y:List AV),abin (tt 61) .neq c (.agg x) (.agg y)=aeql 2 (fun b=>!b) (ints x) (ints y)):=fun c x y=>by cases hx:ints x <;> cases hy:ints y <;> simp [tt,abin,aeql,hx,hy]
@[go_sem] theorem tt_251:(∀ (s:AS) (p v:AV),aput (tt 61) s p v=aputz 2 s p v):=fun s p v=>aput_z rfl rfl s p v
@[go_sem] theorem tt_252:(∀ (s:AS) (p:AV),aload (tt 63) s p=(s.row p).bind fun r=>apart true 7 r.2 r.1):=by intro s p;unfold aload;cases s.row p <;> rfl
@[go_sem] theorem tt_253:(∀ ev:Operand→AV,arows tt ev (.alloc 63)=some (7,[[.int .i64 0,.int .i64 0,.int .i64 0,.int .i64 0,.int .i64 0,.int .i64 0,.nils]],63)):=by intros;rfl
@[go_sem] theorem tt_254:(∀ (ev:Operand→AV) (x:Operand),arows tt ev (.box 63 x)=if noL (ev x)=true∧(ev x).cells.length=7∧(ev x).cells.all AV.cell=true then some (7,[(ev x).cells],63) else none):=by intro ev x;simp [arows,tt,TI.knows]
@[go_sem] theorem tt_255:(∀ v:AV,afieldAddr (tt 63) 0 v=amove 0 v):=by intros;rfl
@[go_sem] theorem tt_256:(∀ cs:List AV,afield (tt 63) 0 (.agg cs)=apart true 2 0 cs):=by intros;rfl
@[go_sem] theorem tt_257:(∀ v:AV,afieldAddr (tt 63) 1 v=amove 2 v):=by intros;rfl
@[go_sem] theorem tt_258:(∀ cs:List AV,afield (tt 63) 1 (.agg cs)=apart true 2 2 cs):=by intros;rfl
@[go_sem] theorem tt_259:(∀ v:AV,afieldAddr (tt 63) 2 v=amove 4 v):=by intros;rfl
@[go_sem] theorem tt_260:(∀ cs:List AV,afield (tt 63) 2 (.agg cs)=apart false 1 4 cs):=by intros;rfl
@[go_sem] theorem tt_261:(∀ v:AV,afieldAddr (tt 63) 3 v=amove 5 v):=by intros;rfl
@[go_sem] theorem tt_262:(∀ cs:List AV,afield (tt 63) 3 (.agg cs)=apart false 1 5 cs):=by intros;rfl
@[go_sem] theorem tt_263:(∀ v:AV,afieldAddr (tt 63) 4 v=amove 6 v):=by intros;rfl
@[go_sem] theorem tt_264:(∀ cs:List AV,afield (tt 63) 4 (.agg cs)=apart false 1 6 cs):=by intros;rfl
@[go_sem] theorem tt_265:(∀ ps:List (Nat × AV),abuild tt 63 ps=(afill (fun i=>([(0,2),(2,2),(4,1),(5,1),(6,1)]:List (Nat × Nat))[i]?) [.int .i64 0,.int .i64 0,.int .i64 0,.int .i64 0,.int .i64 0,.int .i64 0,.nils] ps).map .agg):=fun ps=>by show Option.map _ (afill _ _ _)=_;congr 2;funext i;rw [← List.getElem?_map];rfl
@[go_sem] theorem tt_266:(∀ (s:AS) (p v:AV),aput (tt 63) s p v=aputz 7 s p v):=fun s p v=>aput_z rfl rfl s p v
@[go_sem] theorem tt_267:(∀ (s:AS) (p:AV),aload (tt 65) s p=(s.row p).bind fun r=>apart true 2 r.2 r.1):=by intro s p;unfold aload;cases s.row p <;> rfl
@[go_sem] theorem tt_268:(∀ ev:Operand→AV,arows tt ev (.alloc 65)=some (2,[[.int .i64 0,.int .i64 0]],65)):=by intros;rfl
@[go_sem] theorem tt_269:(∀ (ev:Operand→AV) (x:Operand),arows tt ev (.box 65 x)=if noL (ev x)=true∧(ev x).cells.length=2∧(ev x).cells.all AV.cell=true then some (2,[(ev x).cells],65) else none):=by intro ev x;simp [arows,tt,TI.knows]
@[go_sem] theorem tt_270:(∀ v:AV,afieldAddr (tt 65) 0 v=amove 0 v):=by intros;rfl
@[go_sem] theorem tt_271:(∀ cs:List AV,afield (tt 65) 0 (.agg cs)=apart false 1 0 cs):=by intros;rfl
@[go_sem] theorem tt_272:(∀ v:AV,afieldAddr (tt 65) 1 v=amove 1 v):=by intros;rfl
@[go_sem] theorem tt_273:(∀ cs:List AV,afield (tt 65) 1 (.agg cs)=apart false 1 1 cs):=by intros;rfl
@[go_sem] theorem tt_274:(∀ ps:List (Nat × AV),abuild tt 65 ps=(afill (fun i=>([(0,1),(1,1)]:List (Nat × Nat))[i]?) [.int .i64 0,.int .i64 0] ps).map .agg):=fun ps=>by show Option.map _ (afill _ _ _)=_;congr 2;funext i;rw [← List.getElem?_map];rfl
@[go_sem] theorem tt_275:(∀ (s:AS) (p v:AV),aput (tt 65) s p v=aputz 2 s p v):=fun s p v=>aput_z rfl rfl s p v
@[go_sem] theorem tt_276:(∀ (s:AS) (p:AV),aload (tt 69) s p=(s.row p).bind fun r=>apart false 1 r.2 r.1):=by intro s p;unfold aload;cases s.row p <;> rfl
@[go_sem] theorem tt_277:(∀ ev:Operand→AV,arows tt ev (.alloc 69)=some (1,[[.nilfn]],69)):=by intros;rfl
@[go_sem] theorem tt_278:(∀ (ev:Operand→AV) (x:Operand),arows tt ev (.box 69 x)=if noL (ev x)=true∧(ev x).cells.length=1∧(ev x).cells.all AV.cell=true then some (1,[(ev x).cells],69) else none):=by intro ev x;simp [arows,tt,TI.knows]
@[go_sem] theorem tt_279:(∀ (s:AS) (p v:AV),aput (tt 69) s p v=aputz 1 s p v):=fun s p v=>aput_z rfl rfl s p v
@[go_sem] theorem tt_280:(∀ (s:AS) (p:AV),aload (tt 76) s p=(s.row p).bind fun r=>apart false 1 r.2 r.1):=by intro s p;unfold aload;cases s.row p <;> rfl
@[go_sem] theorem tt_281:(∀ ev:Operand→AV,arows tt ev (.alloc 76)=some (1,[[.nils]],76)):=by intros;rfl
@[go_sem] theorem tt_282:(∀ (ev:Operand→AV) (x:Operand),arows tt ev (.box 76 x)=if noL (ev x)=true∧(ev x).cells.length=1∧(ev x).cells.all AV.cell=true then some (1,[(ev x).cells],76) else none):=by intro ev x;simp [arows,tt,TI.knows]
@[go_sem] theorem tt_283:(∀ (es:List (List AV)) (k:IntKind) (i:Int),aidx tt 76 (.lst 1 es) (.int k i)=if 0≤i∧i < es.length then some (.iptr (es.getD i.toNat []) 0) else none):=by intros;rfl
@[go_sem] theorem tt_284:(∀ (b:Bid) (o n:Nat) (k:IntKind) (i:Int),aidx tt 76 (.slc b 1 o n) (.int k i)=if 0≤i∧i < n then some (.ptr b (o+i.toNat) 0) else none):=by intros;rfl
@[go_sem] theorem tt_285:(∀ (b:Bid) (e o n:Nat),alen (tt 76) (.slc b e o n)=some (n:Int)):=by intros;rfl
@[go_sem] theorem tt_286:(∀ (e:Nat) (es:List (List AV)),alen (tt 76) (.lst e es)=some (es.length:Int)):=by intros;rfl
@[go_sem] theorem tt_287:(alen (tt 76) .nils=some 0):=by intros;rfl
@[go_sem] theorem tt_288:(∀ c:Bool,abin (tt 76) .eql c .nils .nils=some (.bool true)):=by intros;rfl
@[go_sem] theorem tt_289:(∀ (c:Bool) (b:Bid) (e i n:Nat),abin (tt 76) .eql c (.slc b e i n) .nils=some (.bool false)):=by intros;rfl
@[go_sem] theorem tt_290:(∀ (c:Bool) (e:Nat) (r:List AV) (es:List (List AV)),abin (tt 76) .eql c (.lst e (r :: es)) .nils=some (.bool false)):=by intros;rfl
@[go_sem] theorem tt_291:(∀ c:Bool,abin (tt 76) .neq c .nils .nils=some (.bool false)):=by intros;rfl
@[go_sem] theorem tt_292:(∀ (c:Bool) (b:Bid) (e i n:Nat),abin (tt 76) .neq c (.slc b e i n) .nils=some (.bool true)):=by intros;rfl
@[go_sem] theorem tt_293:(∀ (c:Bool) (e:Nat) (r:List AV) (es:List (List AV)),abin (tt 76) .neq c (.lst e (r :: es)) .nils=some (.bool true)):=by intros;rfl
@[go_sem] theorem tt_294:(elsize tt 76=1):=by intros;rfl
@[go_sem] theorem tt_295:(∀ (ev:Operand→AV) (n:Nat) (ps:List (Nat × Operand)),absl tt ev 76 n ps=if n≤16777216∧n * 1≤16777216∧ps.map (·.1)=List.range n∧(ps.all fun p=>noL (ev p.2) && ((ev p.2).cells.length == 1) && (ev p.2).cells.all AV.cell)=true then some (1,ps.map fun p=>(ev p.2).cells) else none):=by intros;rfl
@[go_sem] theorem tt_296:(∀ (k k':IntKind) (l c:Int),amake tt 76 (.int k l) (.int k' c)=if 0≤l∧l≤c∧c * 1≤70368744177664∧c≤70368744177664 then some (1,List.replicate l.toNat [.bool false],l.toNat) else none):=by intros;rfl
@[go_sem] theorem tt_297:(∀ (h:AH) (x y:AV),acopy tt h 76 x y=acopyz 1 h x y):=fun h x y=>by unfold acopy acopyz;rfl
@[go_sem] theorem tt_298:(∀ (ez b1 o n:Nat) (b:Bid) (lo hi:Option AV),asl (tt 76) ez lo hi (.slc b b1 o n)=aslz n lo hi fun l h=>if b1=ez then some (.slc b b1 (o+l) (h - l)) else none):=fun ez b1 o n b lo hi=>asl_slc rfl ez lo hi b b1 o n
@[go_sem] theorem tt_299:(∀ (ez e:Nat) (es:List (List AV)) (lo hi:Option AV),asl (tt 76) ez lo hi (.lst e es)=aslz es.length lo hi fun l h=>if e=ez then some (.lst e ((es.drop l).take (h - l))) else none):=fun ez e es lo hi=>asl_lst rfl ez lo hi e es
@[go_sem] theorem tt_300:(∀ (h:AH) (id:Bid) (x y:AV),aapp tt h 76 id x y=aappz 1 1 h id x y):=fun h id x y=>by unfold aapp aappz;rfl
@[go_sem] theorem tt_301:(∀ (s:AS) (p v:AV),aput (tt 76) s p v=aputz 1 s p v):=fun s p v=>aput_z rfl rfl s p v
@[go_sem] theorem tt_302:(∀ (s:AS) (p:AV),aload (tt 83) s p=(s.row p).bind fun r=>apart false 1 r.2 r.1):=by intro s p;unfold aload;cases s.row p <;> rfl
@[go_sem] theorem tt_303:(∀ ev:Operand→AV,arows tt ev (.alloc 83)=some (1,[[.nilfn]],83)):=by intros;rfl
@[go_sem] theorem tt_304:(∀ (ev:Operand→AV) (x:Operand),arows tt ev (.box 83 x)=if noL (ev x)=true∧(ev x).cells.length=1∧(ev x).cells.all AV.cell=true then some (1,[(ev x).cells],83) else none):=by intro ev x;simp [arows,tt,TI.knows]
@[go_sem] theorem tt_305:(∀ (s:AS) (p v:AV),aput (tt 83) s p v=aputz 1 s p v):=fun s p v=>aput_z rfl rfl s p v
@[go_sem] theorem tt_306:(∀ (s:AS) (p:AV),aload (tt 84) s p=(s.row p).bind fun r=>apart false 1 r.2 r.1):=by intro s p;unfold aload;cases s.row p <;> rfl
@[go_sem] theorem tt_307:(∀ ev:Operand→AV,arows tt ev (.alloc 84)=some (1,[[.nils]],84)):=by intros;rfl
@[go_sem] theorem tt_308:(∀ (ev:Operand→AV) (x:Operand),arows tt ev (.box 84 x)=if noL (ev x)=true∧(ev x).cells.length=1∧(ev x).cells.all AV.cell=true then some (1,[(ev x).cells],84) else none):=by intro ev x;simp [arows,tt,TI.knows]
@[go_sem] theorem tt_309:(∀ (es:List (List AV)) (k:IntKind) (i:Int),aidx tt 84 (.lst 3 es) (.int k i)=if 0≤i∧i < es.length then some (.iptr (es.getD i.toNat []) 0) else none):=by intros;rfl
@[go_sem] theorem tt_310:(∀ (b:Bid) (o n:Nat) (k:IntKind) (i:Int),aidx tt 84 (.slc b 3 o n) (.int k i)=if 0≤i∧i < n then some (.ptr b (o+i.toNat) 0) else none):=by intros;rfl
@[go_sem] theorem tt_311:(∀ (b:Bid) (e o n:Nat),alen (tt 84) (.slc b e o n)=some (n:Int)):=by intros;rfl
@[go_sem] theorem tt_312:(∀ (e:Nat) (es:List (List AV)),alen (tt 84) (.lst e es)=some (es.length:Int)):=by intros;rfl
@[go_sem] theorem tt_313:(alen (tt 84) .nils=some 0):=by intros;rfl
@[go_sem] theorem tt_314:(∀ c:Bool,abin (tt 84) .eql c .nils .nils=some (.bool true)):=by intros;rfl
@[go_sem] theorem tt_315:(∀ (c:Bool) (b:Bid) (e i n:Nat),abin (tt 84) .eql c (.slc b e i n) .nils=some (.bool false)):=by intros;rfl
@[go_sem] theorem tt_316:(∀ (c:Bool) (e:Nat) (r:List AV) (es:List (List AV)),abin (tt 84) .eql c (.lst e (r :: es)) .nils=some (.bool false)):=by intros;rfl
@[go_sem] theorem tt_317:(∀ c:Bool,abin (tt 84) .neq c .nils .nils=some (.bool false)):=by intros;rfl
@[go_sem] theorem tt_318:(∀ (c:Bool) (b:Bid) (e i n:Nat),abin (tt 84) .neq c (.slc b e i n) .nils=some (.bool true)):=by intros;rfl
@[go_sem] theorem tt_319:(∀ (c:Bool) (e:Nat) (r:List AV) (es:List (List AV)),abin (tt 84) .neq c (.lst e (r :: es)) .nils=some (.bool true)):=by intros;rfl
@[go_sem] theorem tt_320:(elsize tt 84=3):=by intros;rfl
@[go_sem] theorem tt_321:(∀ (ev:Operand→AV) (n:Nat) (ps:List (Nat × Operand)),absl tt ev 84 n ps=if n≤16777216∧n * 3≤16777216∧ps.map (·.1)=List.range n∧(ps.all fun p=>noL (ev p.2) && ((ev p.2).cells.length == 3) && (ev p.2).cells.all AV.cell)=true then some (3,ps.map fun p=>(ev p.2).cells) else none):=by intros;rfl
@[go_sem] theorem tt_322:(∀ (k k':IntKind) (l c:Int),amake tt 84 (.int k l) (.int k' c)=if 0≤l∧l≤c∧c * 24≤70368744177664∧c≤70368744177664 then some (3,List.replicate l.toNat [.int .i64 0,.int .i64 0,.int .i64 0],l.toNat) else none):=by intros;rfl
@[go_sem] theorem tt_323:(∀ (h:AH) (x y:AV),acopy tt h 84 x y=acopyz 3 h x y):=fun h x y=>by unfold acopy acopyz;rfl
@[go_sem] theorem tt_324:(∀ (ez b1 o n:Nat) (b:Bid) (lo hi:Option AV),asl (tt 84) ez lo hi (.slc b b1 o n)=aslz n lo hi fun l h=>if b1=ez then some (.slc b b1 (o+l) (h - l)) else none):=fun ez b1 o n b lo hi=>asl_slc rfl ez lo hi b b1 o n
@[go_sem] theorem tt_325:(∀ (ez e:Nat) (es:List (List AV)) (lo hi:Option AV),asl (tt 84) ez lo hi (.lst e es)=aslz es.length lo hi fun l h=>if e=ez then some (.lst e ((es.drop l).take (h - l))) else none):=fun ez e es lo hi=>asl_lst rfl ez lo hi e es
@[go_sem] theorem tt_326:(∀ (h:AH) (id:Bid) (x y:AV),aapp tt h 84 id x y=aappz 3 24 h id x y):=fun h id x y=>by unfold aapp aappz;rfl
@[go_sem] theorem tt_327:(∀ (s:AS) (p v:AV),aput (tt 84) s p v=aputz 1 s p v):=fun s p v=>aput_z rfl rfl s p v
@[go_sem] theorem tt_328:(∀ (s:AS) (p:AV),aload (tt 92) s p=(s.row p).bind fun r=>apart true 3 r.2 r.1):=by intro s p;unfold aload;cases s.row p <;> rfl
@[go_sem] theorem tt_329:(∀ ev:Operand→AV,arows tt ev (.alloc 92)=some (3,[[.int .i64 0,.int .i64 0,.int .i64 0]],92)):=by intros;rfl
@[go_sem] theorem tt_330:(∀ (ev:Operand→AV) (x:Operand),arows tt ev (.box 92 x)=if noL (ev x)=true∧(ev x).cells.length=3∧(ev x).cells.all AV.cell=true then some (3,[(ev x).cells],92) else none):=by intro ev x;simp [arows,tt,TI.knows]
@[go_sem] theorem tt_331:(∀ v:AV,afieldAddr (tt 92) 0 v=amove 0 v):=by intros;rfl
@[go_sem] theorem tt_332:(∀ cs:List AV,afield (tt 92) 0 (.agg cs)=apart false 1 0 cs):=by intros;rfl
@[go_sem] theorem tt_333:(∀ v:AV,afieldAddr (tt 92) 1 v=amove 1 v):=by intros;rfl
@[go_sem] theorem tt_334:(∀ cs:List AV,afield (tt 92) 1 (.agg cs)=apart false 1 1 cs):=by intros;rfl
@[go_sem] theorem tt_335:(∀ v:AV,afieldAddr (tt 92) 2 v=amove 2 v):=by intros;rfl
@[go_sem] theorem tt_336:(∀ cs:List AV,afield (tt 92) 2 (.agg cs)=apart false 1 2 cs):=by intros;rfl
@[go_sem] theorem tt_337:(∀ ps:List (Nat × AV),abuild tt 92 ps=(afill (fun i=>([(0,1),(1,1),(2,1)]:List (Nat × Nat))[i]?) [.int .i64 0,.int .i64 0,.int .i64 0] ps).map .agg):=fun ps=>by show Option.map _ (afill _ _ _)=_;congr 2;funext i;rw [← List.getElem?_map];rfl
@[go_sem] theorem tt_338:(∀ (c:Bool) (x y:List AV),abin (tt 92) .eql c (.agg x) (.agg y)=aeql 3 (fun b=>b) (ints x) (ints y)):=fun c x y=>by cases hx:ints x <;> cases hy:ints y <;> simp [tt,abin,aeql,hx,hy]
@[go_sem] theorem tt_339:(∀ (c:Bool) (x y:List AV),abin (tt 92) .neq c (.agg x) (.agg y)=aeql 3 (fun b=>!b) (ints x) (ints y)):=fun c x y=>by cases hx:ints x <;> cases hy:ints y <;> simp [tt,abin,aeql,hx,hy]
@[go_sem] theorem tt_340:(∀ (s:AS) (p v:AV),aput (tt 92) s p v=aputz 3 s p v):=fun s p v=>aput_z rfl rfl s p v
@[go_sem] theorem tt_341:(∀ (s:AS) (p:AV),aload (tt 98) s p=(s.row p).bind fun r=>apart false 1 r.2 r.1):=by intro s p;unfold aload;cases s.row p <;> rfl
@[go_sem] theorem tt_342:(∀ ev:Operand→AV,arows tt ev (.alloc 98)=some (1,[[.int .u64 0]],98)):=by intros;rfl
@[go_sem] theorem tt_343:(∀ (ev:Operand→AV) (x:Operand),arows tt ev (.box 98 x)=if noL (ev x)=true∧(ev x).cells.length=1∧(ev x).cells.all AV.cell=true then some (1,[(ev x).cells],98) else none):=by intro ev x;simp [arows,tt,TI.knows]
@[go_sem] theorem tt_344:(∀ (k:IntKind) (n:Int),aconv (tt 98) (tt 3) (.int k n)=some (.int .i64 (wr .i64 n))):=by intros;rfl
@[go_sem] theorem tt_345:(∀ (s:AS) (p v:AV),aput (tt 98) s p v=aputz 1 s p v):=fun s p v=>aput_z rfl rfl s p v
@[go_sem] theorem tt_346:(∀ (s:AS) (p:AV),aload (tt 100) s p=(s.row p).bind fun r=>apart true 1 r.2 r.1):=by intro s p;unfold aload;cases s.row p <;> rfl
@[go_sem] theorem tt_347:(∀ ev:Operand→AV,arows tt ev (.alloc 100)=some (1,[[.int .u64 0]],100)):=by intros;rfl
@[go_sem] theorem tt_348:(∀ (ev:Operand→AV) (x:Operand),arows tt ev (.box 100 x)=if noL (ev x)=true∧(ev x).cells.length=1∧(ev x).cells.all AV.cell=true then some (1,[(ev x).cells],100) else none):=by intro ev x;simp [arows,tt,TI.knows]
@[go_sem] theorem tt_349:(∀ v:AV,afieldAddr (tt 100) 0 v=amove 0 v):=by intros;rfl
@[go_sem] theorem tt_350:(∀ cs:List AV,afield (tt 100) 0 (.agg cs)=apart false 1 0 cs):=by intros;rfl
@[go_sem] theorem tt_351:(∀ ps:List (Nat × AV),abuild tt 100 ps=(afill (fun i=>([(0,1)]:List (Nat × Nat))[i]?) [.int .u64 0] ps).map .agg):=fun ps=>by show Option.map _ (afill _ _ _)=_;congr 2;funext i;rw [← List.getElem?_map];rfl
@[go_sem] theorem tt_352:(∀ (s:AS) (p v:AV),aput (tt 100) s p v=aputz 1 s p v):=fun s p v=>aput_z rfl rfl s p v
@[go_sem] theorem tt_353:(∀ (s:AS) (p:AV),aload (tt 103) s p=(s.row p).bind fun r=>apart true 2 r.2 r.1):=by intro s p;unfold aload;cases s.row p <;> rfl
@[go_sem] theorem tt_354:(∀ ev:Operand→AV,arows tt ev (.alloc 103)=some (2,[[.int .i64 0,.int .i64 0]],103)):=by intros;rfl
@[go_sem] theorem tt_355:(∀ (ev:Operand→AV) (x:Operand),arows tt ev (.box 103 x)=if noL (ev x)=true∧(ev x).cells.length=2∧(ev x).cells.all AV.cell=true then some (2,[(ev x).cells],103) else none):=by intro ev x;simp [arows,tt,TI.knows]
@[go_sem] theorem tt_356:(∀ v:AV,afieldAddr (tt 103) 0 v=amove 0 v):=by intros;rfl
@[go_sem] theorem tt_357:(∀ cs:List AV,afield (tt 103) 0 (.agg cs)=apart false 1 0 cs):=by intros;rfl
@[go_sem] theorem tt_358:(∀ v:AV,afieldAddr (tt 103) 1 v=amove 1 v):=by intros;rfl
@[go_sem] theorem tt_359:(∀ cs:List AV,afield (tt 103) 1 (.agg cs)=apart false 1 1 cs):=by intros;rfl
@[go_sem] theorem tt_360:(∀ ps:List (Nat × AV),abuild tt 103 ps=(afill (fun i=>([(0,1),(1,1)]:List (Nat × Nat))[i]?) [.int .i64 0,.int .i64 0] ps).map .agg):=fun ps=>by show Option.map _ (afill _ _ _)=_;congr 2;funext i;rw [← List.getElem?_map];rfl
@[go_sem] theorem tt_361:(∀ (c:Bool) (x y:List AV),abin (tt 103) .eql c (.agg x) (.agg y)=aeql 2 (fun b=>b) (ints x) (ints y)):=fun c x y=>by cases hx:ints x <;> cases hy:ints y <;> simp [tt,abin,aeql,hx,hy]
@[go_sem] theorem tt_362:(∀ (c:Bool) (x y:List AV),abin (tt 103) .neq c (.agg x) (.agg y)=aeql 2 (fun b=>!b) (ints x) (ints y)):=fun c x y=>by cases hx:ints x <;> cases hy:ints y <;> simp [tt,abin,aeql,hx,hy]
@[go_sem] theorem tt_363:(∀ (s:AS) (p v:AV),aput (tt 103) s p v=aputz 2 s p v):=fun s p v=>aput_z rfl rfl s p v
@[go_sem] theorem tt_364:(∀ (s:AS) (p:AV),aload (tt 105) s p=(s.row p).bind fun r=>apart false 1 r.2 r.1):=by intro s p;unfold aload;cases s.row p <;> rfl
@[go_sem] theorem tt_365:(∀ ev:Operand→AV,arows tt ev (.alloc 105)=some (1,[[.int .u64 0]],105)):=by intros;rfl
@[go_sem] theorem tt_366:(∀ (ev:Operand→AV) (x:Operand),arows tt ev (.box 105 x)=if noL (ev x)=true∧(ev x).cells.length=1∧(ev x).cells.all AV.cell=true then some (1,[(ev x).cells],105) else none):=by intro ev x;simp [arows,tt,TI.knows]
@[go_sem] theorem tt_367:(∀ (s:AS) (p v:AV),aput (tt 105) s p v=aputz 1 s p v):=fun s p v=>aput_z rfl rfl s p v
@[go_sem] theorem tt_368:(∀ (s:AS) (p:AV),aload (tt 111) s p=(s.row p).bind fun r=>apart false 1 r.2 r.1):=by intro s p;unfold aload;cases s.row p <;> rfl
@[go_sem] theorem tt_369:(∀ ev:Operand→AV,arows tt ev (.alloc 111)=some (1,[[.nilfn]],111)):=by intros;rfl
@[go_sem] theorem tt_370:(∀ (ev:Operand→AV) (x:Operand),arows tt ev (.box 111 x)=if noL (ev x)=true∧(ev x).cells.length=1∧(ev x).cells.all AV.cell=true then some (1,[(ev x).cells],111) else none):=by intro ev x;simp [arows,tt,TI.knows]
@[go_sem] theorem tt_371:(∀ (s:AS) (p v:AV),aput (tt 111) s p v=aputz 1 s p v):=fun s p v=>aput_z rfl rfl s p v
@[go_sem] theorem tt_372:(∀ (s:AS) (p:AV),aload (tt 113) s p=(s.row p).bind fun r=>apart true 12 r.2 r.1):=by intro s p;unfold aload;cases s.row p <;> rfl
@[go_sem] theorem tt_373:(∀ ev:Operand→AV,arows tt ev (.alloc 113)=some (12,[[.int .i64 0,.int .i64 0,.int .i64 0,.int .i64 0,.int .i64 0,.int .i64 0,.int .i64 0,.int .i64 0,.int .i64 0,.int .i64 0,.int .i64 0,.int .i64 0]],113)):=by intros;rfl
@[go_sem] theorem tt_374:(∀ (ev:Operand→AV) (x:Operand),arows tt ev (.box 113 x)=if noL (ev x)=true∧(ev x).cells.length=12∧(ev x).cells.all AV.cell=true then some (12,[(ev x).cells],113) else none):=by intro ev x;simp [arows,tt,TI.knows]
@[go_sem] theorem tt_375:(∀ (v:AV) (k:IntKind) (i:Int),aidx tt 113 v (.int k i)=if 0≤i∧i < 12 then amove (i.toNat * 1) v else none):=by intros;rfl
@[go_sem] theorem tt_376:(∀ (cs:List AV) (k:IntKind) (i:Int),aindex tt 113 (.agg cs) (.int k i)=if 0≤i∧i < 12 then apart false 1 (i.toNat * 1) cs else none):=by intros;rfl
@[go_sem] theorem tt_377:(∀ ps:List (Nat × AV),abuild tt 113 ps=(afill (fun i=>some (i * 1,1)) [.int .i64 0,.int .i64 0,.int .i64 0,.int .i64 0,.int .i64 0,.int .i64 0,.int .i64 0,.int .i64 0,.int .i64 0,.int .i64 0,.int .i64 0,.int .i64 0] ps).map .agg):=by intros;rfl
@[go_sem] theorem tt_378:(∀ (c:Bool) (x y:List AV),abin (tt 113) .eql c (.agg x) (.agg y)=aeql 12 (fun b=>b) (ints x) (ints y)):=fun c x y=>by cases hx:ints x <;> cases hy:ints y <;> simp [tt,abin,aeql,hx,hy]
@[go_sem] theorem tt_379:(∀ (c:Bool) (x y:List AV),abin (tt 113) .neq c (.agg x) (.agg y)=aeql 12 (fun b=>!b) (ints x) (ints y)):=fun c x y=>by cases hx:ints x <;> cases hy:ints y <;> simp [tt,abin,aeql,hx,hy]
@[go_sem] theorem tt_380:(elsize tt 113=1):=by intros;rfl
@[go_sem] theorem tt_381:(∀ cs:List AV,asl (tt 113) 1 none none (.iptr cs 0)=if cs.length=12 then some (.lst 1 (cs.map fun x=>[x])) else none):=fun cs=>asl_iptr rfl cs
@[go_sem] theorem tt_382:(∀ (s:AS) (p v:AV),aput (tt 113) s p v=aputz 12 s p v):=fun s p v=>aput_z rfl rfl s p v
@[go_sem] theorem tt_383:(∀ (s:AS) (p:AV),aload (tt 120) s p=(s.row p).bind fun r=>apart false 1 r.2 r.1):=by intro s p;unfold aload;cases s.row p <;> rfl
@[go_sem] theorem tt_384:(∀ ev:Operand→AV,arows tt ev (.alloc 120)=some (1,[[.nilm]],120)):=by intros;rfl
@[go_sem] theorem tt_385:(∀ (ev:Operand→AV) (x:Operand),arows tt ev (.box 120 x)=if noL (ev x)=true∧(ev x).cells.length=1∧(ev x).cells.all AV.cell=true then some (1,[(ev x).cells],120) else none):=by intro ev x;simp [arows,tt,TI.knows]
@[go_sem] theorem tt_386:(∀ (s:AS) (p v:AV),aput (tt 120) s p v=aputz 1 s p v):=fun s p v=>aput_z rfl rfl s p v
@[go_sem] theorem tt_387:(∀ (s:AS) (p:AV),aload (tt 129) s p=(s.row p).bind fun r=>apart false 1 r.2 r.1):=by intro s p;unfold aload;cases s.row p <;> rfl
@[go_sem] theorem tt_388:(∀ ev:Operand→AV,arows tt ev (.alloc 129)=some (1,[[.nilm]],129)):=by intros;rfl
@[go_sem] theorem tt_389:(∀ (ev:Operand→AV) (x:Operand),arows tt ev (.box 129 x)=if noL (ev x)=true∧(ev x).cells.length=1∧(ev x).cells.all AV.cell=true then some (1,[(ev x).cells],129) else none):=by intro ev x;simp [arows,tt,TI.knows]
@[go_sem] theorem tt_390:(∀ (s:AS) (p v:AV),aput (tt 129) s p v=aputz 1 s p v):=fun s p v=>aput_z rfl rfl s p v
end Go.Proofs.Ythjbfdfhblloiaa
