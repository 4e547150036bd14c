/- Printed by gentab.py: the types that this seat's functions name, as a table of our own; that the table is right. -/
import Derived.Test.YthpkmcjiobnpgaaDoorBaseD
import Derived.Test.YthpkmcjiobnpgaaDoorProg
import Derived.KernelRfl
set_option linter.all false
set_option linter.unusedSimpArgs false
set_option linter.unusedVariables false
namespace Go.Proofs.YthpkmcjiobnpgaaDoor
open Go.Av
def tt:Nat→TI
 | 2=>⟨.int .i64,1,8,[.int .i64 0],false,false⟩
 | 3=>⟨.int .i64,1,8,[.int .i64 0],false,false⟩
 | 4=>⟨.bool,1,1,[.bool false],false,false⟩
 | 5=>⟨.int .u8,1,1,[.int .u8 0],false,false⟩
 | 9=>⟨.str,1,16,[.str []],false,false⟩
 | 22=>⟨.slice 29,1,24,[.nils],false,false⟩
 | 24=>⟨.struct [(0,1,false),(1,1,false),(2,1,false),(3,1,false),(4,1,false),(5,1,false),(6,1,false),(7,1,false),(8,1,false)],9,88,[.int .i64 0,.int .i64 0,.int .i64 0,.int .i64 0,.int .i64 0,.int .i64 0,.int .i64 0,.int .i64 0,.nils],false,false⟩
 | 27=>⟨.struct [(0,1,false),(1,1,false)],2,16,[.int .i64 0,.int .i64 0],true,false⟩
 | 29=>⟨.struct [(0,1,false),(1,2,true),(3,2,true),(5,1,false),(6,1,false)],7,56,[.int .i64 0,.int .i64 0,.int .i64 0,.int .i64 0,.int .i64 0,.int .i64 0,.int .i64 0],false,false⟩
 | 31=>⟨.int .i64,1,8,[.int .i64 0],false,false⟩
 | 37=>⟨.slice 24,1,24,[.nils],false,false⟩
 | 38=>⟨.slice 3,1,24,[.nils],false,false⟩
 | 47=>⟨.struct [(0,1,false),(1,1,false),(2,1,false)],3,24,[.int .i64 0,.int .i64 0,.int .i64 0],false,false⟩
 | 49=>⟨.slice 47,1,24,[.nils],false,false⟩
 | 55=>⟨.array 2 3,2,16,[.int .i64 0,.int .i64 0],false,false⟩
 | 57=>⟨.struct [(0,9,true),(9,1,false),(10,1,false)],11,104,[.int .i64 0,.int .i64 0,.int .i64 0,.int .i64 0,.int .i64 0,.int .i64 0,.int .i64 0,.int .i64 0,.nils,.int .i64 0,.int .i64 0],false,false⟩
 | 61=>⟨.slice 70,1,24,[.nils],false,false⟩
 | 66=>⟨.slice 9,1,24,[.nils],false,false⟩
 | 70=>⟨.struct [(0,1,false),(1,1,false)],2,16,[.int .i64 0,.int .i64 0],true,false⟩
 | 77=>⟨.plain,1,8,[.nilfn],false,false⟩
 | 88=>⟨.ptr,1,8,[.nilp],false,false⟩
 | 89=>⟨.slice 5,1,24,[.nils],false,false⟩
 | 91=>⟨.struct [(0,1,false),(1,1,false)],2,32,[.nilp,.nils],false,false⟩
 | 101=>⟨.plain,1,8,[.nilfn],false,false⟩
 | 103=>⟨.int .u64,1,8,[.int .u64 0],false,false⟩
 | 106=>⟨.ptr,1,8,[.nilp],false,false⟩
 | 113=>⟨.int .u64,1,8,[.int .u64 0],false,false⟩
 | 120=>⟨.int .u32,1,4,[.int .u32 0],false,false⟩
 | _=>⟨.unknown,0,0,[],false,false⟩
theorem info_row {t:TypeId} {r:TypeInfo} (h:Tryd.prog.types[t]?=some r):Tryd.prog.info? t=some r:=by
 have hlt:t < Tryd.prog.types.size:=(Array.getElem?_eq_some_iff.1 h).1
 unfold Tables.info?;rw [if_pos hlt];exact h
theorem inf2:Tryd.prog.info? 2=some Tryd.t2:=info_row Tryd.type2
theorem cel2:Tryd.prog.cellsOf 2=1:=by unfold Program.cellsOf;rw [inf2];rfl
theorem ag2:aggB Tryd.prog 2=false:=by unfold aggB;rw [Tryd.underlying2]
theorem inf3:Tryd.prog.info? 3=some Tryd.t3:=info_row Tryd.type3
theorem cel3:Tryd.prog.cellsOf 3=1:=by unfold Program.cellsOf;rw [inf3];rfl
theorem ag3:aggB Tryd.prog 3=false:=by unfold aggB;rw [Tryd.underlying3]
theorem inf4:Tryd.prog.info? 4=some Tryd.t4:=info_row Tryd.type4
theorem cel4:Tryd.prog.cellsOf 4=1:=by unfold Program.cellsOf;rw [inf4];rfl
theorem ag4:aggB Tryd.prog 4=false:=by unfold aggB;rw [Tryd.underlying4]
theorem inf5:Tryd.prog.info? 5=some Tryd.t5:=info_row Tryd.type5
theorem cel5:Tryd.prog.cellsOf 5=1:=by unfold Program.cellsOf;rw [inf5];rfl
theorem ag5:aggB Tryd.prog 5=false:=by unfold aggB;rw [Tryd.underlying5]
theorem inf9:Tryd.prog.info? 9=some Tryd.t9:=info_row Tryd.type9
theorem cel9:Tryd.prog.cellsOf 9=1:=by unfold Program.cellsOf;rw [inf9];rfl
theorem ag9:aggB Tryd.prog 9=false:=by unfold aggB;rw [Tryd.underlying9]
theorem inf22:Tryd.prog.info? 22=some Tryd.t22:=info_row Tryd.type22
theorem cel22:Tryd.prog.cellsOf 22=1:=by unfold Program.cellsOf;rw [inf22];rfl
theorem ag22:aggB Tryd.prog 22=false:=by unfold aggB;rw [Tryd.underlying22]
theorem inf24:Tryd.prog.info? 24=some Tryd.t24:=info_row Tryd.type24
theorem cel24:Tryd.prog.cellsOf 24=9:=by unfold Program.cellsOf;rw [inf24];rfl
theorem ag24:aggB Tryd.prog 24=true:=by unfold aggB;rw [Tryd.underlying24]
theorem inf27:Tryd.prog.info? 27=some Tryd.t27:=info_row Tryd.type27
theorem cel27:Tryd.prog.cellsOf 27=2:=by unfold Program.cellsOf;rw [inf27];rfl
theorem ag27:aggB Tryd.prog 27=true:=by unfold aggB;rw [Tryd.underlying27]
theorem inf29:Tryd.prog.info? 29=some Tryd.t29:=info_row Tryd.type29
theorem cel29:Tryd.prog.cellsOf 29=7:=by unfold Program.cellsOf;rw [inf29];rfl
theorem ag29:aggB Tryd.prog 29=true:=by unfold aggB;rw [Tryd.underlying29]
theorem inf31:Tryd.prog.info? 31=some Tryd.t31:=info_row Tryd.type31
theorem cel31:Tryd.prog.cellsOf 31=1:=by unfold Program.cellsOf;rw [inf31];rfl
theorem ag31:aggB Tryd.prog 31=false:=by unfold aggB;rw [Tryd.underlying31]
theorem inf37:Tryd.prog.info? 37=some Tryd.t37:=info_row Tryd.type37
theorem cel37:Tryd.prog.cellsOf 37=1:=by unfold Program.cellsOf;rw [inf37];rfl
theorem ag37:aggB Tryd.prog 37=false:=by unfold aggB;rw [Tryd.underlying37]
theorem inf38:Tryd.prog.info? 38=some Tryd.t38:=info_row Tryd.type38
theorem cel38:Tryd.prog.cellsOf 38=1:=by unfold Program.cellsOf;rw [inf38];rfl
theorem ag38:aggB Tryd.prog 38=false:=by unfold aggB;rw [Tryd.underlying38]
theorem inf47:Tryd.prog.info? 47=some Tryd.t47:=info_row Tryd.type47
theorem cel47:Tryd.prog.cellsOf 47=3:=by unfold Program.cellsOf;rw [inf47];rfl
theorem ag47:aggB Tryd.prog 47=true:=by unfold aggB;rw [Tryd.underlying47]
theorem inf49:Tryd.prog.info? 49=some Tryd.t49:=info_row Tryd.type49
theorem cel49:Tryd.prog.cellsOf 49=1:=by unfold Program.cellsOf;rw [inf49];rfl
theorem ag49:aggB Tryd.prog 49=false:=by unfold aggB;rw [Tryd.underlying49]
theorem inf55:Tryd.prog.info? 55=some Tryd.t55:=info_row Tryd.type55
theorem cel55:Tryd.prog.cellsOf 55=2:=by unfold Program.cellsOf;rw [inf55];rfl
theorem ag55:aggB Tryd.prog 55=true:=by unfold aggB;rw [Tryd.underlying55]
theorem inf57:Tryd.prog.info? 57=some Tryd.t57:=info_row Tryd.type57
theorem cel57:Tryd.prog.cellsOf 57=11:=by unfold Program.cellsOf;rw [inf57];rfl
theorem ag57:aggB Tryd.prog 57=true:=by unfold aggB;rw [Tryd.underlying57]
theorem inf61:Tryd.prog.info? 61=some Tryd.t61:=info_row Tryd.type61
theorem cel61:Tryd.prog.cellsOf 61=1:=by unfold Program.cellsOf;rw [inf61];rfl
theorem ag61:aggB Tryd.prog 61=false:=by unfold aggB;rw [Tryd.underlying61]
theorem inf66:Tryd.prog.info? 66=some Tryd.t66:=info_row Tryd.type66
theorem cel66:Tryd.prog.cellsOf 66=1:=by unfold Program.cellsOf;rw [inf66];rfl
theorem ag66:aggB Tryd.prog 66=false:=by unfold aggB;rw [Tryd.underlying66]
theorem inf70:Tryd.prog.info? 70=some Tryd.t70:=info_row Tryd.type70
theorem cel70:Tryd.prog.cellsOf 70=2:=by unfold Program.cellsOf;rw [inf70];rfl
theorem ag70:aggB Tryd.prog 70=true:=by unfold aggB;rw [Tryd.underlying70]
theorem inf77:Tryd.prog.info? 77=some Tryd.t77:=info_row Tryd.type77
theorem cel77:Tryd.prog.cellsOf 77=1:=by unfold Program.cellsOf;rw [inf77];rfl
theorem ag77:aggB Tryd.prog 77=false:=by unfold aggB;rw [Tryd.underlying77]
theorem inf88:Tryd.prog.info? 88=some Tryd.t88:=info_row Tryd.type88
theorem cel88:Tryd.prog.cellsOf 88=1:=by unfold Program.cellsOf;rw [inf88];rfl
theorem ag88:aggB Tryd.prog 88=false:=by unfold aggB;rw [Tryd.underlying88]
theorem inf89:Tryd.prog.info? 89=some Tryd.t89:=info_row Tryd.type89
theorem cel89:Tryd.prog.cellsOf 89=1:=by unfold Program.cellsOf;rw [inf89];rfl
theorem ag89:aggB Tryd.prog 89=false:=by unfold aggB;rw [Tryd.underlying89]
theorem inf91:Tryd.prog.info? 91=some Tryd.t91:=info_row Tryd.type91
theorem cel91:Tryd.prog.cellsOf 91=2:=by unfold Program.cellsOf;rw [inf91];rfl
theorem ag91:aggB Tryd.prog 91=true:=by unfold aggB;rw [Tryd.underlying91]
theorem inf101:Tryd.prog.info? 101=some Tryd.t101:=info_row Tryd.type101
theorem cel101:Tryd.prog.cellsOf 101=1:=by unfold Program.cellsOf;rw [inf101];rfl
theorem ag101:aggB Tryd.prog 101=false:=by unfold aggB;rw [Tryd.underlying101]
theorem inf103:Tryd.prog.info? 103=some Tryd.t103:=info_row Tryd.type103
theorem cel103:Tryd.prog.cellsOf 103=1:=by unfold Program.cellsOf;rw [inf103];rfl
theorem ag103:aggB Tryd.prog 103=false:=by unfold aggB;rw [Tryd.underlying103]
theorem inf106:Tryd.prog.info? 106=some Tryd.t106:=info_row Tryd.type106
theorem cel106:Tryd.prog.cellsOf 106=1:=by unfold Program.cellsOf;rw [inf106];rfl
theorem ag106:aggB Tryd.prog 106=false:=by unfold aggB;rw [Tryd.underlying106]
theorem inf113:Tryd.prog.info? 113=some Tryd.t113:=info_row Tryd.type113
theorem cel113:Tryd.prog.cellsOf 113=1:=by unfold Program.cellsOf;rw [inf113];rfl
theorem ag113:aggB Tryd.prog 113=false:=by unfold aggB;rw [Tryd.underlying113]
theorem inf120:Tryd.prog.info? 120=some Tryd.t120:=info_row Tryd.type120
theorem cel120:Tryd.prog.cellsOf 120=1:=by unfold Program.cellsOf;rw [inf120];rfl
theorem ag120:aggB Tryd.prog 120=false:=by unfold aggB;rw [Tryd.underlying120]
theorem eq27:EqFact Tryd.prog 27 2:=EqFact.ints Tryd.underlying27 (by kernel_rfl) (by kernel_rfl) (by intro f hf;simp at hf;rcases hf with rfl|rfl <;> exact ⟨by decide,by first|exact ⟨_,Tryd.underlying3⟩⟩) rfl rfl
theorem eq70:EqFact Tryd.prog 70 2:=EqFact.ints Tryd.underlying70 (by kernel_rfl) (by kernel_rfl) (by intro f hf;simp at hf;rcases hf with rfl|rfl <;> exact ⟨by decide,by first|exact ⟨_,Tryd.underlying3⟩⟩) rfl rfl
theorem good2:Go.Av.Good Tryd.prog 2 (tt 2):=⟨⟨Tryd.t2,_,inf2,rfl,rfl,rfl,fun c=>by simp [tt,VRs,VR,Value.cells],rfl,rfl⟩,Tryd.underlying2,(fun h=>by cases h),(fun h=>by cases h)⟩
theorem good3:Go.Av.Good Tryd.prog 3 (tt 3):=⟨⟨Tryd.t3,_,inf3,rfl,rfl,rfl,fun c=>by simp [tt,VRs,VR,Value.cells],rfl,rfl⟩,Tryd.underlying3,(fun h=>by cases h),(fun h=>by cases h)⟩
theorem good4:Go.Av.Good Tryd.prog 4 (tt 4):=⟨⟨Tryd.t4,_,inf4,rfl,rfl,rfl,fun c=>by simp [tt,VRs,VR,Value.cells],rfl,rfl⟩,Tryd.underlying4,(fun h=>by cases h),(fun h=>by cases h)⟩
theorem good5:Go.Av.Good Tryd.prog 5 (tt 5):=⟨⟨Tryd.t5,_,inf5,rfl,rfl,rfl,fun c=>by simp [tt,VRs,VR,Value.cells],rfl,rfl⟩,Tryd.underlying5,(fun h=>by cases h),(fun h=>by cases h)⟩
theorem good9:Go.Av.Good Tryd.prog 9 (tt 9):=⟨⟨Tryd.t9,_,inf9,rfl,rfl,rfl,fun c=>by simp [tt,VRs,VR,Value.cells],rfl,rfl⟩,Tryd.underlying9,(fun h=>by cases h),(fun h=>by cases h)⟩
theorem good22:Go.Av.Good Tryd.prog 22 (tt 22):=⟨⟨Tryd.t22,_,inf22,rfl,rfl,rfl,fun c=>by simp [tt,VRs,VR,Value.cells],rfl,rfl⟩,⟨Tryd.underlying22,by rw [inf29];rfl⟩,(fun h=>by cases h),(fun h=>by cases h)⟩
theorem good24:Go.Av.Good Tryd.prog 24 (tt 24):=⟨⟨Tryd.t24,_,inf24,rfl,rfl,rfl,fun c=>by simp [tt,VRs,VR,Value.cells],rfl,rfl⟩,⟨_,Tryd.underlying24,by simp [cel3,ag3,cel22,ag22,tt],by simp [inf3,Tryd.underlying3,inf22,Tryd.underlying22]⟩,(fun h=>by cases h),(fun h=>by cases h)⟩
theorem good27:Go.Av.Good Tryd.prog 27 (tt 27):=⟨⟨Tryd.t27,_,inf27,rfl,rfl,rfl,fun c=>by simp [tt,VRs,VR,Value.cells],rfl,rfl⟩,⟨_,Tryd.underlying27,by simp [cel3,ag3,tt],by simp [inf3,Tryd.underlying3]⟩,fun _=>eq27,(fun h=>by cases h)⟩
theorem good29:Go.Av.Good Tryd.prog 29 (tt 29):=⟨⟨Tryd.t29,_,inf29,rfl,rfl,rfl,fun c=>by simp [tt,VRs,VR,Value.cells],rfl,rfl⟩,⟨_,Tryd.underlying29,by simp [cel3,ag3,cel27,ag27,tt],by simp [inf3,Tryd.underlying3,inf27,Tryd.underlying27]⟩,(fun h=>by cases h),(fun h=>by cases h)⟩
theorem good31:Go.Av.Good Tryd.prog 31 (tt 31):=⟨⟨Tryd.t31,_,inf31,rfl,rfl,rfl,fun c=>by simp [tt,VRs,VR,Value.cells],rfl,rfl⟩,Tryd.underlying31,(fun h=>by cases h),(fun h=>by cases h)⟩
theorem good37:Go.Av.Good Tryd.prog 37 (tt 37):=⟨⟨Tryd.t37,_,inf37,rfl,rfl,rfl,fun c=>by simp [tt,VRs,VR,Value.cells],rfl,rfl⟩,⟨Tryd.underlying37,by rw [inf24];rfl⟩,(fun h=>by cases h),(fun h=>by cases h)⟩
theorem good38:Go.Av.Good Tryd.prog 38 (tt 38):=⟨⟨Tryd.t38,_,inf38,rfl,rfl,rfl,fun c=>by simp [tt,VRs,VR,Value.cells],rfl,rfl⟩,⟨Tryd.underlying38,by rw [inf3];rfl⟩,(fun h=>by cases h),(fun h=>by cases h)⟩
theorem good47:Go.Av.Good Tryd.prog 47 (tt 47):=⟨⟨Tryd.t47,_,inf47,rfl,rfl,rfl,fun c=>by simp [tt,VRs,VR,Value.cells],rfl,rfl⟩,⟨_,Tryd.underlying47,by simp [cel3,ag3,tt],by simp [inf3,Tryd.underlying3]⟩,(fun h=>by cases h),(fun h=>by cases h)⟩
theorem good49:Go.Av.Good Tryd.prog 49 (tt 49):=⟨⟨Tryd.t49,_,inf49,rfl,rfl,rfl,fun c=>by simp [tt,VRs,VR,Value.cells],rfl,rfl⟩,⟨Tryd.underlying49,by rw [inf47];rfl⟩,(fun h=>by cases h),(fun h=>by cases h)⟩
theorem good55:Go.Av.Good Tryd.prog 55 (tt 55):=⟨⟨Tryd.t55,_,inf55,rfl,rfl,rfl,fun c=>by simp [tt,VRs,VR,Value.cells],rfl,rfl⟩,⟨Tryd.underlying55,by rw [inf3];rfl⟩,(fun h=>by cases h),(fun h=>by cases h)⟩
theorem good57:Go.Av.Good Tryd.prog 57 (tt 57):=⟨⟨Tryd.t57,_,inf57,rfl,rfl,rfl,fun c=>by simp [tt,VRs,VR,Value.cells],rfl,rfl⟩,⟨_,Tryd.underlying57,by simp [cel3,ag3,cel24,ag24,tt],by simp [inf3,Tryd.underlying3,inf24,Tryd.underlying24]⟩,(fun h=>by cases h),(fun h=>by cases h)⟩
theorem good61:Go.Av.Good Tryd.prog 61 (tt 61):=⟨⟨Tryd.t61,_,inf61,rfl,rfl,rfl,fun c=>by simp [tt,VRs,VR,Value.cells],rfl,rfl⟩,⟨Tryd.underlying61,by rw [inf70];rfl⟩,(fun h=>by cases h),(fun h=>by cases h)⟩
theorem good66:Go.Av.Good Tryd.prog 66 (tt 66):=⟨⟨Tryd.t66,_,inf66,rfl,rfl,rfl,fun c=>by simp [tt,VRs,VR,Value.cells],rfl,rfl⟩,⟨Tryd.underlying66,by rw [inf9];rfl⟩,(fun h=>by cases h),(fun h=>by cases h)⟩
theorem good70:Go.Av.Good Tryd.prog 70 (tt 70):=⟨⟨Tryd.t70,_,inf70,rfl,rfl,rfl,fun c=>by simp [tt,VRs,VR,Value.cells],rfl,rfl⟩,⟨_,Tryd.underlying70,by simp [cel3,ag3,tt],by simp [inf3,Tryd.underlying3]⟩,fun _=>eq70,(fun h=>by cases h)⟩
theorem good77:Go.Av.Good Tryd.prog 77 (tt 77):=⟨⟨Tryd.t77,_,inf77,rfl,rfl,rfl,fun c=>by simp [tt,VRs,VR,Value.cells],rfl,rfl⟩,⟨_,Tryd.underlying77,rfl⟩,(fun h=>by cases h),(fun h=>by cases h)⟩
theorem good88:Go.Av.Good Tryd.prog 88 (tt 88):=⟨⟨Tryd.t88,_,inf88,rfl,rfl,rfl,fun c=>by simp [tt,VRs,VR,Value.cells],rfl,rfl⟩,⟨_,Tryd.underlying88⟩,(fun h=>by cases h),(fun h=>by cases h)⟩
theorem good89:Go.Av.Good Tryd.prog 89 (tt 89):=⟨⟨Tryd.t89,_,inf89,rfl,rfl,rfl,fun c=>by simp [tt,VRs,VR,Value.cells],rfl,rfl⟩,⟨Tryd.underlying89,by rw [inf5];rfl⟩,(fun h=>by cases h),(fun h=>by cases h)⟩
theorem good91:Go.Av.Good Tryd.prog 91 (tt 91):=⟨⟨Tryd.t91,_,inf91,rfl,rfl,rfl,fun c=>by simp [tt,VRs,VR,Value.cells],rfl,rfl⟩,⟨_,Tryd.underlying91,by simp [cel88,ag88,cel89,ag89,tt],by simp [inf88,Tryd.underlying88,inf89,Tryd.underlying89]⟩,(fun h=>by cases h),(fun h=>by cases h)⟩
theorem good101:Go.Av.Good Tryd.prog 101 (tt 101):=⟨⟨Tryd.t101,_,inf101,rfl,rfl,rfl,fun c=>by simp [tt,VRs,VR,Value.cells],rfl,rfl⟩,⟨_,Tryd.underlying101,rfl⟩,(fun h=>by cases h),(fun h=>by cases h)⟩
theorem good103:Go.Av.Good Tryd.prog 103 (tt 103):=⟨⟨Tryd.t103,_,inf103,rfl,rfl,rfl,fun c=>by simp [tt,VRs,VR,Value.cells],rfl,rfl⟩,Tryd.underlying103,(fun h=>by cases h),(fun h=>by cases h)⟩
theorem good106:Go.Av.Good Tryd.prog 106 (tt 106):=⟨⟨Tryd.t106,_,inf106,rfl,rfl,rfl,fun c=>by simp [tt,VRs,VR,Value.cells],rfl,rfl⟩,⟨_,Tryd.underlying106⟩,(fun h=>by cases h),(fun h=>by cases h)⟩
theorem good113:Go.Av.Good Tryd.prog 113 (tt 113):=⟨⟨Tryd.t113,_,inf113,rfl,rfl,rfl,fun c=>by simp [tt,VRs,VR,Value.cells],rfl,rfl⟩,Tryd.underlying113,(fun h=>by cases h),(fun h=>by cases h)⟩
theorem good120:Go.Av.Good Tryd.prog 120 (tt 120):=⟨⟨Tryd.t120,_,inf120,rfl,rfl,rfl,fun c=>by simp [tt,VRs,VR,Value.cells],rfl,rfl⟩,Tryd.underlying120,(fun h=>by cases h),(fun h=>by cases h)⟩
theorem tab:Tab Tryd.prog tt where
 all:=fun t h=>by
  unfold tt at h ⊢
  split at h
  ·exact good2
  ·exact good3
  ·exact good4
  ·exact good5
  ·exact good9
  ·exact good22
  ·exact good24
  ·exact good27
  ·exact good29
  ·exact good31
  ·exact good37
  ·exact good38
  ·exact good47
  ·exact good49
  ·exact good55
  ·exact good57
  ·exact good61
  ·exact good66
  ·exact good70
  ·exact good77
  ·exact good88
  ·exact good89
  ·exact good91
  ·exact good101
  ·exact good103
  ·exact good106
  ·exact good113
  ·exact good120
  ·cases h
 elem:=fun t e h=>by
  unfold tt at h
  split at h <;> first|(cases h;done)|(cases h;rfl)
@[go_sem] theorem tt_3:(∀ (k:IntKind) (n:Int),aconv (tt 2) (tt 113) (.int k n)=some (.int .u64 (wr .u64 n))):=by intros;rfl
@[go_sem] theorem tt_5:(∀ (s:AS) (p:AV),aload (tt 3) s p=(s.row p).bind fun r=>apart false 1 r.2 r.1):=by intro s p;unfold aload;cases s.row p <;> rfl
@[go_sem] theorem tt_6:(∀ ev:Operand→AV,arows tt ev (.alloc 3)=some (1,[[.int .i64 0]],3)):=by intros;rfl
@[go_sem] theorem tt_7:(∀ (ev:Operand→AV) (x:Operand),arows tt ev (.box 3 x)=if noL (ev x)=true∧(ev x).cells.length=1∧(ev x).cells.all AV.cell=true then some (1,[(ev x).cells],3) else none):=by intro ev x;simp [arows,tt,TI.knows]
@[go_sem] theorem tt_8:(∀ (k:IntKind) (n:Int),aconv (tt 3) (tt 103) (.int k n)=some (.int .u64 (wr .u64 n))):=by intros;rfl
@[go_sem] theorem tt_9:(∀ (k:IntKind) (n:Int),aconv (tt 3) (tt 113) (.int k n)=some (.int .u64 (wr .u64 n))):=by intros;rfl
@[go_sem] theorem tt_10:(∀ (s:AS) (p v:AV),aput (tt 3) s p v=aputz 1 s p v):=fun s p v=>aput_z rfl rfl s p v
@[go_sem] theorem tt_11:(∀ (s:AS) (p:AV),aload (tt 4) s p=(s.row p).bind fun r=>apart false 1 r.2 r.1):=by intro s p;unfold aload;cases s.row p <;> rfl
@[go_sem] theorem tt_12:(∀ ev:Operand→AV,arows tt ev (.alloc 4)=some (1,[[.bool false]],4)):=by intros;rfl
@[go_sem] theorem tt_16:(∀ (s:AS) (p v:AV),aput (tt 4) s p v=aputz 1 s p v):=fun s p v=>aput_z rfl rfl s p v
@[go_sem] theorem tt_17:(∀ (s:AS) (p:AV),aload (tt 5) s p=(s.row p).bind fun r=>apart false 1 r.2 r.1):=by intro s p;unfold aload;cases s.row p <;> rfl
@[go_sem] theorem tt_20:(∀ (k:IntKind) (n:Int),aconv (tt 5) (tt 3) (.int k n)=some (.int .i64 (wr .i64 n))):=by intros;rfl
@[go_sem] theorem tt_21:(∀ (s:AS) (p v:AV),aput (tt 5) s p v=aputz 1 s p v):=fun s p v=>aput_z rfl rfl s p v
@[go_sem] theorem tt_22:(∀ (s:AS) (p:AV),aload (tt 9) s p=(s.row p).bind fun r=>apart false 1 r.2 r.1):=by intro s p;unfold aload;cases s.row p <;> rfl
@[go_sem] theorem tt_25:(∀ (ez:Nat) (l:List UInt8) (lo hi:Option AV),asl (tt 9) ez lo hi (.str l)=aslz l.length lo hi fun a b=>some (.str ((l.drop a).take (b - a)))):=fun ez l lo hi=>asl_str rfl ez lo hi l
@[go_sem] theorem tt_26:(∀ (l:List UInt8),alen (tt 9) (.str l)=some (l.length:Int)):=by intros;rfl
@[go_sem] theorem tt_28:(∀ (s:AS) (p:AV),aload (tt 22) s p=(s.row p).bind fun r=>apart false 1 r.2 r.1):=by intro s p;unfold aload;cases s.row p <;> rfl
@[go_sem] theorem tt_31:(∀ (es:List (List AV)) (k:IntKind) (i:Int),aidx tt 22 (.lst 7 es) (.int k i)=if 0≤i∧i < es.length then some (.iptr (es.getD i.toNat []) 0) else none):=by intros;rfl
@[go_sem] theorem tt_32:(∀ (b:Bid) (o n:Nat) (k:IntKind) (i:Int),aidx tt 22 (.slc b 7 o n) (.int k i)=if 0≤i∧i < n then some (.ptr b (o+i.toNat) 0) else none):=by intros;rfl
@[go_sem] theorem tt_33:(∀ (b:Bid) (e o n:Nat),alen (tt 22) (.slc b e o n)=some (n:Int)):=by intros;rfl
@[go_sem] theorem tt_34:(∀ (e:Nat) (es:List (List AV)),alen (tt 22) (.lst e es)=some (es.length:Int)):=by intros;rfl
@[go_sem] theorem tt_35:(alen (tt 22) .nils=some 0):=by intros;rfl
@[go_sem] theorem tt_42:(elsize tt 22=7):=by intros;rfl
@[go_sem] theorem tt_43:(∀ (ev:Operand→AV) (n:Nat) (ps:List (Nat × Operand)),absl tt ev 22 n ps=if n≤16777216∧n * 7≤16777216∧ps.map (·.1)=List.range n∧(ps.all fun p=>noL (ev p.2) && ((ev p.2).cells.length == 7) && (ev p.2).cells.all AV.cell)=true then some (7,ps.map fun p=>(ev p.2).cells) else none):=by intros;rfl
@[go_sem] theorem tt_50:(∀ (s:AS) (p:AV),aload (tt 24) s p=(s.row p).bind fun r=>apart true 9 r.2 r.1):=by intro s p;unfold aload;cases s.row p <;> rfl
@[go_sem] theorem tt_51:(∀ ev:Operand→AV,arows tt ev (.alloc 24)=some (9,[[.int .i64 0,.int .i64 0,.int .i64 0,.int .i64 0,.int .i64 0,.int .i64 0,.int .i64 0,.int .i64 0,.nils]],24)):=by intros;rfl
@[go_sem] theorem tt_52:(∀ (ev:Operand→AV) (x:Operand),arows tt ev (.box 24 x)=if noL (ev x)=true∧(ev x).cells.length=9∧(ev x).cells.all AV.cell=true then some (9,[(ev x).cells],24) else none):=by intro ev x;simp [arows,tt,TI.knows]
@[go_sem] theorem tt_53:(∀ v:AV,afieldAddr (tt 24) 0 v=amove 0 v):=by intros;rfl
@[go_sem] theorem tt_55:(∀ v:AV,afieldAddr (tt 24) 1 v=amove 1 v):=by intros;rfl
@[go_sem] theorem tt_57:(∀ v:AV,afieldAddr (tt 24) 2 v=amove 2 v):=by intros;rfl
@[go_sem] theorem tt_59:(∀ v:AV,afieldAddr (tt 24) 3 v=amove 3 v):=by intros;rfl
@[go_sem] theorem tt_61:(∀ v:AV,afieldAddr (tt 24) 4 v=amove 4 v):=by intros;rfl
@[go_sem] theorem tt_63:(∀ v:AV,afieldAddr (tt 24) 5 v=amove 5 v):=by intros;rfl
@[go_sem] theorem tt_65:(∀ v:AV,afieldAddr (tt 24) 6 v=amove 6 v):=by intros;rfl
@[go_sem] theorem tt_67:(∀ v:AV,afieldAddr (tt 24) 7 v=amove 7 v):=by intros;rfl
@[go_sem] theorem tt_69:(∀ v:AV,afieldAddr (tt 24) 8 v=amove 8 v):=by intros;rfl
@[go_sem] theorem tt_71:(∀ ps:List (Nat × AV),abuild tt 24 ps=(afill (fun i=>([(0,1),(1,1),(2,1),(3,1),(4,1),(5,1),(6,1),(7,1),(8,1)]:List (Nat × Nat))[i]?) [.int .i64 0,.int .i64 0,.int .i64 0,.int .i64 0,.int .i64 0,.int .i64 0,.int .i64 0,.int .i64 0,.nils] ps).map .agg):=fun ps=>by show Option.map _ (afill _ _ _)=_;congr 2;funext i;rw [← List.getElem?_map];rfl
@[go_sem] theorem tt_72:(∀ (s:AS) (p v:AV),aput (tt 24) s p v=aputz 9 s p v):=fun s p v=>aput_z rfl rfl s p v
@[go_sem] theorem tt_73:(∀ (s:AS) (p:AV),aload (tt 27) s p=(s.row p).bind fun r=>apart true 2 r.2 r.1):=by intro s p;unfold aload;cases s.row p <;> rfl
@[go_sem] theorem tt_74:(∀ ev:Operand→AV,arows tt ev (.alloc 27)=some (2,[[.int .i64 0,.int .i64 0]],27)):=by intros;rfl
@[go_sem] theorem tt_75:(∀ (ev:Operand→AV) (x:Operand),arows tt ev (.box 27 x)=if noL (ev x)=true∧(ev x).cells.length=2∧(ev x).cells.all AV.cell=true then some (2,[(ev x).cells],27) else none):=by intro ev x;simp [arows,tt,TI.knows]
@[go_sem] theorem tt_76:(∀ v:AV,afieldAddr (tt 27) 0 v=amove 0 v):=by intros;rfl
@[go_sem] theorem tt_78:(∀ v:AV,afieldAddr (tt 27) 1 v=amove 1 v):=by intros;rfl
@[go_sem] theorem tt_80:(∀ ps:List (Nat × AV),abuild tt 27 ps=(afill (fun i=>([(0,1),(1,1)]:List (Nat × Nat))[i]?) [.int .i64 0,.int .i64 0] ps).map .agg):=fun ps=>by show Option.map _ (afill _ _ _)=_;congr 2;funext i;rw [← List.getElem?_map];rfl
@[go_sem] theorem tt_81:(∀ (c:Bool) (x y:List AV),abin (tt 27) .eql c (.agg x) (.agg y)=aeql 2 (fun b=>b) (ints x) (ints y)):=fun c x y=>by cases hx:ints x <;> cases hy:ints y <;> simp [tt,abin,abinB,aeql,hx,hy]
@[go_sem] theorem tt_82:(∀ (c:Bool) (x y:List AV),abin (tt 27) .neq c (.agg x) (.agg y)=aeql 2 (fun b=>!b) (ints x) (ints y)):=fun c x y=>by cases hx:ints x <;> cases hy:ints y <;> simp [tt,abin,abinB,aeql,hx,hy]
@[go_sem] theorem tt_83:(∀ (s:AS) (p v:AV),aput (tt 27) s p v=aputz 2 s p v):=fun s p v=>aput_z rfl rfl s p v
@[go_sem] theorem tt_84:(∀ (s:AS) (p:AV),aload (tt 29) s p=(s.row p).bind fun r=>apart true 7 r.2 r.1):=by intro s p;unfold aload;cases s.row p <;> rfl
@[go_sem] theorem tt_85:(∀ ev:Operand→AV,arows tt ev (.alloc 29)=some (7,[[.int .i64 0,.int .i64 0,.int .i64 0,.int .i64 0,.int .i64 0,.int .i64 0,.int .i64 0]],29)):=by intros;rfl
@[go_sem] theorem tt_86:(∀ (ev:Operand→AV) (x:Operand),arows tt ev (.box 29 x)=if noL (ev x)=true∧(ev x).cells.length=7∧(ev x).cells.all AV.cell=true then some (7,[(ev x).cells],29) else none):=by intro ev x;simp [arows,tt,TI.knows]
@[go_sem] theorem tt_87:(∀ v:AV,afieldAddr (tt 29) 0 v=amove 0 v):=by intros;rfl
@[go_sem] theorem tt_89:(∀ v:AV,afieldAddr (tt 29) 1 v=amove 1 v):=by intros;rfl
@[go_sem] theorem tt_91:(∀ v:AV,afieldAddr (tt 29) 2 v=amove 3 v):=by intros;rfl
@[go_sem] theorem tt_93:(∀ v:AV,afieldAddr (tt 29) 3 v=amove 5 v):=by intros;rfl
@[go_sem] theorem tt_95:(∀ v:AV,afieldAddr (tt 29) 4 v=amove 6 v):=by intros;rfl
@[go_sem] theorem tt_97:(∀ ps:List (Nat × AV),abuild tt 29 ps=(afill (fun i=>([(0,1),(1,2),(3,2),(5,1),(6,1)]:List (Nat × Nat))[i]?) [.int .i64 0,.int .i64 0,.int .i64 0,.int .i64 0,.int .i64 0,.int .i64 0,.int .i64 0] ps).map .agg):=fun ps=>by show Option.map _ (afill _ _ _)=_;congr 2;funext i;rw [← List.getElem?_map];rfl
@[go_sem] theorem tt_98:(∀ (s:AS) (p v:AV),aput (tt 29) s p v=aputz 7 s p v):=fun s p v=>aput_z rfl rfl s p v
@[go_sem] theorem tt_99:(∀ (s:AS) (p:AV),aload (tt 31) s p=(s.row p).bind fun r=>apart false 1 r.2 r.1):=by intro s p;unfold aload;cases s.row p <;> rfl
@[go_sem] theorem tt_100:(∀ ev:Operand→AV,arows tt ev (.alloc 31)=some (1,[[.int .i64 0]],31)):=by intros;rfl
@[go_sem] theorem tt_102:(∀ (s:AS) (p v:AV),aput (tt 31) s p v=aputz 1 s p v):=fun s p v=>aput_z rfl rfl s p v
@[go_sem] theorem tt_106:(∀ (es:List (List AV)) (k:IntKind) (i:Int),aidx tt 37 (.lst 9 es) (.int k i)=if 0≤i∧i < es.length then some (.iptr (es.getD i.toNat []) 0) else none):=by intros;rfl
@[go_sem] theorem tt_107:(∀ (b:Bid) (o n:Nat) (k:IntKind) (i:Int),aidx tt 37 (.slc b 9 o n) (.int k i)=if 0≤i∧i < n then some (.ptr b (o+i.toNat) 0) else none):=by intros;rfl
@[go_sem] theorem tt_108:(∀ (b:Bid) (e o n:Nat),alen (tt 37) (.slc b e o n)=some (n:Int)):=by intros;rfl
@[go_sem] theorem tt_109:(∀ (e:Nat) (es:List (List AV)),alen (tt 37) (.lst e es)=some (es.length:Int)):=by intros;rfl
@[go_sem] theorem tt_110:(alen (tt 37) .nils=some 0):=by intros;rfl
@[go_sem] theorem tt_117:(elsize tt 37=9):=by intros;rfl
@[go_sem] theorem tt_118:(∀ (ev:Operand→AV) (n:Nat) (ps:List (Nat × Operand)),absl tt ev 37 n ps=if n≤16777216∧n * 9≤16777216∧ps.map (·.1)=List.range n∧(ps.all fun p=>noL (ev p.2) && ((ev p.2).cells.length == 9) && (ev p.2).cells.all AV.cell)=true then some (9,ps.map fun p=>(ev p.2).cells) else none):=by intros;rfl
@[go_sem] theorem tt_125:(∀ (s:AS) (p:AV),aload (tt 38) s p=(s.row p).bind fun r=>apart false 1 r.2 r.1):=by intro s p;unfold aload;cases s.row p <;> rfl
@[go_sem] theorem tt_126:(∀ ev:Operand→AV,arows tt ev (.alloc 38)=some (1,[[.nils]],38)):=by intros;rfl
@[go_sem] theorem tt_128:(∀ (es:List (List AV)) (k:IntKind) (i:Int),aidx tt 38 (.lst 1 es) (.int k i)=if 0≤i∧i < es.length then some (.iptr (es.getD i.toNat []) 0) else none):=by intros;rfl
@[go_sem] theorem tt_129:(∀ (b:Bid) (o n:Nat) (k:IntKind) (i:Int),aidx tt 38 (.slc b 1 o n) (.int k i)=if 0≤i∧i < n then some (.ptr b (o+i.toNat) 0) else none):=by intros;rfl
@[go_sem] theorem tt_130:(∀ (b:Bid) (e o n:Nat),alen (tt 38) (.slc b e o n)=some (n:Int)):=by intros;rfl
@[go_sem] theorem tt_131:(∀ (e:Nat) (es:List (List AV)),alen (tt 38) (.lst e es)=some (es.length:Int)):=by intros;rfl
@[go_sem] theorem tt_132:(alen (tt 38) .nils=some 0):=by intros;rfl
@[go_sem] theorem tt_139:(elsize tt 38=1):=by intros;rfl
@[go_sem] theorem tt_140:(∀ (ev:Operand→AV) (n:Nat) (ps:List (Nat × Operand)),absl tt ev 38 n ps=if n≤16777216∧n * 1≤16777216∧ps.map (·.1)=List.range n∧(ps.all fun p=>noL (ev p.2) && ((ev p.2).cells.length == 1) && (ev p.2).cells.all AV.cell)=true then some (1,ps.map fun p=>(ev p.2).cells) else none):=by intros;rfl
@[go_sem] theorem tt_145:(∀ (h:AH) (id:Bid) (x y:AV),aapp tt h 38 id x y=aappz 1 8 h id x y):=fun h id x y=>by unfold aapp aappz;rfl
@[go_sem] theorem tt_146:(∀ (s:AS) (p v:AV),aput (tt 38) s p v=aputz 1 s p v):=fun s p v=>aput_z rfl rfl s p v
@[go_sem] theorem tt_147:(∀ (s:AS) (p:AV),aload (tt 47) s p=(s.row p).bind fun r=>apart true 3 r.2 r.1):=by intro s p;unfold aload;cases s.row p <;> rfl
@[go_sem] theorem tt_148:(∀ ev:Operand→AV,arows tt ev (.alloc 47)=some (3,[[.int .i64 0,.int .i64 0,.int .i64 0]],47)):=by intros;rfl
@[go_sem] theorem tt_149:(∀ (ev:Operand→AV) (x:Operand),arows tt ev (.box 47 x)=if noL (ev x)=true∧(ev x).cells.length=3∧(ev x).cells.all AV.cell=true then some (3,[(ev x).cells],47) else none):=by intro ev x;simp [arows,tt,TI.knows]
@[go_sem] theorem tt_150:(∀ v:AV,afieldAddr (tt 47) 0 v=amove 0 v):=by intros;rfl
@[go_sem] theorem tt_152:(∀ v:AV,afieldAddr (tt 47) 1 v=amove 1 v):=by intros;rfl
@[go_sem] theorem tt_154:(∀ v:AV,afieldAddr (tt 47) 2 v=amove 2 v):=by intros;rfl
@[go_sem] theorem tt_156:(∀ ps:List (Nat × AV),abuild tt 47 ps=(afill (fun i=>([(0,1),(1,1),(2,1)]:List (Nat × Nat))[i]?) [.int .i64 0,.int .i64 0,.int .i64 0] ps).map .agg):=fun ps=>by show Option.map _ (afill _ _ _)=_;congr 2;funext i;rw [← List.getElem?_map];rfl
@[go_sem] theorem tt_157:(∀ (s:AS) (p v:AV),aput (tt 47) s p v=aputz 3 s p v):=fun s p v=>aput_z rfl rfl s p v
@[go_sem] theorem tt_158:(∀ (s:AS) (p:AV),aload (tt 49) s p=(s.row p).bind fun r=>apart false 1 r.2 r.1):=by intro s p;unfold aload;cases s.row p <;> rfl
@[go_sem] theorem tt_160:(∀ (ev:Operand→AV) (x:Operand),arows tt ev (.box 49 x)=if noL (ev x)=true∧(ev x).cells.length=1∧(ev x).cells.all AV.cell=true then some (1,[(ev x).cells],49) else none):=by intro ev x;simp [arows,tt,TI.knows]
@[go_sem] theorem tt_161:(∀ (es:List (List AV)) (k:IntKind) (i:Int),aidx tt 49 (.lst 3 es) (.int k i)=if 0≤i∧i < es.length then some (.iptr (es.getD i.toNat []) 0) else none):=by intros;rfl
@[go_sem] theorem tt_162:(∀ (b:Bid) (o n:Nat) (k:IntKind) (i:Int),aidx tt 49 (.slc b 3 o n) (.int k i)=if 0≤i∧i < n then some (.ptr b (o+i.toNat) 0) else none):=by intros;rfl
@[go_sem] theorem tt_163:(∀ (b:Bid) (e o n:Nat),alen (tt 49) (.slc b e o n)=some (n:Int)):=by intros;rfl
@[go_sem] theorem tt_164:(∀ (e:Nat) (es:List (List AV)),alen (tt 49) (.lst e es)=some (es.length:Int)):=by intros;rfl
@[go_sem] theorem tt_165:(alen (tt 49) .nils=some 0):=by intros;rfl
@[go_sem] theorem tt_172:(elsize tt 49=3):=by intros;rfl
@[go_sem] theorem tt_173:(∀ (ev:Operand→AV) (n:Nat) (ps:List (Nat × Operand)),absl tt ev 49 n ps=if n≤16777216∧n * 3≤16777216∧ps.map (·.1)=List.range n∧(ps.all fun p=>noL (ev p.2) && ((ev p.2).cells.length == 3) && (ev p.2).cells.all AV.cell)=true then some (3,ps.map fun p=>(ev p.2).cells) else none):=by intros;rfl
@[go_sem] theorem tt_180:(∀ (s:AS) (p:AV),aload (tt 55) s p=(s.row p).bind fun r=>apart true 2 r.2 r.1):=by intro s p;unfold aload;cases s.row p <;> rfl
@[go_sem] theorem tt_181:(∀ ev:Operand→AV,arows tt ev (.alloc 55)=some (2,[[.int .i64 0,.int .i64 0]],55)):=by intros;rfl
@[go_sem] theorem tt_182:(∀ (ev:Operand→AV) (x:Operand),arows tt ev (.box 55 x)=if noL (ev x)=true∧(ev x).cells.length=2∧(ev x).cells.all AV.cell=true then some (2,[(ev x).cells],55) else none):=by intro ev x;simp [arows,tt,TI.knows]
@[go_sem] theorem tt_183:(∀ (v:AV) (k:IntKind) (i:Int),aidx tt 55 v (.int k i)=if 0≤i∧i < 2 then amove (i.toNat * 1) v else none):=by intros;rfl
@[go_sem] theorem tt_184:(∀ (cs:List AV) (k:IntKind) (i:Int),aindex tt 55 (.agg cs) (.int k i)=if 0≤i∧i < 2 then apart false 1 (i.toNat * 1) cs else none):=by intros;rfl
@[go_sem] theorem tt_185:(∀ ps:List (Nat × AV),abuild tt 55 ps=(afill (fun i=>some (i * 1,1)) [.int .i64 0,.int .i64 0] ps).map .agg):=by intros;rfl
@[go_sem] theorem tt_186:(elsize tt 55=1):=by intros;rfl
@[go_sem] theorem tt_189:(∀ (s:AS) (p v:AV),aput (tt 55) s p v=aputz 2 s p v):=fun s p v=>aput_z rfl rfl s p v
@[go_sem] theorem tt_190:(∀ (s:AS) (p:AV),aload (tt 57) s p=(s.row p).bind fun r=>apart true 11 r.2 r.1):=by intro s p;unfold aload;cases s.row p <;> rfl
@[go_sem] theorem tt_191:(∀ ev:Operand→AV,arows tt ev (.alloc 57)=some (11,[[.int .i64 0,.int .i64 0,.int .i64 0,.int .i64 0,.int .i64 0,.int .i64 0,.int .i64 0,.int .i64 0,.nils,.int .i64 0,.int .i64 0]],57)):=by intros;rfl
@[go_sem] theorem tt_192:(∀ (ev:Operand→AV) (x:Operand),arows tt ev (.box 57 x)=if noL (ev x)=true∧(ev x).cells.length=11∧(ev x).cells.all AV.cell=true then some (11,[(ev x).cells],57) else none):=by intro ev x;simp [arows,tt,TI.knows]
@[go_sem] theorem tt_193:(∀ v:AV,afieldAddr (tt 57) 0 v=amove 0 v):=by intros;rfl
@[go_sem] theorem tt_195:(∀ v:AV,afieldAddr (tt 57) 1 v=amove 9 v):=by intros;rfl
@[go_sem] theorem tt_197:(∀ v:AV,afieldAddr (tt 57) 2 v=amove 10 v):=by intros;rfl
@[go_sem] theorem tt_199:(∀ ps:List (Nat × AV),abuild tt 57 ps=(afill (fun i=>([(0,9),(9,1),(10,1)]:List (Nat × Nat))[i]?) [.int .i64 0,.int .i64 0,.int .i64 0,.int .i64 0,.int .i64 0,.int .i64 0,.int .i64 0,.int .i64 0,.nils,.int .i64 0,.int .i64 0] ps).map .agg):=fun ps=>by show Option.map _ (afill _ _ _)=_;congr 2;funext i;rw [← List.getElem?_map];rfl
@[go_sem] theorem tt_200:(∀ (s:AS) (p v:AV),aput (tt 57) s p v=aputz 11 s p v):=fun s p v=>aput_z rfl rfl s p v
@[go_sem] theorem tt_201:(∀ (s:AS) (p:AV),aload (tt 61) s p=(s.row p).bind fun r=>apart false 1 r.2 r.1):=by intro s p;unfold aload;cases s.row p <;> rfl
@[go_sem] theorem tt_202:(∀ ev:Operand→AV,arows tt ev (.alloc 61)=some (1,[[.nils]],61)):=by intros;rfl
@[go_sem] theorem tt_204:(∀ (es:List (List AV)) (k:IntKind) (i:Int),aidx tt 61 (.lst 2 es) (.int k i)=if 0≤i∧i < es.length then some (.iptr (es.getD i.toNat []) 0) else none):=by intros;rfl
@[go_sem] theorem tt_205:(∀ (b:Bid) (o n:Nat) (k:IntKind) (i:Int),aidx tt 61 (.slc b 2 o n) (.int k i)=if 0≤i∧i < n then some (.ptr b (o+i.toNat) 0) else none):=by intros;rfl
@[go_sem] theorem tt_206:(∀ (b:Bid) (e o n:Nat),alen (tt 61) (.slc b e o n)=some (n:Int)):=by intros;rfl
@[go_sem] theorem tt_207:(∀ (e:Nat) (es:List (List AV)),alen (tt 61) (.lst e es)=some (es.length:Int)):=by intros;rfl
@[go_sem] theorem tt_208:(alen (tt 61) .nils=some 0):=by intros;rfl
@[go_sem] theorem tt_215:(elsize tt 61=2):=by intros;rfl
@[go_sem] theorem tt_216:(∀ (ev:Operand→AV) (n:Nat) (ps:List (Nat × Operand)),absl tt ev 61 n ps=if n≤16777216∧n * 2≤16777216∧ps.map (·.1)=List.range n∧(ps.all fun p=>noL (ev p.2) && ((ev p.2).cells.length == 2) && (ev p.2).cells.all AV.cell)=true then some (2,ps.map fun p=>(ev p.2).cells) else none):=by intros;rfl
@[go_sem] theorem tt_221:(∀ (h:AH) (id:Bid) (x y:AV),aapp tt h 61 id x y=aappz 2 16 h id x y):=fun h id x y=>by unfold aapp aappz;rfl
@[go_sem] theorem tt_222:(∀ (s:AS) (p v:AV),aput (tt 61) s p v=aputz 1 s p v):=fun s p v=>aput_z rfl rfl s p v
@[go_sem] theorem tt_226:(∀ (es:List (List AV)) (k:IntKind) (i:Int),aidx tt 66 (.lst 1 es) (.int k i)=if 0≤i∧i < es.length then some (.iptr (es.getD i.toNat []) 0) else none):=by intros;rfl
@[go_sem] theorem tt_227:(∀ (b:Bid) (o n:Nat) (k:IntKind) (i:Int),aidx tt 66 (.slc b 1 o n) (.int k i)=if 0≤i∧i < n then some (.ptr b (o+i.toNat) 0) else none):=by intros;rfl
@[go_sem] theorem tt_228:(∀ (b:Bid) (e o n:Nat),alen (tt 66) (.slc b e o n)=some (n:Int)):=by intros;rfl
@[go_sem] theorem tt_229:(∀ (e:Nat) (es:List (List AV)),alen (tt 66) (.lst e es)=some (es.length:Int)):=by intros;rfl
@[go_sem] theorem tt_230:(alen (tt 66) .nils=some 0):=by intros;rfl
@[go_sem] theorem tt_237:(elsize tt 66=1):=by intros;rfl
@[go_sem] theorem tt_238:(∀ (ev:Operand→AV) (n:Nat) (ps:List (Nat × Operand)),absl tt ev 66 n ps=if n≤16777216∧n * 1≤16777216∧ps.map (·.1)=List.range n∧(ps.all fun p=>noL (ev p.2) && ((ev p.2).cells.length == 1) && (ev p.2).cells.all AV.cell)=true then some (1,ps.map fun p=>(ev p.2).cells) else none):=by intros;rfl
@[go_sem] theorem tt_243:(∀ (h:AH) (id:Bid) (x y:AV),aapp tt h 66 id x y=aappz 1 16 h id x y):=fun h id x y=>by unfold aapp aappz;rfl
@[go_sem] theorem tt_245:(∀ (s:AS) (p:AV),aload (tt 70) s p=(s.row p).bind fun r=>apart true 2 r.2 r.1):=by intro s p;unfold aload;cases s.row p <;> rfl
@[go_sem] theorem tt_252:(∀ ps:List (Nat × AV),abuild tt 70 ps=(afill (fun i=>([(0,1),(1,1)]:List (Nat × Nat))[i]?) [.int .i64 0,.int .i64 0] ps).map .agg):=fun ps=>by show Option.map _ (afill _ _ _)=_;congr 2;funext i;rw [← List.getElem?_map];rfl
@[go_sem] theorem tt_253:(∀ (c:Bool) (x y:List AV),abin (tt 70) .eql c (.agg x) (.agg y)=aeql 2 (fun b=>b) (ints x) (ints y)):=fun c x y=>by cases hx:ints x <;> cases hy:ints y <;> simp [tt,abin,abinB,aeql,hx,hy]
@[go_sem] theorem tt_256:(∀ (s:AS) (p:AV),aload (tt 77) s p=(s.row p).bind fun r=>apart false 1 r.2 r.1):=by intro s p;unfold aload;cases s.row p <;> rfl
@[go_sem] theorem tt_257:(∀ ev:Operand→AV,arows tt ev (.alloc 77)=some (1,[[.nilfn]],77)):=by intros;rfl
@[go_sem] theorem tt_259:(∀ (s:AS) (p v:AV),aput (tt 77) s p v=aputz 1 s p v):=fun s p v=>aput_z rfl rfl s p v
@[go_sem] theorem tt_260:(∀ (s:AS) (p:AV),aload (tt 88) s p=(s.row p).bind fun r=>apart false 1 r.2 r.1):=by intro s p;unfold aload;cases s.row p <;> rfl
@[go_sem] theorem tt_263:(∀ (s:AS) (p v:AV),aput (tt 88) s p v=aputz 1 s p v):=fun s p v=>aput_z rfl rfl s p v
@[go_sem] theorem tt_264:(∀ (s:AS) (p:AV),aload (tt 89) s p=(s.row p).bind fun r=>apart false 1 r.2 r.1):=by intro s p;unfold aload;cases s.row p <;> rfl
@[go_sem] theorem tt_267:(∀ (es:List (List AV)) (k:IntKind) (i:Int),aidx tt 89 (.lst 1 es) (.int k i)=if 0≤i∧i < es.length then some (.iptr (es.getD i.toNat []) 0) else none):=by intros;rfl
@[go_sem] theorem tt_268:(∀ (b:Bid) (o n:Nat) (k:IntKind) (i:Int),aidx tt 89 (.slc b 1 o n) (.int k i)=if 0≤i∧i < n then some (.ptr b (o+i.toNat) 0) else none):=by intros;rfl
@[go_sem] theorem tt_269:(∀ (b:Bid) (e o n:Nat),alen (tt 89) (.slc b e o n)=some (n:Int)):=by intros;rfl
@[go_sem] theorem tt_270:(∀ (e:Nat) (es:List (List AV)),alen (tt 89) (.lst e es)=some (es.length:Int)):=by intros;rfl
@[go_sem] theorem tt_271:(alen (tt 89) .nils=some 0):=by intros;rfl
@[go_sem] theorem tt_278:(elsize tt 89=1):=by intros;rfl
@[go_sem] theorem tt_279:(∀ (ev:Operand→AV) (n:Nat) (ps:List (Nat × Operand)),absl tt ev 89 n ps=if n≤16777216∧n * 1≤16777216∧ps.map (·.1)=List.range n∧(ps.all fun p=>noL (ev p.2) && ((ev p.2).cells.length == 1) && (ev p.2).cells.all AV.cell)=true then some (1,ps.map fun p=>(ev p.2).cells) else none):=by intros;rfl
@[go_sem] theorem tt_284:(∀ (h:AH) (id:Bid) (x y:AV),aapp tt h 89 id x y=aappz 1 1 h id x y):=fun h id x y=>by unfold aapp aappz;rfl
@[go_sem] theorem tt_285:(∀ (s:AS) (p v:AV),aput (tt 89) s p v=aputz 1 s p v):=fun s p v=>aput_z rfl rfl s p v
@[go_sem] theorem tt_287:(∀ ev:Operand→AV,arows tt ev (.alloc 91)=some (2,[[.nilp,.nils]],91)):=by intros;rfl
@[go_sem] theorem tt_289:(∀ v:AV,afieldAddr (tt 91) 0 v=amove 0 v):=by intros;rfl
@[go_sem] theorem tt_291:(∀ v:AV,afieldAddr (tt 91) 1 v=amove 1 v):=by intros;rfl
@[go_sem] theorem tt_295:(∀ (s:AS) (p:AV),aload (tt 101) s p=(s.row p).bind fun r=>apart false 1 r.2 r.1):=by intro s p;unfold aload;cases s.row p <;> rfl
@[go_sem] theorem tt_296:(∀ ev:Operand→AV,arows tt ev (.alloc 101)=some (1,[[.nilfn]],101)):=by intros;rfl
@[go_sem] theorem tt_298:(∀ (s:AS) (p v:AV),aput (tt 101) s p v=aputz 1 s p v):=fun s p v=>aput_z rfl rfl s p v
@[go_sem] theorem tt_302:(∀ (k:IntKind) (n:Int),aconv (tt 103) (tt 3) (.int k n)=some (.int .i64 (wr .i64 n))):=by intros;rfl
@[go_sem] theorem tt_303:(∀ (k:IntKind) (n:Int),aconv (tt 103) (tt 120) (.int k n)=some (.int .u32 (wr .u32 n))):=by intros;rfl
@[go_sem] theorem tt_309:(∀ (s:AS) (p:AV),aload (tt 113) s p=(s.row p).bind fun r=>apart false 1 r.2 r.1):=by intro s p;unfold aload;cases s.row p <;> rfl
@[go_sem] theorem tt_312:(∀ (k:IntKind) (n:Int),aconv (tt 113) (tt 5) (.int k n)=some (.int .u8 (wr .u8 n))):=by intros;rfl
@[go_sem] theorem tt_313:(∀ (k:IntKind) (n:Int),aconv (tt 113) (tt 120) (.int k n)=some (.int .u32 (wr .u32 n))):=by intros;rfl
@[go_sem] theorem tt_318:(∀ (k:IntKind) (n:Int),aconv (tt 120) (tt 5) (.int k n)=some (.int .u8 (wr .u8 n))):=by intros;rfl
end Go.Proofs.YthpkmcjiobnpgaaDoor
