/- Printed by gentab.py: the types that this seat's functions name, as a table of our own; that the table is right. -/
import Derived.Test.YtefogfgddofdmaaDoorBaseD
import Derived.Test.YtefogfgddofdmaaDoorProg
import Derived.KernelRfl
set_option linter.all false
set_option linter.unusedSimpArgs false
set_option linter.unusedVariables false
namespace Go.Proofs.YtefogfgddofdmaaDoor
open Go.Av
def tt:Nat→TI
 | 2=>⟨.int .i64,1,8,[.int .i64 0],false,false⟩
 | 3=>⟨.int .i64,1,8,[.int .i64 0],false,false⟩
 | 4=>⟨.bool,1,1,[.bool false],false,false⟩
 | 5=>⟨.int .u8,1,1,[.int .u8 0],false,false⟩
 | 9=>⟨.str,1,16,[.str []],false,false⟩
 | 22=>⟨.slice 29,1,24,[.nils],false,false⟩
 | 23=>⟨.slice 31,1,24,[.nils],false,false⟩
 | 25=>⟨.struct [(0,1,false),(1,1,false)],2,48,[.nils,.nils],false,false⟩
 | 27=>⟨.slice 3,1,24,[.nils],false,false⟩
 | 29=>⟨.struct [(0,1,false),(1,1,false),(2,1,false),(3,1,false)],4,48,[.int .i64 0,.int .i64 0,.int .i64 0,.nils],false,false⟩
 | 31=>⟨.struct [(0,1,false),(1,1,false),(2,1,false)],3,24,[.int .i64 0,.int .i64 0,.int .i64 0],false,false⟩
 | 33=>⟨.int .i64,1,8,[.int .i64 0],false,false⟩
 | 35=>⟨.slice 27,1,24,[.nils],false,false⟩
 | 43=>⟨.slice 48,1,24,[.nils],false,false⟩
 | 48=>⟨.struct [(0,1,false),(1,1,false),(2,1,false)],3,24,[.int .i64 0,.int .i64 0,.int .i64 0],true,false⟩
 | 50=>⟨.struct [(0,1,false),(1,1,false)],2,16,[.int .i64 0,.int .i64 0],true,false⟩
 | 63=>⟨.int .i64,1,8,[.int .i64 0],false,false⟩
 | 67=>⟨.array 8 3,8,64,[.int .i64 0,.int .i64 0,.int .i64 0,.int .i64 0,.int .i64 0,.int .i64 0,.int .i64 0,.int .i64 0],false,false⟩
 | 73=>⟨.int .u64,1,8,[.int .u64 0],false,false⟩
 | 81=>⟨.ptr,1,8,[.nilp],false,false⟩
 | 82=>⟨.slice 5,1,24,[.nils],false,false⟩
 | 84=>⟨.struct [(0,1,false),(1,1,false)],2,32,[.nilp,.nils],false,false⟩
 | 92=>⟨.int .u32,1,4,[.int .u32 0],false,false⟩
 | 94=>⟨.int .u64,1,8,[.int .u64 0],false,false⟩
 | 101=>⟨.ptr,1,8,[.nilp],false,false⟩
 | 102=>⟨.plain,1,8,[.nilfn],false,false⟩
 | 103=>⟨.plain,1,8,[.nilfn],false,false⟩
 | _=>⟨.unknown,0,0,[],false,false⟩
theorem info_row {t:TypeId} {r:TypeInfo} (h:Tryd.prog.types[t]?=some r):Tryd.prog.info? t=some r:=by
 have hlt:t < Tryd.prog.types.size:=(Array.getElem?_eq_some_iff.1 h).1
 unfold Tables.info?;rw [if_pos hlt];exact h
theorem inf2:Tryd.prog.info? 2=some Tryd.t2:=info_row Tryd.type2
theorem cel2:Tryd.prog.cellsOf 2=1:=by unfold Program.cellsOf;rw [inf2];rfl
theorem ag2:aggB Tryd.prog 2=false:=by unfold aggB;rw [Tryd.underlying2]
theorem inf3:Tryd.prog.info? 3=some Tryd.t3:=info_row Tryd.type3
theorem cel3:Tryd.prog.cellsOf 3=1:=by unfold Program.cellsOf;rw [inf3];rfl
theorem ag3:aggB Tryd.prog 3=false:=by unfold aggB;rw [Tryd.underlying3]
theorem inf4:Tryd.prog.info? 4=some Tryd.t4:=info_row Tryd.type4
theorem cel4:Tryd.prog.cellsOf 4=1:=by unfold Program.cellsOf;rw [inf4];rfl
theorem ag4:aggB Tryd.prog 4=false:=by unfold aggB;rw [Tryd.underlying4]
theorem inf5:Tryd.prog.info? 5=some Tryd.t5:=info_row Tryd.type5
theorem cel5:Tryd.prog.cellsOf 5=1:=by unfold Program.cellsOf;rw [inf5];rfl
theorem ag5:aggB Tryd.prog 5=false:=by unfold aggB;rw [Tryd.underlying5]
theorem inf9:Tryd.prog.info? 9=some Tryd.t9:=info_row Tryd.type9
theorem cel9:Tryd.prog.cellsOf 9=1:=by unfold Program.cellsOf;rw [inf9];rfl
theorem ag9:aggB Tryd.prog 9=false:=by unfold aggB;rw [Tryd.underlying9]
theorem inf22:Tryd.prog.info? 22=some Tryd.t22:=info_row Tryd.type22
theorem cel22:Tryd.prog.cellsOf 22=1:=by unfold Program.cellsOf;rw [inf22];rfl
theorem ag22:aggB Tryd.prog 22=false:=by unfold aggB;rw [Tryd.underlying22]
theorem inf23:Tryd.prog.info? 23=some Tryd.t23:=info_row Tryd.type23
theorem cel23:Tryd.prog.cellsOf 23=1:=by unfold Program.cellsOf;rw [inf23];rfl
theorem ag23:aggB Tryd.prog 23=false:=by unfold aggB;rw [Tryd.underlying23]
theorem inf25:Tryd.prog.info? 25=some Tryd.t25:=info_row Tryd.type25
theorem cel25:Tryd.prog.cellsOf 25=2:=by unfold Program.cellsOf;rw [inf25];rfl
theorem ag25:aggB Tryd.prog 25=true:=by unfold aggB;rw [Tryd.underlying25]
theorem inf27:Tryd.prog.info? 27=some Tryd.t27:=info_row Tryd.type27
theorem cel27:Tryd.prog.cellsOf 27=1:=by unfold Program.cellsOf;rw [inf27];rfl
theorem ag27:aggB Tryd.prog 27=false:=by unfold aggB;rw [Tryd.underlying27]
theorem inf29:Tryd.prog.info? 29=some Tryd.t29:=info_row Tryd.type29
theorem cel29:Tryd.prog.cellsOf 29=4:=by unfold Program.cellsOf;rw [inf29];rfl
theorem ag29:aggB Tryd.prog 29=true:=by unfold aggB;rw [Tryd.underlying29]
theorem inf31:Tryd.prog.info? 31=some Tryd.t31:=info_row Tryd.type31
theorem cel31:Tryd.prog.cellsOf 31=3:=by unfold Program.cellsOf;rw [inf31];rfl
theorem ag31:aggB Tryd.prog 31=true:=by unfold aggB;rw [Tryd.underlying31]
theorem inf33:Tryd.prog.info? 33=some Tryd.t33:=info_row Tryd.type33
theorem cel33:Tryd.prog.cellsOf 33=1:=by unfold Program.cellsOf;rw [inf33];rfl
theorem ag33:aggB Tryd.prog 33=false:=by unfold aggB;rw [Tryd.underlying33]
theorem inf35:Tryd.prog.info? 35=some Tryd.t35:=info_row Tryd.type35
theorem cel35:Tryd.prog.cellsOf 35=1:=by unfold Program.cellsOf;rw [inf35];rfl
theorem ag35:aggB Tryd.prog 35=false:=by unfold aggB;rw [Tryd.underlying35]
theorem inf43:Tryd.prog.info? 43=some Tryd.t43:=info_row Tryd.type43
theorem cel43:Tryd.prog.cellsOf 43=1:=by unfold Program.cellsOf;rw [inf43];rfl
theorem ag43:aggB Tryd.prog 43=false:=by unfold aggB;rw [Tryd.underlying43]
theorem inf48:Tryd.prog.info? 48=some Tryd.t48:=info_row Tryd.type48
theorem cel48:Tryd.prog.cellsOf 48=3:=by unfold Program.cellsOf;rw [inf48];rfl
theorem ag48:aggB Tryd.prog 48=true:=by unfold aggB;rw [Tryd.underlying48]
theorem inf50:Tryd.prog.info? 50=some Tryd.t50:=info_row Tryd.type50
theorem cel50:Tryd.prog.cellsOf 50=2:=by unfold Program.cellsOf;rw [inf50];rfl
theorem ag50:aggB Tryd.prog 50=true:=by unfold aggB;rw [Tryd.underlying50]
theorem inf63:Tryd.prog.info? 63=some Tryd.t63:=info_row Tryd.type63
theorem cel63:Tryd.prog.cellsOf 63=1:=by unfold Program.cellsOf;rw [inf63];rfl
theorem ag63:aggB Tryd.prog 63=false:=by unfold aggB;rw [Tryd.underlying63]
theorem inf67:Tryd.prog.info? 67=some Tryd.t67:=info_row Tryd.type67
theorem cel67:Tryd.prog.cellsOf 67=8:=by unfold Program.cellsOf;rw [inf67];rfl
theorem ag67:aggB Tryd.prog 67=true:=by unfold aggB;rw [Tryd.underlying67]
theorem inf73:Tryd.prog.info? 73=some Tryd.t73:=info_row Tryd.type73
theorem cel73:Tryd.prog.cellsOf 73=1:=by unfold Program.cellsOf;rw [inf73];rfl
theorem ag73:aggB Tryd.prog 73=false:=by unfold aggB;rw [Tryd.underlying73]
theorem inf81:Tryd.prog.info? 81=some Tryd.t81:=info_row Tryd.type81
theorem cel81:Tryd.prog.cellsOf 81=1:=by unfold Program.cellsOf;rw [inf81];rfl
theorem ag81:aggB Tryd.prog 81=false:=by unfold aggB;rw [Tryd.underlying81]
theorem inf82:Tryd.prog.info? 82=some Tryd.t82:=info_row Tryd.type82
theorem cel82:Tryd.prog.cellsOf 82=1:=by unfold Program.cellsOf;rw [inf82];rfl
theorem ag82:aggB Tryd.prog 82=false:=by unfold aggB;rw [Tryd.underlying82]
theorem inf84:Tryd.prog.info? 84=some Tryd.t84:=info_row Tryd.type84
theorem cel84:Tryd.prog.cellsOf 84=2:=by unfold Program.cellsOf;rw [inf84];rfl
theorem ag84:aggB Tryd.prog 84=true:=by unfold aggB;rw [Tryd.underlying84]
theorem inf92:Tryd.prog.info? 92=some Tryd.t92:=info_row Tryd.type92
theorem cel92:Tryd.prog.cellsOf 92=1:=by unfold Program.cellsOf;rw [inf92];rfl
theorem ag92:aggB Tryd.prog 92=false:=by unfold aggB;rw [Tryd.underlying92]
theorem inf94:Tryd.prog.info? 94=some Tryd.t94:=info_row Tryd.type94
theorem cel94:Tryd.prog.cellsOf 94=1:=by unfold Program.cellsOf;rw [inf94];rfl
theorem ag94:aggB Tryd.prog 94=false:=by unfold aggB;rw [Tryd.underlying94]
theorem inf101:Tryd.prog.info? 101=some Tryd.t101:=info_row Tryd.type101
theorem cel101:Tryd.prog.cellsOf 101=1:=by unfold Program.cellsOf;rw [inf101];rfl
theorem ag101:aggB Tryd.prog 101=false:=by unfold aggB;rw [Tryd.underlying101]
theorem inf102:Tryd.prog.info? 102=some Tryd.t102:=info_row Tryd.type102
theorem cel102:Tryd.prog.cellsOf 102=1:=by unfold Program.cellsOf;rw [inf102];rfl
theorem ag102:aggB Tryd.prog 102=false:=by unfold aggB;rw [Tryd.underlying102]
theorem inf103:Tryd.prog.info? 103=some Tryd.t103:=info_row Tryd.type103
theorem cel103:Tryd.prog.cellsOf 103=1:=by unfold Program.cellsOf;rw [inf103];rfl
theorem ag103:aggB Tryd.prog 103=false:=by unfold aggB;rw [Tryd.underlying103]
theorem eq48:EqFact Tryd.prog 48 3:=EqFact.ints Tryd.underlying48 (by kernel_rfl) (by kernel_rfl) (by intro f hf;simp at hf;rcases hf with rfl|rfl|rfl <;> exact ⟨by decide,by first|exact ⟨_,Tryd.underlying3⟩⟩) rfl rfl
theorem eq50:EqFact Tryd.prog 50 2:=EqFact.ints Tryd.underlying50 (by kernel_rfl) (by kernel_rfl) (by intro f hf;simp at hf;rcases hf with rfl|rfl <;> exact ⟨by decide,by first|exact ⟨_,Tryd.underlying3⟩⟩) rfl rfl
theorem good2:Go.Av.Good Tryd.prog 2 (tt 2):=⟨⟨Tryd.t2,_,inf2,rfl,rfl,rfl,fun c=>by simp [tt,VRs,VR,Value.cells],rfl,rfl⟩,Tryd.underlying2,(fun h=>by cases h),(fun h=>by cases h)⟩
theorem good3:Go.Av.Good Tryd.prog 3 (tt 3):=⟨⟨Tryd.t3,_,inf3,rfl,rfl,rfl,fun c=>by simp [tt,VRs,VR,Value.cells],rfl,rfl⟩,Tryd.underlying3,(fun h=>by cases h),(fun h=>by cases h)⟩
theorem good4:Go.Av.Good Tryd.prog 4 (tt 4):=⟨⟨Tryd.t4,_,inf4,rfl,rfl,rfl,fun c=>by simp [tt,VRs,VR,Value.cells],rfl,rfl⟩,Tryd.underlying4,(fun h=>by cases h),(fun h=>by cases h)⟩
theorem good5:Go.Av.Good Tryd.prog 5 (tt 5):=⟨⟨Tryd.t5,_,inf5,rfl,rfl,rfl,fun c=>by simp [tt,VRs,VR,Value.cells],rfl,rfl⟩,Tryd.underlying5,(fun h=>by cases h),(fun h=>by cases h)⟩
theorem good9:Go.Av.Good Tryd.prog 9 (tt 9):=⟨⟨Tryd.t9,_,inf9,rfl,rfl,rfl,fun c=>by simp [tt,VRs,VR,Value.cells],rfl,rfl⟩,Tryd.underlying9,(fun h=>by cases h),(fun h=>by cases h)⟩
theorem good22:Go.Av.Good Tryd.prog 22 (tt 22):=⟨⟨Tryd.t22,_,inf22,rfl,rfl,rfl,fun c=>by simp [tt,VRs,VR,Value.cells],rfl,rfl⟩,⟨Tryd.underlying22,by rw [inf29];rfl⟩,(fun h=>by cases h),(fun h=>by cases h)⟩
theorem good23:Go.Av.Good Tryd.prog 23 (tt 23):=⟨⟨Tryd.t23,_,inf23,rfl,rfl,rfl,fun c=>by simp [tt,VRs,VR,Value.cells],rfl,rfl⟩,⟨Tryd.underlying23,by rw [inf31];rfl⟩,(fun h=>by cases h),(fun h=>by cases h)⟩
theorem good25:Go.Av.Good Tryd.prog 25 (tt 25):=⟨⟨Tryd.t25,_,inf25,rfl,rfl,rfl,fun c=>by simp [tt,VRs,VR,Value.cells],rfl,rfl⟩,⟨_,Tryd.underlying25,by simp [cel22,ag22,cel23,ag23,tt],by simp [inf22,Tryd.underlying22,inf23,Tryd.underlying23]⟩,(fun h=>by cases h),(fun h=>by cases h)⟩
theorem good27:Go.Av.Good Tryd.prog 27 (tt 27):=⟨⟨Tryd.t27,_,inf27,rfl,rfl,rfl,fun c=>by simp [tt,VRs,VR,Value.cells],rfl,rfl⟩,⟨Tryd.underlying27,by rw [inf3];rfl⟩,(fun h=>by cases h),(fun h=>by cases h)⟩
theorem good29:Go.Av.Good Tryd.prog 29 (tt 29):=⟨⟨Tryd.t29,_,inf29,rfl,rfl,rfl,fun c=>by simp [tt,VRs,VR,Value.cells],rfl,rfl⟩,⟨_,Tryd.underlying29,by simp [cel3,ag3,cel27,ag27,tt],by simp [inf3,Tryd.underlying3,inf27,Tryd.underlying27]⟩,(fun h=>by cases h),(fun h=>by cases h)⟩
theorem good31:Go.Av.Good Tryd.prog 31 (tt 31):=⟨⟨Tryd.t31,_,inf31,rfl,rfl,rfl,fun c=>by simp [tt,VRs,VR,Value.cells],rfl,rfl⟩,⟨_,Tryd.underlying31,by simp [cel3,ag3,tt],by simp [inf3,Tryd.underlying3]⟩,(fun h=>by cases h),(fun h=>by cases h)⟩
theorem good33:Go.Av.Good Tryd.prog 33 (tt 33):=⟨⟨Tryd.t33,_,inf33,rfl,rfl,rfl,fun c=>by simp [tt,VRs,VR,Value.cells],rfl,rfl⟩,Tryd.underlying33,(fun h=>by cases h),(fun h=>by cases h)⟩
theorem good35:Go.Av.Good Tryd.prog 35 (tt 35):=⟨⟨Tryd.t35,_,inf35,rfl,rfl,rfl,fun c=>by simp [tt,VRs,VR,Value.cells],rfl,rfl⟩,⟨Tryd.underlying35,by rw [inf27];rfl⟩,(fun h=>by cases h),(fun h=>by cases h)⟩
theorem good43:Go.Av.Good Tryd.prog 43 (tt 43):=⟨⟨Tryd.t43,_,inf43,rfl,rfl,rfl,fun c=>by simp [tt,VRs,VR,Value.cells],rfl,rfl⟩,⟨Tryd.underlying43,by rw [inf48];rfl⟩,(fun h=>by cases h),(fun h=>by cases h)⟩
theorem good48:Go.Av.Good Tryd.prog 48 (tt 48):=⟨⟨Tryd.t48,_,inf48,rfl,rfl,rfl,fun c=>by simp [tt,VRs,VR,Value.cells],rfl,rfl⟩,⟨_,Tryd.underlying48,by simp [cel3,ag3,tt],by simp [inf3,Tryd.underlying3]⟩,fun _=>eq48,(fun h=>by cases h)⟩
theorem good50:Go.Av.Good Tryd.prog 50 (tt 50):=⟨⟨Tryd.t50,_,inf50,rfl,rfl,rfl,fun c=>by simp [tt,VRs,VR,Value.cells],rfl,rfl⟩,⟨_,Tryd.underlying50,by simp [cel3,ag3,tt],by simp [inf3,Tryd.underlying3]⟩,fun _=>eq50,(fun h=>by cases h)⟩
theorem good63:Go.Av.Good Tryd.prog 63 (tt 63):=⟨⟨Tryd.t63,_,inf63,rfl,rfl,rfl,fun c=>by simp [tt,VRs,VR,Value.cells],rfl,rfl⟩,Tryd.underlying63,(fun h=>by cases h),(fun h=>by cases h)⟩
theorem good67:Go.Av.Good Tryd.prog 67 (tt 67):=⟨⟨Tryd.t67,_,inf67,rfl,rfl,rfl,fun c=>by simp [tt,VRs,VR,Value.cells],rfl,rfl⟩,⟨Tryd.underlying67,by rw [inf3];rfl⟩,(fun h=>by cases h),(fun h=>by cases h)⟩
theorem good73:Go.Av.Good Tryd.prog 73 (tt 73):=⟨⟨Tryd.t73,_,inf73,rfl,rfl,rfl,fun c=>by simp [tt,VRs,VR,Value.cells],rfl,rfl⟩,Tryd.underlying73,(fun h=>by cases h),(fun h=>by cases h)⟩
theorem good81:Go.Av.Good Tryd.prog 81 (tt 81):=⟨⟨Tryd.t81,_,inf81,rfl,rfl,rfl,fun c=>by simp [tt,VRs,VR,Value.cells],rfl,rfl⟩,⟨_,Tryd.underlying81⟩,(fun h=>by cases h),(fun h=>by cases h)⟩
theorem good82:Go.Av.Good Tryd.prog 82 (tt 82):=⟨⟨Tryd.t82,_,inf82,rfl,rfl,rfl,fun c=>by simp [tt,VRs,VR,Value.cells],rfl,rfl⟩,⟨Tryd.underlying82,by rw [inf5];rfl⟩,(fun h=>by cases h),(fun h=>by cases h)⟩
theorem good84:Go.Av.Good Tryd.prog 84 (tt 84):=⟨⟨Tryd.t84,_,inf84,rfl,rfl,rfl,fun c=>by simp [tt,VRs,VR,Value.cells],rfl,rfl⟩,⟨_,Tryd.underlying84,by simp [cel81,ag81,cel82,ag82,tt],by simp [inf81,Tryd.underlying81,inf82,Tryd.underlying82]⟩,(fun h=>by cases h),(fun h=>by cases h)⟩
theorem good92:Go.Av.Good Tryd.prog 92 (tt 92):=⟨⟨Tryd.t92,_,inf92,rfl,rfl,rfl,fun c=>by simp [tt,VRs,VR,Value.cells],rfl,rfl⟩,Tryd.underlying92,(fun h=>by cases h),(fun h=>by cases h)⟩
theorem good94:Go.Av.Good Tryd.prog 94 (tt 94):=⟨⟨Tryd.t94,_,inf94,rfl,rfl,rfl,fun c=>by simp [tt,VRs,VR,Value.cells],rfl,rfl⟩,Tryd.underlying94,(fun h=>by cases h),(fun h=>by cases h)⟩
theorem good101:Go.Av.Good Tryd.prog 101 (tt 101):=⟨⟨Tryd.t101,_,inf101,rfl,rfl,rfl,fun c=>by simp [tt,VRs,VR,Value.cells],rfl,rfl⟩,⟨_,Tryd.underlying101⟩,(fun h=>by cases h),(fun h=>by cases h)⟩
theorem good102:Go.Av.Good Tryd.prog 102 (tt 102):=⟨⟨Tryd.t102,_,inf102,rfl,rfl,rfl,fun c=>by simp [tt,VRs,VR,Value.cells],rfl,rfl⟩,⟨_,Tryd.underlying102,rfl⟩,(fun h=>by cases h),(fun h=>by cases h)⟩
theorem good103:Go.Av.Good Tryd.prog 103 (tt 103):=⟨⟨Tryd.t103,_,inf103,rfl,rfl,rfl,fun c=>by simp [tt,VRs,VR,Value.cells],rfl,rfl⟩,⟨_,Tryd.underlying103,rfl⟩,(fun h=>by cases h),(fun h=>by cases h)⟩
theorem tab:Tab Tryd.prog tt where
 all:=fun t h=>by
  unfold tt at h ⊢
  split at h
  ·exact good2
  ·exact good3
  ·exact good4
  ·exact good5
  ·exact good9
  ·exact good22
  ·exact good23
  ·exact good25
  ·exact good27
  ·exact good29
  ·exact good31
  ·exact good33
  ·exact good35
  ·exact good43
  ·exact good48
  ·exact good50
  ·exact good63
  ·exact good67
  ·exact good73
  ·exact good81
  ·exact good82
  ·exact good84
  ·exact good92
  ·exact good94
  ·exact good101
  ·exact good102
  ·exact good103
  ·cases h
 elem:=fun t e h=>by
  unfold tt at h
  split at h <;> first|(cases h;done)|(cases h;rfl)
@[go_sem] theorem tt_3:(∀ (k:IntKind) (n:Int),aconv (tt 2) (tt 94) (.int k n)=some (.int .u64 (wr .u64 n))):=by intros;rfl
@[go_sem] theorem tt_5:(∀ (s:AS) (p:AV),aload (tt 3) s p=(s.row p).bind fun r=>apart false 1 r.2 r.1):=by intro s p;unfold aload;cases s.row p <;> rfl
@[go_sem] theorem tt_7:(∀ (ev:Operand→AV) (x:Operand),arows tt ev (.box 3 x)=if noL (ev x)=true∧(ev x).cells.length=1∧(ev x).cells.all AV.cell=true then some (1,[(ev x).cells],3) else none):=by intro ev x;simp [arows,tt,TI.knows]
@[go_sem] theorem tt_8:(∀ (k:IntKind) (n:Int),aconv (tt 3) (tt 73) (.int k n)=some (.int .u64 (wr .u64 n))):=by intros;rfl
@[go_sem] theorem tt_9:(∀ (k:IntKind) (n:Int),aconv (tt 3) (tt 94) (.int k n)=some (.int .u64 (wr .u64 n))):=by intros;rfl
@[go_sem] theorem tt_10:(∀ (s:AS) (p v:AV),aput (tt 3) s p v=aputz 1 s p v):=fun s p v=>aput_z rfl rfl s p v
@[go_sem] theorem tt_11:(∀ (s:AS) (p:AV),aload (tt 4) s p=(s.row p).bind fun r=>apart false 1 r.2 r.1):=by intro s p;unfold aload;cases s.row p <;> rfl
@[go_sem] theorem tt_12:(∀ ev:Operand→AV,arows tt ev (.alloc 4)=some (1,[[.bool false]],4)):=by intros;rfl
@[go_sem] theorem tt_16:(∀ (s:AS) (p v:AV),aput (tt 4) s p v=aputz 1 s p v):=fun s p v=>aput_z rfl rfl s p v
@[go_sem] theorem tt_17:(∀ (s:AS) (p:AV),aload (tt 5) s p=(s.row p).bind fun r=>apart false 1 r.2 r.1):=by intro s p;unfold aload;cases s.row p <;> rfl
@[go_sem] theorem tt_20:(∀ (k:IntKind) (n:Int),aconv (tt 5) (tt 3) (.int k n)=some (.int .i64 (wr .i64 n))):=by intros;rfl
@[go_sem] theorem tt_21:(∀ (s:AS) (p v:AV),aput (tt 5) s p v=aputz 1 s p v):=fun s p v=>aput_z rfl rfl s p v
@[go_sem] theorem tt_25:(∀ (ez:Nat) (l:List UInt8) (lo hi:Option AV),asl (tt 9) ez lo hi (.str l)=aslz l.length lo hi fun a b=>some (.str ((l.drop a).take (b - a)))):=fun ez l lo hi=>asl_str rfl ez lo hi l
@[go_sem] theorem tt_26:(∀ (l:List UInt8),alen (tt 9) (.str l)=some (l.length:Int)):=by intros;rfl
@[go_sem] theorem tt_28:(∀ (s:AS) (p:AV),aload (tt 22) s p=(s.row p).bind fun r=>apart false 1 r.2 r.1):=by intro s p;unfold aload;cases s.row p <;> rfl
@[go_sem] theorem tt_31:(∀ (es:List (List AV)) (k:IntKind) (i:Int),aidx tt 22 (.lst 4 es) (.int k i)=if 0≤i∧i < es.length then some (.iptr (es.getD i.toNat []) 0) else none):=by intros;rfl
@[go_sem] theorem tt_32:(∀ (b:Bid) (o n:Nat) (k:IntKind) (i:Int),aidx tt 22 (.slc b 4 o n) (.int k i)=if 0≤i∧i < n then some (.ptr b (o+i.toNat) 0) else none):=by intros;rfl
@[go_sem] theorem tt_33:(∀ (b:Bid) (e o n:Nat),alen (tt 22) (.slc b e o n)=some (n:Int)):=by intros;rfl
@[go_sem] theorem tt_34:(∀ (e:Nat) (es:List (List AV)),alen (tt 22) (.lst e es)=some (es.length:Int)):=by intros;rfl
@[go_sem] theorem tt_35:(alen (tt 22) .nils=some 0):=by intros;rfl
@[go_sem] theorem tt_42:(elsize tt 22=4):=by intros;rfl
@[go_sem] theorem tt_43:(∀ (ev:Operand→AV) (n:Nat) (ps:List (Nat × Operand)),absl tt ev 22 n ps=if n≤16777216∧n * 4≤16777216∧ps.map (·.1)=List.range n∧(ps.all fun p=>noL (ev p.2) && ((ev p.2).cells.length == 4) && (ev p.2).cells.all AV.cell)=true then some (4,ps.map fun p=>(ev p.2).cells) else none):=by intros;rfl
@[go_sem] theorem tt_50:(∀ (s:AS) (p:AV),aload (tt 23) s p=(s.row p).bind fun r=>apart false 1 r.2 r.1):=by intro s p;unfold aload;cases s.row p <;> rfl
@[go_sem] theorem tt_53:(∀ (es:List (List AV)) (k:IntKind) (i:Int),aidx tt 23 (.lst 3 es) (.int k i)=if 0≤i∧i < es.length then some (.iptr (es.getD i.toNat []) 0) else none):=by intros;rfl
@[go_sem] theorem tt_54:(∀ (b:Bid) (o n:Nat) (k:IntKind) (i:Int),aidx tt 23 (.slc b 3 o n) (.int k i)=if 0≤i∧i < n then some (.ptr b (o+i.toNat) 0) else none):=by intros;rfl
@[go_sem] theorem tt_55:(∀ (b:Bid) (e o n:Nat),alen (tt 23) (.slc b e o n)=some (n:Int)):=by intros;rfl
@[go_sem] theorem tt_56:(∀ (e:Nat) (es:List (List AV)),alen (tt 23) (.lst e es)=some (es.length:Int)):=by intros;rfl
@[go_sem] theorem tt_57:(alen (tt 23) .nils=some 0):=by intros;rfl
@[go_sem] theorem tt_64:(elsize tt 23=3):=by intros;rfl
@[go_sem] theorem tt_65:(∀ (ev:Operand→AV) (n:Nat) (ps:List (Nat × Operand)),absl tt ev 23 n ps=if n≤16777216∧n * 3≤16777216∧ps.map (·.1)=List.range n∧(ps.all fun p=>noL (ev p.2) && ((ev p.2).cells.length == 3) && (ev p.2).cells.all AV.cell)=true then some (3,ps.map fun p=>(ev p.2).cells) else none):=by intros;rfl
@[go_sem] theorem tt_72:(∀ (s:AS) (p:AV),aload (tt 25) s p=(s.row p).bind fun r=>apart true 2 r.2 r.1):=by intro s p;unfold aload;cases s.row p <;> rfl
@[go_sem] theorem tt_73:(∀ ev:Operand→AV,arows tt ev (.alloc 25)=some (2,[[.nils,.nils]],25)):=by intros;rfl
@[go_sem] theorem tt_74:(∀ (ev:Operand→AV) (x:Operand),arows tt ev (.box 25 x)=if noL (ev x)=true∧(ev x).cells.length=2∧(ev x).cells.all AV.cell=true then some (2,[(ev x).cells],25) else none):=by intro ev x;simp [arows,tt,TI.knows]
@[go_sem] theorem tt_75:(∀ v:AV,afieldAddr (tt 25) 0 v=amove 0 v):=by intros;rfl
@[go_sem] theorem tt_77:(∀ v:AV,afieldAddr (tt 25) 1 v=amove 1 v):=by intros;rfl
@[go_sem] theorem tt_79:(∀ ps:List (Nat × AV),abuild tt 25 ps=(afill (fun i=>([(0,1),(1,1)]:List (Nat × Nat))[i]?) [.nils,.nils] ps).map .agg):=fun ps=>by show Option.map _ (afill _ _ _)=_;congr 2;funext i;rw [← List.getElem?_map];rfl
@[go_sem] theorem tt_80:(∀ (s:AS) (p v:AV),aput (tt 25) s p v=aputz 2 s p v):=fun s p v=>aput_z rfl rfl s p v
@[go_sem] theorem tt_81:(∀ (s:AS) (p:AV),aload (tt 27) s p=(s.row p).bind fun r=>apart false 1 r.2 r.1):=by intro s p;unfold aload;cases s.row p <;> rfl
@[go_sem] theorem tt_84:(∀ (es:List (List AV)) (k:IntKind) (i:Int),aidx tt 27 (.lst 1 es) (.int k i)=if 0≤i∧i < es.length then some (.iptr (es.getD i.toNat []) 0) else none):=by intros;rfl
@[go_sem] theorem tt_85:(∀ (b:Bid) (o n:Nat) (k:IntKind) (i:Int),aidx tt 27 (.slc b 1 o n) (.int k i)=if 0≤i∧i < n then some (.ptr b (o+i.toNat) 0) else none):=by intros;rfl
@[go_sem] theorem tt_86:(∀ (b:Bid) (e o n:Nat),alen (tt 27) (.slc b e o n)=some (n:Int)):=by intros;rfl
@[go_sem] theorem tt_87:(∀ (e:Nat) (es:List (List AV)),alen (tt 27) (.lst e es)=some (es.length:Int)):=by intros;rfl
@[go_sem] theorem tt_88:(alen (tt 27) .nils=some 0):=by intros;rfl
@[go_sem] theorem tt_95:(elsize tt 27=1):=by intros;rfl
@[go_sem] theorem tt_96:(∀ (ev:Operand→AV) (n:Nat) (ps:List (Nat × Operand)),absl tt ev 27 n ps=if n≤16777216∧n * 1≤16777216∧ps.map (·.1)=List.range n∧(ps.all fun p=>noL (ev p.2) && ((ev p.2).cells.length == 1) && (ev p.2).cells.all AV.cell)=true then some (1,ps.map fun p=>(ev p.2).cells) else none):=by intros;rfl
@[go_sem] theorem tt_97:(∀ (k k':IntKind) (l c:Int),amake tt 27 (.int k l) (.int k' c)=if 0≤l∧l≤c∧c * 8≤70368744177664∧c≤70368744177664 then some (1,List.replicate l.toNat [.int .i64 0],l.toNat) else none):=by intros;rfl
@[go_sem] theorem tt_98:(∀ (h:AH) (x y:AV),acopy tt h 27 x y=acopyz 1 h x y):=fun h x y=>by unfold acopy acopyz;rfl
@[go_sem] theorem tt_101:(∀ (h:AH) (id:Bid) (x y:AV),aapp tt h 27 id x y=aappz 1 8 h id x y):=fun h id x y=>by unfold aapp aappz;rfl
@[go_sem] theorem tt_102:(∀ (s:AS) (p v:AV),aput (tt 27) s p v=aputz 1 s p v):=fun s p v=>aput_z rfl rfl s p v
@[go_sem] theorem tt_103:(∀ (s:AS) (p:AV),aload (tt 29) s p=(s.row p).bind fun r=>apart true 4 r.2 r.1):=by intro s p;unfold aload;cases s.row p <;> rfl
@[go_sem] theorem tt_104:(∀ ev:Operand→AV,arows tt ev (.alloc 29)=some (4,[[.int .i64 0,.int .i64 0,.int .i64 0,.nils]],29)):=by intros;rfl
@[go_sem] theorem tt_105:(∀ (ev:Operand→AV) (x:Operand),arows tt ev (.box 29 x)=if noL (ev x)=true∧(ev x).cells.length=4∧(ev x).cells.all AV.cell=true then some (4,[(ev x).cells],29) else none):=by intro ev x;simp [arows,tt,TI.knows]
@[go_sem] theorem tt_106:(∀ v:AV,afieldAddr (tt 29) 0 v=amove 0 v):=by intros;rfl
@[go_sem] theorem tt_108:(∀ v:AV,afieldAddr (tt 29) 1 v=amove 1 v):=by intros;rfl
@[go_sem] theorem tt_110:(∀ v:AV,afieldAddr (tt 29) 2 v=amove 2 v):=by intros;rfl
@[go_sem] theorem tt_112:(∀ v:AV,afieldAddr (tt 29) 3 v=amove 3 v):=by intros;rfl
@[go_sem] theorem tt_114:(∀ ps:List (Nat × AV),abuild tt 29 ps=(afill (fun i=>([(0,1),(1,1),(2,1),(3,1)]:List (Nat × Nat))[i]?) [.int .i64 0,.int .i64 0,.int .i64 0,.nils] ps).map .agg):=fun ps=>by show Option.map _ (afill _ _ _)=_;congr 2;funext i;rw [← List.getElem?_map];rfl
@[go_sem] theorem tt_115:(∀ (s:AS) (p v:AV),aput (tt 29) s p v=aputz 4 s p v):=fun s p v=>aput_z rfl rfl s p v
@[go_sem] theorem tt_116:(∀ (s:AS) (p:AV),aload (tt 31) s p=(s.row p).bind fun r=>apart true 3 r.2 r.1):=by intro s p;unfold aload;cases s.row p <;> rfl
@[go_sem] theorem tt_117:(∀ ev:Operand→AV,arows tt ev (.alloc 31)=some (3,[[.int .i64 0,.int .i64 0,.int .i64 0]],31)):=by intros;rfl
@[go_sem] theorem tt_118:(∀ (ev:Operand→AV) (x:Operand),arows tt ev (.box 31 x)=if noL (ev x)=true∧(ev x).cells.length=3∧(ev x).cells.all AV.cell=true then some (3,[(ev x).cells],31) else none):=by intro ev x;simp [arows,tt,TI.knows]
@[go_sem] theorem tt_119:(∀ v:AV,afieldAddr (tt 31) 0 v=amove 0 v):=by intros;rfl
@[go_sem] theorem tt_121:(∀ v:AV,afieldAddr (tt 31) 1 v=amove 1 v):=by intros;rfl
@[go_sem] theorem tt_123:(∀ v:AV,afieldAddr (tt 31) 2 v=amove 2 v):=by intros;rfl
@[go_sem] theorem tt_125:(∀ ps:List (Nat × AV),abuild tt 31 ps=(afill (fun i=>([(0,1),(1,1),(2,1)]:List (Nat × Nat))[i]?) [.int .i64 0,.int .i64 0,.int .i64 0] ps).map .agg):=fun ps=>by show Option.map _ (afill _ _ _)=_;congr 2;funext i;rw [← List.getElem?_map];rfl
@[go_sem] theorem tt_126:(∀ (s:AS) (p v:AV),aput (tt 31) s p v=aputz 3 s p v):=fun s p v=>aput_z rfl rfl s p v
@[go_sem] theorem tt_134:(∀ (es:List (List AV)) (k:IntKind) (i:Int),aidx tt 35 (.lst 1 es) (.int k i)=if 0≤i∧i < es.length then some (.iptr (es.getD i.toNat []) 0) else none):=by intros;rfl
@[go_sem] theorem tt_135:(∀ (b:Bid) (o n:Nat) (k:IntKind) (i:Int),aidx tt 35 (.slc b 1 o n) (.int k i)=if 0≤i∧i < n then some (.ptr b (o+i.toNat) 0) else none):=by intros;rfl
@[go_sem] theorem tt_136:(∀ (b:Bid) (e o n:Nat),alen (tt 35) (.slc b e o n)=some (n:Int)):=by intros;rfl
@[go_sem] theorem tt_137:(∀ (e:Nat) (es:List (List AV)),alen (tt 35) (.lst e es)=some (es.length:Int)):=by intros;rfl
@[go_sem] theorem tt_138:(alen (tt 35) .nils=some 0):=by intros;rfl
@[go_sem] theorem tt_145:(elsize tt 35=1):=by intros;rfl
@[go_sem] theorem tt_146:(∀ (ev:Operand→AV) (n:Nat) (ps:List (Nat × Operand)),absl tt ev 35 n ps=if n≤16777216∧n * 1≤16777216∧ps.map (·.1)=List.range n∧(ps.all fun p=>noL (ev p.2) && ((ev p.2).cells.length == 1) && (ev p.2).cells.all AV.cell)=true then some (1,ps.map fun p=>(ev p.2).cells) else none):=by intros;rfl
@[go_sem] theorem tt_151:(∀ (h:AH) (id:Bid) (x y:AV),aapp tt h 35 id x y=aappz 1 24 h id x y):=fun h id x y=>by unfold aapp aappz;rfl
@[go_sem] theorem tt_156:(∀ (es:List (List AV)) (k:IntKind) (i:Int),aidx tt 43 (.lst 3 es) (.int k i)=if 0≤i∧i < es.length then some (.iptr (es.getD i.toNat []) 0) else none):=by intros;rfl
@[go_sem] theorem tt_157:(∀ (b:Bid) (o n:Nat) (k:IntKind) (i:Int),aidx tt 43 (.slc b 3 o n) (.int k i)=if 0≤i∧i < n then some (.ptr b (o+i.toNat) 0) else none):=by intros;rfl
@[go_sem] theorem tt_158:(∀ (b:Bid) (e o n:Nat),alen (tt 43) (.slc b e o n)=some (n:Int)):=by intros;rfl
@[go_sem] theorem tt_159:(∀ (e:Nat) (es:List (List AV)),alen (tt 43) (.lst e es)=some (es.length:Int)):=by intros;rfl
@[go_sem] theorem tt_160:(alen (tt 43) .nils=some 0):=by intros;rfl
@[go_sem] theorem tt_167:(elsize tt 43=3):=by intros;rfl
@[go_sem] theorem tt_168:(∀ (ev:Operand→AV) (n:Nat) (ps:List (Nat × Operand)),absl tt ev 43 n ps=if n≤16777216∧n * 3≤16777216∧ps.map (·.1)=List.range n∧(ps.all fun p=>noL (ev p.2) && ((ev p.2).cells.length == 3) && (ev p.2).cells.all AV.cell)=true then some (3,ps.map fun p=>(ev p.2).cells) else none):=by intros;rfl
@[go_sem] theorem tt_173:(∀ (h:AH) (id:Bid) (x y:AV),aapp tt h 43 id x y=aappz 3 24 h id x y):=fun h id x y=>by unfold aapp aappz;rfl
@[go_sem] theorem tt_175:(∀ (s:AS) (p:AV),aload (tt 48) s p=(s.row p).bind fun r=>apart true 3 r.2 r.1):=by intro s p;unfold aload;cases s.row p <;> rfl
@[go_sem] theorem tt_184:(∀ ps:List (Nat × AV),abuild tt 48 ps=(afill (fun i=>([(0,1),(1,1),(2,1)]:List (Nat × Nat))[i]?) [.int .i64 0,.int .i64 0,.int .i64 0] ps).map .agg):=fun ps=>by show Option.map _ (afill _ _ _)=_;congr 2;funext i;rw [← List.getElem?_map];rfl
@[go_sem] theorem tt_185:(∀ (c:Bool) (x y:List AV),abin (tt 48) .eql c (.agg x) (.agg y)=aeql 3 (fun b=>b) (ints x) (ints y)):=fun c x y=>by cases hx:ints x <;> cases hy:ints y <;> simp [tt,abin,abinB,aeql,hx,hy]
@[go_sem] theorem tt_188:(∀ (s:AS) (p:AV),aload (tt 50) s p=(s.row p).bind fun r=>apart true 2 r.2 r.1):=by intro s p;unfold aload;cases s.row p <;> rfl
@[go_sem] theorem tt_189:(∀ ev:Operand→AV,arows tt ev (.alloc 50)=some (2,[[.int .i64 0,.int .i64 0]],50)):=by intros;rfl
@[go_sem] theorem tt_191:(∀ v:AV,afieldAddr (tt 50) 0 v=amove 0 v):=by intros;rfl
@[go_sem] theorem tt_193:(∀ v:AV,afieldAddr (tt 50) 1 v=amove 1 v):=by intros;rfl
@[go_sem] theorem tt_195:(∀ ps:List (Nat × AV),abuild tt 50 ps=(afill (fun i=>([(0,1),(1,1)]:List (Nat × Nat))[i]?) [.int .i64 0,.int .i64 0] ps).map .agg):=fun ps=>by show Option.map _ (afill _ _ _)=_;congr 2;funext i;rw [← List.getElem?_map];rfl
@[go_sem] theorem tt_196:(∀ (c:Bool) (x y:List AV),abin (tt 50) .eql c (.agg x) (.agg y)=aeql 2 (fun b=>b) (ints x) (ints y)):=fun c x y=>by cases hx:ints x <;> cases hy:ints y <;> simp [tt,abin,abinB,aeql,hx,hy]
@[go_sem] theorem tt_197:(∀ (c:Bool) (x y:List AV),abin (tt 50) .neq c (.agg x) (.agg y)=aeql 2 (fun b=>!b) (ints x) (ints y)):=fun c x y=>by cases hx:ints x <;> cases hy:ints y <;> simp [tt,abin,abinB,aeql,hx,hy]
@[go_sem] theorem tt_198:(∀ (s:AS) (p v:AV),aput (tt 50) s p v=aputz 2 s p v):=fun s p v=>aput_z rfl rfl s p v
@[go_sem] theorem tt_199:(∀ (s:AS) (p:AV),aload (tt 63) s p=(s.row p).bind fun r=>apart false 1 r.2 r.1):=by intro s p;unfold aload;cases s.row p <;> rfl
@[go_sem] theorem tt_200:(∀ ev:Operand→AV,arows tt ev (.alloc 63)=some (1,[[.int .i64 0]],63)):=by intros;rfl
@[go_sem] theorem tt_201:(∀ (ev:Operand→AV) (x:Operand),arows tt ev (.box 63 x)=if noL (ev x)=true∧(ev x).cells.length=1∧(ev x).cells.all AV.cell=true then some (1,[(ev x).cells],63) else none):=by intro ev x;simp [arows,tt,TI.knows]
@[go_sem] theorem tt_202:(∀ (k:IntKind) (n:Int),aconv (tt 63) (tt 73) (.int k n)=some (.int .u64 (wr .u64 n))):=by intros;rfl
@[go_sem] theorem tt_203:(∀ (s:AS) (p v:AV),aput (tt 63) s p v=aputz 1 s p v):=fun s p v=>aput_z rfl rfl s p v
@[go_sem] theorem tt_204:(∀ (s:AS) (p:AV),aload (tt 67) s p=(s.row p).bind fun r=>apart true 8 r.2 r.1):=by intro s p;unfold aload;cases s.row p <;> rfl
@[go_sem] theorem tt_205:(∀ ev:Operand→AV,arows tt ev (.alloc 67)=some (8,[[.int .i64 0,.int .i64 0,.int .i64 0,.int .i64 0,.int .i64 0,.int .i64 0,.int .i64 0,.int .i64 0]],67)):=by intros;rfl
@[go_sem] theorem tt_206:(∀ (ev:Operand→AV) (x:Operand),arows tt ev (.box 67 x)=if noL (ev x)=true∧(ev x).cells.length=8∧(ev x).cells.all AV.cell=true then some (8,[(ev x).cells],67) else none):=by intro ev x;simp [arows,tt,TI.knows]
@[go_sem] theorem tt_207:(∀ (v:AV) (k:IntKind) (i:Int),aidx tt 67 v (.int k i)=if 0≤i∧i < 8 then amove (i.toNat * 1) v else none):=by intros;rfl
@[go_sem] theorem tt_208:(∀ (cs:List AV) (k:IntKind) (i:Int),aindex tt 67 (.agg cs) (.int k i)=if 0≤i∧i < 8 then apart false 1 (i.toNat * 1) cs else none):=by intros;rfl
@[go_sem] theorem tt_210:(elsize tt 67=1):=by intros;rfl
@[go_sem] theorem tt_211:(∀ (b:Bid) (m j:Nat),asl (tt 67) 1 none none (.aptr b m j)=if j+8≤m then some (.slc b 1 j 8) else none):=fun b m j=>asl_aptr rfl (by decide) b m j
@[go_sem] theorem tt_212:(∀ (cs:List AV) (j:Nat),asl (tt 67) 1 none none (.iptr cs j)=if j+8≤cs.length then some (.lstx 1 (((cs.drop j).take 8).map fun x=>[x])) else none):=fun cs j=>asl_iptr rfl cs j
@[go_sem] theorem tt_213:(∀ (s:AS) (p v:AV),aput (tt 67) s p v=aputz 8 s p v):=fun s p v=>aput_z rfl rfl s p v
@[go_sem] theorem tt_217:(∀ (k:IntKind) (n:Int),aconv (tt 73) (tt 92) (.int k n)=some (.int .u32 (wr .u32 n))):=by intros;rfl
@[go_sem] theorem tt_219:(∀ (s:AS) (p:AV),aload (tt 81) s p=(s.row p).bind fun r=>apart false 1 r.2 r.1):=by intro s p;unfold aload;cases s.row p <;> rfl
@[go_sem] theorem tt_222:(∀ (s:AS) (p v:AV),aput (tt 81) s p v=aputz 1 s p v):=fun s p v=>aput_z rfl rfl s p v
@[go_sem] theorem tt_223:(∀ (s:AS) (p:AV),aload (tt 82) s p=(s.row p).bind fun r=>apart false 1 r.2 r.1):=by intro s p;unfold aload;cases s.row p <;> rfl
@[go_sem] theorem tt_226:(∀ (es:List (List AV)) (k:IntKind) (i:Int),aidx tt 82 (.lst 1 es) (.int k i)=if 0≤i∧i < es.length then some (.iptr (es.getD i.toNat []) 0) else none):=by intros;rfl
@[go_sem] theorem tt_227:(∀ (b:Bid) (o n:Nat) (k:IntKind) (i:Int),aidx tt 82 (.slc b 1 o n) (.int k i)=if 0≤i∧i < n then some (.ptr b (o+i.toNat) 0) else none):=by intros;rfl
@[go_sem] theorem tt_228:(∀ (b:Bid) (e o n:Nat),alen (tt 82) (.slc b e o n)=some (n:Int)):=by intros;rfl
@[go_sem] theorem tt_229:(∀ (e:Nat) (es:List (List AV)),alen (tt 82) (.lst e es)=some (es.length:Int)):=by intros;rfl
@[go_sem] theorem tt_230:(alen (tt 82) .nils=some 0):=by intros;rfl
@[go_sem] theorem tt_237:(elsize tt 82=1):=by intros;rfl
@[go_sem] theorem tt_238:(∀ (ev:Operand→AV) (n:Nat) (ps:List (Nat × Operand)),absl tt ev 82 n ps=if n≤16777216∧n * 1≤16777216∧ps.map (·.1)=List.range n∧(ps.all fun p=>noL (ev p.2) && ((ev p.2).cells.length == 1) && (ev p.2).cells.all AV.cell)=true then some (1,ps.map fun p=>(ev p.2).cells) else none):=by intros;rfl
@[go_sem] theorem tt_243:(∀ (h:AH) (id:Bid) (x y:AV),aapp tt h 82 id x y=aappz 1 1 h id x y):=fun h id x y=>by unfold aapp aappz;rfl
@[go_sem] theorem tt_244:(∀ (s:AS) (p v:AV),aput (tt 82) s p v=aputz 1 s p v):=fun s p v=>aput_z rfl rfl s p v
@[go_sem] theorem tt_246:(∀ ev:Operand→AV,arows tt ev (.alloc 84)=some (2,[[.nilp,.nils]],84)):=by intros;rfl
@[go_sem] theorem tt_248:(∀ v:AV,afieldAddr (tt 84) 0 v=amove 0 v):=by intros;rfl
@[go_sem] theorem tt_250:(∀ v:AV,afieldAddr (tt 84) 1 v=amove 1 v):=by intros;rfl
@[go_sem] theorem tt_257:(∀ (k:IntKind) (n:Int),aconv (tt 92) (tt 5) (.int k n)=some (.int .u8 (wr .u8 n))):=by intros;rfl
@[go_sem] theorem tt_259:(∀ (s:AS) (p:AV),aload (tt 94) s p=(s.row p).bind fun r=>apart false 1 r.2 r.1):=by intro s p;unfold aload;cases s.row p <;> rfl
@[go_sem] theorem tt_262:(∀ (k:IntKind) (n:Int),aconv (tt 94) (tt 3) (.int k n)=some (.int .i64 (wr .i64 n))):=by intros;rfl
@[go_sem] theorem tt_263:(∀ (k:IntKind) (n:Int),aconv (tt 94) (tt 5) (.int k n)=some (.int .u8 (wr .u8 n))):=by intros;rfl
@[go_sem] theorem tt_264:(∀ (k:IntKind) (n:Int),aconv (tt 94) (tt 92) (.int k n)=some (.int .u32 (wr .u32 n))):=by intros;rfl
@[go_sem] theorem tt_270:(∀ (s:AS) (p:AV),aload (tt 102) s p=(s.row p).bind fun r=>apart false 1 r.2 r.1):=by intro s p;unfold aload;cases s.row p <;> rfl
@[go_sem] theorem tt_272:(∀ (ev:Operand→AV) (x:Operand),arows tt ev (.box 102 x)=if noL (ev x)=true∧(ev x).cells.length=1∧(ev x).cells.all AV.cell=true then some (1,[(ev x).cells],102) else none):=by intro ev x;simp [arows,tt,TI.knows]
@[go_sem] theorem tt_274:(∀ (s:AS) (p:AV),aload (tt 103) s p=(s.row p).bind fun r=>apart false 1 r.2 r.1):=by intro s p;unfold aload;cases s.row p <;> rfl
@[go_sem] theorem tt_275:(∀ ev:Operand→AV,arows tt ev (.alloc 103)=some (1,[[.nilfn]],103)):=by intros;rfl
@[go_sem] theorem tt_277:(∀ (s:AS) (p v:AV),aput (tt 103) s p v=aputz 1 s p v):=fun s p v=>aput_z rfl rfl s p v
end Go.Proofs.YtefogfgddofdmaaDoor
