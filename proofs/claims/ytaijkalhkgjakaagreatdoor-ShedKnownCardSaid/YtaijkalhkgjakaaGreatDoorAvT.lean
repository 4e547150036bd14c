/- Printed by gentab.py: the types that this seat's functions name, as a table of our own; that the table is right. -/
import Derived.Test.YtaijkalhkgjakaaGreatDoorBaseD
import Derived.Test.YtaijkalhkgjakaaGreatDoorProg
import Derived.KernelRfl
set_option linter.all false
set_option linter.unusedSimpArgs false
set_option linter.unusedVariables false
namespace Go.Proofs.YtaijkalhkgjakaaGreatDoor
open Go.Av
def tt:Nat→TI
 | 2=>⟨.int .i64,1,8,[.int .i64 0],false,false⟩
 | 3=>⟨.int .i64,1,8,[.int .i64 0],false,false⟩
 | 4=>⟨.bool,1,1,[.bool false],false,false⟩
 | 5=>⟨.int .u8,1,1,[.int .u8 0],false,false⟩
 | 9=>⟨.str,1,16,[.str []],false,false⟩
 | 21=>⟨.int .i32,1,4,[.int .i32 0],false,false⟩
 | 22=>⟨.slice 89,1,24,[.nils],false,false⟩
 | 23=>⟨.slice 62,1,24,[.nils],false,false⟩
 | 24=>⟨.slice 105,1,24,[.nils],false,false⟩
 | 25=>⟨.slice 3,1,24,[.nils],false,false⟩
 | 27=>⟨.plain,1,8,[.nilfn],false,false⟩
 | 32=>⟨.slice 22,1,24,[.nils],false,false⟩
 | 33=>⟨.slice 23,1,24,[.nils],false,false⟩
 | 35=>⟨.slice 24,1,24,[.nils],false,false⟩
 | 39=>⟨.slice 63,1,24,[.nils],false,false⟩
 | 40=>⟨.int .i64,1,8,[.int .i64 0],false,false⟩
 | 51=>⟨.slice 123,1,24,[.nils],false,false⟩
 | 52=>⟨.slice 57,1,24,[.nils],false,false⟩
 | 54=>⟨.struct [(0,1,false),(1,1,false)],2,48,[.nils,.nils],false,false⟩
 | 57=>⟨.struct [(0,1,false),(1,1,false),(2,1,false)],3,24,[.int .i64 0,.int .i64 0,.int .i64 0],true,false⟩
 | 62=>⟨.slice 103,1,24,[.nils],false,false⟩
 | 63=>⟨.slice 4,1,24,[.nils],false,false⟩
 | 69=>⟨.slice 78,1,24,[.nils],false,false⟩
 | 78=>⟨.struct [(0,1,false),(1,1,false)],2,16,[.int .i64 0,.int .i64 0],true,false⟩
 | 80=>⟨.slice 54,1,24,[.nils],false,false⟩
 | 81=>⟨.slice 9,1,24,[.nils],false,false⟩
 | 89=>⟨.struct [(0,1,false),(1,1,false),(2,1,false),(3,1,false),(4,1,false),(5,1,false),(6,1,false),(7,1,false),(8,1,false)],9,88,[.int .i64 0,.int .i64 0,.int .i64 0,.int .i64 0,.int .i64 0,.int .i64 0,.int .i64 0,.int .i64 0,.nils],false,false⟩
 | 90=>⟨.int .u64,1,8,[.int .u64 0],false,false⟩
 | 92=>⟨.struct [(0,1,false)],1,8,[.int .u64 0],false,false⟩
 | 99=>⟨.struct [(0,1,false),(1,1,false)],2,16,[.int .i64 0,.int .i64 0],false,false⟩
 | 103=>⟨.struct [(0,1,false),(1,2,true),(3,2,true),(5,1,false),(6,1,false)],7,56,[.int .i64 0,.int .i64 0,.int .i64 0,.int .i64 0,.int .i64 0,.int .i64 0,.int .i64 0],true,false⟩
 | 105=>⟨.struct [(0,1,false),(1,1,false),(2,1,false)],3,24,[.int .i64 0,.int .i64 0,.int .i64 0],true,false⟩
 | 114=>⟨.plain,1,8,[.nilfn],false,false⟩
 | 117=>⟨.slice 25,1,24,[.nils],false,false⟩
 | 123=>⟨.struct [(0,1,false),(1,1,false),(2,1,false)],3,3,[.bool false,.bool false,.bool false],false,true⟩
 | 128=>⟨.array 7 3,7,56,[.int .i64 0,.int .i64 0,.int .i64 0,.int .i64 0,.int .i64 0,.int .i64 0,.int .i64 0],false,false⟩
 | 132=>⟨.array 8 3,8,64,[.int .i64 0,.int .i64 0,.int .i64 0,.int .i64 0,.int .i64 0,.int .i64 0,.int .i64 0,.int .i64 0],false,false⟩
 | 136=>⟨.ptr,1,8,[.nilp],false,false⟩
 | 137=>⟨.slice 5,1,24,[.nils],false,false⟩
 | 139=>⟨.struct [(0,1,false),(1,1,false)],2,32,[.nilp,.nils],false,false⟩
 | 141=>⟨.iface,1,16,[.nilif],false,false⟩
 | 156=>⟨.int .u64,1,8,[.int .u64 0],false,false⟩
 | 160=>⟨.struct [(0,9,true),(9,1,false),(10,1,false)],11,104,[.int .i64 0,.int .i64 0,.int .i64 0,.int .i64 0,.int .i64 0,.int .i64 0,.int .i64 0,.int .i64 0,.nils,.int .i64 0,.int .i64 0],false,false⟩
 | 168=>⟨.plain,1,8,[.nilfn],false,false⟩
 | 169=>⟨.array 4 3,4,32,[.int .i64 0,.int .i64 0,.int .i64 0,.int .i64 0],false,false⟩
 | 171=>⟨.struct [(0,7,true),(7,1,false),(8,4,true),(12,7,true),(19,1,false)],20,160,[.int .i64 0,.int .i64 0,.int .i64 0,.int .i64 0,.int .i64 0,.int .i64 0,.int .i64 0,.int .i64 0,.int .i64 0,.int .i64 0,.int .i64 0,.int .i64 0,.int .i64 0,.int .i64 0,.int .i64 0,.int .i64 0,.int .i64 0,.int .i64 0,.int .i64 0,.int .i64 0],false,false⟩
 | 178=>⟨.plain,1,8,[.nilfn],false,false⟩
 | 179=>⟨.struct [(0,1,false),(1,1,false),(2,1,false)],3,3,[.bool false,.bool false,.bool false],false,false⟩
 | 180=>⟨.slice 178,1,24,[.nils],false,false⟩
 | 181=>⟨.ptr,1,8,[.nilp],false,false⟩
 | 188=>⟨.array 2 3,2,16,[.int .i64 0,.int .i64 0],false,false⟩
 | 191=>⟨.plain,1,8,[.nilfn],false,false⟩
 | 195=>⟨.struct [(0,1,false),(1,1,false)],2,48,[.nils,.nils],false,false⟩
 | 222=>⟨.int .i64,1,8,[.int .i64 0],false,false⟩
 | 225=>⟨.ptr,1,8,[.nilp],false,false⟩
 | 230=>⟨.int .u32,1,4,[.int .u32 0],false,false⟩
 | 237=>⟨.struct [(0,1,false),(1,1,false),(2,1,false)],3,48,[.str [],.str [],.nilif],false,false⟩
 | 244=>⟨.struct [(0,1,false),(1,1,false)],2,2,[.int .u8 0,.int .u8 0],false,false⟩
 | 250=>⟨.ptr,1,8,[.nilp],false,false⟩
 | 252=>⟨.struct [(0,1,false)],1,16,[.str []],false,false⟩
 | _=>⟨.unknown,0,0,[],false,false⟩
theorem info_row {t:TypeId} {r:TypeInfo} (h:Tryz.prog.types[t]?=some r):Tryz.prog.info? t=some r:=by
 have hlt:t < Tryz.prog.types.size:=(Array.getElem?_eq_some_iff.1 h).1
 unfold Tables.info?;rw [if_pos hlt];exact h
theorem inf2:Tryz.prog.info? 2=some Tryz.t2:=info_row Tryz.type2
theorem cel2:Tryz.prog.cellsOf 2=1:=by unfold Program.cellsOf;rw [inf2];rfl
theorem ag2:aggB Tryz.prog 2=false:=by unfold aggB;rw [Tryz.underlying2]
theorem inf3:Tryz.prog.info? 3=some Tryz.t3:=info_row Tryz.type3
theorem cel3:Tryz.prog.cellsOf 3=1:=by unfold Program.cellsOf;rw [inf3];rfl
theorem ag3:aggB Tryz.prog 3=false:=by unfold aggB;rw [Tryz.underlying3]
theorem inf4:Tryz.prog.info? 4=some Tryz.t4:=info_row Tryz.type4
theorem cel4:Tryz.prog.cellsOf 4=1:=by unfold Program.cellsOf;rw [inf4];rfl
theorem ag4:aggB Tryz.prog 4=false:=by unfold aggB;rw [Tryz.underlying4]
theorem inf5:Tryz.prog.info? 5=some Tryz.t5:=info_row Tryz.type5
theorem cel5:Tryz.prog.cellsOf 5=1:=by unfold Program.cellsOf;rw [inf5];rfl
theorem ag5:aggB Tryz.prog 5=false:=by unfold aggB;rw [Tryz.underlying5]
theorem inf9:Tryz.prog.info? 9=some Tryz.t9:=info_row Tryz.type9
theorem cel9:Tryz.prog.cellsOf 9=1:=by unfold Program.cellsOf;rw [inf9];rfl
theorem ag9:aggB Tryz.prog 9=false:=by unfold aggB;rw [Tryz.underlying9]
theorem inf21:Tryz.prog.info? 21=some Tryz.t21:=info_row Tryz.type21
theorem cel21:Tryz.prog.cellsOf 21=1:=by unfold Program.cellsOf;rw [inf21];rfl
theorem ag21:aggB Tryz.prog 21=false:=by unfold aggB;rw [Tryz.underlying21]
theorem inf22:Tryz.prog.info? 22=some Tryz.t22:=info_row Tryz.type22
theorem cel22:Tryz.prog.cellsOf 22=1:=by unfold Program.cellsOf;rw [inf22];rfl
theorem ag22:aggB Tryz.prog 22=false:=by unfold aggB;rw [Tryz.underlying22]
theorem inf23:Tryz.prog.info? 23=some Tryz.t23:=info_row Tryz.type23
theorem cel23:Tryz.prog.cellsOf 23=1:=by unfold Program.cellsOf;rw [inf23];rfl
theorem ag23:aggB Tryz.prog 23=false:=by unfold aggB;rw [Tryz.underlying23]
theorem inf24:Tryz.prog.info? 24=some Tryz.t24:=info_row Tryz.type24
theorem cel24:Tryz.prog.cellsOf 24=1:=by unfold Program.cellsOf;rw [inf24];rfl
theorem ag24:aggB Tryz.prog 24=false:=by unfold aggB;rw [Tryz.underlying24]
theorem inf25:Tryz.prog.info? 25=some Tryz.t25:=info_row Tryz.type25
theorem cel25:Tryz.prog.cellsOf 25=1:=by unfold Program.cellsOf;rw [inf25];rfl
theorem ag25:aggB Tryz.prog 25=false:=by unfold aggB;rw [Tryz.underlying25]
theorem inf27:Tryz.prog.info? 27=some Tryz.t27:=info_row Tryz.type27
theorem cel27:Tryz.prog.cellsOf 27=1:=by unfold Program.cellsOf;rw [inf27];rfl
theorem ag27:aggB Tryz.prog 27=false:=by unfold aggB;rw [Tryz.underlying27]
theorem inf32:Tryz.prog.info? 32=some Tryz.t32:=info_row Tryz.type32
theorem cel32:Tryz.prog.cellsOf 32=1:=by unfold Program.cellsOf;rw [inf32];rfl
theorem ag32:aggB Tryz.prog 32=false:=by unfold aggB;rw [Tryz.underlying32]
theorem inf33:Tryz.prog.info? 33=some Tryz.t33:=info_row Tryz.type33
theorem cel33:Tryz.prog.cellsOf 33=1:=by unfold Program.cellsOf;rw [inf33];rfl
theorem ag33:aggB Tryz.prog 33=false:=by unfold aggB;rw [Tryz.underlying33]
theorem inf35:Tryz.prog.info? 35=some Tryz.t35:=info_row Tryz.type35
theorem cel35:Tryz.prog.cellsOf 35=1:=by unfold Program.cellsOf;rw [inf35];rfl
theorem ag35:aggB Tryz.prog 35=false:=by unfold aggB;rw [Tryz.underlying35]
theorem inf39:Tryz.prog.info? 39=some Tryz.t39:=info_row Tryz.type39
theorem cel39:Tryz.prog.cellsOf 39=1:=by unfold Program.cellsOf;rw [inf39];rfl
theorem ag39:aggB Tryz.prog 39=false:=by unfold aggB;rw [Tryz.underlying39]
theorem inf40:Tryz.prog.info? 40=some Tryz.t40:=info_row Tryz.type40
theorem cel40:Tryz.prog.cellsOf 40=1:=by unfold Program.cellsOf;rw [inf40];rfl
theorem ag40:aggB Tryz.prog 40=false:=by unfold aggB;rw [Tryz.underlying40]
theorem inf51:Tryz.prog.info? 51=some Tryz.t51:=info_row Tryz.type51
theorem cel51:Tryz.prog.cellsOf 51=1:=by unfold Program.cellsOf;rw [inf51];rfl
theorem ag51:aggB Tryz.prog 51=false:=by unfold aggB;rw [Tryz.underlying51]
theorem inf52:Tryz.prog.info? 52=some Tryz.t52:=info_row Tryz.type52
theorem cel52:Tryz.prog.cellsOf 52=1:=by unfold Program.cellsOf;rw [inf52];rfl
theorem ag52:aggB Tryz.prog 52=false:=by unfold aggB;rw [Tryz.underlying52]
theorem inf54:Tryz.prog.info? 54=some Tryz.t54:=info_row Tryz.type54
theorem cel54:Tryz.prog.cellsOf 54=2:=by unfold Program.cellsOf;rw [inf54];rfl
theorem ag54:aggB Tryz.prog 54=true:=by unfold aggB;rw [Tryz.underlying54]
theorem inf57:Tryz.prog.info? 57=some Tryz.t57:=info_row Tryz.type57
theorem cel57:Tryz.prog.cellsOf 57=3:=by unfold Program.cellsOf;rw [inf57];rfl
theorem ag57:aggB Tryz.prog 57=true:=by unfold aggB;rw [Tryz.underlying57]
theorem inf62:Tryz.prog.info? 62=some Tryz.t62:=info_row Tryz.type62
theorem cel62:Tryz.prog.cellsOf 62=1:=by unfold Program.cellsOf;rw [inf62];rfl
theorem ag62:aggB Tryz.prog 62=false:=by unfold aggB;rw [Tryz.underlying62]
theorem inf63:Tryz.prog.info? 63=some Tryz.t63:=info_row Tryz.type63
theorem cel63:Tryz.prog.cellsOf 63=1:=by unfold Program.cellsOf;rw [inf63];rfl
theorem ag63:aggB Tryz.prog 63=false:=by unfold aggB;rw [Tryz.underlying63]
theorem inf69:Tryz.prog.info? 69=some Tryz.t69:=info_row Tryz.type69
theorem cel69:Tryz.prog.cellsOf 69=1:=by unfold Program.cellsOf;rw [inf69];rfl
theorem ag69:aggB Tryz.prog 69=false:=by unfold aggB;rw [Tryz.underlying69]
theorem inf78:Tryz.prog.info? 78=some Tryz.t78:=info_row Tryz.type78
theorem cel78:Tryz.prog.cellsOf 78=2:=by unfold Program.cellsOf;rw [inf78];rfl
theorem ag78:aggB Tryz.prog 78=true:=by unfold aggB;rw [Tryz.underlying78]
theorem inf80:Tryz.prog.info? 80=some Tryz.t80:=info_row Tryz.type80
theorem cel80:Tryz.prog.cellsOf 80=1:=by unfold Program.cellsOf;rw [inf80];rfl
theorem ag80:aggB Tryz.prog 80=false:=by unfold aggB;rw [Tryz.underlying80]
theorem inf81:Tryz.prog.info? 81=some Tryz.t81:=info_row Tryz.type81
theorem cel81:Tryz.prog.cellsOf 81=1:=by unfold Program.cellsOf;rw [inf81];rfl
theorem ag81:aggB Tryz.prog 81=false:=by unfold aggB;rw [Tryz.underlying81]
theorem inf89:Tryz.prog.info? 89=some Tryz.t89:=info_row Tryz.type89
theorem cel89:Tryz.prog.cellsOf 89=9:=by unfold Program.cellsOf;rw [inf89];rfl
theorem ag89:aggB Tryz.prog 89=true:=by unfold aggB;rw [Tryz.underlying89]
theorem inf90:Tryz.prog.info? 90=some Tryz.t90:=info_row Tryz.type90
theorem cel90:Tryz.prog.cellsOf 90=1:=by unfold Program.cellsOf;rw [inf90];rfl
theorem ag90:aggB Tryz.prog 90=false:=by unfold aggB;rw [Tryz.underlying90]
theorem inf92:Tryz.prog.info? 92=some Tryz.t92:=info_row Tryz.type92
theorem cel92:Tryz.prog.cellsOf 92=1:=by unfold Program.cellsOf;rw [inf92];rfl
theorem ag92:aggB Tryz.prog 92=true:=by unfold aggB;rw [Tryz.underlying92]
theorem inf99:Tryz.prog.info? 99=some Tryz.t99:=info_row Tryz.type99
theorem cel99:Tryz.prog.cellsOf 99=2:=by unfold Program.cellsOf;rw [inf99];rfl
theorem ag99:aggB Tryz.prog 99=true:=by unfold aggB;rw [Tryz.underlying99]
theorem inf103:Tryz.prog.info? 103=some Tryz.t103:=info_row Tryz.type103
theorem cel103:Tryz.prog.cellsOf 103=7:=by unfold Program.cellsOf;rw [inf103];rfl
theorem ag103:aggB Tryz.prog 103=true:=by unfold aggB;rw [Tryz.underlying103]
theorem inf105:Tryz.prog.info? 105=some Tryz.t105:=info_row Tryz.type105
theorem cel105:Tryz.prog.cellsOf 105=3:=by unfold Program.cellsOf;rw [inf105];rfl
theorem ag105:aggB Tryz.prog 105=true:=by unfold aggB;rw [Tryz.underlying105]
theorem inf114:Tryz.prog.info? 114=some Tryz.t114:=info_row Tryz.type114
theorem cel114:Tryz.prog.cellsOf 114=1:=by unfold Program.cellsOf;rw [inf114];rfl
theorem ag114:aggB Tryz.prog 114=false:=by unfold aggB;rw [Tryz.underlying114]
theorem inf117:Tryz.prog.info? 117=some Tryz.t117:=info_row Tryz.type117
theorem cel117:Tryz.prog.cellsOf 117=1:=by unfold Program.cellsOf;rw [inf117];rfl
theorem ag117:aggB Tryz.prog 117=false:=by unfold aggB;rw [Tryz.underlying117]
theorem inf123:Tryz.prog.info? 123=some Tryz.t123:=info_row Tryz.type123
theorem cel123:Tryz.prog.cellsOf 123=3:=by unfold Program.cellsOf;rw [inf123];rfl
theorem ag123:aggB Tryz.prog 123=true:=by unfold aggB;rw [Tryz.underlying123]
theorem inf128:Tryz.prog.info? 128=some Tryz.t128:=info_row Tryz.type128
theorem cel128:Tryz.prog.cellsOf 128=7:=by unfold Program.cellsOf;rw [inf128];rfl
theorem ag128:aggB Tryz.prog 128=true:=by unfold aggB;rw [Tryz.underlying128]
theorem inf132:Tryz.prog.info? 132=some Tryz.t132:=info_row Tryz.type132
theorem cel132:Tryz.prog.cellsOf 132=8:=by unfold Program.cellsOf;rw [inf132];rfl
theorem ag132:aggB Tryz.prog 132=true:=by unfold aggB;rw [Tryz.underlying132]
theorem inf136:Tryz.prog.info? 136=some Tryz.t136:=info_row Tryz.type136
theorem cel136:Tryz.prog.cellsOf 136=1:=by unfold Program.cellsOf;rw [inf136];rfl
theorem ag136:aggB Tryz.prog 136=false:=by unfold aggB;rw [Tryz.underlying136]
theorem inf137:Tryz.prog.info? 137=some Tryz.t137:=info_row Tryz.type137
theorem cel137:Tryz.prog.cellsOf 137=1:=by unfold Program.cellsOf;rw [inf137];rfl
theorem ag137:aggB Tryz.prog 137=false:=by unfold aggB;rw [Tryz.underlying137]
theorem inf139:Tryz.prog.info? 139=some Tryz.t139:=info_row Tryz.type139
theorem cel139:Tryz.prog.cellsOf 139=2:=by unfold Program.cellsOf;rw [inf139];rfl
theorem ag139:aggB Tryz.prog 139=true:=by unfold aggB;rw [Tryz.underlying139]
theorem inf141:Tryz.prog.info? 141=some Tryz.t141:=info_row Tryz.type141
theorem cel141:Tryz.prog.cellsOf 141=1:=by unfold Program.cellsOf;rw [inf141];rfl
theorem ag141:aggB Tryz.prog 141=false:=by unfold aggB;rw [Tryz.underlying141]
theorem inf156:Tryz.prog.info? 156=some Tryz.t156:=info_row Tryz.type156
theorem cel156:Tryz.prog.cellsOf 156=1:=by unfold Program.cellsOf;rw [inf156];rfl
theorem ag156:aggB Tryz.prog 156=false:=by unfold aggB;rw [Tryz.underlying156]
theorem inf160:Tryz.prog.info? 160=some Tryz.t160:=info_row Tryz.type160
theorem cel160:Tryz.prog.cellsOf 160=11:=by unfold Program.cellsOf;rw [inf160];rfl
theorem ag160:aggB Tryz.prog 160=true:=by unfold aggB;rw [Tryz.underlying160]
theorem inf168:Tryz.prog.info? 168=some Tryz.t168:=info_row Tryz.type168
theorem cel168:Tryz.prog.cellsOf 168=1:=by unfold Program.cellsOf;rw [inf168];rfl
theorem ag168:aggB Tryz.prog 168=false:=by unfold aggB;rw [Tryz.underlying168]
theorem inf169:Tryz.prog.info? 169=some Tryz.t169:=info_row Tryz.type169
theorem cel169:Tryz.prog.cellsOf 169=4:=by unfold Program.cellsOf;rw [inf169];rfl
theorem ag169:aggB Tryz.prog 169=true:=by unfold aggB;rw [Tryz.underlying169]
theorem inf171:Tryz.prog.info? 171=some Tryz.t171:=info_row Tryz.type171
theorem cel171:Tryz.prog.cellsOf 171=20:=by unfold Program.cellsOf;rw [inf171];rfl
theorem ag171:aggB Tryz.prog 171=true:=by unfold aggB;rw [Tryz.underlying171]
theorem inf178:Tryz.prog.info? 178=some Tryz.t178:=info_row Tryz.type178
theorem cel178:Tryz.prog.cellsOf 178=1:=by unfold Program.cellsOf;rw [inf178];rfl
theorem ag178:aggB Tryz.prog 178=false:=by unfold aggB;rw [Tryz.underlying178]
theorem inf179:Tryz.prog.info? 179=some Tryz.t179:=info_row Tryz.type179
theorem cel179:Tryz.prog.cellsOf 179=3:=by unfold Program.cellsOf;rw [inf179];rfl
theorem ag179:aggB Tryz.prog 179=true:=by unfold aggB;rw [Tryz.underlying179]
theorem inf180:Tryz.prog.info? 180=some Tryz.t180:=info_row Tryz.type180
theorem cel180:Tryz.prog.cellsOf 180=1:=by unfold Program.cellsOf;rw [inf180];rfl
theorem ag180:aggB Tryz.prog 180=false:=by unfold aggB;rw [Tryz.underlying180]
theorem inf181:Tryz.prog.info? 181=some Tryz.t181:=info_row Tryz.type181
theorem cel181:Tryz.prog.cellsOf 181=1:=by unfold Program.cellsOf;rw [inf181];rfl
theorem ag181:aggB Tryz.prog 181=false:=by unfold aggB;rw [Tryz.underlying181]
theorem inf188:Tryz.prog.info? 188=some Tryz.t188:=info_row Tryz.type188
theorem cel188:Tryz.prog.cellsOf 188=2:=by unfold Program.cellsOf;rw [inf188];rfl
theorem ag188:aggB Tryz.prog 188=true:=by unfold aggB;rw [Tryz.underlying188]
theorem inf191:Tryz.prog.info? 191=some Tryz.t191:=info_row Tryz.type191
theorem cel191:Tryz.prog.cellsOf 191=1:=by unfold Program.cellsOf;rw [inf191];rfl
theorem ag191:aggB Tryz.prog 191=false:=by unfold aggB;rw [Tryz.underlying191]
theorem inf195:Tryz.prog.info? 195=some Tryz.t195:=info_row Tryz.type195
theorem cel195:Tryz.prog.cellsOf 195=2:=by unfold Program.cellsOf;rw [inf195];rfl
theorem ag195:aggB Tryz.prog 195=true:=by unfold aggB;rw [Tryz.underlying195]
theorem inf222:Tryz.prog.info? 222=some Tryz.t222:=info_row Tryz.type222
theorem cel222:Tryz.prog.cellsOf 222=1:=by unfold Program.cellsOf;rw [inf222];rfl
theorem ag222:aggB Tryz.prog 222=false:=by unfold aggB;rw [Tryz.underlying222]
theorem inf225:Tryz.prog.info? 225=some Tryz.t225:=info_row Tryz.type225
theorem cel225:Tryz.prog.cellsOf 225=1:=by unfold Program.cellsOf;rw [inf225];rfl
theorem ag225:aggB Tryz.prog 225=false:=by unfold aggB;rw [Tryz.underlying225]
theorem inf230:Tryz.prog.info? 230=some Tryz.t230:=info_row Tryz.type230
theorem cel230:Tryz.prog.cellsOf 230=1:=by unfold Program.cellsOf;rw [inf230];rfl
theorem ag230:aggB Tryz.prog 230=false:=by unfold aggB;rw [Tryz.underlying230]
theorem inf237:Tryz.prog.info? 237=some Tryz.t237:=info_row Tryz.type237
theorem cel237:Tryz.prog.cellsOf 237=3:=by unfold Program.cellsOf;rw [inf237];rfl
theorem ag237:aggB Tryz.prog 237=true:=by unfold aggB;rw [Tryz.underlying237]
theorem inf244:Tryz.prog.info? 244=some Tryz.t244:=info_row Tryz.type244
theorem cel244:Tryz.prog.cellsOf 244=2:=by unfold Program.cellsOf;rw [inf244];rfl
theorem ag244:aggB Tryz.prog 244=true:=by unfold aggB;rw [Tryz.underlying244]
theorem inf250:Tryz.prog.info? 250=some Tryz.t250:=info_row Tryz.type250
theorem cel250:Tryz.prog.cellsOf 250=1:=by unfold Program.cellsOf;rw [inf250];rfl
theorem ag250:aggB Tryz.prog 250=false:=by unfold aggB;rw [Tryz.underlying250]
theorem inf252:Tryz.prog.info? 252=some Tryz.t252:=info_row Tryz.type252
theorem cel252:Tryz.prog.cellsOf 252=1:=by unfold Program.cellsOf;rw [inf252];rfl
theorem ag252:aggB Tryz.prog 252=true:=by unfold aggB;rw [Tryz.underlying252]
theorem eq57:EqFact Tryz.prog 57 3:=EqFact.ints Tryz.underlying57 (by kernel_rfl) (by kernel_rfl) (by intro f hf;simp at hf;rcases hf with rfl|rfl|rfl <;> exact ⟨by decide,by first|exact ⟨_,Tryz.underlying3⟩⟩) rfl rfl
theorem eq78:EqFact Tryz.prog 78 2:=EqFact.ints Tryz.underlying78 (by kernel_rfl) (by kernel_rfl) (by intro f hf;simp at hf;rcases hf with rfl|rfl <;> exact ⟨by decide,by first|exact ⟨_,Tryz.underlying3⟩⟩) rfl rfl
theorem eq103:EqFact Tryz.prog 103 7:=by
 refine EqFact.nestZ [1,2,2,1,1] Tryz.underlying103 (by kernel_rfl) (by kernel_rfl) rfl ?_ (by simp [offOk]) rfl
 intro p hp
 simp at hp
 rcases hp with rfl|rfl|rfl|rfl|rfl
 ·exact FldEq.int (d:=9998) (by decide) Tryz.underlying3
 ·exact FldEq.struct (d:=9997) (by decide) Tryz.underlying99 inf99 rfl (by kernel_rfl) (by intro g hg;simp at hg;rcases hg with rfl|rfl <;> exact ⟨by decide,by first|exact ⟨_,Tryz.underlying3⟩⟩) rfl rfl
 ·exact FldEq.struct (d:=9997) (by decide) Tryz.underlying99 inf99 rfl (by kernel_rfl) (by intro g hg;simp at hg;rcases hg with rfl|rfl <;> exact ⟨by decide,by first|exact ⟨_,Tryz.underlying3⟩⟩) rfl rfl
 ·exact FldEq.int (d:=9998) (by decide) Tryz.underlying3
 ·exact FldEq.int (d:=9998) (by decide) Tryz.underlying3
theorem eq105:EqFact Tryz.prog 105 3:=EqFact.ints Tryz.underlying105 (by kernel_rfl) (by kernel_rfl) (by intro f hf;simp at hf;rcases hf with rfl|rfl|rfl <;> exact ⟨by decide,by first|exact ⟨_,Tryz.underlying3⟩⟩) rfl rfl
theorem eq123:EqFactB Tryz.prog 123 3:=EqFactB.flags Tryz.underlying123 (by kernel_rfl) (by kernel_rfl) (by intro f hf;simp at hf;rcases hf with rfl|rfl|rfl <;> exact ⟨by decide,by first|exact Tryz.underlying4⟩) rfl rfl
theorem good2:Go.Av.Good Tryz.prog 2 (tt 2):=⟨⟨Tryz.t2,_,inf2,rfl,rfl,rfl,fun c=>by simp [tt,VRs,VR,Value.cells],rfl,rfl⟩,Tryz.underlying2,(fun h=>by cases h),(fun h=>by cases h)⟩
theorem good3:Go.Av.Good Tryz.prog 3 (tt 3):=⟨⟨Tryz.t3,_,inf3,rfl,rfl,rfl,fun c=>by simp [tt,VRs,VR,Value.cells],rfl,rfl⟩,Tryz.underlying3,(fun h=>by cases h),(fun h=>by cases h)⟩
theorem good4:Go.Av.Good Tryz.prog 4 (tt 4):=⟨⟨Tryz.t4,_,inf4,rfl,rfl,rfl,fun c=>by simp [tt,VRs,VR,Value.cells],rfl,rfl⟩,Tryz.underlying4,(fun h=>by cases h),(fun h=>by cases h)⟩
theorem good5:Go.Av.Good Tryz.prog 5 (tt 5):=⟨⟨Tryz.t5,_,inf5,rfl,rfl,rfl,fun c=>by simp [tt,VRs,VR,Value.cells],rfl,rfl⟩,Tryz.underlying5,(fun h=>by cases h),(fun h=>by cases h)⟩
theorem good9:Go.Av.Good Tryz.prog 9 (tt 9):=⟨⟨Tryz.t9,_,inf9,rfl,rfl,rfl,fun c=>by simp [tt,VRs,VR,Value.cells],rfl,rfl⟩,Tryz.underlying9,(fun h=>by cases h),(fun h=>by cases h)⟩
theorem good21:Go.Av.Good Tryz.prog 21 (tt 21):=⟨⟨Tryz.t21,_,inf21,rfl,rfl,rfl,fun c=>by simp [tt,VRs,VR,Value.cells],rfl,rfl⟩,Tryz.underlying21,(fun h=>by cases h),(fun h=>by cases h)⟩
theorem good22:Go.Av.Good Tryz.prog 22 (tt 22):=⟨⟨Tryz.t22,_,inf22,rfl,rfl,rfl,fun c=>by simp [tt,VRs,VR,Value.cells],rfl,rfl⟩,⟨Tryz.underlying22,by rw [inf89];rfl⟩,(fun h=>by cases h),(fun h=>by cases h)⟩
theorem good23:Go.Av.Good Tryz.prog 23 (tt 23):=⟨⟨Tryz.t23,_,inf23,rfl,rfl,rfl,fun c=>by simp [tt,VRs,VR,Value.cells],rfl,rfl⟩,⟨Tryz.underlying23,by rw [inf62];rfl⟩,(fun h=>by cases h),(fun h=>by cases h)⟩
theorem good24:Go.Av.Good Tryz.prog 24 (tt 24):=⟨⟨Tryz.t24,_,inf24,rfl,rfl,rfl,fun c=>by simp [tt,VRs,VR,Value.cells],rfl,rfl⟩,⟨Tryz.underlying24,by rw [inf105];rfl⟩,(fun h=>by cases h),(fun h=>by cases h)⟩
theorem good25:Go.Av.Good Tryz.prog 25 (tt 25):=⟨⟨Tryz.t25,_,inf25,rfl,rfl,rfl,fun c=>by simp [tt,VRs,VR,Value.cells],rfl,rfl⟩,⟨Tryz.underlying25,by rw [inf3];rfl⟩,(fun h=>by cases h),(fun h=>by cases h)⟩
theorem good27:Go.Av.Good Tryz.prog 27 (tt 27):=⟨⟨Tryz.t27,_,inf27,rfl,rfl,rfl,fun c=>by simp [tt,VRs,VR,Value.cells],rfl,rfl⟩,⟨_,Tryz.underlying27,rfl⟩,(fun h=>by cases h),(fun h=>by cases h)⟩
theorem good32:Go.Av.Good Tryz.prog 32 (tt 32):=⟨⟨Tryz.t32,_,inf32,rfl,rfl,rfl,fun c=>by simp [tt,VRs,VR,Value.cells],rfl,rfl⟩,⟨Tryz.underlying32,by rw [inf22];rfl⟩,(fun h=>by cases h),(fun h=>by cases h)⟩
theorem good33:Go.Av.Good Tryz.prog 33 (tt 33):=⟨⟨Tryz.t33,_,inf33,rfl,rfl,rfl,fun c=>by simp [tt,VRs,VR,Value.cells],rfl,rfl⟩,⟨Tryz.underlying33,by rw [inf23];rfl⟩,(fun h=>by cases h),(fun h=>by cases h)⟩
theorem good35:Go.Av.Good Tryz.prog 35 (tt 35):=⟨⟨Tryz.t35,_,inf35,rfl,rfl,rfl,fun c=>by simp [tt,VRs,VR,Value.cells],rfl,rfl⟩,⟨Tryz.underlying35,by rw [inf24];rfl⟩,(fun h=>by cases h),(fun h=>by cases h)⟩
theorem good39:Go.Av.Good Tryz.prog 39 (tt 39):=⟨⟨Tryz.t39,_,inf39,rfl,rfl,rfl,fun c=>by simp [tt,VRs,VR,Value.cells],rfl,rfl⟩,⟨Tryz.underlying39,by rw [inf63];rfl⟩,(fun h=>by cases h),(fun h=>by cases h)⟩
theorem good40:Go.Av.Good Tryz.prog 40 (tt 40):=⟨⟨Tryz.t40,_,inf40,rfl,rfl,rfl,fun c=>by simp [tt,VRs,VR,Value.cells],rfl,rfl⟩,Tryz.underlying40,(fun h=>by cases h),(fun h=>by cases h)⟩
theorem good51:Go.Av.Good Tryz.prog 51 (tt 51):=⟨⟨Tryz.t51,_,inf51,rfl,rfl,rfl,fun c=>by simp [tt,VRs,VR,Value.cells],rfl,rfl⟩,⟨Tryz.underlying51,by rw [inf123];rfl⟩,(fun h=>by cases h),(fun h=>by cases h)⟩
theorem good52:Go.Av.Good Tryz.prog 52 (tt 52):=⟨⟨Tryz.t52,_,inf52,rfl,rfl,rfl,fun c=>by simp [tt,VRs,VR,Value.cells],rfl,rfl⟩,⟨Tryz.underlying52,by rw [inf57];rfl⟩,(fun h=>by cases h),(fun h=>by cases h)⟩
theorem good54:Go.Av.Good Tryz.prog 54 (tt 54):=⟨⟨Tryz.t54,_,inf54,rfl,rfl,rfl,fun c=>by simp [tt,VRs,VR,Value.cells],rfl,rfl⟩,⟨_,Tryz.underlying54,by simp [cel51,ag51,cel52,ag52,tt],by simp [inf51,Tryz.underlying51,inf52,Tryz.underlying52]⟩,(fun h=>by cases h),(fun h=>by cases h)⟩
theorem good57:Go.Av.Good Tryz.prog 57 (tt 57):=⟨⟨Tryz.t57,_,inf57,rfl,rfl,rfl,fun c=>by simp [tt,VRs,VR,Value.cells],rfl,rfl⟩,⟨_,Tryz.underlying57,by simp [cel3,ag3,tt],by simp [inf3,Tryz.underlying3]⟩,fun _=>eq57,(fun h=>by cases h)⟩
theorem good62:Go.Av.Good Tryz.prog 62 (tt 62):=⟨⟨Tryz.t62,_,inf62,rfl,rfl,rfl,fun c=>by simp [tt,VRs,VR,Value.cells],rfl,rfl⟩,⟨Tryz.underlying62,by rw [inf103];rfl⟩,(fun h=>by cases h),(fun h=>by cases h)⟩
theorem good63:Go.Av.Good Tryz.prog 63 (tt 63):=⟨⟨Tryz.t63,_,inf63,rfl,rfl,rfl,fun c=>by simp [tt,VRs,VR,Value.cells],rfl,rfl⟩,⟨Tryz.underlying63,by rw [inf4];rfl⟩,(fun h=>by cases h),(fun h=>by cases h)⟩
theorem good69:Go.Av.Good Tryz.prog 69 (tt 69):=⟨⟨Tryz.t69,_,inf69,rfl,rfl,rfl,fun c=>by simp [tt,VRs,VR,Value.cells],rfl,rfl⟩,⟨Tryz.underlying69,by rw [inf78];rfl⟩,(fun h=>by cases h),(fun h=>by cases h)⟩
theorem good78:Go.Av.Good Tryz.prog 78 (tt 78):=⟨⟨Tryz.t78,_,inf78,rfl,rfl,rfl,fun c=>by simp [tt,VRs,VR,Value.cells],rfl,rfl⟩,⟨_,Tryz.underlying78,by simp [cel3,ag3,tt],by simp [inf3,Tryz.underlying3]⟩,fun _=>eq78,(fun h=>by cases h)⟩
theorem good80:Go.Av.Good Tryz.prog 80 (tt 80):=⟨⟨Tryz.t80,_,inf80,rfl,rfl,rfl,fun c=>by simp [tt,VRs,VR,Value.cells],rfl,rfl⟩,⟨Tryz.underlying80,by rw [inf54];rfl⟩,(fun h=>by cases h),(fun h=>by cases h)⟩
theorem good81:Go.Av.Good Tryz.prog 81 (tt 81):=⟨⟨Tryz.t81,_,inf81,rfl,rfl,rfl,fun c=>by simp [tt,VRs,VR,Value.cells],rfl,rfl⟩,⟨Tryz.underlying81,by rw [inf9];rfl⟩,(fun h=>by cases h),(fun h=>by cases h)⟩
theorem good89:Go.Av.Good Tryz.prog 89 (tt 89):=⟨⟨Tryz.t89,_,inf89,rfl,rfl,rfl,fun c=>by simp [tt,VRs,VR,Value.cells],rfl,rfl⟩,⟨_,Tryz.underlying89,by simp [cel3,ag3,cel62,ag62,tt],by simp [inf3,Tryz.underlying3,inf62,Tryz.underlying62]⟩,(fun h=>by cases h),(fun h=>by cases h)⟩
theorem good90:Go.Av.Good Tryz.prog 90 (tt 90):=⟨⟨Tryz.t90,_,inf90,rfl,rfl,rfl,fun c=>by simp [tt,VRs,VR,Value.cells],rfl,rfl⟩,Tryz.underlying90,(fun h=>by cases h),(fun h=>by cases h)⟩
theorem good92:Go.Av.Good Tryz.prog 92 (tt 92):=⟨⟨Tryz.t92,_,inf92,rfl,rfl,rfl,fun c=>by simp [tt,VRs,VR,Value.cells],rfl,rfl⟩,⟨_,Tryz.underlying92,by simp [cel90,ag90,tt],by simp [inf90,Tryz.underlying90]⟩,(fun h=>by cases h),(fun h=>by cases h)⟩
theorem good99:Go.Av.Good Tryz.prog 99 (tt 99):=⟨⟨Tryz.t99,_,inf99,rfl,rfl,rfl,fun c=>by simp [tt,VRs,VR,Value.cells],rfl,rfl⟩,⟨_,Tryz.underlying99,by simp [cel3,ag3,tt],by simp [inf3,Tryz.underlying3]⟩,(fun h=>by cases h),(fun h=>by cases h)⟩
theorem good103:Go.Av.Good Tryz.prog 103 (tt 103):=⟨⟨Tryz.t103,_,inf103,rfl,rfl,rfl,fun c=>by simp [tt,VRs,VR,Value.cells],rfl,rfl⟩,⟨_,Tryz.underlying103,by simp [cel3,ag3,cel99,ag99,tt],by simp [inf3,Tryz.underlying3,inf99,Tryz.underlying99]⟩,fun _=>eq103,(fun h=>by cases h)⟩
theorem good105:Go.Av.Good Tryz.prog 105 (tt 105):=⟨⟨Tryz.t105,_,inf105,rfl,rfl,rfl,fun c=>by simp [tt,VRs,VR,Value.cells],rfl,rfl⟩,⟨_,Tryz.underlying105,by simp [cel3,ag3,tt],by simp [inf3,Tryz.underlying3]⟩,fun _=>eq105,(fun h=>by cases h)⟩
theorem good114:Go.Av.Good Tryz.prog 114 (tt 114):=⟨⟨Tryz.t114,_,inf114,rfl,rfl,rfl,fun c=>by simp [tt,VRs,VR,Value.cells],rfl,rfl⟩,⟨_,Tryz.underlying114,rfl⟩,(fun h=>by cases h),(fun h=>by cases h)⟩
theorem good117:Go.Av.Good Tryz.prog 117 (tt 117):=⟨⟨Tryz.t117,_,inf117,rfl,rfl,rfl,fun c=>by simp [tt,VRs,VR,Value.cells],rfl,rfl⟩,⟨Tryz.underlying117,by rw [inf25];rfl⟩,(fun h=>by cases h),(fun h=>by cases h)⟩
theorem good123:Go.Av.Good Tryz.prog 123 (tt 123):=⟨⟨Tryz.t123,_,inf123,rfl,rfl,rfl,fun c=>by simp [tt,VRs,VR,Value.cells],rfl,rfl⟩,⟨_,Tryz.underlying123,by simp [cel4,ag4,tt],by simp [inf4,Tryz.underlying4]⟩,(fun h=>by cases h),fun _=>eq123⟩
theorem good128:Go.Av.Good Tryz.prog 128 (tt 128):=⟨⟨Tryz.t128,_,inf128,rfl,rfl,rfl,fun c=>by simp [tt,VRs,VR,Value.cells],rfl,rfl⟩,⟨Tryz.underlying128,by rw [inf3];rfl⟩,(fun h=>by cases h),(fun h=>by cases h)⟩
theorem good132:Go.Av.Good Tryz.prog 132 (tt 132):=⟨⟨Tryz.t132,_,inf132,rfl,rfl,rfl,fun c=>by simp [tt,VRs,VR,Value.cells],rfl,rfl⟩,⟨Tryz.underlying132,by rw [inf3];rfl⟩,(fun h=>by cases h),(fun h=>by cases h)⟩
theorem good136:Go.Av.Good Tryz.prog 136 (tt 136):=⟨⟨Tryz.t136,_,inf136,rfl,rfl,rfl,fun c=>by simp [tt,VRs,VR,Value.cells],rfl,rfl⟩,⟨_,Tryz.underlying136⟩,(fun h=>by cases h),(fun h=>by cases h)⟩
theorem good137:Go.Av.Good Tryz.prog 137 (tt 137):=⟨⟨Tryz.t137,_,inf137,rfl,rfl,rfl,fun c=>by simp [tt,VRs,VR,Value.cells],rfl,rfl⟩,⟨Tryz.underlying137,by rw [inf5];rfl⟩,(fun h=>by cases h),(fun h=>by cases h)⟩
theorem good139:Go.Av.Good Tryz.prog 139 (tt 139):=⟨⟨Tryz.t139,_,inf139,rfl,rfl,rfl,fun c=>by simp [tt,VRs,VR,Value.cells],rfl,rfl⟩,⟨_,Tryz.underlying139,by simp [cel136,ag136,cel137,ag137,tt],by simp [inf136,Tryz.underlying136,inf137,Tryz.underlying137]⟩,(fun h=>by cases h),(fun h=>by cases h)⟩
theorem good141:Go.Av.Good Tryz.prog 141 (tt 141):=⟨⟨Tryz.t141,_,inf141,rfl,rfl,rfl,fun c=>by simp [tt,VRs,VR,Value.cells],rfl,rfl⟩,⟨_,Tryz.underlying141⟩,(fun h=>by cases h),(fun h=>by cases h)⟩
theorem good156:Go.Av.Good Tryz.prog 156 (tt 156):=⟨⟨Tryz.t156,_,inf156,rfl,rfl,rfl,fun c=>by simp [tt,VRs,VR,Value.cells],rfl,rfl⟩,Tryz.underlying156,(fun h=>by cases h),(fun h=>by cases h)⟩
theorem good160:Go.Av.Good Tryz.prog 160 (tt 160):=⟨⟨Tryz.t160,_,inf160,rfl,rfl,rfl,fun c=>by simp [tt,VRs,VR,Value.cells],rfl,rfl⟩,⟨_,Tryz.underlying160,by simp [cel3,ag3,cel89,ag89,tt],by simp [inf3,Tryz.underlying3,inf89,Tryz.underlying89]⟩,(fun h=>by cases h),(fun h=>by cases h)⟩
theorem good168:Go.Av.Good Tryz.prog 168 (tt 168):=⟨⟨Tryz.t168,_,inf168,rfl,rfl,rfl,fun c=>by simp [tt,VRs,VR,Value.cells],rfl,rfl⟩,⟨_,Tryz.underlying168,rfl⟩,(fun h=>by cases h),(fun h=>by cases h)⟩
theorem good169:Go.Av.Good Tryz.prog 169 (tt 169):=⟨⟨Tryz.t169,_,inf169,rfl,rfl,rfl,fun c=>by simp [tt,VRs,VR,Value.cells],rfl,rfl⟩,⟨Tryz.underlying169,by rw [inf3];rfl⟩,(fun h=>by cases h),(fun h=>by cases h)⟩
theorem good171:Go.Av.Good Tryz.prog 171 (tt 171):=⟨⟨Tryz.t171,_,inf171,rfl,rfl,rfl,fun c=>by simp [tt,VRs,VR,Value.cells],rfl,rfl⟩,⟨_,Tryz.underlying171,by simp [cel3,ag3,cel128,ag128,cel169,ag169,tt],by simp [inf3,Tryz.underlying3,inf128,Tryz.underlying128,inf169,Tryz.underlying169]⟩,(fun h=>by cases h),(fun h=>by cases h)⟩
theorem good178:Go.Av.Good Tryz.prog 178 (tt 178):=⟨⟨Tryz.t178,_,inf178,rfl,rfl,rfl,fun c=>by simp [tt,VRs,VR,Value.cells],rfl,rfl⟩,⟨_,Tryz.underlying178,rfl⟩,(fun h=>by cases h),(fun h=>by cases h)⟩
theorem good179:Go.Av.Good Tryz.prog 179 (tt 179):=⟨⟨Tryz.t179,_,inf179,rfl,rfl,rfl,fun c=>by simp [tt,VRs,VR,Value.cells],rfl,rfl⟩,⟨_,Tryz.underlying179,by simp [cel4,ag4,tt],by simp [inf4,Tryz.underlying4]⟩,(fun h=>by cases h),(fun h=>by cases h)⟩
theorem good180:Go.Av.Good Tryz.prog 180 (tt 180):=⟨⟨Tryz.t180,_,inf180,rfl,rfl,rfl,fun c=>by simp [tt,VRs,VR,Value.cells],rfl,rfl⟩,⟨Tryz.underlying180,by rw [inf178];rfl⟩,(fun h=>by cases h),(fun h=>by cases h)⟩
theorem good181:Go.Av.Good Tryz.prog 181 (tt 181):=⟨⟨Tryz.t181,_,inf181,rfl,rfl,rfl,fun c=>by simp [tt,VRs,VR,Value.cells],rfl,rfl⟩,⟨_,Tryz.underlying181⟩,(fun h=>by cases h),(fun h=>by cases h)⟩
theorem good188:Go.Av.Good Tryz.prog 188 (tt 188):=⟨⟨Tryz.t188,_,inf188,rfl,rfl,rfl,fun c=>by simp [tt,VRs,VR,Value.cells],rfl,rfl⟩,⟨Tryz.underlying188,by rw [inf3];rfl⟩,(fun h=>by cases h),(fun h=>by cases h)⟩
theorem good191:Go.Av.Good Tryz.prog 191 (tt 191):=⟨⟨Tryz.t191,_,inf191,rfl,rfl,rfl,fun c=>by simp [tt,VRs,VR,Value.cells],rfl,rfl⟩,⟨_,Tryz.underlying191,rfl⟩,(fun h=>by cases h),(fun h=>by cases h)⟩
theorem good195:Go.Av.Good Tryz.prog 195 (tt 195):=⟨⟨Tryz.t195,_,inf195,rfl,rfl,rfl,fun c=>by simp [tt,VRs,VR,Value.cells],rfl,rfl⟩,⟨_,Tryz.underlying195,by simp [cel25,ag25,tt],by simp [inf25,Tryz.underlying25]⟩,(fun h=>by cases h),(fun h=>by cases h)⟩
theorem good222:Go.Av.Good Tryz.prog 222 (tt 222):=⟨⟨Tryz.t222,_,inf222,rfl,rfl,rfl,fun c=>by simp [tt,VRs,VR,Value.cells],rfl,rfl⟩,Tryz.underlying222,(fun h=>by cases h),(fun h=>by cases h)⟩
theorem good225:Go.Av.Good Tryz.prog 225 (tt 225):=⟨⟨Tryz.t225,_,inf225,rfl,rfl,rfl,fun c=>by simp [tt,VRs,VR,Value.cells],rfl,rfl⟩,⟨_,Tryz.underlying225⟩,(fun h=>by cases h),(fun h=>by cases h)⟩
theorem good230:Go.Av.Good Tryz.prog 230 (tt 230):=⟨⟨Tryz.t230,_,inf230,rfl,rfl,rfl,fun c=>by simp [tt,VRs,VR,Value.cells],rfl,rfl⟩,Tryz.underlying230,(fun h=>by cases h),(fun h=>by cases h)⟩
theorem good237:Go.Av.Good Tryz.prog 237 (tt 237):=⟨⟨Tryz.t237,_,inf237,rfl,rfl,rfl,fun c=>by simp [tt,VRs,VR,Value.cells],rfl,rfl⟩,⟨_,Tryz.underlying237,by simp [cel9,ag9,cel141,ag141,tt],by simp [inf9,Tryz.underlying9,inf141,Tryz.underlying141]⟩,(fun h=>by cases h),(fun h=>by cases h)⟩
theorem good244:Go.Av.Good Tryz.prog 244 (tt 244):=⟨⟨Tryz.t244,_,inf244,rfl,rfl,rfl,fun c=>by simp [tt,VRs,VR,Value.cells],rfl,rfl⟩,⟨_,Tryz.underlying244,by simp [cel5,ag5,tt],by simp [inf5,Tryz.underlying5]⟩,(fun h=>by cases h),(fun h=>by cases h)⟩
theorem good250:Go.Av.Good Tryz.prog 250 (tt 250):=⟨⟨Tryz.t250,_,inf250,rfl,rfl,rfl,fun c=>by simp [tt,VRs,VR,Value.cells],rfl,rfl⟩,⟨_,Tryz.underlying250⟩,(fun h=>by cases h),(fun h=>by cases h)⟩
theorem good252:Go.Av.Good Tryz.prog 252 (tt 252):=⟨⟨Tryz.t252,_,inf252,rfl,rfl,rfl,fun c=>by simp [tt,VRs,VR,Value.cells],rfl,rfl⟩,⟨_,Tryz.underlying252,by simp [cel9,ag9,tt],by simp [inf9,Tryz.underlying9]⟩,(fun h=>by cases h),(fun h=>by cases h)⟩
theorem tab:Tab Tryz.prog tt where
 all:=fun t h=>by
  unfold tt at h ⊢
  split at h
  ·exact good2
  ·exact good3
  ·exact good4
  ·exact good5
  ·exact good9
  ·exact good21
  ·exact good22
  ·exact good23
  ·exact good24
  ·exact good25
  ·exact good27
  ·exact good32
  ·exact good33
  ·exact good35
  ·exact good39
  ·exact good40
  ·exact good51
  ·exact good52
  ·exact good54
  ·exact good57
  ·exact good62
  ·exact good63
  ·exact good69
  ·exact good78
  ·exact good80
  ·exact good81
  ·exact good89
  ·exact good90
  ·exact good92
  ·exact good99
  ·exact good103
  ·exact good105
  ·exact good114
  ·exact good117
  ·exact good123
  ·exact good128
  ·exact good132
  ·exact good136
  ·exact good137
  ·exact good139
  ·exact good141
  ·exact good156
  ·exact good160
  ·exact good168
  ·exact good169
  ·exact good171
  ·exact good178
  ·exact good179
  ·exact good180
  ·exact good181
  ·exact good188
  ·exact good191
  ·exact good195
  ·exact good222
  ·exact good225
  ·exact good230
  ·exact good237
  ·exact good244
  ·exact good250
  ·exact good252
  ·cases h
 elem:=fun t e h=>by
  unfold tt at h
  split at h <;> first|(cases h;done)|(cases h;rfl)
@[go_sem] theorem tt_3:(∀ (k:IntKind) (n:Int),aconv (tt 2) (tt 90) (.int k n)=some (.int .u64 (wr .u64 n))):=by intros;rfl
@[go_sem] theorem tt_5:(∀ (s:AS) (p:AV),aload (tt 3) s p=(s.row p).bind fun r=>apart false 1 r.2 r.1):=by intro s p;unfold aload;cases s.row p <;> rfl
@[go_sem] theorem tt_6:(∀ ev:Operand→AV,arows tt ev (.alloc 3)=some (1,[[.int .i64 0]],3)):=by intros;rfl
@[go_sem] theorem tt_8:(∀ (k:IntKind) (n:Int),aconv (tt 3) (tt 5) (.int k n)=some (.int .u8 (wr .u8 n))):=by intros;rfl
@[go_sem] theorem tt_9:(∀ (k:IntKind) (n:Int),aconv (tt 3) (tt 90) (.int k n)=some (.int .u64 (wr .u64 n))):=by intros;rfl
@[go_sem] theorem tt_10:(∀ (k:IntKind) (n:Int),aconv (tt 3) (tt 156) (.int k n)=some (.int .u64 (wr .u64 n))):=by intros;rfl
@[go_sem] theorem tt_11:(∀ (s:AS) (p v:AV),aput (tt 3) s p v=aputz 1 s p v):=fun s p v=>aput_z rfl rfl s p v
@[go_sem] theorem tt_12:(∀ (s:AS) (p:AV),aload (tt 4) s p=(s.row p).bind fun r=>apart false 1 r.2 r.1):=by intro s p;unfold aload;cases s.row p <;> rfl
@[go_sem] theorem tt_15:(∀ c a b:Bool,abin (tt 4) .eql c (.bool a) (.bool b)=some (.bool (a == b))):=by intros;rfl
@[go_sem] theorem tt_18:(∀ (s:AS) (p:AV),aload (tt 5) s p=(s.row p).bind fun r=>apart false 1 r.2 r.1):=by intro s p;unfold aload;cases s.row p <;> rfl
@[go_sem] theorem tt_21:(∀ (k:IntKind) (n:Int),aconv (tt 5) (tt 3) (.int k n)=some (.int .i64 (wr .i64 n))):=by intros;rfl
@[go_sem] theorem tt_22:(∀ (k:IntKind) (n:Int),aconv (tt 5) (tt 21) (.int k n)=some (.int .i32 (wr .i32 n))):=by intros;rfl
@[go_sem] theorem tt_23:(∀ (k:IntKind) (n:Int),aconv (tt 5) (tt 90) (.int k n)=some (.int .u64 (wr .u64 n))):=by intros;rfl
@[go_sem] theorem tt_24:(∀ (k:IntKind) (n:Int),aconv (tt 5) (tt 230) (.int k n)=some (.int .u32 (wr .u32 n))):=by intros;rfl
@[go_sem] theorem tt_25:(∀ (s:AS) (p v:AV),aput (tt 5) s p v=aputz 1 s p v):=fun s p v=>aput_z rfl rfl s p v
@[go_sem] theorem tt_29:(∀ (ez:Nat) (l:List UInt8) (lo hi:Option AV),asl (tt 9) ez lo hi (.str l)=aslz l.length lo hi fun a b=>some (.str ((l.drop a).take (b - a)))):=fun ez l lo hi=>asl_str rfl ez lo hi l
@[go_sem] theorem tt_30:(∀ (l:List UInt8),alen (tt 9) (.str l)=some (l.length:Int)):=by intros;rfl
@[go_sem] theorem tt_31:(∀ (s:AS) (p v:AV),aput (tt 9) s p v=aputz 1 s p v):=fun s p v=>aput_z rfl rfl s p v
@[go_sem] theorem tt_36:(∀ (s:AS) (p:AV),aload (tt 22) s p=(s.row p).bind fun r=>apart false 1 r.2 r.1):=by intro s p;unfold aload;cases s.row p <;> rfl
@[go_sem] theorem tt_38:(∀ (ev:Operand→AV) (x:Operand),arows tt ev (.box 22 x)=if noL (ev x)=true∧(ev x).cells.length=1∧(ev x).cells.all AV.cell=true then some (1,[(ev x).cells],22) else none):=by intro ev x;simp [arows,tt,TI.knows]
@[go_sem] theorem tt_39:(∀ (es:List (List AV)) (k:IntKind) (i:Int),aidx tt 22 (.lst 9 es) (.int k i)=if 0≤i∧i < es.length then some (.iptr (es.getD i.toNat []) 0) else none):=by intros;rfl
@[go_sem] theorem tt_40:(∀ (b:Bid) (o n:Nat) (k:IntKind) (i:Int),aidx tt 22 (.slc b 9 o n) (.int k i)=if 0≤i∧i < n then some (.ptr b (o+i.toNat) 0) else none):=by intros;rfl
@[go_sem] theorem tt_41:(∀ (b:Bid) (e o n:Nat),alen (tt 22) (.slc b e o n)=some (n:Int)):=by intros;rfl
@[go_sem] theorem tt_42:(∀ (e:Nat) (es:List (List AV)),alen (tt 22) (.lst e es)=some (es.length:Int)):=by intros;rfl
@[go_sem] theorem tt_43:(alen (tt 22) .nils=some 0):=by intros;rfl
@[go_sem] theorem tt_50:(elsize tt 22=9):=by intros;rfl
@[go_sem] theorem tt_51:(∀ (ev:Operand→AV) (n:Nat) (ps:List (Nat × Operand)),absl tt ev 22 n ps=if n≤16777216∧n * 9≤16777216∧ps.map (·.1)=List.range n∧(ps.all fun p=>noL (ev p.2) && ((ev p.2).cells.length == 9) && (ev p.2).cells.all AV.cell)=true then some (9,ps.map fun p=>(ev p.2).cells) else none):=by intros;rfl
@[go_sem] theorem tt_54:(∀ (ez b1 o n:Nat) (b:Bid) (lo hi:Option AV),asl (tt 22) ez lo hi (.slc b b1 o n)=aslz n lo hi fun l h=>if b1=ez then some (.slc b b1 (o+l) (h - l)) else none):=fun ez b1 o n b lo hi=>asl_slc rfl ez lo hi b b1 o n
@[go_sem] theorem tt_55:(∀ (ez e:Nat) (es:List (List AV)) (lo hi:Option AV),asl (tt 22) ez lo hi (.lst e es)=aslz es.length lo hi fun l h=>if e=ez then some (.lst e ((es.drop l).take (h - l))) else none):=fun ez e es lo hi=>asl_lst rfl ez lo hi e es
@[go_sem] theorem tt_58:(∀ (s:AS) (p:AV),aload (tt 23) s p=(s.row p).bind fun r=>apart false 1 r.2 r.1):=by intro s p;unfold aload;cases s.row p <;> rfl
@[go_sem] theorem tt_60:(∀ (ev:Operand→AV) (x:Operand),arows tt ev (.box 23 x)=if noL (ev x)=true∧(ev x).cells.length=1∧(ev x).cells.all AV.cell=true then some (1,[(ev x).cells],23) else none):=by intro ev x;simp [arows,tt,TI.knows]
@[go_sem] theorem tt_61:(∀ (es:List (List AV)) (k:IntKind) (i:Int),aidx tt 23 (.lst 1 es) (.int k i)=if 0≤i∧i < es.length then some (.iptr (es.getD i.toNat []) 0) else none):=by intros;rfl
@[go_sem] theorem tt_62:(∀ (b:Bid) (o n:Nat) (k:IntKind) (i:Int),aidx tt 23 (.slc b 1 o n) (.int k i)=if 0≤i∧i < n then some (.ptr b (o+i.toNat) 0) else none):=by intros;rfl
@[go_sem] theorem tt_63:(∀ (b:Bid) (e o n:Nat),alen (tt 23) (.slc b e o n)=some (n:Int)):=by intros;rfl
@[go_sem] theorem tt_64:(∀ (e:Nat) (es:List (List AV)),alen (tt 23) (.lst e es)=some (es.length:Int)):=by intros;rfl
@[go_sem] theorem tt_65:(alen (tt 23) .nils=some 0):=by intros;rfl
@[go_sem] theorem tt_72:(elsize tt 23=1):=by intros;rfl
@[go_sem] theorem tt_73:(∀ (ev:Operand→AV) (n:Nat) (ps:List (Nat × Operand)),absl tt ev 23 n ps=if n≤16777216∧n * 1≤16777216∧ps.map (·.1)=List.range n∧(ps.all fun p=>noL (ev p.2) && ((ev p.2).cells.length == 1) && (ev p.2).cells.all AV.cell)=true then some (1,ps.map fun p=>(ev p.2).cells) else none):=by intros;rfl
@[go_sem] theorem tt_80:(∀ (s:AS) (p:AV),aload (tt 24) s p=(s.row p).bind fun r=>apart false 1 r.2 r.1):=by intro s p;unfold aload;cases s.row p <;> rfl
@[go_sem] theorem tt_82:(∀ (ev:Operand→AV) (x:Operand),arows tt ev (.box 24 x)=if noL (ev x)=true∧(ev x).cells.length=1∧(ev x).cells.all AV.cell=true then some (1,[(ev x).cells],24) else none):=by intro ev x;simp [arows,tt,TI.knows]
@[go_sem] theorem tt_83:(∀ (es:List (List AV)) (k:IntKind) (i:Int),aidx tt 24 (.lst 3 es) (.int k i)=if 0≤i∧i < es.length then some (.iptr (es.getD i.toNat []) 0) else none):=by intros;rfl
@[go_sem] theorem tt_84:(∀ (b:Bid) (o n:Nat) (k:IntKind) (i:Int),aidx tt 24 (.slc b 3 o n) (.int k i)=if 0≤i∧i < n then some (.ptr b (o+i.toNat) 0) else none):=by intros;rfl
@[go_sem] theorem tt_85:(∀ (b:Bid) (e o n:Nat),alen (tt 24) (.slc b e o n)=some (n:Int)):=by intros;rfl
@[go_sem] theorem tt_86:(∀ (e:Nat) (es:List (List AV)),alen (tt 24) (.lst e es)=some (es.length:Int)):=by intros;rfl
@[go_sem] theorem tt_87:(alen (tt 24) .nils=some 0):=by intros;rfl
@[go_sem] theorem tt_94:(elsize tt 24=3):=by intros;rfl
@[go_sem] theorem tt_95:(∀ (ev:Operand→AV) (n:Nat) (ps:List (Nat × Operand)),absl tt ev 24 n ps=if n≤16777216∧n * 3≤16777216∧ps.map (·.1)=List.range n∧(ps.all fun p=>noL (ev p.2) && ((ev p.2).cells.length == 3) && (ev p.2).cells.all AV.cell)=true then some (3,ps.map fun p=>(ev p.2).cells) else none):=by intros;rfl
@[go_sem] theorem tt_102:(∀ (s:AS) (p:AV),aload (tt 25) s p=(s.row p).bind fun r=>apart false 1 r.2 r.1):=by intro s p;unfold aload;cases s.row p <;> rfl
@[go_sem] theorem tt_103:(∀ ev:Operand→AV,arows tt ev (.alloc 25)=some (1,[[.nils]],25)):=by intros;rfl
@[go_sem] theorem tt_105:(∀ (es:List (List AV)) (k:IntKind) (i:Int),aidx tt 25 (.lst 1 es) (.int k i)=if 0≤i∧i < es.length then some (.iptr (es.getD i.toNat []) 0) else none):=by intros;rfl
@[go_sem] theorem tt_106:(∀ (b:Bid) (o n:Nat) (k:IntKind) (i:Int),aidx tt 25 (.slc b 1 o n) (.int k i)=if 0≤i∧i < n then some (.ptr b (o+i.toNat) 0) else none):=by intros;rfl
@[go_sem] theorem tt_107:(∀ (b:Bid) (e o n:Nat),alen (tt 25) (.slc b e o n)=some (n:Int)):=by intros;rfl
@[go_sem] theorem tt_108:(∀ (e:Nat) (es:List (List AV)),alen (tt 25) (.lst e es)=some (es.length:Int)):=by intros;rfl
@[go_sem] theorem tt_109:(alen (tt 25) .nils=some 0):=by intros;rfl
@[go_sem] theorem tt_110:(∀ c:Bool,abin (tt 25) .eql c .nils .nils=some (.bool true)):=by intros;rfl
@[go_sem] theorem tt_111:(∀ (c:Bool) (b:Bid) (e i n:Nat),abin (tt 25) .eql c (.slc b e i n) .nils=some (.bool false)):=by intros;rfl
@[go_sem] theorem tt_112:(∀ (c:Bool) (e:Nat) (r:List AV) (es:List (List AV)),abin (tt 25) .eql c (.lst e (r :: es)) .nils=some (.bool false)):=by intros;rfl
@[go_sem] theorem tt_116:(elsize tt 25=1):=by intros;rfl
@[go_sem] theorem tt_117:(∀ (ev:Operand→AV) (n:Nat) (ps:List (Nat × Operand)),absl tt ev 25 n ps=if n≤16777216∧n * 1≤16777216∧ps.map (·.1)=List.range n∧(ps.all fun p=>noL (ev p.2) && ((ev p.2).cells.length == 1) && (ev p.2).cells.all AV.cell)=true then some (1,ps.map fun p=>(ev p.2).cells) else none):=by intros;rfl
@[go_sem] theorem tt_122:(∀ (h:AH) (id:Bid) (x y:AV),aapp tt h 25 id x y=aappz 1 8 h id x y):=fun h id x y=>by unfold aapp aappz;rfl
@[go_sem] theorem tt_123:(∀ (s:AS) (p v:AV),aput (tt 25) s p v=aputz 1 s p v):=fun s p v=>aput_z rfl rfl s p v
@[go_sem] theorem tt_124:(∀ (s:AS) (p:AV),aload (tt 27) s p=(s.row p).bind fun r=>apart false 1 r.2 r.1):=by intro s p;unfold aload;cases s.row p <;> rfl
@[go_sem] theorem tt_125:(∀ ev:Operand→AV,arows tt ev (.alloc 27)=some (1,[[.nilfn]],27)):=by intros;rfl
@[go_sem] theorem tt_127:(∀ (s:AS) (p v:AV),aput (tt 27) s p v=aputz 1 s p v):=fun s p v=>aput_z rfl rfl s p v
@[go_sem] theorem tt_194:(∀ (s:AS) (p:AV),aload (tt 39) s p=(s.row p).bind fun r=>apart false 1 r.2 r.1):=by intro s p;unfold aload;cases s.row p <;> rfl
@[go_sem] theorem tt_195:(∀ ev:Operand→AV,arows tt ev (.alloc 39)=some (1,[[.nils]],39)):=by intros;rfl
@[go_sem] theorem tt_197:(∀ (es:List (List AV)) (k:IntKind) (i:Int),aidx tt 39 (.lst 1 es) (.int k i)=if 0≤i∧i < es.length then some (.iptr (es.getD i.toNat []) 0) else none):=by intros;rfl
@[go_sem] theorem tt_198:(∀ (b:Bid) (o n:Nat) (k:IntKind) (i:Int),aidx tt 39 (.slc b 1 o n) (.int k i)=if 0≤i∧i < n then some (.ptr b (o+i.toNat) 0) else none):=by intros;rfl
@[go_sem] theorem tt_199:(∀ (b:Bid) (e o n:Nat),alen (tt 39) (.slc b e o n)=some (n:Int)):=by intros;rfl
@[go_sem] theorem tt_200:(∀ (e:Nat) (es:List (List AV)),alen (tt 39) (.lst e es)=some (es.length:Int)):=by intros;rfl
@[go_sem] theorem tt_201:(alen (tt 39) .nils=some 0):=by intros;rfl
@[go_sem] theorem tt_208:(elsize tt 39=1):=by intros;rfl
@[go_sem] theorem tt_209:(∀ (ev:Operand→AV) (n:Nat) (ps:List (Nat × Operand)),absl tt ev 39 n ps=if n≤16777216∧n * 1≤16777216∧ps.map (·.1)=List.range n∧(ps.all fun p=>noL (ev p.2) && ((ev p.2).cells.length == 1) && (ev p.2).cells.all AV.cell)=true then some (1,ps.map fun p=>(ev p.2).cells) else none):=by intros;rfl
@[go_sem] theorem tt_214:(∀ (h:AH) (id:Bid) (x y:AV),aapp tt h 39 id x y=aappz 1 24 h id x y):=fun h id x y=>by unfold aapp aappz;rfl
@[go_sem] theorem tt_215:(∀ (s:AS) (p v:AV),aput (tt 39) s p v=aputz 1 s p v):=fun s p v=>aput_z rfl rfl s p v
@[go_sem] theorem tt_216:(∀ (s:AS) (p:AV),aload (tt 40) s p=(s.row p).bind fun r=>apart false 1 r.2 r.1):=by intro s p;unfold aload;cases s.row p <;> rfl
@[go_sem] theorem tt_217:(∀ ev:Operand→AV,arows tt ev (.alloc 40)=some (1,[[.int .i64 0]],40)):=by intros;rfl
@[go_sem] theorem tt_219:(∀ (s:AS) (p v:AV),aput (tt 40) s p v=aputz 1 s p v):=fun s p v=>aput_z rfl rfl s p v
@[go_sem] theorem tt_220:(∀ (s:AS) (p:AV),aload (tt 51) s p=(s.row p).bind fun r=>apart false 1 r.2 r.1):=by intro s p;unfold aload;cases s.row p <;> rfl
@[go_sem] theorem tt_223:(∀ (es:List (List AV)) (k:IntKind) (i:Int),aidx tt 51 (.lst 3 es) (.int k i)=if 0≤i∧i < es.length then some (.iptr (es.getD i.toNat []) 0) else none):=by intros;rfl
@[go_sem] theorem tt_224:(∀ (b:Bid) (o n:Nat) (k:IntKind) (i:Int),aidx tt 51 (.slc b 3 o n) (.int k i)=if 0≤i∧i < n then some (.ptr b (o+i.toNat) 0) else none):=by intros;rfl
@[go_sem] theorem tt_225:(∀ (b:Bid) (e o n:Nat),alen (tt 51) (.slc b e o n)=some (n:Int)):=by intros;rfl
@[go_sem] theorem tt_226:(∀ (e:Nat) (es:List (List AV)),alen (tt 51) (.lst e es)=some (es.length:Int)):=by intros;rfl
@[go_sem] theorem tt_227:(alen (tt 51) .nils=some 0):=by intros;rfl
@[go_sem] theorem tt_234:(elsize tt 51=3):=by intros;rfl
@[go_sem] theorem tt_235:(∀ (ev:Operand→AV) (n:Nat) (ps:List (Nat × Operand)),absl tt ev 51 n ps=if n≤16777216∧n * 3≤16777216∧ps.map (·.1)=List.range n∧(ps.all fun p=>noL (ev p.2) && ((ev p.2).cells.length == 3) && (ev p.2).cells.all AV.cell)=true then some (3,ps.map fun p=>(ev p.2).cells) else none):=by intros;rfl
@[go_sem] theorem tt_238:(∀ (ez b1 o n:Nat) (b:Bid) (lo hi:Option AV),asl (tt 51) ez lo hi (.slc b b1 o n)=aslz n lo hi fun l h=>if b1=ez then some (.slc b b1 (o+l) (h - l)) else none):=fun ez b1 o n b lo hi=>asl_slc rfl ez lo hi b b1 o n
@[go_sem] theorem tt_239:(∀ (ez e:Nat) (es:List (List AV)) (lo hi:Option AV),asl (tt 51) ez lo hi (.lst e es)=aslz es.length lo hi fun l h=>if e=ez then some (.lst e ((es.drop l).take (h - l))) else none):=fun ez e es lo hi=>asl_lst rfl ez lo hi e es
@[go_sem] theorem tt_240:(∀ (h:AH) (id:Bid) (x y:AV),aapp tt h 51 id x y=aappz 3 3 h id x y):=fun h id x y=>by unfold aapp aappz;rfl
@[go_sem] theorem tt_241:(∀ (s:AS) (p v:AV),aput (tt 51) s p v=aputz 1 s p v):=fun s p v=>aput_z rfl rfl s p v
@[go_sem] theorem tt_242:(∀ (s:AS) (p:AV),aload (tt 52) s p=(s.row p).bind fun r=>apart false 1 r.2 r.1):=by intro s p;unfold aload;cases s.row p <;> rfl
@[go_sem] theorem tt_243:(∀ ev:Operand→AV,arows tt ev (.alloc 52)=some (1,[[.nils]],52)):=by intros;rfl
@[go_sem] theorem tt_245:(∀ (es:List (List AV)) (k:IntKind) (i:Int),aidx tt 52 (.lst 3 es) (.int k i)=if 0≤i∧i < es.length then some (.iptr (es.getD i.toNat []) 0) else none):=by intros;rfl
@[go_sem] theorem tt_246:(∀ (b:Bid) (o n:Nat) (k:IntKind) (i:Int),aidx tt 52 (.slc b 3 o n) (.int k i)=if 0≤i∧i < n then some (.ptr b (o+i.toNat) 0) else none):=by intros;rfl
@[go_sem] theorem tt_247:(∀ (b:Bid) (e o n:Nat),alen (tt 52) (.slc b e o n)=some (n:Int)):=by intros;rfl
@[go_sem] theorem tt_248:(∀ (e:Nat) (es:List (List AV)),alen (tt 52) (.lst e es)=some (es.length:Int)):=by intros;rfl
@[go_sem] theorem tt_249:(alen (tt 52) .nils=some 0):=by intros;rfl
@[go_sem] theorem tt_256:(elsize tt 52=3):=by intros;rfl
@[go_sem] theorem tt_257:(∀ (ev:Operand→AV) (n:Nat) (ps:List (Nat × Operand)),absl tt ev 52 n ps=if n≤16777216∧n * 3≤16777216∧ps.map (·.1)=List.range n∧(ps.all fun p=>noL (ev p.2) && ((ev p.2).cells.length == 3) && (ev p.2).cells.all AV.cell)=true then some (3,ps.map fun p=>(ev p.2).cells) else none):=by intros;rfl
@[go_sem] theorem tt_262:(∀ (h:AH) (id:Bid) (x y:AV),aapp tt h 52 id x y=aappz 3 24 h id x y):=fun h id x y=>by unfold aapp aappz;rfl
@[go_sem] theorem tt_263:(∀ (s:AS) (p v:AV),aput (tt 52) s p v=aputz 1 s p v):=fun s p v=>aput_z rfl rfl s p v
@[go_sem] theorem tt_264:(∀ (s:AS) (p:AV),aload (tt 54) s p=(s.row p).bind fun r=>apart true 2 r.2 r.1):=by intro s p;unfold aload;cases s.row p <;> rfl
@[go_sem] theorem tt_265:(∀ ev:Operand→AV,arows tt ev (.alloc 54)=some (2,[[.nils,.nils]],54)):=by intros;rfl
@[go_sem] theorem tt_266:(∀ (ev:Operand→AV) (x:Operand),arows tt ev (.box 54 x)=if noL (ev x)=true∧(ev x).cells.length=2∧(ev x).cells.all AV.cell=true then some (2,[(ev x).cells],54) else none):=by intro ev x;simp [arows,tt,TI.knows]
@[go_sem] theorem tt_267:(∀ v:AV,afieldAddr (tt 54) 0 v=amove 0 v):=by intros;rfl
@[go_sem] theorem tt_269:(∀ v:AV,afieldAddr (tt 54) 1 v=amove 1 v):=by intros;rfl
@[go_sem] theorem tt_271:(∀ ps:List (Nat × AV),abuild tt 54 ps=(afill (fun i=>([(0,1),(1,1)]:List (Nat × Nat))[i]?) [.nils,.nils] ps).map .agg):=fun ps=>by show Option.map _ (afill _ _ _)=_;congr 2;funext i;rw [← List.getElem?_map];rfl
@[go_sem] theorem tt_272:(∀ (s:AS) (p v:AV),aput (tt 54) s p v=aputz 2 s p v):=fun s p v=>aput_z rfl rfl s p v
@[go_sem] theorem tt_273:(∀ (s:AS) (p:AV),aload (tt 57) s p=(s.row p).bind fun r=>apart true 3 r.2 r.1):=by intro s p;unfold aload;cases s.row p <;> rfl
@[go_sem] theorem tt_274:(∀ ev:Operand→AV,arows tt ev (.alloc 57)=some (3,[[.int .i64 0,.int .i64 0,.int .i64 0]],57)):=by intros;rfl
@[go_sem] theorem tt_275:(∀ (ev:Operand→AV) (x:Operand),arows tt ev (.box 57 x)=if noL (ev x)=true∧(ev x).cells.length=3∧(ev x).cells.all AV.cell=true then some (3,[(ev x).cells],57) else none):=by intro ev x;simp [arows,tt,TI.knows]
@[go_sem] theorem tt_276:(∀ v:AV,afieldAddr (tt 57) 0 v=amove 0 v):=by intros;rfl
@[go_sem] theorem tt_278:(∀ v:AV,afieldAddr (tt 57) 1 v=amove 1 v):=by intros;rfl
@[go_sem] theorem tt_280:(∀ v:AV,afieldAddr (tt 57) 2 v=amove 2 v):=by intros;rfl
@[go_sem] theorem tt_282:(∀ ps:List (Nat × AV),abuild tt 57 ps=(afill (fun i=>([(0,1),(1,1),(2,1)]:List (Nat × Nat))[i]?) [.int .i64 0,.int .i64 0,.int .i64 0] ps).map .agg):=fun ps=>by show Option.map _ (afill _ _ _)=_;congr 2;funext i;rw [← List.getElem?_map];rfl
@[go_sem] theorem tt_283:(∀ (c:Bool) (x y:List AV),abin (tt 57) .eql c (.agg x) (.agg y)=aeql 3 (fun b=>b) (ints x) (ints y)):=fun c x y=>by cases hx:ints x <;> cases hy:ints y <;> simp [tt,abin,abinB,aeql,hx,hy]
@[go_sem] theorem tt_285:(∀ (s:AS) (p v:AV),aput (tt 57) s p v=aputz 3 s p v):=fun s p v=>aput_z rfl rfl s p v
@[go_sem] theorem tt_286:(∀ (s:AS) (p:AV),aload (tt 62) s p=(s.row p).bind fun r=>apart false 1 r.2 r.1):=by intro s p;unfold aload;cases s.row p <;> rfl
@[go_sem] theorem tt_289:(∀ (es:List (List AV)) (k:IntKind) (i:Int),aidx tt 62 (.lst 7 es) (.int k i)=if 0≤i∧i < es.length then some (.iptr (es.getD i.toNat []) 0) else none):=by intros;rfl
@[go_sem] theorem tt_290:(∀ (b:Bid) (o n:Nat) (k:IntKind) (i:Int),aidx tt 62 (.slc b 7 o n) (.int k i)=if 0≤i∧i < n then some (.ptr b (o+i.toNat) 0) else none):=by intros;rfl
@[go_sem] theorem tt_291:(∀ (b:Bid) (e o n:Nat),alen (tt 62) (.slc b e o n)=some (n:Int)):=by intros;rfl
@[go_sem] theorem tt_292:(∀ (e:Nat) (es:List (List AV)),alen (tt 62) (.lst e es)=some (es.length:Int)):=by intros;rfl
@[go_sem] theorem tt_293:(alen (tt 62) .nils=some 0):=by intros;rfl
@[go_sem] theorem tt_300:(elsize tt 62=7):=by intros;rfl
@[go_sem] theorem tt_301:(∀ (ev:Operand→AV) (n:Nat) (ps:List (Nat × Operand)),absl tt ev 62 n ps=if n≤16777216∧n * 7≤16777216∧ps.map (·.1)=List.range n∧(ps.all fun p=>noL (ev p.2) && ((ev p.2).cells.length == 7) && (ev p.2).cells.all AV.cell)=true then some (7,ps.map fun p=>(ev p.2).cells) else none):=by intros;rfl
@[go_sem] theorem tt_306:(∀ (h:AH) (id:Bid) (x y:AV),aapp tt h 62 id x y=aappz 7 56 h id x y):=fun h id x y=>by unfold aapp aappz;rfl
@[go_sem] theorem tt_307:(∀ (s:AS) (p v:AV),aput (tt 62) s p v=aputz 1 s p v):=fun s p v=>aput_z rfl rfl s p v
@[go_sem] theorem tt_308:(∀ (s:AS) (p:AV),aload (tt 63) s p=(s.row p).bind fun r=>apart false 1 r.2 r.1):=by intro s p;unfold aload;cases s.row p <;> rfl
@[go_sem] theorem tt_311:(∀ (es:List (List AV)) (k:IntKind) (i:Int),aidx tt 63 (.lst 1 es) (.int k i)=if 0≤i∧i < es.length then some (.iptr (es.getD i.toNat []) 0) else none):=by intros;rfl
@[go_sem] theorem tt_312:(∀ (b:Bid) (o n:Nat) (k:IntKind) (i:Int),aidx tt 63 (.slc b 1 o n) (.int k i)=if 0≤i∧i < n then some (.ptr b (o+i.toNat) 0) else none):=by intros;rfl
@[go_sem] theorem tt_313:(∀ (b:Bid) (e o n:Nat),alen (tt 63) (.slc b e o n)=some (n:Int)):=by intros;rfl
@[go_sem] theorem tt_314:(∀ (e:Nat) (es:List (List AV)),alen (tt 63) (.lst e es)=some (es.length:Int)):=by intros;rfl
@[go_sem] theorem tt_315:(alen (tt 63) .nils=some 0):=by intros;rfl
@[go_sem] theorem tt_322:(elsize tt 63=1):=by intros;rfl
@[go_sem] theorem tt_323:(∀ (ev:Operand→AV) (n:Nat) (ps:List (Nat × Operand)),absl tt ev 63 n ps=if n≤16777216∧n * 1≤16777216∧ps.map (·.1)=List.range n∧(ps.all fun p=>noL (ev p.2) && ((ev p.2).cells.length == 1) && (ev p.2).cells.all AV.cell)=true then some (1,ps.map fun p=>(ev p.2).cells) else none):=by intros;rfl
@[go_sem] theorem tt_328:(∀ (h:AH) (id:Bid) (x y:AV),aapp tt h 63 id x y=aappz 1 1 h id x y):=fun h id x y=>by unfold aapp aappz;rfl
@[go_sem] theorem tt_330:(∀ (s:AS) (p:AV),aload (tt 69) s p=(s.row p).bind fun r=>apart false 1 r.2 r.1):=by intro s p;unfold aload;cases s.row p <;> rfl
@[go_sem] theorem tt_331:(∀ ev:Operand→AV,arows tt ev (.alloc 69)=some (1,[[.nils]],69)):=by intros;rfl
@[go_sem] theorem tt_333:(∀ (es:List (List AV)) (k:IntKind) (i:Int),aidx tt 69 (.lst 2 es) (.int k i)=if 0≤i∧i < es.length then some (.iptr (es.getD i.toNat []) 0) else none):=by intros;rfl
@[go_sem] theorem tt_334:(∀ (b:Bid) (o n:Nat) (k:IntKind) (i:Int),aidx tt 69 (.slc b 2 o n) (.int k i)=if 0≤i∧i < n then some (.ptr b (o+i.toNat) 0) else none):=by intros;rfl
@[go_sem] theorem tt_335:(∀ (b:Bid) (e o n:Nat),alen (tt 69) (.slc b e o n)=some (n:Int)):=by intros;rfl
@[go_sem] theorem tt_336:(∀ (e:Nat) (es:List (List AV)),alen (tt 69) (.lst e es)=some (es.length:Int)):=by intros;rfl
@[go_sem] theorem tt_337:(alen (tt 69) .nils=some 0):=by intros;rfl
@[go_sem] theorem tt_344:(elsize tt 69=2):=by intros;rfl
@[go_sem] theorem tt_345:(∀ (ev:Operand→AV) (n:Nat) (ps:List (Nat × Operand)),absl tt ev 69 n ps=if n≤16777216∧n * 2≤16777216∧ps.map (·.1)=List.range n∧(ps.all fun p=>noL (ev p.2) && ((ev p.2).cells.length == 2) && (ev p.2).cells.all AV.cell)=true then some (2,ps.map fun p=>(ev p.2).cells) else none):=by intros;rfl
@[go_sem] theorem tt_348:(∀ (ez b1 o n:Nat) (b:Bid) (lo hi:Option AV),asl (tt 69) ez lo hi (.slc b b1 o n)=aslz n lo hi fun l h=>if b1=ez then some (.slc b b1 (o+l) (h - l)) else none):=fun ez b1 o n b lo hi=>asl_slc rfl ez lo hi b b1 o n
@[go_sem] theorem tt_349:(∀ (ez e:Nat) (es:List (List AV)) (lo hi:Option AV),asl (tt 69) ez lo hi (.lst e es)=aslz es.length lo hi fun l h=>if e=ez then some (.lst e ((es.drop l).take (h - l))) else none):=fun ez e es lo hi=>asl_lst rfl ez lo hi e es
@[go_sem] theorem tt_350:(∀ (h:AH) (id:Bid) (x y:AV),aapp tt h 69 id x y=aappz 2 16 h id x y):=fun h id x y=>by unfold aapp aappz;rfl
@[go_sem] theorem tt_351:(∀ (s:AS) (p v:AV),aput (tt 69) s p v=aputz 1 s p v):=fun s p v=>aput_z rfl rfl s p v
@[go_sem] theorem tt_352:(∀ (s:AS) (p:AV),aload (tt 78) s p=(s.row p).bind fun r=>apart true 2 r.2 r.1):=by intro s p;unfold aload;cases s.row p <;> rfl
@[go_sem] theorem tt_353:(∀ ev:Operand→AV,arows tt ev (.alloc 78)=some (2,[[.int .i64 0,.int .i64 0]],78)):=by intros;rfl
@[go_sem] theorem tt_355:(∀ v:AV,afieldAddr (tt 78) 0 v=amove 0 v):=by intros;rfl
@[go_sem] theorem tt_357:(∀ v:AV,afieldAddr (tt 78) 1 v=amove 1 v):=by intros;rfl
@[go_sem] theorem tt_359:(∀ ps:List (Nat × AV),abuild tt 78 ps=(afill (fun i=>([(0,1),(1,1)]:List (Nat × Nat))[i]?) [.int .i64 0,.int .i64 0] ps).map .agg):=fun ps=>by show Option.map _ (afill _ _ _)=_;congr 2;funext i;rw [← List.getElem?_map];rfl
@[go_sem] theorem tt_360:(∀ (c:Bool) (x y:List AV),abin (tt 78) .eql c (.agg x) (.agg y)=aeql 2 (fun b=>b) (ints x) (ints y)):=fun c x y=>by cases hx:ints x <;> cases hy:ints y <;> simp [tt,abin,abinB,aeql,hx,hy]
@[go_sem] theorem tt_362:(∀ (s:AS) (p v:AV),aput (tt 78) s p v=aputz 2 s p v):=fun s p v=>aput_z rfl rfl s p v
@[go_sem] theorem tt_388:(∀ (es:List (List AV)) (k:IntKind) (i:Int),aidx tt 81 (.lst 1 es) (.int k i)=if 0≤i∧i < es.length then some (.iptr (es.getD i.toNat []) 0) else none):=by intros;rfl
@[go_sem] theorem tt_389:(∀ (b:Bid) (o n:Nat) (k:IntKind) (i:Int),aidx tt 81 (.slc b 1 o n) (.int k i)=if 0≤i∧i < n then some (.ptr b (o+i.toNat) 0) else none):=by intros;rfl
@[go_sem] theorem tt_399:(elsize tt 81=1):=by intros;rfl
@[go_sem] theorem tt_401:(∀ (k k':IntKind) (l c:Int),amake tt 81 (.int k l) (.int k' c)=if 0≤l∧l≤c∧c * 16≤70368744177664∧c≤70368744177664 then some (1,List.replicate l.toNat [.str []],l.toNat) else none):=by intros;rfl
@[go_sem] theorem tt_403:(∀ (ez b1 o n:Nat) (b:Bid) (lo hi:Option AV),asl (tt 81) ez lo hi (.slc b b1 o n)=aslz n lo hi fun l h=>if b1=ez then some (.slc b b1 (o+l) (h - l)) else none):=fun ez b1 o n b lo hi=>asl_slc rfl ez lo hi b b1 o n
@[go_sem] theorem tt_404:(∀ (ez e:Nat) (es:List (List AV)) (lo hi:Option AV),asl (tt 81) ez lo hi (.lst e es)=aslz es.length lo hi fun l h=>if e=ez then some (.lst e ((es.drop l).take (h - l))) else none):=fun ez e es lo hi=>asl_lst rfl ez lo hi e es
@[go_sem] theorem tt_407:(∀ (s:AS) (p:AV),aload (tt 89) s p=(s.row p).bind fun r=>apart true 9 r.2 r.1):=by intro s p;unfold aload;cases s.row p <;> rfl
@[go_sem] theorem tt_408:(∀ ev:Operand→AV,arows tt ev (.alloc 89)=some (9,[[.int .i64 0,.int .i64 0,.int .i64 0,.int .i64 0,.int .i64 0,.int .i64 0,.int .i64 0,.int .i64 0,.nils]],89)):=by intros;rfl
@[go_sem] theorem tt_409:(∀ (ev:Operand→AV) (x:Operand),arows tt ev (.box 89 x)=if noL (ev x)=true∧(ev x).cells.length=9∧(ev x).cells.all AV.cell=true then some (9,[(ev x).cells],89) else none):=by intro ev x;simp [arows,tt,TI.knows]
@[go_sem] theorem tt_410:(∀ v:AV,afieldAddr (tt 89) 0 v=amove 0 v):=by intros;rfl
@[go_sem] theorem tt_412:(∀ v:AV,afieldAddr (tt 89) 1 v=amove 1 v):=by intros;rfl
@[go_sem] theorem tt_414:(∀ v:AV,afieldAddr (tt 89) 2 v=amove 2 v):=by intros;rfl
@[go_sem] theorem tt_416:(∀ v:AV,afieldAddr (tt 89) 3 v=amove 3 v):=by intros;rfl
@[go_sem] theorem tt_418:(∀ v:AV,afieldAddr (tt 89) 4 v=amove 4 v):=by intros;rfl
@[go_sem] theorem tt_420:(∀ v:AV,afieldAddr (tt 89) 5 v=amove 5 v):=by intros;rfl
@[go_sem] theorem tt_422:(∀ v:AV,afieldAddr (tt 89) 6 v=amove 6 v):=by intros;rfl
@[go_sem] theorem tt_424:(∀ v:AV,afieldAddr (tt 89) 7 v=amove 7 v):=by intros;rfl
@[go_sem] theorem tt_426:(∀ v:AV,afieldAddr (tt 89) 8 v=amove 8 v):=by intros;rfl
@[go_sem] theorem tt_428:(∀ ps:List (Nat × AV),abuild tt 89 ps=(afill (fun i=>([(0,1),(1,1),(2,1),(3,1),(4,1),(5,1),(6,1),(7,1),(8,1)]:List (Nat × Nat))[i]?) [.int .i64 0,.int .i64 0,.int .i64 0,.int .i64 0,.int .i64 0,.int .i64 0,.int .i64 0,.int .i64 0,.nils] ps).map .agg):=fun ps=>by show Option.map _ (afill _ _ _)=_;congr 2;funext i;rw [← List.getElem?_map];rfl
@[go_sem] theorem tt_429:(∀ (s:AS) (p v:AV),aput (tt 89) s p v=aputz 9 s p v):=fun s p v=>aput_z rfl rfl s p v
@[go_sem] theorem tt_430:(∀ (s:AS) (p:AV),aload (tt 90) s p=(s.row p).bind fun r=>apart false 1 r.2 r.1):=by intro s p;unfold aload;cases s.row p <;> rfl
@[go_sem] theorem tt_433:(∀ (k:IntKind) (n:Int),aconv (tt 90) (tt 2) (.int k n)=some (.int .i64 (wr .i64 n))):=by intros;rfl
@[go_sem] theorem tt_434:(∀ (k:IntKind) (n:Int),aconv (tt 90) (tt 3) (.int k n)=some (.int .i64 (wr .i64 n))):=by intros;rfl
@[go_sem] theorem tt_435:(∀ (k:IntKind) (n:Int),aconv (tt 90) (tt 5) (.int k n)=some (.int .u8 (wr .u8 n))):=by intros;rfl
@[go_sem] theorem tt_436:(∀ (k:IntKind) (n:Int),aconv (tt 90) (tt 230) (.int k n)=some (.int .u32 (wr .u32 n))):=by intros;rfl
@[go_sem] theorem tt_437:(∀ (s:AS) (p v:AV),aput (tt 90) s p v=aputz 1 s p v):=fun s p v=>aput_z rfl rfl s p v
@[go_sem] theorem tt_440:(∀ (ev:Operand→AV) (x:Operand),arows tt ev (.box 92 x)=if noL (ev x)=true∧(ev x).cells.length=1∧(ev x).cells.all AV.cell=true then some (1,[(ev x).cells],92) else none):=by intro ev x;simp [arows,tt,TI.knows]
@[go_sem] theorem tt_441:(∀ v:AV,afieldAddr (tt 92) 0 v=amove 0 v):=by intros;rfl
@[go_sem] theorem tt_443:(∀ ps:List (Nat × AV),abuild tt 92 ps=(afill (fun i=>([(0,1)]:List (Nat × Nat))[i]?) [.int .u64 0] ps).map .agg):=fun ps=>by show Option.map _ (afill _ _ _)=_;congr 2;funext i;rw [← List.getElem?_map];rfl
@[go_sem] theorem tt_445:(∀ (s:AS) (p:AV),aload (tt 99) s p=(s.row p).bind fun r=>apart true 2 r.2 r.1):=by intro s p;unfold aload;cases s.row p <;> rfl
@[go_sem] theorem tt_446:(∀ ev:Operand→AV,arows tt ev (.alloc 99)=some (2,[[.int .i64 0,.int .i64 0]],99)):=by intros;rfl
@[go_sem] theorem tt_447:(∀ (ev:Operand→AV) (x:Operand),arows tt ev (.box 99 x)=if noL (ev x)=true∧(ev x).cells.length=2∧(ev x).cells.all AV.cell=true then some (2,[(ev x).cells],99) else none):=by intro ev x;simp [arows,tt,TI.knows]
@[go_sem] theorem tt_448:(∀ v:AV,afieldAddr (tt 99) 0 v=amove 0 v):=by intros;rfl
@[go_sem] theorem tt_450:(∀ v:AV,afieldAddr (tt 99) 1 v=amove 1 v):=by intros;rfl
@[go_sem] theorem tt_452:(∀ ps:List (Nat × AV),abuild tt 99 ps=(afill (fun i=>([(0,1),(1,1)]:List (Nat × Nat))[i]?) [.int .i64 0,.int .i64 0] ps).map .agg):=fun ps=>by show Option.map _ (afill _ _ _)=_;congr 2;funext i;rw [← List.getElem?_map];rfl
@[go_sem] theorem tt_453:(∀ (s:AS) (p v:AV),aput (tt 99) s p v=aputz 2 s p v):=fun s p v=>aput_z rfl rfl s p v
@[go_sem] theorem tt_454:(∀ (s:AS) (p:AV),aload (tt 103) s p=(s.row p).bind fun r=>apart true 7 r.2 r.1):=by intro s p;unfold aload;cases s.row p <;> rfl
@[go_sem] theorem tt_455:(∀ ev:Operand→AV,arows tt ev (.alloc 103)=some (7,[[.int .i64 0,.int .i64 0,.int .i64 0,.int .i64 0,.int .i64 0,.int .i64 0,.int .i64 0]],103)):=by intros;rfl
@[go_sem] theorem tt_456:(∀ (ev:Operand→AV) (x:Operand),arows tt ev (.box 103 x)=if noL (ev x)=true∧(ev x).cells.length=7∧(ev x).cells.all AV.cell=true then some (7,[(ev x).cells],103) else none):=by intro ev x;simp [arows,tt,TI.knows]
@[go_sem] theorem tt_457:(∀ v:AV,afieldAddr (tt 103) 0 v=amove 0 v):=by intros;rfl
@[go_sem] theorem tt_459:(∀ v:AV,afieldAddr (tt 103) 1 v=amove 1 v):=by intros;rfl
@[go_sem] theorem tt_461:(∀ v:AV,afieldAddr (tt 103) 2 v=amove 3 v):=by intros;rfl
@[go_sem] theorem tt_463:(∀ v:AV,afieldAddr (tt 103) 3 v=amove 5 v):=by intros;rfl
@[go_sem] theorem tt_465:(∀ v:AV,afieldAddr (tt 103) 4 v=amove 6 v):=by intros;rfl
@[go_sem] theorem tt_467:(∀ ps:List (Nat × AV),abuild tt 103 ps=(afill (fun i=>([(0,1),(1,2),(3,2),(5,1),(6,1)]:List (Nat × Nat))[i]?) [.int .i64 0,.int .i64 0,.int .i64 0,.int .i64 0,.int .i64 0,.int .i64 0,.int .i64 0] ps).map .agg):=fun ps=>by show Option.map _ (afill _ _ _)=_;congr 2;funext i;rw [← List.getElem?_map];rfl
@[go_sem] theorem tt_470:(∀ (s:AS) (p v:AV),aput (tt 103) s p v=aputz 7 s p v):=fun s p v=>aput_z rfl rfl s p v
@[go_sem] theorem tt_471:(∀ (s:AS) (p:AV),aload (tt 105) s p=(s.row p).bind fun r=>apart true 3 r.2 r.1):=by intro s p;unfold aload;cases s.row p <;> rfl
@[go_sem] theorem tt_472:(∀ ev:Operand→AV,arows tt ev (.alloc 105)=some (3,[[.int .i64 0,.int .i64 0,.int .i64 0]],105)):=by intros;rfl
@[go_sem] theorem tt_473:(∀ (ev:Operand→AV) (x:Operand),arows tt ev (.box 105 x)=if noL (ev x)=true∧(ev x).cells.length=3∧(ev x).cells.all AV.cell=true then some (3,[(ev x).cells],105) else none):=by intro ev x;simp [arows,tt,TI.knows]
@[go_sem] theorem tt_474:(∀ v:AV,afieldAddr (tt 105) 0 v=amove 0 v):=by intros;rfl
@[go_sem] theorem tt_476:(∀ v:AV,afieldAddr (tt 105) 1 v=amove 1 v):=by intros;rfl
@[go_sem] theorem tt_478:(∀ v:AV,afieldAddr (tt 105) 2 v=amove 2 v):=by intros;rfl
@[go_sem] theorem tt_480:(∀ ps:List (Nat × AV),abuild tt 105 ps=(afill (fun i=>([(0,1),(1,1),(2,1)]:List (Nat × Nat))[i]?) [.int .i64 0,.int .i64 0,.int .i64 0] ps).map .agg):=fun ps=>by show Option.map _ (afill _ _ _)=_;congr 2;funext i;rw [← List.getElem?_map];rfl
@[go_sem] theorem tt_483:(∀ (s:AS) (p v:AV),aput (tt 105) s p v=aputz 3 s p v):=fun s p v=>aput_z rfl rfl s p v
@[go_sem] theorem tt_484:(∀ (s:AS) (p:AV),aload (tt 114) s p=(s.row p).bind fun r=>apart false 1 r.2 r.1):=by intro s p;unfold aload;cases s.row p <;> rfl
@[go_sem] theorem tt_485:(∀ ev:Operand→AV,arows tt ev (.alloc 114)=some (1,[[.nilfn]],114)):=by intros;rfl
@[go_sem] theorem tt_487:(∀ (s:AS) (p v:AV),aput (tt 114) s p v=aputz 1 s p v):=fun s p v=>aput_z rfl rfl s p v
@[go_sem] theorem tt_510:(∀ (s:AS) (p:AV),aload (tt 123) s p=(s.row p).bind fun r=>apart true 3 r.2 r.1):=by intro s p;unfold aload;cases s.row p <;> rfl
@[go_sem] theorem tt_511:(∀ ev:Operand→AV,arows tt ev (.alloc 123)=some (3,[[.bool false,.bool false,.bool false]],123)):=by intros;rfl
@[go_sem] theorem tt_512:(∀ (ev:Operand→AV) (x:Operand),arows tt ev (.box 123 x)=if noL (ev x)=true∧(ev x).cells.length=3∧(ev x).cells.all AV.cell=true then some (3,[(ev x).cells],123) else none):=by intro ev x;simp [arows,tt,TI.knows]
@[go_sem] theorem tt_519:(∀ ps:List (Nat × AV),abuild tt 123 ps=(afill (fun i=>([(0,1),(1,1),(2,1)]:List (Nat × Nat))[i]?) [.bool false,.bool false,.bool false] ps).map .agg):=fun ps=>by show Option.map _ (afill _ _ _)=_;congr 2;funext i;rw [← List.getElem?_map];rfl
@[go_sem] theorem tt_522:(∀ (s:AS) (p v:AV),aput (tt 123) s p v=aputz 3 s p v):=fun s p v=>aput_z rfl rfl s p v
@[go_sem] theorem tt_523:(∀ (s:AS) (p:AV),aload (tt 128) s p=(s.row p).bind fun r=>apart true 7 r.2 r.1):=by intro s p;unfold aload;cases s.row p <;> rfl
@[go_sem] theorem tt_524:(∀ ev:Operand→AV,arows tt ev (.alloc 128)=some (7,[[.int .i64 0,.int .i64 0,.int .i64 0,.int .i64 0,.int .i64 0,.int .i64 0,.int .i64 0]],128)):=by intros;rfl
@[go_sem] theorem tt_525:(∀ (ev:Operand→AV) (x:Operand),arows tt ev (.box 128 x)=if noL (ev x)=true∧(ev x).cells.length=7∧(ev x).cells.all AV.cell=true then some (7,[(ev x).cells],128) else none):=by intro ev x;simp [arows,tt,TI.knows]
@[go_sem] theorem tt_526:(∀ (v:AV) (k:IntKind) (i:Int),aidx tt 128 v (.int k i)=if 0≤i∧i < 7 then amove (i.toNat * 1) v else none):=by intros;rfl
@[go_sem] theorem tt_527:(∀ (cs:List AV) (k:IntKind) (i:Int),aindex tt 128 (.agg cs) (.int k i)=if 0≤i∧i < 7 then apart false 1 (i.toNat * 1) cs else none):=by intros;rfl
@[go_sem] theorem tt_529:(elsize tt 128=1):=by intros;rfl
@[go_sem] theorem tt_530:(∀ (b:Bid) (m j:Nat),asl (tt 128) 1 none none (.aptr b m j)=if j+7≤m then some (.slc b 1 j 7) else none):=fun b m j=>asl_aptr rfl (by decide) b m j
@[go_sem] theorem tt_531:(∀ (cs:List AV) (j:Nat),asl (tt 128) 1 none none (.iptr cs j)=if j+7≤cs.length then some (.lstx 1 (((cs.drop j).take 7).map fun x=>[x])) else none):=fun cs j=>asl_iptr rfl cs j
@[go_sem] theorem tt_532:(∀ (s:AS) (p v:AV),aput (tt 128) s p v=aputz 7 s p v):=fun s p v=>aput_z rfl rfl s p v
@[go_sem] theorem tt_533:(∀ (s:AS) (p:AV),aload (tt 132) s p=(s.row p).bind fun r=>apart true 8 r.2 r.1):=by intro s p;unfold aload;cases s.row p <;> rfl
@[go_sem] theorem tt_534:(∀ ev:Operand→AV,arows tt ev (.alloc 132)=some (8,[[.int .i64 0,.int .i64 0,.int .i64 0,.int .i64 0,.int .i64 0,.int .i64 0,.int .i64 0,.int .i64 0]],132)):=by intros;rfl
@[go_sem] theorem tt_536:(∀ (v:AV) (k:IntKind) (i:Int),aidx tt 132 v (.int k i)=if 0≤i∧i < 8 then amove (i.toNat * 1) v else none):=by intros;rfl
@[go_sem] theorem tt_537:(∀ (cs:List AV) (k:IntKind) (i:Int),aindex tt 132 (.agg cs) (.int k i)=if 0≤i∧i < 8 then apart false 1 (i.toNat * 1) cs else none):=by intros;rfl
@[go_sem] theorem tt_539:(elsize tt 132=1):=by intros;rfl
@[go_sem] theorem tt_543:(∀ (s:AS) (p:AV),aload (tt 136) s p=(s.row p).bind fun r=>apart false 1 r.2 r.1):=by intro s p;unfold aload;cases s.row p <;> rfl
@[go_sem] theorem tt_546:(∀ (s:AS) (p v:AV),aput (tt 136) s p v=aputz 1 s p v):=fun s p v=>aput_z rfl rfl s p v
@[go_sem] theorem tt_547:(∀ (s:AS) (p:AV),aload (tt 137) s p=(s.row p).bind fun r=>apart false 1 r.2 r.1):=by intro s p;unfold aload;cases s.row p <;> rfl
@[go_sem] theorem tt_550:(∀ (es:List (List AV)) (k:IntKind) (i:Int),aidx tt 137 (.lst 1 es) (.int k i)=if 0≤i∧i < es.length then some (.iptr (es.getD i.toNat []) 0) else none):=by intros;rfl
@[go_sem] theorem tt_551:(∀ (b:Bid) (o n:Nat) (k:IntKind) (i:Int),aidx tt 137 (.slc b 1 o n) (.int k i)=if 0≤i∧i < n then some (.ptr b (o+i.toNat) 0) else none):=by intros;rfl
@[go_sem] theorem tt_552:(∀ (b:Bid) (e o n:Nat),alen (tt 137) (.slc b e o n)=some (n:Int)):=by intros;rfl
@[go_sem] theorem tt_553:(∀ (e:Nat) (es:List (List AV)),alen (tt 137) (.lst e es)=some (es.length:Int)):=by intros;rfl
@[go_sem] theorem tt_554:(alen (tt 137) .nils=some 0):=by intros;rfl
@[go_sem] theorem tt_561:(elsize tt 137=1):=by intros;rfl
@[go_sem] theorem tt_562:(∀ (ev:Operand→AV) (n:Nat) (ps:List (Nat × Operand)),absl tt ev 137 n ps=if n≤16777216∧n * 1≤16777216∧ps.map (·.1)=List.range n∧(ps.all fun p=>noL (ev p.2) && ((ev p.2).cells.length == 1) && (ev p.2).cells.all AV.cell)=true then some (1,ps.map fun p=>(ev p.2).cells) else none):=by intros;rfl
@[go_sem] theorem tt_563:(∀ (k k':IntKind) (l c:Int),amake tt 137 (.int k l) (.int k' c)=if 0≤l∧l≤c∧c * 1≤70368744177664∧c≤70368744177664 then some (1,List.replicate l.toNat [.int .u8 0],l.toNat) else none):=by intros;rfl
@[go_sem] theorem tt_564:(∀ (h:AH) (x y:AV),acopy tt h 137 x y=acopyz 1 h x y):=fun h x y=>by unfold acopy acopyz;rfl
@[go_sem] theorem tt_567:(∀ (h:AH) (id:Bid) (x y:AV),aapp tt h 137 id x y=aappz 1 1 h id x y):=fun h id x y=>by unfold aapp aappz;rfl
@[go_sem] theorem tt_568:(∀ (s:AS) (p v:AV),aput (tt 137) s p v=aputz 1 s p v):=fun s p v=>aput_z rfl rfl s p v
@[go_sem] theorem tt_570:(∀ ev:Operand→AV,arows tt ev (.alloc 139)=some (2,[[.nilp,.nils]],139)):=by intros;rfl
@[go_sem] theorem tt_572:(∀ v:AV,afieldAddr (tt 139) 0 v=amove 0 v):=by intros;rfl
@[go_sem] theorem tt_574:(∀ v:AV,afieldAddr (tt 139) 1 v=amove 1 v):=by intros;rfl
@[go_sem] theorem tt_578:(∀ (s:AS) (p:AV),aload (tt 141) s p=(s.row p).bind fun r=>apart false 1 r.2 r.1):=by intro s p;unfold aload;cases s.row p <;> rfl
@[go_sem] theorem tt_581:(abin (tt 141) .eql true .nilif .nilif=some (.bool true)):=by intros;rfl
@[go_sem] theorem tt_582:(∀ c:Bool,abin (tt 141) .eql c .ifc .nilif=some (.bool false)):=by intros;rfl
@[go_sem] theorem tt_583:(abin (tt 141) .neq true .nilif .nilif=some (.bool false)):=by intros;rfl
@[go_sem] theorem tt_584:(∀ c:Bool,abin (tt 141) .neq c .ifc .nilif=some (.bool true)):=by intros;rfl
@[go_sem] theorem tt_589:(∀ (k:IntKind) (n:Int),aconv (tt 156) (tt 230) (.int k n)=some (.int .u32 (wr .u32 n))):=by intros;rfl
@[go_sem] theorem tt_591:(∀ (s:AS) (p:AV),aload (tt 160) s p=(s.row p).bind fun r=>apart true 11 r.2 r.1):=by intro s p;unfold aload;cases s.row p <;> rfl
@[go_sem] theorem tt_593:(∀ (ev:Operand→AV) (x:Operand),arows tt ev (.box 160 x)=if noL (ev x)=true∧(ev x).cells.length=11∧(ev x).cells.all AV.cell=true then some (11,[(ev x).cells],160) else none):=by intro ev x;simp [arows,tt,TI.knows]
@[go_sem] theorem tt_594:(∀ v:AV,afieldAddr (tt 160) 0 v=amove 0 v):=by intros;rfl
@[go_sem] theorem tt_596:(∀ v:AV,afieldAddr (tt 160) 1 v=amove 9 v):=by intros;rfl
@[go_sem] theorem tt_598:(∀ v:AV,afieldAddr (tt 160) 2 v=amove 10 v):=by intros;rfl
@[go_sem] theorem tt_600:(∀ ps:List (Nat × AV),abuild tt 160 ps=(afill (fun i=>([(0,9),(9,1),(10,1)]:List (Nat × Nat))[i]?) [.int .i64 0,.int .i64 0,.int .i64 0,.int .i64 0,.int .i64 0,.int .i64 0,.int .i64 0,.int .i64 0,.nils,.int .i64 0,.int .i64 0] ps).map .agg):=fun ps=>by show Option.map _ (afill _ _ _)=_;congr 2;funext i;rw [← List.getElem?_map];rfl
@[go_sem] theorem tt_602:(∀ (s:AS) (p:AV),aload (tt 168) s p=(s.row p).bind fun r=>apart false 1 r.2 r.1):=by intro s p;unfold aload;cases s.row p <;> rfl
@[go_sem] theorem tt_603:(∀ ev:Operand→AV,arows tt ev (.alloc 168)=some (1,[[.nilfn]],168)):=by intros;rfl
@[go_sem] theorem tt_605:(∀ (s:AS) (p v:AV),aput (tt 168) s p v=aputz 1 s p v):=fun s p v=>aput_z rfl rfl s p v
@[go_sem] theorem tt_609:(∀ (v:AV) (k:IntKind) (i:Int),aidx tt 169 v (.int k i)=if 0≤i∧i < 4 then amove (i.toNat * 1) v else none):=by intros;rfl
@[go_sem] theorem tt_610:(∀ (cs:List AV) (k:IntKind) (i:Int),aindex tt 169 (.agg cs) (.int k i)=if 0≤i∧i < 4 then apart false 1 (i.toNat * 1) cs else none):=by intros;rfl
@[go_sem] theorem tt_612:(elsize tt 169=1):=by intros;rfl
@[go_sem] theorem tt_613:(∀ (b:Bid) (m j:Nat),asl (tt 169) 1 none none (.aptr b m j)=if j+4≤m then some (.slc b 1 j 4) else none):=fun b m j=>asl_aptr rfl (by decide) b m j
@[go_sem] theorem tt_614:(∀ (cs:List AV) (j:Nat),asl (tt 169) 1 none none (.iptr cs j)=if j+4≤cs.length then some (.lstx 1 (((cs.drop j).take 4).map fun x=>[x])) else none):=fun cs j=>asl_iptr rfl cs j
@[go_sem] theorem tt_616:(∀ (s:AS) (p:AV),aload (tt 171) s p=(s.row p).bind fun r=>apart true 20 r.2 r.1):=by intro s p;unfold aload;cases s.row p <;> rfl
@[go_sem] theorem tt_617:(∀ ev:Operand→AV,arows tt ev (.alloc 171)=some (20,[[.int .i64 0,.int .i64 0,.int .i64 0,.int .i64 0,.int .i64 0,.int .i64 0,.int .i64 0,.int .i64 0,.int .i64 0,.int .i64 0,.int .i64 0,.int .i64 0,.int .i64 0,.int .i64 0,.int .i64 0,.int .i64 0,.int .i64 0,.int .i64 0,.int .i64 0,.int .i64 0]],171)):=by intros;rfl
@[go_sem] theorem tt_618:(∀ (ev:Operand→AV) (x:Operand),arows tt ev (.box 171 x)=if noL (ev x)=true∧(ev x).cells.length=20∧(ev x).cells.all AV.cell=true then some (20,[(ev x).cells],171) else none):=by intro ev x;simp [arows,tt,TI.knows]
@[go_sem] theorem tt_619:(∀ v:AV,afieldAddr (tt 171) 0 v=amove 0 v):=by intros;rfl
@[go_sem] theorem tt_621:(∀ v:AV,afieldAddr (tt 171) 1 v=amove 7 v):=by intros;rfl
@[go_sem] theorem tt_623:(∀ v:AV,afieldAddr (tt 171) 2 v=amove 8 v):=by intros;rfl
@[go_sem] theorem tt_625:(∀ v:AV,afieldAddr (tt 171) 3 v=amove 12 v):=by intros;rfl
@[go_sem] theorem tt_627:(∀ v:AV,afieldAddr (tt 171) 4 v=amove 19 v):=by intros;rfl
@[go_sem] theorem tt_629:(∀ ps:List (Nat × AV),abuild tt 171 ps=(afill (fun i=>([(0,7),(7,1),(8,4),(12,7),(19,1)]:List (Nat × Nat))[i]?) [.int .i64 0,.int .i64 0,.int .i64 0,.int .i64 0,.int .i64 0,.int .i64 0,.int .i64 0,.int .i64 0,.int .i64 0,.int .i64 0,.int .i64 0,.int .i64 0,.int .i64 0,.int .i64 0,.int .i64 0,.int .i64 0,.int .i64 0,.int .i64 0,.int .i64 0,.int .i64 0] ps).map .agg):=fun ps=>by show Option.map _ (afill _ _ _)=_;congr 2;funext i;rw [← List.getElem?_map];rfl
@[go_sem] theorem tt_630:(∀ (s:AS) (p v:AV),aput (tt 171) s p v=aputz 20 s p v):=fun s p v=>aput_z rfl rfl s p v
@[go_sem] theorem tt_631:(∀ (s:AS) (p:AV),aload (tt 178) s p=(s.row p).bind fun r=>apart false 1 r.2 r.1):=by intro s p;unfold aload;cases s.row p <;> rfl
@[go_sem] theorem tt_637:(∀ (ev:Operand→AV) (x:Operand),arows tt ev (.box 179 x)=if noL (ev x)=true∧(ev x).cells.length=3∧(ev x).cells.all AV.cell=true then some (3,[(ev x).cells],179) else none):=by intro ev x;simp [arows,tt,TI.knows]
@[go_sem] theorem tt_638:(∀ v:AV,afieldAddr (tt 179) 0 v=amove 0 v):=by intros;rfl
@[go_sem] theorem tt_640:(∀ v:AV,afieldAddr (tt 179) 1 v=amove 1 v):=by intros;rfl
@[go_sem] theorem tt_642:(∀ v:AV,afieldAddr (tt 179) 2 v=amove 2 v):=by intros;rfl
@[go_sem] theorem tt_649:(∀ (es:List (List AV)) (k:IntKind) (i:Int),aidx tt 180 (.lst 1 es) (.int k i)=if 0≤i∧i < es.length then some (.iptr (es.getD i.toNat []) 0) else none):=by intros;rfl
@[go_sem] theorem tt_650:(∀ (b:Bid) (o n:Nat) (k:IntKind) (i:Int),aidx tt 180 (.slc b 1 o n) (.int k i)=if 0≤i∧i < n then some (.ptr b (o+i.toNat) 0) else none):=by intros;rfl
@[go_sem] theorem tt_651:(∀ (b:Bid) (e o n:Nat),alen (tt 180) (.slc b e o n)=some (n:Int)):=by intros;rfl
@[go_sem] theorem tt_652:(∀ (e:Nat) (es:List (List AV)),alen (tt 180) (.lst e es)=some (es.length:Int)):=by intros;rfl
@[go_sem] theorem tt_653:(alen (tt 180) .nils=some 0):=by intros;rfl
@[go_sem] theorem tt_660:(elsize tt 180=1):=by intros;rfl
@[go_sem] theorem tt_661:(∀ (ev:Operand→AV) (n:Nat) (ps:List (Nat × Operand)),absl tt ev 180 n ps=if n≤16777216∧n * 1≤16777216∧ps.map (·.1)=List.range n∧(ps.all fun p=>noL (ev p.2) && ((ev p.2).cells.length == 1) && (ev p.2).cells.all AV.cell)=true then some (1,ps.map fun p=>(ev p.2).cells) else none):=by intros;rfl
@[go_sem] theorem tt_672:(∀ (s:AS) (p:AV),aload (tt 188) s p=(s.row p).bind fun r=>apart true 2 r.2 r.1):=by intro s p;unfold aload;cases s.row p <;> rfl
@[go_sem] theorem tt_673:(∀ ev:Operand→AV,arows tt ev (.alloc 188)=some (2,[[.int .i64 0,.int .i64 0]],188)):=by intros;rfl
@[go_sem] theorem tt_675:(∀ (v:AV) (k:IntKind) (i:Int),aidx tt 188 v (.int k i)=if 0≤i∧i < 2 then amove (i.toNat * 1) v else none):=by intros;rfl
@[go_sem] theorem tt_676:(∀ (cs:List AV) (k:IntKind) (i:Int),aindex tt 188 (.agg cs) (.int k i)=if 0≤i∧i < 2 then apart false 1 (i.toNat * 1) cs else none):=by intros;rfl
@[go_sem] theorem tt_677:(∀ ps:List (Nat × AV),abuild tt 188 ps=(afill (fun i=>some (i * 1,1)) [.int .i64 0,.int .i64 0] ps).map .agg):=by intros;rfl
@[go_sem] theorem tt_678:(elsize tt 188=1):=by intros;rfl
@[go_sem] theorem tt_681:(∀ (s:AS) (p v:AV),aput (tt 188) s p v=aputz 2 s p v):=fun s p v=>aput_z rfl rfl s p v
@[go_sem] theorem tt_682:(∀ (s:AS) (p:AV),aload (tt 191) s p=(s.row p).bind fun r=>apart false 1 r.2 r.1):=by intro s p;unfold aload;cases s.row p <;> rfl
@[go_sem] theorem tt_683:(∀ ev:Operand→AV,arows tt ev (.alloc 191)=some (1,[[.nilfn]],191)):=by intros;rfl
@[go_sem] theorem tt_685:(∀ (s:AS) (p v:AV),aput (tt 191) s p v=aputz 1 s p v):=fun s p v=>aput_z rfl rfl s p v
@[go_sem] theorem tt_706:(∀ (k:IntKind) (n:Int),aconv (tt 230) (tt 5) (.int k n)=some (.int .u8 (wr .u8 n))):=by intros;rfl
@[go_sem] theorem tt_710:(∀ (ev:Operand→AV) (x:Operand),arows tt ev (.box 237 x)=if noL (ev x)=true∧(ev x).cells.length=3∧(ev x).cells.all AV.cell=true then some (3,[(ev x).cells],237) else none):=by intro ev x;simp [arows,tt,TI.knows]
@[go_sem] theorem tt_717:(∀ ps:List (Nat × AV),abuild tt 237 ps=(afill (fun i=>([(0,1),(1,1),(2,1)]:List (Nat × Nat))[i]?) [.str [],.str [],.nilif] ps).map .agg):=fun ps=>by show Option.map _ (afill _ _ _)=_;congr 2;funext i;rw [← List.getElem?_map];rfl
@[go_sem] theorem tt_719:(∀ (s:AS) (p:AV),aload (tt 244) s p=(s.row p).bind fun r=>apart true 2 r.2 r.1):=by intro s p;unfold aload;cases s.row p <;> rfl
@[go_sem] theorem tt_720:(∀ ev:Operand→AV,arows tt ev (.alloc 244)=some (2,[[.int .u8 0,.int .u8 0]],244)):=by intros;rfl
@[go_sem] theorem tt_722:(∀ v:AV,afieldAddr (tt 244) 0 v=amove 0 v):=by intros;rfl
@[go_sem] theorem tt_724:(∀ v:AV,afieldAddr (tt 244) 1 v=amove 1 v):=by intros;rfl
@[go_sem] theorem tt_727:(∀ (s:AS) (p v:AV),aput (tt 244) s p v=aputz 2 s p v):=fun s p v=>aput_z rfl rfl s p v
@[go_sem] theorem tt_734:(∀ (ev:Operand→AV) (x:Operand),arows tt ev (.box 252 x)=if noL (ev x)=true∧(ev x).cells.length=1∧(ev x).cells.all AV.cell=true then some (1,[(ev x).cells],252) else none):=by intro ev x;simp [arows,tt,TI.knows]
@[go_sem] theorem tt_737:(∀ ps:List (Nat × AV),abuild tt 252 ps=(afill (fun i=>([(0,1)]:List (Nat × Nat))[i]?) [.str []] ps).map .agg):=fun ps=>by show Option.map _ (afill _ _ _)=_;congr 2;funext i;rw [← List.getElem?_map];rfl
end Go.Proofs.YtaijkalhkgjakaaGreatDoor
