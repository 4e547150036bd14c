/- Contracts of functions that the claim reaches: what each call gives, told in our own logic. Conditions: those of each theorem. -/
import Derived.Test.YtoafigpikgigaaaGreatDoorY5
import Derived.Test.YtoafigpikgigaaaGreatDoorQ30
import Derived.Test.YtoafigpikgigaaaGreatDoorQ63
import Derived.Test.YtoafigpikgigaaaGreatDoorQ60
import Derived.Test.YtoafigpikgigaaaGreatDoorQ31
import Derived.Test.YtoafigpikgigaaaGreatDoorQ2
import Derived.Test.YtoafigpikgigaaaGreatDoorRows
import Derived.LaidLaws
import Derived.LaidHandle
import Derived.FnData
import Derived.Lib.LaidTab
import Derived.Shelf.Vars
import Derived.Handed
import Derived.HandedShaped
set_option linter.all false
set_option linter.unusedSimpArgs false
set_option linter.unusedVariables false
namespace Go.Proofs.YtoafigpikgigaaaGreatDoor
open Go.Av Go.Txt Go.Lib
attribute [local irreducible] thenA blockA awp awpOps awpD awp1
attribute [local go_sem_proc] Nat.reduceAdd Nat.reduceMul Nat.reduceEqDiff Nat.reduceBEq Nat.reduceLeDiff
attribute [local go_sem_proc ↓] reduceIte
attribute [local go_sem] if_yes if_no
set_option maxHeartbeats 8000000
set_option maxRecDepth 20000
theorem TwOk.lens {t:Tw} (hT:TwOk t):t.lens:=⟨by have:=hT.rn;omega,by have:=hT.sn;omega,by have:=hT.gn;omega,fun i hi=>by have:=(hT.g i hi).many;omega⟩
theorem law4 (l:List Int) (text:List UInt8) (hl:(l.length:Int)≤9223372036854775807):LawG gT Tryz.prog 4 [.lst 1 (l.map iv),.str text]:=by
 intro h hgl
 have k6:PureG gT Tryz.prog 6 [] (fun v=>v=.bool true):=c6.g
 by_cases h8:(1500:Int) < text.length
 ·refine ACalls.of tab mixed Tryz.call4 Tryz.func4 rfl (fi:=⟨74,[5,8,11],[],none,[]⟩) rfl rfl (Nat.le_of_ble_eq_true rfl) (by decide) ?_
  unfold startA
  try simp only[go_sem]
  repeat' (first|refine st_seq_reg rfl (by first|(simp only[go_sem];rfl)|rfl) (by first|(simp only[go_sem];rfl)|rfl) ?_|refine st_reg rfl (by first|(simp only[go_sem];rfl)|rfl) (by first|(simp only[go_sem];rfl)|rfl) ?_|refine st_op ?_|refine st_det rfl (by simp (disch:=omega) only[go_sem,wr_i64];rfl) ?_|refine st_loc rfl (by simp (disch:=omega) only[go_sem,wr_i64];rfl) ?_|refine st_heap rfl (by simp (disch:=omega) only[go_sem,wr_i64];rfl) ?_|refine st_store (by simp (disch:=omega) only[go_sem,wr_i64];rfl) ?_|(refine st_pureGE (by first|(simp (disch:=omega) only[go_sem];rfl)|rfl) rfl (k6) (by exact hgl) (by first|(simp only[go_sem];rfl)|rfl) (by intro n;first|(simp (disch:=omega) only[go_sem];rfl)|rfl) ?_;intro n hn)|refine st_gT rfl rfl rfl ?_|refine st_gF rfl rfl rfl ?_|(refine st_gS rfl rfl ?_ ?_ <;> intro hg <;> (try simp only[dcT,dcF,bnT,bnF] at hg))|refine st_condT rfl ?_|refine st_condF rfl ?_|(refine st_condS rfl ?_ ?_ <;> intro hg <;> (try simp only[dcT,dcF,bnT,bnF] at hg))|refine st_nil ?_|refine st_tN ?_|refine st_seq ?_|refine st_skip ?_|refine st_ret ?_|refine st_tE ?_|refine st_tR ?_)
  all_goals try (exfalso;omega)
  simp (disch:=omega) only[AEnd,Tryz.results4,aresK,fin,go_sem,implies_true,true_and,and_true,List.reverse_cons,List.reverse_nil]
 refine ACalls.of tab mixed Tryz.call4 Tryz.func4 rfl (fi:=⟨74,[5,8,11],[],none,[]⟩) rfl rfl (Nat.le_of_ble_eq_true rfl) (by decide) ?_
 unfold startA
 try simp only[go_sem]
 repeat' (first|refine st_seq_reg rfl (by first|(simp only[go_sem];rfl)|rfl) (by first|(simp only[go_sem];rfl)|rfl) ?_|refine st_reg rfl (by first|(simp only[go_sem];rfl)|rfl) (by first|(simp only[go_sem];rfl)|rfl) ?_|refine st_op ?_|refine st_det rfl (by simp (disch:=omega) only[go_sem,wr_i64];rfl) ?_|refine st_loc rfl (by simp (disch:=omega) only[go_sem,wr_i64];rfl) ?_|refine st_heap rfl (by simp (disch:=omega) only[go_sem,wr_i64];rfl) ?_|refine st_store (by simp (disch:=omega) only[go_sem,wr_i64];rfl) ?_|(refine st_callf rfl rfl (ACalls.keepGl (c8 l hl _)) ?_;rintro v h' ⟨hgl1,b,x,n,rfl,hb1,hb2,hu0,rfl⟩)|(refine st_drum (by first|(simp (disch:=omega) only[go_sem];rfl)|rfl) rfl (c7 b 12 12 8 (by decide) (by decide) (by decide)) (by first|(simp (disch:=omega) only[go_sem];rfl)|rfl|exact put_same _ _ _) (by assumption) (by first|(simp only[go_sem];rfl)|rfl) (by intro x' n;first|(simp (disch:=omega) only[go_sem];rfl)|rfl) ?_;rintro v x' n hu' ⟨f,rfl,hG⟩ hn)|refine st_gT rfl rfl rfl ?_|refine st_gF rfl rfl rfl ?_|(refine st_gS rfl rfl ?_ ?_ <;> intro hg <;> (try simp only[dcT,dcF,bnT,bnF] at hg))|refine st_condT rfl ?_|refine st_condF rfl ?_|(refine st_condS rfl ?_ ?_ <;> intro hg <;> (try simp only[dcT,dcF,bnT,bnF] at hg))|refine st_nil ?_|refine st_tN ?_|refine st_seq ?_|refine st_skip ?_|refine st_ret ?_|refine st_tE ?_|refine st_tR ?_)
 all_goals try (exfalso;omega)
 have hO:=hG.ok (by decide) (by decide) (by decide)
 have hE:=chkE_ok hO
 have hgl2:h.gl=gT:=hgl
 have k9:=c9 f
 rw [wrV,if_pos hE] at k9
 have hbl:=card_len hO
 have k12:=c12 (cardT f) (by omega)
 rw [rd_wr hE hO] at k12
 have k14:=c14 f hO.lens
 have k12t:=c12 text (by omega)
 rcases rd_inv text with ⟨k,e,hr,he⟩|⟨t,hr,hTE,hTt⟩
 ·rw [hr] at k12t
  unfold badV at k12t
  repeat' (first|refine st_seq_reg rfl (by first|(simp only[go_sem];rfl)|rfl) (by first|(simp only[go_sem];rfl)|rfl) ?_|refine st_reg rfl (by first|(simp only[go_sem];rfl)|rfl) (by first|(simp only[go_sem];rfl)|rfl) ?_|refine st_op ?_|refine st_det rfl (by simp (disch:=omega) only[go_sem,wr_i64];rfl) ?_|refine st_loc rfl (by simp (disch:=omega) only[go_sem,wr_i64];rfl) ?_|refine st_heap rfl (by simp (disch:=omega) only[go_sem,wr_i64];rfl) ?_|refine st_store (by simp (disch:=omega) only[go_sem,wr_i64];rfl) ?_|(refine st_pureGE (by first|(simp (disch:=omega) only[go_sem];rfl)|rfl) rfl (k9) (by exact hgl) (by first|(simp only[go_sem];rfl)|rfl) (by intro n;first|(simp (disch:=omega) only[go_sem];rfl)|rfl) ?_;intro n hn)|(refine st_pureGE (by first|(simp (disch:=omega) only[go_sem];rfl)|rfl) rfl (k12) (by exact hgl) (by first|(simp only[go_sem];rfl)|rfl) (by intro n;first|(simp (disch:=omega) only[go_sem];rfl)|rfl) ?_;intro n hn)|(refine st_pureE (by first|(simp (disch:=omega) only[go_sem];rfl)|rfl) rfl (k14) (by first|(simp only[go_sem];rfl)|rfl) (by intro n;first|(simp (disch:=omega) only[go_sem];rfl)|rfl) ?_;intro n hn)|(refine st_pureGE (by first|(simp (disch:=omega) only[go_sem];rfl)|rfl) rfl (k12t) (by exact hgl) (by first|(simp only[go_sem];rfl)|rfl) (by intro n;first|(simp (disch:=omega) only[go_sem];rfl)|rfl) ?_;intro n hn)|(refine st_pureGE (by first|(simp (disch:=omega) only[go_sem];rfl)|rfl) rfl (k6) (by exact hgl) (by first|(simp only[go_sem];rfl)|rfl) (by intro n;first|(simp (disch:=omega) only[go_sem];rfl)|rfl) ?_;intro n hn)|refine st_gT rfl rfl rfl ?_|refine st_gF rfl rfl rfl ?_|(refine st_gS rfl rfl ?_ ?_ <;> intro hg <;> (try simp only[dcT,dcF,bnT,bnF] at hg))|refine st_condT rfl ?_|refine st_condF rfl ?_|(refine st_condS rfl ?_ ?_ <;> intro hg <;> (try simp only[dcT,dcF,bnT,bnF] at hg))|refine st_nil ?_|refine st_tN ?_|refine st_seq ?_|refine st_skip ?_|refine st_ret ?_|refine st_tE ?_|refine st_tR ?_)
  all_goals try (exfalso;omega)
  simp (disch:=omega) only[AEnd,Tryz.results4,aresK,fin,go_sem,implies_true,true_and,and_true,List.reverse_cons,List.reverse_nil]
 ·rw [hr] at k12t
  have k9t:=c9 t
  rw [wrV,if_pos hTE,hTt] at k9t
  repeat' (first|refine st_seq_reg rfl (by first|(simp only[go_sem];rfl)|rfl) (by first|(simp only[go_sem];rfl)|rfl) ?_|refine st_reg rfl (by first|(simp only[go_sem];rfl)|rfl) (by first|(simp only[go_sem];rfl)|rfl) ?_|refine st_op ?_|refine st_det rfl (by simp (disch:=omega) only[go_sem,wr_i64];rfl) ?_|refine st_loc rfl (by simp (disch:=omega) only[go_sem,wr_i64];rfl) ?_|refine st_heap rfl (by simp (disch:=omega) only[go_sem,wr_i64];rfl) ?_|refine st_store (by simp (disch:=omega) only[go_sem,wr_i64];rfl) ?_|(refine st_pureGE (by first|(simp (disch:=omega) only[go_sem];rfl)|rfl) rfl (k9) (by exact hgl) (by first|(simp only[go_sem];rfl)|rfl) (by intro n;first|(simp (disch:=omega) only[go_sem];rfl)|rfl) ?_;intro n hn)|(refine st_pureGE (by first|(simp (disch:=omega) only[go_sem];rfl)|rfl) rfl (k12) (by exact hgl) (by first|(simp only[go_sem];rfl)|rfl) (by intro n;first|(simp (disch:=omega) only[go_sem];rfl)|rfl) ?_;intro n hn)|(refine st_pureE (by first|(simp (disch:=omega) only[go_sem];rfl)|rfl) rfl (k14) (by first|(simp only[go_sem];rfl)|rfl) (by intro n;first|(simp (disch:=omega) only[go_sem];rfl)|rfl) ?_;intro n hn)|(refine st_pureGE (by first|(simp (disch:=omega) only[go_sem];rfl)|rfl) rfl (k12t) (by exact hgl) (by first|(simp only[go_sem];rfl)|rfl) (by intro n;first|(simp (disch:=omega) only[go_sem];rfl)|rfl) ?_;intro n hn)|(refine st_pureGE (by first|(simp (disch:=omega) only[go_sem];rfl)|rfl) rfl (k9t) (by exact hgl) (by first|(simp only[go_sem];rfl)|rfl) (by intro n;first|(simp (disch:=omega) only[go_sem];rfl)|rfl) ?_;intro n hn)|(refine st_pureGE (by first|(simp (disch:=omega) only[go_sem];rfl)|rfl) rfl (k6) (by exact hgl) (by first|(simp only[go_sem];rfl)|rfl) (by intro n;first|(simp (disch:=omega) only[go_sem];rfl)|rfl) ?_;intro n hn)|refine st_gT rfl rfl rfl ?_|refine st_gF rfl rfl rfl ?_|(refine st_gS rfl rfl ?_ ?_ <;> intro hg <;> (try simp only[dcT,dcF,bnT,bnF] at hg))|refine st_condT rfl ?_|refine st_condF rfl ?_|(refine st_condS rfl ?_ ?_ <;> intro hg <;> (try simp only[dcT,dcF,bnT,bnF] at hg))|refine st_nil ?_|refine st_tN ?_|refine st_seq ?_|refine st_skip ?_|refine st_ret ?_|refine st_tE ?_|refine st_tR ?_)
  all_goals try (exfalso;omega)
  simp (disch:=omega) only[AEnd,Tryz.results4,aresK,fin,go_sem,implies_true,true_and,and_true,List.reverse_cons,List.reverse_nil]
end Go.Proofs.YtoafigpikgigaaaGreatDoor

namespace Go.Proofs.YtoafigpikgigaaaGreatDoor
open Go.Av Go.ChangeShapes Go.WideShapes Go.ChangeAt Go.RowKit
abbrev laidL : List (String × DataW Unit) := [("math/bits.deBruijn32tab", Rows.laid_math_bits_deBruijn32tab), ("math/bits.deBruijn64tab", Rows.laid_math_bits_deBruijn64tab), ("internal/strconv.uint64pow10", Rows.laid_internal_strconv_uint64pow10), ("unicode/utf8.acceptRanges", Rows.laid_unicode_utf8_acceptRanges), ("strconv.ErrRange", Rows.laid_strconv_ErrRange), ("strconv.ErrSyntax", Rows.laid_strconv_ErrSyntax), ("unicode/utf8.first", Rows.laid_unicode_utf8_first)]
theorem g1 : Tryz.prog.globalNamed "internal/strconv.uint64pow10" = some 0 := by kernel_rfl
theorem g3 : Tryz.prog.globalNamed "strconv.ErrSyntax" = some 2 := by kernel_rfl
theorem g4 : Tryz.prog.globalNamed "strconv.ErrRange" = some 3 := by kernel_rfl
theorem t1:(Tryz.prog.globals[0]?).map (·.type)=some 157:=by kernel_rfl
theorem t3:(Tryz.prog.globals[2]?).map (·.type)=some 77:=by kernel_rfl
theorem t4:(Tryz.prog.globals[3]?).map (·.type)=some 77:=by kernel_rfl
theorem uP10:Tryz.prog.underlying 157=some (.array 20 68):=by kernel_rfl
theorem uErr : Tryz.prog.underlying 77 = some (.interface #[("Error", 83)]) := by kernel_rfl
theorem uI:Tryz.prog.underlying 3=some (.int .i64):=by kernel_rfl
theorem uU:Tryz.prog.underlying 68=some (.int .u64):=by kernel_rfl
theorem gl_of {W:World} {n:String} {g:Nat} {cs:Array Value} {avs:List AV} (hg:Tryz.prog.globalNamed n=some g) (hv:W.var? Tryz.prog n=some cs) (h1:VRs (c00 W) avs cs.toList) (h2:avs.all AV.cell=true) :
  (c00 W).im g∧avs.all AV.cell=true∧∃ xs,(c00 W).w.rangeAt g 0 xs∧VRs (c00 W) avs xs∧∃ ty fz,(c00 W).w.heap[g]?=some (.cells xs.toArray ty fz):=by
 have hb:∃ ty fz,W.heap[g]?=some (.cells cs ty fz):=by
  unfold World.var? at hv
  rw [hg] at hv
  simp only[Option.bind_some] at hv
  split at hv
  ·rename_i c a b e
   injection hv with hv
   subst hv
   exact ⟨a,b,e⟩
  ·cases hv
 obtain ⟨ty,fz,hb⟩:=hb
 have hlt:g < W.heap.size:=by
  rcases Nat.lt_or_ge g W.heap.size with h|h
  ·exact h
  ·rw [Array.getElem?_eq_none h] at hb;cases hb
 refine ⟨hlt,h2,cs.toList,fun j v hj=>?_,h1,ty,fz,by rw [show cs.toList.toArray=cs by simp];exact hb⟩
 rw [Nat.zero_add]
 show W.cell? ⟨g,j,none⟩=some v
 rw [World.var?_cell hg hv j,← Array.getElem?_toList];exact hj
theorem vrs_ints {c:Cx} {k:IntKind}:∀ (l:List Int),VRs c (l.map fun z=>AV.int k z) (l.map fun z=>Value.int k z)
 | []=>by simp [VRs]
 | x :: l=>by simp only[List.map_cons,VRs];exact ⟨_,_,rfl,by simp [VR],vrs_ints l⟩
theorem ifc_of {W:World} {fuel:Nat} {cs:List Value} {nm:String} {d:DataW Unit} {p:List MemPlace} (h:DataW.trod (fun _=>()) Tryz.prog W 0 (fun _=>true) false fuel 77 cs=some (.iface nm d,p)):VRs (c00 W) [.ifc] cs:=by
 obtain ⟨_,u,v,e,_⟩:=iface_of_trod uErr h
 rw [e]
 simp only[VRs,VR]
 exact ⟨_,_,rfl,⟨_,_,rfl⟩,rfl⟩
def maxI (W:World):Prop:=∃ m ty fz,W.heap[1]?=some (.cells #[.int .i64 m] ty fz)
theorem glB {W:World} (h:laidMetH Tryz.prog laidL W) (hm:maxI W):GL (c00 W) gT:=by
 have h':laidMet Tryz.prog laidL W:=h
 obtain ⟨ps,hL,_⟩:=h'
 obtain ⟨_,_,_,_,_,_,_,_,_,_,hL,_⟩:=hL
 obtain ⟨_,_,_,_,_,_,_,_,_,_,hL,_⟩:=hL
 obtain ⟨ga,ta,ca,fa,pa,qa,a1,a2,a3,a4,hL,_⟩:=hL
 obtain ⟨_,_,_,_,_,_,_,_,_,_,hL,_⟩:=hL
 obtain ⟨gb,tb,cb,fb,pb,qb,b1,b2,b3,b4,hL,_⟩:=hL
 obtain ⟨gc,tc,cc,fc,pc,qc,c1,c2,c3,c4,hL,_⟩:=hL
 obtain rfl:=Option.some.inj (g1.symm.trans a1)
 obtain rfl:=Option.some.inj (g4.symm.trans b1)
 obtain rfl:=Option.some.inj (g3.symm.trans c1)
 obtain rfl:=Option.some.inj (t1.symm.trans a2)
 obtain rfl:=Option.some.inj (t4.symm.trans b2)
 obtain rfl:=Option.some.inj (t3.symm.trans c2)
 have a5:=Lib.cells_of_tab (k:=.u64) (zs:=[1,10,100,1000,10000,100000,1000000,10000000,100000000,1000000000,10000000000,100000000000,1000000000000,10000000000000,100000000000000,1000000000000000,10000000000000000,100000000000000000,1000000000000000000,10000000000000000000]) uP10 uU (by kernel_rfl) (by kernel_rfl) a4
 have b5:=ifc_of b4
 have c5:=ifc_of c4
 intro i row hi
 unfold gT at hi
 split at hi
 ·rename_i e;subst e;cases hi
  exact gl_of g1 a3 (by rw [a5];exact vrs_ints _) rfl
 split at hi
 ·rename_i e;subst e;cases hi
  obtain ⟨m,ty,fz,hb⟩:=hm
  have hv : W.var? Tryz.prog "internal/bytealg.MaxLen" = some #[.int .i64 m] := by
   unfold World.var?
   rw [show Tryz.prog.globalNamed "internal/bytealg.MaxLen" = some 1 by kernel_rfl]
   simp only[Option.bind_some,hb]
  exact gl_of (by kernel_rfl) hv (by simp only[VRs,VR];exact ⟨_,_,rfl,⟨_,rfl⟩,rfl⟩) rfl
 split at hi
 ·rename_i e;subst e;cases hi
  exact gl_of g3 c3 c5 rfl
 split at hi
 ·rename_i e;subst e;cases hi
  exact gl_of g4 b3 b5 rfl
 ·cases hi
theorem max_of_shape {W:World} (h:W.ShapedOpen Tryz.prog):maxI W:=by
 have h0:((begin Tryz.prog (fun _ _=>0) default).world.heap[1]?).bind Obj.row?=some (#[.int .i64 0],3):=by kernel_rfl
 obtain ⟨m,hm⟩:=cell_of_shapedOpen_int (k:=.i64) h (of_decide_eq_true (show decide (1 < Tryz.prog.globals.size)=true by kernel_rfl)) h0 rfl (by kernel_rfl) (by kernel_rfl) uI
 obtain ⟨cs,hh,hs,_⟩:=h.1 1 _ _ (of_decide_eq_true (show decide (1 < Tryz.prog.globals.size)=true by kernel_rfl)) h0
 obtain ⟨l⟩:=cs
 match l,hs with
 | [x],_ =>
  have:W.cell? ⟨1,0,none⟩=some x:=by simp [World.cell?,hh]
  rw [this] at hm
  injection hm with hm
  subst hm
  exact ⟨m,_,_,hh⟩
theorem change_and_shaped {H:Type} {enc:TypeId × Value→H} {a:Assume} {C:Checked} {os:Os} {f:FuncId} {fn:Func} {s:ChangeSpec} {conds:List PathCond} {apart fresh handsOn again:Bool} {X:World→Array Value→Prop}
  (hX:∀ (w w':World) (args:Array Value),w.heap=w'.heap→X w args→X w' args)
  (own:ownKnob C.prog.godebug=none) (started:os.Started) (noInit:C.prog.inits.idxOf? f=none) (hfn:C.prog.funcs[f]?=some fn)
  (witness:∃ (w:World) (tape:Tape) (i:Input),w.os=os∧(w.forCall tape i).Shaped C.prog∧i.vars=[]∧Input.okWide C.prog (w.forCall tape i) .any w.heap.size f i ∧
   ((s.pre enc C.prog fn conds apart (w.forCall tape i).memory i.args∧X (w.forCall tape i).memory i.args)∧sizedMet enc C.prog fn (OpenSpec.ofChange s) apart (w.forCall tape i).memory i.args)∧a.holds C.prog (lone (Frame.enter C.prog f i.args .normal) [] (w.forCall tape i)))
  (contract:∀ (W:World) (base:Nat) (args:Array Value) (ds gs:List (DataW H)) (before:List MemPlace),
   (∀ (j:Nat) t v,fn.params[j]?=some t→args[j]?=some v→Value.okWide C.prog W .any base t v) →
   DataW.Whole enc C.prog fn.params.toList s.vars apart W args.toList ds gs before→X W args→W.ShapedOpen C.prog →
   Calls C.prog f args W fun e W'=>∃ v,e=.returned v∧s.post enc C.prog fn apart fresh handsOn again W args v W') :
  ReturnsInHanded a C os f .any (fun w args=>(s.pre enc C.prog fn conds apart w args∧X w args)∧sizedMet enc C.prog fn (OpenSpec.ofChange s) apart w args) (s.post enc C.prog fn apart fresh handsOn again):=by
 refine returnsInHanded_of_calls own started noInit witness ?_
 intro w tape i _ hsh _ hok hpre hholds
 obtain ⟨_,_,_,fn',hfn',_,_,_,_,hval⟩:=hok
 have e:fn'=fn:=Option.some.inj (hfn'.symm.trans hfn)
 subst e
 obtain ⟨⟨⟨ds,gs,before,hw,hc⟩,hx⟩,hz⟩:=hpre
 have hw':=DataW.Whole.of_heap (w':=w.forCall tape i) (by rfl) hw
 refine (contract (w.forCall tape i) w.heap.size i.args ds gs before hval hw' (hX _ _ _ (by rfl) hx) hsh).mono fun e W' ⟨v,he,hp⟩=>?_
 subst he
 exact ChangeSpec.post_blind hp
abbrev synS:ByteArray:={ data:=#[105,110,118,97,108,105,100,32,115,121,110,116,97,120] }
abbrev rngS:ByteArray:={ data:=#[118,97,108,117,101,32,111,117,116,32,111,102,32,114,97,110,103,101] }
def fl1:DataW Unit→List Value
 | .lit (.int k n)=>[.int k n]
 | _=>[]
def fl2:DataW Unit→List Value
 | .agg ps=>ps.flatMap fl1
 | d=>fl1 d
def fl3:DataW Unit→List Value
 | .agg ps=>ps.flatMap fl2
 | d=>fl1 d
def setCs (cs:List Value):Obj→Obj
 | .cells _ t frozen=>.cells cs.toArray t frozen
 | o=>o
noncomputable def low:Nat:=(World.holding Tryz.prog default ⟨#[],#[],[]⟩).heap.size
noncomputable def laidWorld (os:Os):World :=
 let w0:=World.holding Tryz.prog os ⟨#[.cells #[.string synS] 178,.cells #[.string rngS] 178],#[],[]⟩
 { w0 with heap:=((((((w0.heap.modify 0 (setCs (fl3 Rows.laid_internal_strconv_uint64pow10))).modify 2 (setCs [.iface 176 (.pointer (some ⟨low,0,none⟩))])).modify 3 (setCs [.iface 176 (.pointer (some ⟨low+1,0,none⟩))])).modify 4 (setCs (fl3 Rows.laid_unicode_utf8_first))).modify 5 (setCs (fl3 Rows.laid_unicode_utf8_acceptRanges))).modify 6 (setCs (fl3 Rows.laid_math_bits_deBruijn32tab))).modify 7 (setCs (fl3 Rows.laid_math_bits_deBruijn64tab)) }
theorem laidWorld_met (os:Os) (args:Array Value):laidMetH Tryz.prog laidL ((laidWorld os).forCall (fun _ _=>0) ⟨#[],args,[]⟩).memory :=
 show laidMet _ _ _ from laidMet_of_run' 8 (by kernel_rfl) (by kernel_rfl)
end Go.Proofs.YtoafigpikgigaaaGreatDoor

