/- Contracts of functions that the claim reaches: what each call gives, told in our own logic. Conditions: those of each theorem. -/
import Derived.Test.YtaijkalhkgjakaaGreatDoorG18
import Derived.Test.YtaijkalhkgjakaaGreatDoorBaseD
open Nat (reduceAdd reduceMul reduceEqDiff reduceLeDiff)
open List (length_map)
set_option linter.all false
set_option linter.unusedSimpArgs false
set_option linter.unusedVariables false
namespace Go.Proofs.YtaijkalhkgjakaaGreatDoor
open Go.Av
attribute [local irreducible] thenA blockA awp awpOps awpD awp1
set_option maxHeartbeats 8000000
set_option maxRecDepth 20000
def Fl.row (f:Fl):List AV:=[.int .i64 f.len,.int .i64 f.wid,.int .i64 f.front,.int .i64 f.rear,.int .i64 f.turn,.int .i64 f.kilos,.int .i64 f.mid,.int .i64 f.high,.lst 7 (f.loads.map Ld.row)]
@[go_sem] theorem Fl.row_eq (f:Fl):f.row=[.int .i64 f.len,.int .i64 f.wid,.int .i64 f.front,.int .i64 f.rear,.int .i64 f.turn,.int .i64 f.kilos,.int .i64 f.mid,.int .i64 f.high,.lst 7 (f.loads.map Ld.row)]:=rfl
def fl (l:List Fl) (i:Nat):Fl:=l.getD i ⟨0,0,0,0,0,0,0,0,[]⟩
@[go_sem] theorem fl_getD {l:List Fl} {i:Nat} (h:i < l.length):(l.map Fl.row).getD i []=(fl l i).row:=by
  simp [List.getD_eq_getElem?_getD,h,fl]
def dsR (L:List Ld):List AV:=[.lst 7 (L.map Ld.row)]
@[go_sem] theorem ds_getD {l:List (List Ld)} {i:Nat} (h:i < l.length):(l.map dsR).getD i []=[.lst 7 ((l.getD i []).map Ld.row)]:=by
  simp [List.getD_eq_getElem?_getD,h,dsR]
def bv (b:Bool):List AV:=[.bool b]
def fitsD (r:List Hu) (fs:List Fl) (ds:List (List Ld)):List (List Bool):=fs.map fun f=>ds.map fun L=>fitB r f L
def bvs (l:List Bool):List AV:=[.lst 1 (l.map bv)]
theorem take_snoc {α:Type} {l:List α} {i:Nat} {d:α} (h:i < l.length):l.take (i+1)=l.take i ++ [l.getD i d]:=by
  rw [List.take_add_one,List.getElem?_eq_getElem h,List.getD_eq_getElem?_getD,List.getElem?_eq_getElem h];rfl
theorem c53 (r:List Hu) (fs:List Fl) (ds:List (List Ld)) (hf:fs.length≤6) (hd:ds.length≤6) :
    Pure Tryz.prog 53 [.lst 9 (fs.map Fl.row),.lst 1 (ds.map dsR),.fn (.func 54) [] [.iptr [.lst 3 (r.map Hu.row)] 0]] (fun v=>v=.lst 1 ((fitsD r fs ds).map bvs)):=by
  refine Pure.give Tryz.call53 fun h hold=>?_
  refine ACalls.ofS tab Tryz.call53 Tryz.func53 rfl (fi:=⟨39,[9],[30,35,1000011],none,[]⟩) rfl rfl (Nat.le_of_ble_eq_true rfl) ?_
  unfold startA
  try simp only[go_sem]
  refine asem_seq (fi:=⟨39,[9],[30,35,1000011],none,[]⟩) tab mixed (by decide) ?_
  repeat' (first|refine st_reg rfl (by first|(simp only[go_sem];rfl)|rfl) (by first|(simp only[go_sem];rfl)|rfl) ?_|refine st_op ?_|refine st_det rfl (by simp (disch:=omega) only[go_sem,wr_i64,if_yes,if_no,↓reduceIte,reduceAdd,reduceMul,reduceEqDiff,Nat.reduceBEq,reduceLeDiff];rfl) ?_|refine st_nil ?_|refine st_tN ?_)
  refine asem_seq (fi:=⟨39,[9],[30,35,1000011],none,[]⟩) tab mixed (by decide) ?_
  repeat' (first|refine st_reg rfl (by first|(simp only[go_sem];rfl)|rfl) (by first|(simp only[go_sem];rfl)|rfl) ?_|refine st_op ?_|refine st_det rfl (by simp (disch:=omega) only[go_sem,wr_i64,if_yes,if_no,↓reduceIte,reduceAdd,reduceMul,reduceEqDiff,Nat.reduceBEq,reduceLeDiff];rfl) ?_|refine st_nil ?_|refine st_tN ?_)
  refine asem_awp (fi:=⟨39,[9],[30,35,1000011],none,[]⟩) tab mixed (by decide) ?_
  repeat' (first|refine st_seq_reg rfl (by first|(simp only[go_sem,length_map];rfl)|rfl) (by first|(simp only[go_sem,length_map];rfl)|rfl) ?_|refine st_op ?_|refine st_det rfl (by simp (disch:=omega) only[go_sem,wr_i64,if_yes,if_no,↓reduceIte,reduceAdd,reduceMul,reduceEqDiff,Nat.reduceBEq,reduceLeDiff,length_map];rfl) ?_|refine st_nil ?_|refine st_seq ?_|refine st_block ?_)
  refine st_loopH (α:=Nat × AH × AV) tab mixed [] [] (by repeat (first|exact trivial|refine ⟨rfl,?_⟩)) [] [] (by repeat (first|exact trivial|refine ⟨rfl,?_⟩)) (fun a=>[(15,.int .i64 (a.1:Nat)),(7,a.2.2)]) [(0,_),(1,_),(2,_),(6,_),(13,_),(14,_)] (fun _=>[]) [] (fun a=>a.2.1) (fun a=>a.1≤fs.length∧SlA h.clk a.2.1 a.2.2 1 (((fitsD r fs ds).take a.1).map bvs)∧(∀ b:Bid,b.1 < h.clk→a.2.1.at_ b=h.at_ b)∧a.2.1.lp=h.lp∧h.clk≤a.2.1.clk) (fun a=>fs.length - a.1) (by decide) (0,h,.nils) ⟨Nat.zero_le _,.inl ⟨rfl,rfl⟩,fun _ _=>rfl,rfl,Nat.le_refl _⟩ (by (try simp only[go_sem]);repeat' (first|exact trivial|refine And.intro ?_ ?_|rfl|(simp (disch:=omega) only[go_sem,if_yes,if_no,↓reduceIte,reduceAdd,reduceMul,reduceEqDiff,Nat.reduceBEq,reduceLeDiff];rfl)|(simp (disch:=omega) only[go_sem,if_yes,if_no,↓reduceIte,reduceAdd,reduceMul,reduceEqDiff,Nat.reduceBEq,reduceLeDiff]))) (by (try simp only[go_sem]);repeat' (first|exact trivial|refine And.intro ?_ ?_|rfl|(simp (disch:=omega) only[go_sem,if_yes,if_no,↓reduceIte,reduceAdd,reduceMul,reduceEqDiff,Nat.reduceBEq,reduceLeDiff];rfl)|(simp (disch:=omega) only[go_sem,if_yes,if_no,↓reduceIte,reduceAdd,reduceMul,reduceEqDiff,Nat.reduceBEq,reduceLeDiff]))) (HOld.tick (by simp only[go_sem];omega)) ?_
  rintro ⟨i,g,v⟩ c ⟨hi,hsl,hfr,hlp,hgc⟩ hc
  dsimp only at hi hsl hfr hlp hgc hc
  simp only[go_sem]
  have hnv:=hsl.noL
  have hfl:(fitsD r fs ds).length=fs.length:=by simp [fitsD]
  by_cases hil:i < fs.length
  · have hrow:(fitsD r fs ds).take (i+1)=(fitsD r fs ds).take i ++ [ds.map fun L=>fitB r (fl fs i) L]:=by
      rw [take_snoc (d:=[]) (by rw [hfl];exact hil)]
      simp [fitsD,List.getD_eq_getElem?_getD,hil,fl]
    obtain ⟨row,hrw⟩:∃ row,row=ds.map fun L=>fitB r (fl fs i) L:=⟨_,rfl⟩
    rw [← hrw] at hrow
    have hrl:row.length=ds.length:=by rw [hrw];simp
    have hrg:∀ j,j < ds.length→row.take (j+1)=row.take j ++ [fitB r (fl fs i) (ds.getD j [])]:=fun j hj=>by
      rw [take_snoc (d:=false) (by rw [hrl];exact hj),hrw]
      simp [List.getD_eq_getElem?_getD,hj]
    repeat' (first|refine st_seq_reg rfl (by first|(simp only[go_sem,length_map];rfl)|rfl) (by first|(simp only[go_sem,length_map];rfl)|rfl) ?_|refine st_op ?_|refine st_det rfl (by simp (disch:=omega) only[go_sem,wr_i64,if_yes,if_no,↓reduceIte,reduceAdd,reduceMul,reduceEqDiff,Nat.reduceBEq,reduceLeDiff,length_map];rfl) ?_|refine st_loc rfl (by simp (disch:=omega) only[go_sem,wr_i64,if_yes,if_no,↓reduceIte,reduceAdd,reduceMul,reduceEqDiff,Nat.reduceBEq,reduceLeDiff,length_map];rfl) ?_|refine st_store (by simp (disch:=omega) only[go_sem,wr_i64,if_yes,if_no,↓reduceIte,reduceAdd,reduceMul,reduceEqDiff,Nat.reduceBEq,reduceLeDiff,length_map];rfl) ?_|(refine st_condS rfl ?_ ?_ <;> intro hg <;> (try simp only[decide_eq_true_eq,decide_eq_false_iff_not,Bool.not_eq_true',Bool.not_eq_false'] at hg))|refine st_nil ?_|refine st_tN ?_|refine st_seq ?_|refine st_block ?_|refine st_skip ?_|refine st_exit ?_|refine st_ret ?_|refine st_tE ?_|refine st_bH ?_)
    all_goals try (exfalso;omega)
    refine st_loopH (α:=Nat × AH × AV) tab mixed [] [] (by repeat (first|exact trivial|refine ⟨rfl,?_⟩)) [9] [_] (by repeat (first|exact trivial|refine ⟨rfl,?_⟩)) (fun a=>[(21,.int .i64 (a.1:Nat)),(10,a.2.2)]) [(0,_),(1,_),(2,_),(6,_),(7,_),(9,_),(13,_),(14,_),(15,_),(19,_),(20,_)] (fun _=>[]) [_] (fun a=>a.2.1) (fun a=>a.1≤ds.length∧SlA c a.2.1 a.2.2 1 ((row.take a.1).map bv)∧(∀ b:Bid,b.1 < c→a.2.1.at_ b=g.at_ b)∧a.2.1.lp=g.lp∧c≤a.2.1.clk) (fun a=>ds.length - a.1) (by decide) (0,g.tick c,.nils) ⟨Nat.zero_le _,.inl ⟨rfl,rfl⟩,fun _ _=>rfl,rfl,Nat.le_refl _⟩ (by (try simp only[go_sem]);repeat' (first|exact trivial|refine And.intro ?_ ?_|rfl|(simp (disch:=omega) only[go_sem,if_yes,if_no,↓reduceIte,reduceAdd,reduceMul,reduceEqDiff,Nat.reduceBEq,reduceLeDiff];rfl)|(simp (disch:=omega) only[go_sem,if_yes,if_no,↓reduceIte,reduceAdd,reduceMul,reduceEqDiff,Nat.reduceBEq,reduceLeDiff]))) (by (try simp only[go_sem]);repeat' (first|exact trivial|refine And.intro ?_ ?_|rfl|(simp (disch:=omega) only[go_sem,if_yes,if_no,↓reduceIte,reduceAdd,reduceMul,reduceEqDiff,Nat.reduceBEq,reduceLeDiff];rfl)|(simp (disch:=omega) only[go_sem,if_yes,if_no,↓reduceIte,reduceAdd,reduceMul,reduceEqDiff,Nat.reduceBEq,reduceLeDiff]))) (HOld.tick (by simp only[go_sem];omega)) ?_
    rintro ⟨j,g2,v2⟩ c2 ⟨hj,hsl2,hfr2,hlp2,hgc2⟩ hc2
    dsimp only at hj hsl2 hfr2 hlp2 hgc2 hc2
    simp only[go_sem]
    have hnv2:=hsl2.noL
    by_cases hjl:j < ds.length
    · have hrj:=hrg j hjl
      repeat' (first|refine st_seq_reg rfl (by first|(simp only[go_sem,length_map,List.length_take];rfl)|rfl) (by first|(simp only[go_sem,length_map,List.length_take];rfl)|rfl) ?_|refine st_reg rfl (by first|(simp only[go_sem,length_map,List.length_take];rfl)|rfl) (by first|(simp only[go_sem,length_map,List.length_take];rfl)|rfl) ?_|refine st_op ?_|refine st_det rfl (by simp (disch:=omega) only[go_sem,wr_i64,if_yes,if_no,↓reduceIte,reduceAdd,reduceMul,reduceEqDiff,Nat.reduceBEq,reduceLeDiff,length_map,List.length_take];rfl) ?_|(refine st_pureV (by first|(simp only[go_sem,length_map,List.length_take];rfl)|rfl) (by first|(simp (disch:=omega) only[go_sem,length_map,List.length_take];rfl)|rfl) rfl (c54 r (fl fs i) (ds.getD j [])) (by first|(simp only[go_sem,length_map,List.length_take];rfl)|rfl) (by intro n;first|(simp (disch:=omega) only[go_sem];rfl)|rfl) ?_;intro v n hv hn;subst hv)|(refine st_appS (by intro h id x y;simp only[go_sem];rfl) rfl (by simp only[go_sem,length_map,List.length_take];rfl) (by first|(simp only[go_sem,length_map,List.length_take];rfl)|rfl) (by decide) hsl2 (fun _ _ _=>rfl) (by omega) (by simp only[length_map,List.length_cons,List.length_nil,big,length_map,List.length_take];omega) (by omega) (by omega) ?_;intro v' g' hA)|(refine st_condS rfl ?_ ?_ <;> intro hg <;> (try simp only[decide_eq_true_eq,decide_eq_false_iff_not,Bool.not_eq_true',Bool.not_eq_false'] at hg))|refine st_nil ?_|refine st_tN ?_|refine st_seq ?_|refine st_block ?_|refine st_skip ?_|refine st_exit ?_|refine st_tE ?_|refine st_bN ?_|refine st_bH ?_)
      all_goals try (exfalso;omega)
      refine ⟨(j+1,g'.tick n,v'),⟨by show j+1≤ds.length;omega,by show SlA c _ v' 1 ((row.take (j+1)).map bv);rw [hrj,List.map_append];exact hA.sl.to (fun _ _ _ _ _=>rfl) (by simp only[go_sem];omega),fun b hb=>(hA.old b hb).trans (hfr2 b hb),hA.lp.trans hlp2,by simp only[go_sem];omega⟩,by show ds.length - (j+1) < ds.length - j;omega,(by repeat' (first|exact trivial|refine And.intro ?_ ?_|rfl|(simp (disch:=omega) only[go_sem,if_yes,if_no,↓reduceIte,reduceAdd,reduceMul,reduceEqDiff,Nat.reduceBEq,reduceLeDiff];rfl)|(simp (disch:=omega) only[go_sem,if_yes,if_no,↓reduceIte,reduceAdd,reduceMul,reduceEqDiff,Nat.reduceBEq,reduceLeDiff]))),(by repeat' (first|exact trivial|refine And.intro ?_ ?_|rfl|(simp (disch:=omega) only[go_sem,if_yes,if_no,↓reduceIte,reduceAdd,reduceMul,reduceEqDiff,Nat.reduceBEq,reduceLeDiff];rfl)|(simp (disch:=omega) only[go_sem,if_yes,if_no,↓reduceIte,reduceAdd,reduceMul,reduceEqDiff,Nat.reduceBEq,reduceLeDiff]))),rfl,HOld.tick (by simp only[go_sem];omega)⟩
    · have ej:j=ds.length:=by omega
      subst ej
      rw [← hrl,List.take_length] at hsl2
      repeat' (first|refine st_seq_reg rfl (by first|(simp only[go_sem,length_map];rfl)|rfl) (by first|(simp only[go_sem,length_map];rfl)|rfl) ?_|refine st_reg rfl (by first|(simp only[go_sem,length_map];rfl)|rfl) (by first|(simp only[go_sem,length_map];rfl)|rfl) ?_|refine st_op ?_|refine st_det rfl (by simp (disch:=omega) only[go_sem,wr_i64,if_yes,if_no,↓reduceIte,reduceAdd,reduceMul,reduceEqDiff,Nat.reduceBEq,reduceLeDiff,length_map];rfl) ?_|(refine st_condS rfl ?_ ?_ <;> intro hg <;> (try simp only[decide_eq_true_eq,decide_eq_false_iff_not,Bool.not_eq_true',Bool.not_eq_false'] at hg))|refine st_nil ?_|refine st_tN ?_|refine st_seq ?_|refine st_block ?_|refine st_skip ?_|refine st_exit ?_|refine st_tE ?_|refine st_bH ?_)
      all_goals try (exfalso;omega)
      first|refine st_free ?_|refine st_seq_free ?_
      refine ASem.cutK 10 1 (row.map bv) ?_ fun H1 h1a h1b h1c=>?_
      · simp only[go_sem,↓reduceIte,reduceEqDiff]
        rcases hsl2 with h'|⟨b1,q1,q2,_⟩
        · exact .inl h'
        · exact .inr ⟨b1,by rw [length_map] at q1;exact q1,q2⟩
      simp only[go_sem,↓reduceIte,reduceEqDiff] at h1a h1b h1c
      have hv2c:∀ b:Bid,b.1 < c→∀ m,v2 ≠ .slc b 1 0 m:=fun b hb m e=>by have:=(hsl2.lt e).1;omega
      have hslg:SlA h.clk H1 v 1 (((fitsD r fs ds).take i).map bvs):=hsl.to (fun b1 m e q1 q2=>by
        rw [h1a b1 (hv2c b1 (by omega))]
        exact hfr2 b1 (by omega)) (by rw [h1b];omega)
      refine st_run tab mixed (f2:=⟨39,[9],[30,35],none,[]⟩) rfl rfl (by decide) ?_
      repeat' (first|refine st_reg rfl (by first|(simp only[go_sem,length_map,List.length_take,h1b];rfl)|rfl) (by first|(simp only[go_sem,length_map,List.length_take,h1b];rfl)|rfl) ?_|refine st_op ?_|refine st_det rfl (by simp (disch:=omega) only[go_sem,wr_i64,if_yes,if_no,↓reduceIte,reduceAdd,reduceMul,reduceEqDiff,Nat.reduceBEq,reduceLeDiff,length_map,List.length_take,h1b];rfl) ?_|(refine st_appS (by intro h id x y;simp only[go_sem];rfl) rfl (by simp only[go_sem,length_map,List.length_take,h1b];rfl) (by first|(simp only[go_sem,length_map,List.length_take,h1b];rfl)|rfl) (by decide) hslg (fun _ _ _=>rfl) (by omega) (by simp only[length_map,List.length_cons,List.length_nil,big,length_map,List.length_take,h1b];omega) (by omega) (by omega) ?_;intro v' g' hA)|refine st_nil ?_|refine st_tN ?_|refine st_bN ?_)
      have hfin:∀ b:Bid,b.1 < h.clk→g'.at_ b=h.at_ b:=fun b hb=>by
        rw [hA.old b hb]
        show H1.at_ b=_
        rw [h1a b (hv2c b (by omega)),hfr2 b (by omega)];exact hfr b hb
      have hlpf:g'.lp=h.lp:=hA.lp.trans (h1c.trans (hlp2.trans hlp))
      refine ⟨(i+1,g'.tick (c2+1+1),v'),⟨by show i+1≤fs.length;omega,by show SlA h.clk _ v' 1 (((fitsD r fs ds).take (i+1)).map bvs);rw [hrow,List.map_append];exact hA.sl.to (fun _ _ _ _ _=>rfl) (by simp only[go_sem];omega),hfin,hlpf,by simp only[go_sem];omega⟩,by show fs.length - (i+1) < fs.length - i;omega,(by repeat' (first|exact trivial|refine And.intro ?_ ?_|rfl|(simp (disch:=omega) only[go_sem,if_yes,if_no,↓reduceIte,reduceAdd,reduceMul,reduceEqDiff,Nat.reduceBEq,reduceLeDiff];rfl)|(simp (disch:=omega) only[go_sem,if_yes,if_no,↓reduceIte,reduceAdd,reduceMul,reduceEqDiff,Nat.reduceBEq,reduceLeDiff]))),(by repeat' (first|exact trivial|refine And.intro ?_ ?_|rfl|(simp (disch:=omega) only[go_sem,if_yes,if_no,↓reduceIte,reduceAdd,reduceMul,reduceEqDiff,Nat.reduceBEq,reduceLeDiff];rfl)|(simp (disch:=omega) only[go_sem,if_yes,if_no,↓reduceIte,reduceAdd,reduceMul,reduceEqDiff,Nat.reduceBEq,reduceLeDiff]))),rfl,HOld.tick (by simp only[go_sem];omega)⟩
  · repeat' (first|refine st_seq_reg rfl (by first|(simp only[go_sem,length_map];rfl)|rfl) (by first|(simp only[go_sem,length_map];rfl)|rfl) ?_|refine st_op ?_|refine st_det rfl (by simp (disch:=omega) only[go_sem,wr_i64,if_yes,if_no,↓reduceIte,reduceAdd,reduceMul,reduceEqDiff,Nat.reduceBEq,reduceLeDiff,length_map];rfl) ?_|refine st_loc rfl (by simp (disch:=omega) only[go_sem,wr_i64,if_yes,if_no,↓reduceIte,reduceAdd,reduceMul,reduceEqDiff,Nat.reduceBEq,reduceLeDiff,length_map];rfl) ?_|refine st_store (by simp (disch:=omega) only[go_sem,wr_i64,if_yes,if_no,↓reduceIte,reduceAdd,reduceMul,reduceEqDiff,Nat.reduceBEq,reduceLeDiff,length_map];rfl) ?_|(refine st_condS rfl ?_ ?_ <;> intro hg <;> (try simp only[decide_eq_true_eq,decide_eq_false_iff_not,Bool.not_eq_true',Bool.not_eq_false'] at hg))|refine st_nil ?_|refine st_tN ?_|refine st_seq ?_|refine st_block ?_|refine st_skip ?_|refine st_exit ?_|refine st_ret ?_|refine st_tE ?_|refine st_bH ?_)
    all_goals try (exfalso;omega)
    simp (disch:=omega) only[AEnd,Tryz.results53,aresK,fin,go_sem,↓reduceIte,reduceEqDiff,reduceAdd,reduceLeDiff,if_yes,if_no,implies_true,true_and,and_true,List.reverse_cons,List.reverse_nil]
    have ei:i=fs.length:=by omega
    rw [ei,← hfl,List.take_length] at hsl
    refine ⟨hnv,hfr,hlp,?_⟩
    rcases hsl with ⟨rfl,e⟩|⟨b,rfl,q1,q2,q3⟩
    · refine .inl ⟨_,VLe.nils 1,?_⟩
      rw [e]
    · refine .inr ⟨b,_,q2,q1,?_⟩
      simp only[frz,List.drop_zero,Nat.zero_add,and_self,if_true,Nat.le_refl,List.take_length]
def fitsE (r:List Hu) (fs:List Fl) (ds:List (List Ld)):Int:=if 6 < fs.length ∨ 6 < ds.length then 5 else routeE r
theorem c16 (r:List Hu) (fs:List Fl) (ds:List (List Ld)) (hf:(fs.length:Int) < 1000000) (hd:(ds.length:Int) < 1000000) :
    Pure Tryz.prog 16 [.lst 9 (fs.map Fl.row),.lst 1 (ds.map dsR),.lst 3 (r.map Hu.row)] (fun v=>v=if fitsE r fs ds ≠ 0 then .tup [.nils,.int .i64 (fitsE r fs ds)] else .tup [.lst 1 ((fitsD r fs ds).map bvs),.int .i64 0]):=by
  intro h
  refine ACalls.forget (ACalls.of tab mixed Tryz.call16 Tryz.func16 rfl (fi:=⟨26,[],[5],none,[]⟩) rfl rfl (Nat.le_of_ble_eq_true rfl) (by decide) ?_)
  unfold startA
  try simp only[go_sem]
  repeat' (first|refine st_seq_reg rfl (by first|(simp only[go_sem,length_map];rfl)|rfl) (by first|(simp only[go_sem,length_map];rfl)|rfl) ?_|refine st_op ?_|refine st_det rfl (by simp (disch:=omega) only[go_sem,wr_i64,if_yes,if_no,↓reduceIte,reduceAdd,reduceMul,reduceEqDiff,Nat.reduceBEq,reduceLeDiff,length_map];rfl) ?_|(refine st_pureE (by first|(simp (disch:=omega) only[go_sem,length_map];rfl)|rfl) rfl (c52 r) (by first|(simp only[go_sem,length_map];rfl)|rfl) (by intro n;first|(simp (disch:=omega) only[go_sem];rfl)|rfl) ?_;intro n hn)|(refine st_pureE (by first|(simp (disch:=omega) only[go_sem,length_map];rfl)|rfl) rfl (c53 r fs ds (by omega) (by omega)) (by first|(simp only[go_sem,length_map];rfl)|rfl) (by intro n;first|(simp (disch:=omega) only[go_sem];rfl)|rfl) ?_;intro n hn)|refine st_gT rfl rfl rfl ?_|refine st_gF rfl rfl rfl ?_|(refine st_gS rfl rfl ?_ ?_ <;> intro hg <;> (try simp only[decide_eq_true_eq,decide_eq_false_iff_not,Bool.not_eq_true',Bool.not_eq_false'] at hg))|refine st_condT rfl ?_|(refine st_condS rfl ?_ ?_ <;> intro hg <;> (try simp only[decide_eq_true_eq,decide_eq_false_iff_not,Bool.not_eq_true',Bool.not_eq_false'] at hg))|refine st_nil ?_|refine st_tN ?_|refine st_seq ?_|refine st_skip ?_|refine st_ret ?_|refine st_tR ?_)
  · simp (disch:=omega) only[AEnd,Tryz.results16,aresK,fin,go_sem,↓reduceIte,reduceEqDiff,reduceAdd,reduceLeDiff,if_yes,if_no,implies_true,true_and,and_true,List.reverse_cons,List.reverse_nil]
    have e:fitsE r fs ds=5:=by unfold fitsE;rw [if_pos (by omega)]
    rw [e];rfl
  · simp (disch:=omega) only[AEnd,Tryz.results16,aresK,fin,go_sem,↓reduceIte,reduceEqDiff,reduceAdd,reduceLeDiff,if_yes,if_no,implies_true,true_and,and_true,List.reverse_cons,List.reverse_nil]
    have e:fitsE r fs ds=5:=by unfold fitsE;rw [if_pos (by omega)]
    rw [e];rfl
  · simp (disch:=omega) only[AEnd,Tryz.results16,aresK,fin,go_sem,↓reduceIte,reduceEqDiff,reduceAdd,reduceLeDiff,if_yes,if_no,implies_true,true_and,and_true,List.reverse_cons,List.reverse_nil]
    have e:fitsE r fs ds=routeE r:=by unfold fitsE;rw [if_neg (by omega)]
    rw [e,if_pos hg]
  · simp (disch:=omega) only[AEnd,Tryz.results16,aresK,fin,go_sem,↓reduceIte,reduceEqDiff,reduceAdd,reduceLeDiff,if_yes,if_no,implies_true,true_and,and_true,List.reverse_cons,List.reverse_nil]
    have e:fitsE r fs ds=routeE r:=by unfold fitsE;rw [if_neg (by omega)]
    rw [e,if_neg hg]
theorem c98h (l:List Int) (x:Int) (hl:(l.length:Int) < 1000000) (b:Bid) (es:List (List AV)) (h:AH) (hat:h.at_ b=some ⟨1,es⟩) (hle:l.length≤es.length) (ht:es.take l.length=l.map iv) :
    ACalls Tryz.prog 98 [.slc b 1 0 l.length,.int .i64 x] h (fun v h'=>Later h h'∧∃ k:Int,v=.int .i64 k∧(0≤k ↔ l.contains x=true)):=by
  refine ACalls.forget (ACalls.of tab mixed Tryz.call98 Tryz.func98 rfl (fi:=⟨19,[],[],none,[]⟩) rfl rfl (Nat.le_of_ble_eq_true rfl) (by decide) ?_)
  unfold startA
  try simp only[go_sem]
  repeat' (first|refine st_seq_reg rfl (by first|(simp only[go_sem];rfl)|rfl) (by first|(simp only[go_sem];rfl)|rfl) ?_|refine st_op ?_|refine st_det rfl (by simp (disch:=omega) only[go_sem,wr_i64,if_yes,if_no,↓reduceIte,reduceAdd,reduceMul,reduceEqDiff,Nat.reduceBEq,reduceLeDiff];rfl) ?_|refine st_nil ?_|refine st_seq ?_|refine st_block ?_)
  refine st_loopC (α:=Nat) tab mixed [] [] (by repeat (first|exact trivial|refine ⟨rfl,?_⟩)) [] [] (by repeat (first|exact trivial|refine ⟨rfl,?_⟩)) (fun i=>[(8,.int .i64 i)]) [(0,_),(1,_),(7,_)] (fun _=>[]) [] (fun i=>i≤l.length∧∀ k,k < i→l.getD k 0 ≠ x) (fun i=>l.length - i) (by decide) 0 ⟨Nat.zero_le _,fun k hk=>absurd hk (Nat.not_lt_zero k)⟩ (by (try simp only[go_sem]);repeat' (first|exact trivial|refine And.intro ?_ ?_|rfl|(simp (disch:=omega) only[go_sem,if_yes,if_no,↓reduceIte,reduceAdd,reduceMul,reduceEqDiff,Nat.reduceBEq,reduceLeDiff];rfl)|(simp (disch:=omega) only[go_sem,if_yes,if_no,↓reduceIte,reduceAdd,reduceMul,reduceEqDiff,Nat.reduceBEq,reduceLeDiff]))) (by (try simp only[go_sem]);repeat' (first|exact trivial|refine And.intro ?_ ?_|rfl|(simp (disch:=omega) only[go_sem,if_yes,if_no,↓reduceIte,reduceAdd,reduceMul,reduceEqDiff,Nat.reduceBEq,reduceLeDiff];rfl)|(simp (disch:=omega) only[go_sem,if_yes,if_no,↓reduceIte,reduceAdd,reduceMul,reduceEqDiff,Nat.reduceBEq,reduceLeDiff]))) (by first|(simp only[go_sem];rfl)|rfl) (by intro n;simp only[go_sem];rfl) ?_
  rintro i c ⟨hi',hall⟩ hc
  simp only[go_sem]
  by_cases hil:i < l.length
  · have hlt:i < es.length:=by omega
    have hes:es.getD i []=[.int .i64 (l.getD i 0)]:=by
      have h1:(l.map iv)[i]?=some [.int .i64 (l.getD i 0)]:=by
        rw [List.getElem?_map,List.getElem?_eq_getElem hil]
        simp [iv,List.getD_eq_getElem?_getD,hil]
      rw [← ht,List.getElem?_take_of_lt hil] at h1
      rw [List.getD_eq_getElem?_getD,h1];rfl
    repeat' (first|refine st_seq_reg rfl (by first|(simp only[go_sem,hat,hes,Nat.zero_add];rfl)|rfl) (by first|(simp only[go_sem,hat,hes,Nat.zero_add];rfl)|rfl) ?_|refine st_reg rfl (by first|(simp only[go_sem,hat,hes,Nat.zero_add];rfl)|rfl) (by first|(simp only[go_sem,hat,hes,Nat.zero_add];rfl)|rfl) ?_|refine st_op ?_|refine st_det rfl (by simp (disch:=omega) only[go_sem,wr_i64,if_yes,if_no,↓reduceIte,reduceAdd,reduceMul,reduceEqDiff,Nat.reduceBEq,reduceLeDiff,hat,hes,Nat.zero_add];rfl) ?_|(refine st_condS rfl ?_ ?_ <;> intro hg <;> (try simp only[decide_eq_true_eq,decide_eq_false_iff_not,Bool.not_eq_true',Bool.not_eq_false'] at hg))|refine st_nil ?_|refine st_tN ?_|refine st_seq ?_|refine st_block ?_|refine st_skip ?_|refine st_exit ?_|refine st_ret ?_|refine st_tE ?_|refine st_tR ?_|refine st_bN ?_|refine st_bR ?_|refine st_bH ?_)
    all_goals try (exfalso;omega)
    · simp (disch:=omega) only[AEnd,Tryz.results98,aresK,fin,go_sem,↓reduceIte,reduceEqDiff,reduceAdd,reduceLeDiff,if_yes,if_no,implies_true,true_and,and_true,List.reverse_cons,List.reverse_nil]
      refine ⟨_,rfl,fun _=>?_,fun _=>by omega⟩
      rw [List.contains_iff_mem,hg,List.getD_eq_getElem?_getD,List.getElem?_eq_getElem hil]
      exact List.getElem_mem hil
    · refine ⟨i+1,⟨by omega,stepP hall (fun e=>hg e.symm)⟩,by omega,(by repeat' (first|exact trivial|refine And.intro ?_ ?_|rfl|(simp (disch:=omega) only[go_sem,if_yes,if_no,↓reduceIte,reduceAdd,reduceMul,reduceEqDiff,Nat.reduceBEq,reduceLeDiff];rfl)|(simp (disch:=omega) only[go_sem,if_yes,if_no,↓reduceIte,reduceAdd,reduceMul,reduceEqDiff,Nat.reduceBEq,reduceLeDiff]))),(by repeat' (first|exact trivial|refine And.intro ?_ ?_|rfl|(simp (disch:=omega) only[go_sem,if_yes,if_no,↓reduceIte,reduceAdd,reduceMul,reduceEqDiff,Nat.reduceBEq,reduceLeDiff];rfl)|(simp (disch:=omega) only[go_sem,if_yes,if_no,↓reduceIte,reduceAdd,reduceMul,reduceEqDiff,Nat.reduceBEq,reduceLeDiff]))),rfl,(by first|exact HOld.of _ (by omega)|exact HOld.put _ _ _ (by omega))⟩
  · repeat' (first|refine st_seq_reg rfl (by first|(simp only[go_sem];rfl)|rfl) (by first|(simp only[go_sem];rfl)|rfl) ?_|refine st_op ?_|refine st_det rfl (by simp (disch:=omega) only[go_sem,wr_i64,if_yes,if_no,↓reduceIte,reduceAdd,reduceMul,reduceEqDiff,Nat.reduceBEq,reduceLeDiff];rfl) ?_|(refine st_condS rfl ?_ ?_ <;> intro hg <;> (try simp only[decide_eq_true_eq,decide_eq_false_iff_not,Bool.not_eq_true',Bool.not_eq_false'] at hg))|refine st_nil ?_|refine st_tN ?_|refine st_seq ?_|refine st_block ?_|refine st_skip ?_|refine st_exit ?_|refine st_ret ?_|refine st_tE ?_|refine st_bH ?_)
    all_goals try (exfalso;omega)
    simp (disch:=omega) only[AEnd,Tryz.results98,aresK,fin,go_sem,↓reduceIte,reduceEqDiff,reduceAdd,reduceLeDiff,if_yes,if_no,implies_true,true_and,and_true,List.reverse_cons,List.reverse_nil]
    refine ⟨_,rfl,fun q=>absurd q (by decide),fun q=>?_⟩
    rw [List.contains_iff_mem] at q
    obtain ⟨k,hk,e⟩:=List.getElem_of_mem q
    exact absurd (by rw [List.getD_eq_getElem?_getD,List.getElem?_eq_getElem hk];exact e) (hall k (by omega))
theorem c61h (l:List Int) (x:Int) (hl:(l.length:Int) < 1000000) (b:Bid) (es:List (List AV)) (h:AH) (hat:h.at_ b=some ⟨1,es⟩) (hle:l.length≤es.length) (ht:es.take l.length=l.map iv) :
    ACalls Tryz.prog 61 [.slc b 1 0 l.length,.int .i64 x] h (fun v h'=>Later h h'∧v=.bool (l.contains x)):=by
  refine ACalls.forget (ACalls.of tab mixed Tryz.call61 Tryz.func61 rfl (fi:=⟨9,[],[],none,[]⟩) rfl rfl (Nat.le_of_ble_eq_true rfl) (by decide) ?_)
  unfold startA
  try simp only[go_sem]
  repeat' (first|refine st_seq_reg rfl (by first|(simp only[go_sem];rfl)|rfl) (by first|(simp only[go_sem];rfl)|rfl) ?_|refine st_op ?_|refine st_det rfl (by simp (disch:=omega) only[go_sem,wr_i64,if_yes,if_no,↓reduceIte,reduceAdd,reduceMul,reduceEqDiff,Nat.reduceBEq,reduceLeDiff];rfl) ?_|(refine st_callf (args:=[.slc b 1 0 l.length,.int .i64 x]) rfl rfl (c98h l x hl b es _ hat hle ht) ?_;rintro v' h' ⟨⟨n,hn,rfl⟩,k,rfl,hk⟩)|refine st_nil ?_|refine st_ret ?_)
  simp (disch:=omega) only[AEnd,Tryz.results61,aresK,fin,go_sem,↓reduceIte,reduceEqDiff,reduceAdd,reduceLeDiff,if_yes,if_no,implies_true,true_and,and_true,List.reverse_cons,List.reverse_nil]
  by_cases q:0≤k
  · rw [hk.1 q];simp [q]
  · have:l.contains x=false:=by
      cases e:l.contains x with
      | false=>rfl
      | true=>exact absurd (hk.2 e) q
    rw [this];simp [q]
theorem c98n (x:Int):Pure Tryz.prog 98 [.nils,.int .i64 x] (fun v=>v=.int .i64 (-1)):=by
  intro h
  refine ACalls.forget (ACalls.of tab mixed Tryz.call98 Tryz.func98 rfl (fi:=⟨19,[],[],none,[]⟩) rfl rfl (Nat.le_of_ble_eq_true rfl) (by decide) ?_)
  unfold startA
  try simp only[go_sem]
  repeat' (first|refine st_seq_reg rfl (by first|(simp only[go_sem];rfl)|rfl) (by first|(simp only[go_sem];rfl)|rfl) ?_|refine st_op ?_|refine st_det rfl (by simp (disch:=omega) only[go_sem,wr_i64,if_yes,if_no,↓reduceIte,reduceAdd,reduceMul,reduceEqDiff,Nat.reduceBEq,reduceLeDiff];rfl) ?_|refine st_nil ?_|refine st_seq ?_|refine st_block ?_)
  refine st_loopC (α:=Nat) tab mixed [] [] (by repeat (first|exact trivial|refine ⟨rfl,?_⟩)) [] [] (by repeat (first|exact trivial|refine ⟨rfl,?_⟩)) (fun i=>[(8,.int .i64 (0:Int))]) [(0,_),(1,_),(7,_)] (fun _=>[]) [] (fun i=>i=0) (fun i=>i) (by decide) 0 rfl (by (try simp only[go_sem]);repeat' (first|exact trivial|refine And.intro ?_ ?_|rfl|(simp (disch:=omega) only[go_sem,if_yes,if_no,↓reduceIte,reduceAdd,reduceMul,reduceEqDiff,Nat.reduceBEq,reduceLeDiff];rfl)|(simp (disch:=omega) only[go_sem,if_yes,if_no,↓reduceIte,reduceAdd,reduceMul,reduceEqDiff,Nat.reduceBEq,reduceLeDiff]))) (by (try simp only[go_sem]);repeat' (first|exact trivial|refine And.intro ?_ ?_|rfl|(simp (disch:=omega) only[go_sem,if_yes,if_no,↓reduceIte,reduceAdd,reduceMul,reduceEqDiff,Nat.reduceBEq,reduceLeDiff];rfl)|(simp (disch:=omega) only[go_sem,if_yes,if_no,↓reduceIte,reduceAdd,reduceMul,reduceEqDiff,Nat.reduceBEq,reduceLeDiff]))) (by first|(simp only[go_sem];rfl)|rfl) (by intro n;simp only[go_sem];rfl) ?_
  rintro i c _ hc
  simp only[go_sem]
  repeat' (first|refine st_seq_reg rfl (by first|(simp only[go_sem];rfl)|rfl) (by first|(simp only[go_sem];rfl)|rfl) ?_|refine st_op ?_|refine st_det rfl (by simp (disch:=omega) only[go_sem,wr_i64,if_yes,if_no,↓reduceIte,reduceAdd,reduceMul,reduceEqDiff,Nat.reduceBEq,reduceLeDiff];rfl) ?_|refine st_condF rfl ?_|refine st_nil ?_|refine st_tN ?_|refine st_seq ?_|refine st_exit ?_|refine st_ret ?_|refine st_tE ?_|refine st_bH ?_)
  simp (disch:=omega) only[AEnd,Tryz.results98,aresK,fin,go_sem,↓reduceIte,reduceEqDiff,reduceAdd,reduceLeDiff,if_yes,if_no,implies_true,true_and,and_true,List.reverse_cons,List.reverse_nil]
theorem c61n (x:Int):Pure Tryz.prog 61 [.nils,.int .i64 x] (fun v=>v=.bool false):=by
  intro h
  refine ACalls.forget (ACalls.of tab mixed Tryz.call61 Tryz.func61 rfl (fi:=⟨9,[],[],none,[]⟩) rfl rfl (Nat.le_of_ble_eq_true rfl) (by decide) ?_)
  unfold startA
  try simp only[go_sem]
  repeat' (first|refine st_seq_reg rfl (by first|(simp only[go_sem];rfl)|rfl) (by first|(simp only[go_sem];rfl)|rfl) ?_|refine st_op ?_|refine st_det rfl (by simp (disch:=omega) only[go_sem,wr_i64,if_yes,if_no,↓reduceIte,reduceAdd,reduceMul,reduceEqDiff,Nat.reduceBEq,reduceLeDiff];rfl) ?_|(refine st_pureE (by first|(simp (disch:=omega) only[go_sem];rfl)|rfl) rfl (c98n x) (by first|(simp only[go_sem];rfl)|rfl) (by intro n;first|(simp (disch:=omega) only[go_sem];rfl)|rfl) ?_;intro n hn)|refine st_nil ?_|refine st_ret ?_)
  simp (disch:=omega) only[AEnd,Tryz.results61,aresK,fin,go_sem,↓reduceIte,reduceEqDiff,reduceAdd,reduceLeDiff,if_yes,if_no,implies_true,true_and,and_true,List.reverse_cons,List.reverse_nil]
  rfl
theorem c60n:Pure Tryz.prog 60 [.nils] (fun v=>v=.nils):=by
  intro h
  refine ACalls.forget (ACalls.of tab mixed Tryz.call60 Tryz.func60 rfl (fi:=⟨8,[],[],none,[]⟩) rfl rfl (Nat.le_of_ble_eq_true rfl) (by decide) ?_)
  unfold startA
  try simp only[go_sem]
  repeat' (first|refine st_seq_reg rfl (by first|(simp only[go_sem];rfl)|rfl) (by first|(simp only[go_sem];rfl)|rfl) ?_|refine st_op ?_|refine st_det rfl (by simp (disch:=omega) only[go_sem,wr_i64,if_yes,if_no,↓reduceIte,reduceAdd,reduceMul,reduceEqDiff,Nat.reduceBEq,reduceLeDiff];rfl) ?_|refine st_condT rfl ?_|refine st_nil ?_|refine st_seq ?_|refine st_ret ?_|refine st_tR ?_)
  simp (disch:=omega) only[AEnd,Tryz.results60,aresK,fin,go_sem,↓reduceIte,reduceEqDiff,reduceAdd,reduceLeDiff,if_yes,if_no,implies_true,true_and,and_true,List.reverse_cons,List.reverse_nil]
theorem c60h (l:List Int) (h0:l ≠ []) (hl:(l.length:Int) < 1000000) (b:Bid) (es:List (List AV)) (h:AH) (hat:h.at_ b=some ⟨1,es⟩) (hle:l.length≤es.length) (ht:es.take l.length=l.map iv) :
    ACalls Tryz.prog 60 [.slc b 1 0 l.length] h (fun v h'=>Later h h'∧v=.lst 1 (l.map iv)):=by
  refine ACalls.giveAt Tryz.call60 fun hold=>?_
  have hp:0 < l.length:=List.length_pos_iff.2 h0
  refine ACalls.of tab mixed Tryz.call60 Tryz.func60 rfl (fi:=⟨8,[],[],none,[]⟩) rfl rfl (Nat.le_of_ble_eq_true rfl) (by decide) ?_
  unfold startA
  try simp only[go_sem]
  repeat' (first|refine st_seq_reg rfl (by first|(simp only[go_sem,hat];rfl)|rfl) (by first|(simp only[go_sem,hat];rfl)|rfl) ?_|refine st_op ?_|refine st_det rfl (by simp (disch:=omega) only[go_sem,wr_i64,if_yes,if_no,↓reduceIte,reduceAdd,reduceMul,reduceEqDiff,Nat.reduceBEq,reduceLeDiff,hat];rfl) ?_|refine st_heap rfl (by simp (disch:=omega) only[go_sem,wr_i64,if_yes,if_no,↓reduceIte,reduceAdd,reduceMul,reduceEqDiff,Nat.reduceBEq,reduceLeDiff,hat];rfl) ?_|refine st_condF rfl ?_|refine st_nil ?_|refine st_tN ?_|refine st_seq ?_|refine st_skip ?_)
  have hbn:¬ b=(h.clk+1+1,5):=fun e=>by have:=hold b _ hat;rw [e] at this;exact absurd this (by show ¬ h.clk+1+1 < h.clk;omega)
  refine st_appS (z:=1) (m:=8) (h0:=h.clk) (l:=[]) (rows:=l.map iv) (v:=.slc (h.clk+1+1,5) 1 0 0) (G0:=(h.tick (h.clk+1+1+1)).put (h.clk+1+1,5) (some ⟨1,[]⟩)) (n:=h.clk+1+1+1) (by intro h id x y;simp only[go_sem] <;> rfl) (by first|(simp only[go_sem];done)|(simp only[go_sem];rfl)) ?_ rfl (by decide) (.inr ⟨(h.clk+1+1,5),rfl,put_same _ _ _,by show h.clk≤h.clk+1+1;omega,by show h.clk+1+1 < h.clk+1+1+1;omega⟩) (fun _ _ _=>rfl) (Nat.le_refl _) (by simp only[length_map,List.length_nil,big];omega) (by omega) (by omega) ?_
  · simp only[go_sem,hbn,↓reduceIte,hat]
    simp only[Option.bind_some,↓reduceIte,Nat.zero_add,if_pos hle,List.drop_zero,ht]
  intro v' G hA
  have hnv:=hA.sl.noL
  repeat' (first|refine st_op ?_|refine st_det rfl (by simp (disch:=omega) only[go_sem,wr_i64,if_yes,if_no,↓reduceIte,reduceAdd,reduceMul,reduceEqDiff,Nat.reduceBEq,reduceLeDiff];rfl) ?_|refine st_nil ?_|refine st_ret ?_)
  simp (disch:=omega) only[AEnd,Tryz.results60,aresK,fin,go_sem,↓reduceIte,reduceEqDiff,reduceAdd,reduceLeDiff,if_yes,if_no,implies_true,true_and,and_true,List.reverse_cons,List.reverse_nil]
  refine ⟨hnv,fun b' hb'=>?_,hA.lp,?_⟩
  · show G.at_ b'=_
    rw [hA.old b' hb',put_ne _ _ (fun e=>by rw [e] at hb';exact absurd hb' (by show ¬ h.clk+1+1 < h.clk;omega))];rfl
  · rcases hA.sl with ⟨_,e⟩|⟨b2,rfl,q1,q2,q3⟩
    · simp at e;exact absurd e h0
    · refine .inr ⟨b2,_,q2,q1,?_⟩
      simp only[frz,List.nil_append,List.drop_zero,Nat.zero_add,and_self,if_true,Nat.le_refl,List.take_length]
end Go.Proofs.YtaijkalhkgjakaaGreatDoor

namespace Go.Proofs.YtaijkalhkgjakaaGreatDoor
open Go.Av
def fitAt (fits:List (List Bool)) (i k:Nat):Bool:=(fits.getD i []).getD k false
def spare (l:List Int):Nat:=l.countP (fun x=>decide (x < 0))
def tryM (fits:List (List Bool)) (D:Nat):Nat→List Int→Nat→List Int × Nat→List Int × Nat
  | 0,_,_,st=>st
  | f+1,l,z,st =>
    if st.2≤z then st else if l.length=D then (l,z) else
    tryM fits D f (l ++ [-1]) (z+1) ((List.range fits.length).foldl (fun st i=>if fitAt fits i l.length && !l.contains (i:Int) then tryM fits D f (l ++ [(i:Int)]) z st else st) st)
end Go.Proofs.YtaijkalhkgjakaaGreatDoor
