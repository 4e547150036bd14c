/- Contracts of functions that the claim reaches: what each call gives, told in our own logic. Conditions: those of each theorem. -/
import Derived.Test.YtaijkalhkgjakaaDoorG51
import Derived.Test.YtaijkalhkgjakaaDoorG22
import Derived.Test.YtaijkalhkgjakaaDoorG27
open Nat (reduceAdd reduceMul reduceEqDiff reduceLeDiff)
open List (length_map)
set_option linter.all false
set_option linter.unusedSimpArgs false
set_option linter.unusedVariables false
namespace Go.Proofs.YtaijkalhkgjakaaDoor
open Go.Av
attribute [local irreducible] thenA blockA awp awpOps awpD awp1
set_option maxHeartbeats 8000000
set_option maxRecDepth 20000
def rowA (m:List Int):List AV:=[.lst 1 (m.map iv)]
theorem flatMap_len {α β:Type} {g:α→List β} {B:Nat}:∀ (l:List α),(∀ x ∈ l,(g x).length≤B)→(l.flatMap g).length≤l.length * B:=by
  intro l
  induction l with
  | nil=>intro _;simp
  | cons x l ih =>
    intro h
    have:=ih fun y hy=>h y (by simp [hy])
    have:=h x (by simp)
    simp only[List.flatMap_cons,List.length_append,List.length_cons,Nat.add_mul,Nat.one_mul]
    omega
theorem allM_len {fits:List (List Bool)} {D:Nat}:∀ (f:Nat) (l:List Int),(allM fits D f l).length≤(fits.length+1) ^ f:=by
  intro f
  induction f with
  | zero=>intro l;simp [allM]
  | succ f ih =>
    intro l
    simp only[allM]
    split
    · simp only[List.length_singleton];exact Nat.one_le_pow _ _ (Nat.succ_pos _)
    · rw [List.length_append]
      have h1:=flatMap_len (g:=fun i=>if fitAt fits i l.length && !l.contains (i:Int) then allM fits D f (l ++ [(i:Int)]) else []) (B:=(fits.length+1) ^ f) (List.range fits.length) (fun i _=>by
        split
        · exact ih _
        · simp)
      rw [List.length_range] at h1
      have h2:=ih (l ++ [-1])
      rw [Nat.pow_succ,Nat.mul_add,Nat.mul_one,Nat.mul_comm ((fits.length+1) ^ f)]
      omega
def subM (fits:List (List Bool)) (D f:Nat) (l:List Int) (i:Nat):List (List Int):=if fitAt fits i l.length && !l.contains (i:Int) then allM fits D f (l ++ [(i:Int)]) else []
def outM (fits:List (List Bool)) (D f:Nat) (l:List Int) (out:List (List Int)) (i:Nat):List (List Int):=out ++ (List.range i).flatMap (subM fits D f l)
theorem outM_succ (fits:List (List Bool)) (D f:Nat) (l:List Int) (out:List (List Int)) (i:Nat):outM fits D f l out (i+1)=outM fits D f l out i ++ subM fits D f l i:=by
  unfold outM;rw [List.range_succ,List.flatMap_append];simp
theorem outM_len {fits:List (List Bool)} {D f:Nat} {l:List Int} {out:List (List Int)} {i:Nat} (hi:i≤fits.length):(outM fits D f l out i).length≤out.length+fits.length * (fits.length+1) ^ f:=by
  unfold outM
  rw [List.length_append]
  have h1:=flatMap_len (g:=subM fits D f l) (B:=(fits.length+1) ^ f) (List.range i) (fun j _=>by
    unfold subM;split
    · exact allM_len _ _
    · simp)
  rw [List.length_range] at h1
  have:i * (fits.length+1) ^ f≤fits.length * (fits.length+1) ^ f:=Nat.mul_le_mul_right _ hi
  omega
structure MaS where
  i:Nat
  v:AV
  g:AH
theorem tBvs (l:List (List Bool)):Still (.lst 1 (l.map bvs)):=Still.lst fun r hr x hx=>by
  obtain ⟨y,_,rfl⟩:=List.mem_map.1 hr
  simp only[bvs,List.mem_cons,List.not_mem_nil,or_false] at hx
  subst hx
  exact Still.lst fun r hr x hx=>by
    obtain ⟨y,_,rfl⟩:=List.mem_map.1 hr
    simp only[bv,List.mem_cons,List.not_mem_nil,or_false] at hx
    subst hx;exact fun _ _=>rfl
theorem bvs_get {l:List (List Bool)} {i:Nat} (h:i < l.length):(l.map bvs).getD i []=[.lst 1 ((l.getD i []).map bv)]:=by
  simp [List.getD_eq_getElem?_getD,h,bvs]
theorem slA_frz' {c0:Nat} {g:AH} {v:AV} {z:Nat} {l:List (List AV)} {b:Bid} {k:Blk} (hS:SlA c0 g v z l) (hb:g.clk≤b.1):frz b k v=v:=by
  rcases hS with ⟨rfl,_⟩|⟨b1,rfl,_,_,h4⟩
  · rfl
  · simp only[frz];rw [if_neg (fun q=>by have:=q.1;rw [this] at h4;omega)]
theorem frz_m (fits:List (List Bool)) (D:Int) (m:List Int) {n:Nat} (hn:m.length=n) (b:Bid) {v:AV} (hv:frz b ⟨1,m.map iv⟩ v=v):[.lst 1 (fits.map bvs),.int .i64 D,.lst 1 (m.map iv),v]=frzs b ⟨1,m.map iv⟩ [.lst 1 (fits.map bvs),.int .i64 D,.slc b 1 0 n,v]:=by
  subst hn
  have e:=frz_lst (b:=b) (z:=1) (l:=m.map iv)
  rw [length_map] at e
  show _=[frz b _ (.lst 1 (fits.map bvs)),.int .i64 D,frz b _ (.slc b 1 0 m.length),frz b _ v]
  rw [e,hv,tBvs fits]
def W33 (fits:List (List Bool)) (D f:Nat) (l:List Int):Prop:=∀ (c0:Nat) (out:List (List Int)) (v:AV) (h:AH),SlA c0 h v 1 (out.map rowA)→c0≤h.clk→out.length+(fits.length+1) ^ f≤100000 →
  ACalls Tryd.prog 33 [.lst 1 (fits.map bvs),.int .i64 (D:Nat),.lst 1 (l.map iv),v] h (fun r g=>SlA c0 g r 1 ((out ++ allM fits D f l).map rowA)∧(∀ b:Bid,b.1 < c0→g.at_ b=h.at_ b)∧g.lp=h.lp∧h.clk≤g.clk)
theorem c33 (fits:List (List Bool)) (D:Nat) (hD:D≤1000) (hF:fits.length≤1000) (hrl:∀ i,i < fits.length→(fits.getD i []).length=D):∀ (f:Nat) (l:List Int),l.length≤D→D < l.length+f→W33 fits D f l:=by
  intro f
  induction f with
  | zero=>intro l h1 h2;omega
  | succ f ih =>
    intro l hlD hDf c0 out v h hS hc0 hsz
    have hnv:=hS.noL
    have hp1:1≤(fits.length+1) ^ (f+1):=Nat.one_le_pow _ _ (Nat.succ_pos _)
    refine ACalls.of tab mixed Tryd.call33 Tryd.func33 rfl (fi:=⟨58,[],[18,45,54],none,[]⟩) rfl rfl (Nat.le_of_ble_eq_true rfl) (by decide) ?_
    unfold startA
    try simp only[go_sem]
    by_cases hl:l.length=D
    · have ea:allM fits D (f+1) l=[l]:=by rw [allM,if_pos hl]
      repeat' (first|refine st_seq_reg rfl (by first|(simp only[go_sem,length_map,hnv];rfl)|rfl) (by first|(simp only[go_sem,length_map,hnv];rfl)|rfl) ?_|refine st_op ?_|refine st_det rfl (by simp (disch:=omega) only[go_sem,wr_i64,if_yes,if_no,↓reduceIte,reduceAdd,reduceMul,reduceEqDiff,Nat.reduceBEq,reduceLeDiff,length_map,hnv];rfl) ?_|(refine st_appS (by intro h id x y;simp only[go_sem];rfl) rfl (by simp only[go_sem,length_map,hnv];rfl) (by first|(simp only[go_sem,length_map,hnv];rfl)|rfl) (by decide) hS (fun _ _ _=>rfl) (by omega) (by simp only[length_map,List.length_cons,List.length_nil,big,length_map,hnv];omega) (by omega) (by omega) ?_;intro v' g' hA)|(refine st_condS rfl ?_ ?_ <;> intro hg <;> (try simp only[decide_eq_true_eq,decide_eq_false_iff_not,Bool.not_eq_true',Bool.not_eq_false'] at hg))|refine st_nil ?_|refine st_tN ?_|refine st_seq ?_|refine st_block ?_|refine st_skip ?_|refine st_ret ?_|refine st_tR ?_)
      all_goals try (exfalso;omega)
      have hnv2:=hA.nol
      repeat' (first|refine st_seq_reg rfl (by first|(simp only[go_sem,hnv2];rfl)|rfl) (by first|(simp only[go_sem,hnv2];rfl)|rfl) ?_)
      simp (disch:=omega) only[AEnd,Tryd.results33,aresK,fin,go_sem,↓reduceIte,reduceEqDiff,reduceAdd,reduceLeDiff,if_yes,if_no,implies_true,true_and,and_true,List.reverse_cons,List.reverse_nil]
      refine ⟨hnv2,?_,hA.old,hA.lp,by omega⟩
      rw [ea,List.map_append]
      exact hA.sl.to (fun _ _ _ _ _=>rfl) (by (try simp only[go_sem]);omega)
    · have e0:outM fits D f l out 0=out:=by unfold outM;simp
      have hpow:(fits.length+1) ^ (f+1)=fits.length * (fits.length+1) ^ f+(fits.length+1) ^ f:=by rw [Nat.pow_succ,Nat.mul_add,Nat.mul_one,Nat.mul_comm ((fits.length+1) ^ f)]
      repeat' (first|refine st_seq_reg rfl (by first|(simp only[go_sem,length_map,hnv];rfl)|rfl) (by first|(simp only[go_sem,length_map,hnv];rfl)|rfl) ?_|refine st_op ?_|refine st_det rfl (by simp (disch:=omega) only[go_sem,wr_i64,if_yes,if_no,↓reduceIte,reduceAdd,reduceMul,reduceEqDiff,Nat.reduceBEq,reduceLeDiff,length_map,hnv];rfl) ?_|(refine st_condS rfl ?_ ?_ <;> intro hg <;> (try simp only[decide_eq_true_eq,decide_eq_false_iff_not,Bool.not_eq_true',Bool.not_eq_false'] at hg))|refine st_nil ?_|refine st_tN ?_|refine st_seq ?_|refine st_block ?_|refine st_skip ?_)
      all_goals try (exfalso;omega)
      refine st_loopH (α:=MaS) tab mixed [] [] (by repeat (first|exact trivial|refine ⟨rfl,?_⟩)) [] [] (by repeat (first|exact trivial|refine ⟨rfl,?_⟩)) (fun a=>[(10,.int .i64 (a.i:Nat)),(3,a.v)]) [(0,_),(1,_),(2,_),(8,_),(9,_)] (fun _=>[]) [] (fun a=>a.g) (fun a=>a.i≤fits.length∧SlA c0 a.g a.v 1 ((outM fits D f l out a.i).map rowA)∧(∀ b:Bid,b.1 < c0→a.g.at_ b=h.at_ b)∧a.g.lp=h.lp∧h.clk≤a.g.clk) (fun a=>fits.length - a.i) (by decide) ⟨0,v,_⟩ (by refine ⟨Nat.zero_le _,by rw [e0];exact hS.to (fun _ _ _ _ _=>rfl) (by (try simp only[go_sem]);omega),fun _ _=>rfl,rfl,by (try simp only[go_sem]);omega⟩) (by (try simp only[go_sem]);repeat' (first|exact trivial|refine And.intro ?_ ?_|rfl|(simp (disch:=omega) only[go_sem,if_yes,if_no,↓reduceIte,reduceAdd,reduceMul,reduceEqDiff,Nat.reduceBEq,reduceLeDiff];rfl)|(simp (disch:=omega) only[go_sem,if_yes,if_no,↓reduceIte,reduceAdd,reduceMul,reduceEqDiff,Nat.reduceBEq,reduceLeDiff]))) (by (try simp only[go_sem]);repeat' (first|exact trivial|refine And.intro ?_ ?_|rfl|(simp (disch:=omega) only[go_sem,if_yes,if_no,↓reduceIte,reduceAdd,reduceMul,reduceEqDiff,Nat.reduceBEq,reduceLeDiff];rfl)|(simp (disch:=omega) only[go_sem,if_yes,if_no,↓reduceIte,reduceAdd,reduceMul,reduceEqDiff,Nat.reduceBEq,reduceLeDiff]))) (HOld.refl _) ?_
      rintro ⟨i,v2,g⟩ c ⟨hi,hS2,hk1,hk2,hk3⟩ hc
      dsimp only at hi hS2 hk1 hk2 hk3 hc
      have hnv2:=hS2.noL
      have hol:=outM_len (D:=D) (f:=f) (l:=l) (out:=out) hi
      simp only[go_sem]
      by_cases hil:i < fits.length
      case neg =>
        have ei:i=fits.length:=by omega
        subst ei
        have htk:List.take l.length (l.map iv) ++ [[.int .i64 (-1)]]=(l ++ [-1]).map iv:=by rw [List.take_of_length_le (by simp),List.map_append];rfl
        repeat' (first|refine st_seq_reg rfl (by first|(simp only[go_sem,length_map,hnv2,big,Nat.zero_add,htk];rfl)|rfl) (by first|(simp only[go_sem,length_map,hnv2,big,Nat.zero_add,htk];rfl)|rfl) ?_|refine st_reg rfl (by first|(simp only[go_sem,length_map,hnv2,big,Nat.zero_add,htk];rfl)|rfl) (by first|(simp only[go_sem,length_map,hnv2,big,Nat.zero_add,htk];rfl)|rfl) ?_|refine st_op ?_|refine st_det rfl (by simp (disch:=omega) only[go_sem,wr_i64,if_yes,if_no,↓reduceIte,reduceAdd,reduceMul,reduceEqDiff,Nat.reduceBEq,reduceLeDiff,length_map,hnv2,big,Nat.zero_add,htk];rfl) ?_|refine st_heap rfl (by simp (disch:=omega) only[go_sem,wr_i64,if_yes,if_no,↓reduceIte,reduceAdd,reduceMul,reduceEqDiff,Nat.reduceBEq,reduceLeDiff,length_map,hnv2,big,Nat.zero_add,htk];rfl) ?_|refine st_append (by simp (disch:=omega) only[go_sem,wr_i64,if_yes,if_no,↓reduceIte,reduceAdd,reduceMul,reduceEqDiff,Nat.reduceBEq,reduceLeDiff,length_map,hnv2,big,Nat.zero_add,htk];rfl) ?_|refine st_gT rfl rfl rfl ?_|refine st_gF rfl rfl rfl ?_|(refine st_gS rfl rfl ?_ ?_ <;> intro hg <;> (try simp only[decide_eq_true_eq,decide_eq_false_iff_not,Bool.not_eq_true',Bool.not_eq_false'] at hg))|refine st_condF rfl ?_|(refine st_condS rfl ?_ ?_ <;> intro hg <;> (try simp only[decide_eq_true_eq,decide_eq_false_iff_not,Bool.not_eq_true',Bool.not_eq_false'] at hg))|refine st_nil ?_|refine st_tN ?_|refine st_seq ?_|refine st_block ?_|refine st_skip ?_|refine st_exit ?_|refine st_tE ?_|refine st_bN ?_|refine st_bH ?_)
        all_goals try (exfalso;omega)
        have hne:∀ (bb:Bid) d,bb.1 < g.clk→bb ≠ (c+1,d):=fun bb d q e=>by rw [e] at q;dsimp only at q;omega
        have hput1:∀ bb:Bid,bb.1 < g.clk→(((((g.tick (c+1+1)).put (c+1,51) none).put (c+1,53) none).put (c+1,55) (some ⟨1,(l ++ [-1]).map iv⟩)).put (c+1,55) none).at_ bb=g.at_ bb:=fun bb q=>by
          rw [put_ne _ _ (hne bb _ q),put_ne _ _ (hne bb _ q),put_ne _ _ (hne bb _ q),put_ne _ _ (hne bb _ q)];rfl
        have ea:outM fits D f l out fits.length ++ allM fits D f (l ++ [-1])=out ++ allM fits D (f+1) l:=by
          rw [allM,if_neg hl,outM,List.append_assoc];rfl
        repeat' (first|refine st_op ?_|refine st_det rfl (by simp (disch:=omega) only[go_sem,wr_i64,if_yes,if_no,↓reduceIte,reduceAdd,reduceMul,reduceEqDiff,Nat.reduceBEq,reduceLeDiff];rfl) ?_|(refine st_callf (args:=[.lst 1 (fits.map bvs),.int .i64 (D:Nat),.slc (c+1,55) 1 0 (l.length+1),v2]) rfl (by show (true && (true && (true && (noL v2 && true))))=true;rw [hnv2];rfl) (ACalls.frzIn (b:=(c+1,55)) (k:=⟨1,(l ++ [-1]).map iv⟩) (put_same _ _ _) (frz_m fits D (l ++ [-1]) (by simp) (c+1,55) (slA_frz' hS2 (by dsimp only;omega))) (ih (l ++ [-1]) (by simp;omega) (by simp;omega) c0 _ v2 _ (hS2.to (fun bb m e q1 q2=>hput1 bb q2) (by (try simp only[go_sem]);omega)) (by (try simp only[go_sem]);omega) (by omega))) ?_;rintro r g3 ⟨z1,z2,z3,z4⟩)|refine st_nil ?_|refine st_ret ?_)
        have hnr:=z1.noL
        repeat' (first|refine st_seq_reg rfl (by first|(simp only[go_sem,hnr];rfl)|rfl) (by first|(simp only[go_sem,hnr];rfl)|rfl) ?_)
        simp (disch:=omega) only[AEnd,Tryd.results33,aresK,fin,go_sem,↓reduceIte,reduceEqDiff,reduceAdd,reduceLeDiff,if_yes,if_no,implies_true,true_and,and_true,List.reverse_cons,List.reverse_nil]
        have z4':c+1+1≤g3.clk:=z4
        refine ⟨hnr,?_,fun bb q=>?_,?_,by omega⟩
        · rw [← ea];exact z1.to (fun _ _ _ _ _=>rfl) (by (try simp only[go_sem]);omega)
        · exact (z2 bb q).trans ((hput1 bb (by omega)).trans (hk1 bb q))
        · exact z3.trans hk2
      have hr:=hrl i hil
      have hbg:=bvs_get (l:=fits) hil
      have hbb:l.length < (fits.getD i []).length:=by omega
      have k82:=c82 l (i:Nat) (by omega)
      have hfa:(fits.getD i []).getD l.length false=fitAt fits i l.length:=rfl
      by_cases hgo:fitAt fits i l.length=true∧l.contains (i:Int)=false
      case neg =>
        have hsub:subM fits D f l i=[]:=by
          unfold subM
          rw [if_neg]
          intro q
          simp only[Bool.and_eq_true,Bool.not_eq_true'] at q
          exact hgo q
        have hox:outM fits D f l out (i+1)=outM fits D f l out i:=by rw [outM_succ,hsub,List.append_nil]
        cases hf0:fitAt fits i l.length with
        | false =>
          rw [hf0] at hfa
          repeat' (first|refine st_seq_reg rfl (by first|(simp only[go_sem,length_map,hnv2,hbg,hfa];rfl)|rfl) (by first|(simp only[go_sem,length_map,hnv2,hbg,hfa];rfl)|rfl) ?_|refine st_reg rfl (by first|(simp only[go_sem,length_map,hnv2,hbg,hfa];rfl)|rfl) (by first|(simp only[go_sem,length_map,hnv2,hbg,hfa];rfl)|rfl) ?_|refine st_op ?_|refine st_det rfl (by simp (disch:=omega) only[go_sem,wr_i64,if_yes,if_no,↓reduceIte,reduceAdd,reduceMul,reduceEqDiff,Nat.reduceBEq,reduceLeDiff,length_map,hnv2,hbg,hfa];rfl) ?_|refine st_heap rfl (by simp (disch:=omega) only[go_sem,wr_i64,if_yes,if_no,↓reduceIte,reduceAdd,reduceMul,reduceEqDiff,Nat.reduceBEq,reduceLeDiff,length_map,hnv2,hbg,hfa];rfl) ?_|refine st_append (by simp (disch:=omega) only[go_sem,wr_i64,if_yes,if_no,↓reduceIte,reduceAdd,reduceMul,reduceEqDiff,Nat.reduceBEq,reduceLeDiff,length_map,hnv2,hbg,hfa];rfl) ?_|refine st_gF rfl rfl rfl ?_|refine st_condF rfl ?_|(refine st_condS rfl ?_ ?_ <;> intro hg <;> (try simp only[decide_eq_true_eq,decide_eq_false_iff_not,Bool.not_eq_true',Bool.not_eq_false'] at hg))|refine st_nil ?_|refine st_tN ?_|refine st_seq ?_|refine st_block ?_|refine st_skip ?_|refine st_exit ?_|refine st_tE ?_|refine st_bN ?_|refine st_bH ?_)
          all_goals try (exfalso;omega)
          refine ⟨⟨i+1,v2,_⟩,(by refine ⟨by show i+1≤_;omega,by rw [hox];exact hS2.to (fun _ _ _ _ _=>rfl) (by (try simp only[go_sem]);omega),hk1,hk2,by (try simp only[go_sem]);omega⟩),(by show fits.length - (i+1) < fits.length - i;omega),(by repeat' (first|exact trivial|refine And.intro ?_ ?_|rfl|(simp (disch:=omega) only[go_sem,if_yes,if_no,↓reduceIte,reduceAdd,reduceMul,reduceEqDiff,Nat.reduceBEq,reduceLeDiff];rfl)|(simp (disch:=omega) only[go_sem,if_yes,if_no,↓reduceIte,reduceAdd,reduceMul,reduceEqDiff,Nat.reduceBEq,reduceLeDiff]))),(by repeat' (first|exact trivial|refine And.intro ?_ ?_|rfl|(simp (disch:=omega) only[go_sem,if_yes,if_no,↓reduceIte,reduceAdd,reduceMul,reduceEqDiff,Nat.reduceBEq,reduceLeDiff];rfl)|(simp (disch:=omega) only[go_sem,if_yes,if_no,↓reduceIte,reduceAdd,reduceMul,reduceEqDiff,Nat.reduceBEq,reduceLeDiff]))),rfl,HOld.refl _⟩
        | true =>
          have hc1:l.contains (i:Int)=true:=by
            cases q:l.contains (i:Int) with
            | true=>rfl
            | false=>exact absurd ⟨hf0,q⟩ hgo
          rw [hf0] at hfa
          rw [hc1] at k82
          repeat' (first|refine st_seq_reg rfl (by first|(simp only[go_sem,length_map,hnv2,hbg,hfa];rfl)|rfl) (by first|(simp only[go_sem,length_map,hnv2,hbg,hfa];rfl)|rfl) ?_|refine st_reg rfl (by first|(simp only[go_sem,length_map,hnv2,hbg,hfa];rfl)|rfl) (by first|(simp only[go_sem,length_map,hnv2,hbg,hfa];rfl)|rfl) ?_|refine st_op ?_|refine st_det rfl (by simp (disch:=omega) only[go_sem,wr_i64,if_yes,if_no,↓reduceIte,reduceAdd,reduceMul,reduceEqDiff,Nat.reduceBEq,reduceLeDiff,length_map,hnv2,hbg,hfa];rfl) ?_|refine st_heap rfl (by simp (disch:=omega) only[go_sem,wr_i64,if_yes,if_no,↓reduceIte,reduceAdd,reduceMul,reduceEqDiff,Nat.reduceBEq,reduceLeDiff,length_map,hnv2,hbg,hfa];rfl) ?_|refine st_append (by simp (disch:=omega) only[go_sem,wr_i64,if_yes,if_no,↓reduceIte,reduceAdd,reduceMul,reduceEqDiff,Nat.reduceBEq,reduceLeDiff,length_map,hnv2,hbg,hfa];rfl) ?_|(refine st_pureE (by first|(simp (disch:=omega) only[go_sem,length_map,hnv2,hbg,hfa];rfl)|rfl) rfl (k82) (by first|(simp only[go_sem,length_map,hnv2,hbg,hfa];rfl)|rfl) (by intro n;first|(simp (disch:=omega) only[go_sem];rfl)|rfl) ?_;intro n hn)|refine st_gT rfl rfl rfl ?_|refine st_condF rfl ?_|(refine st_condS rfl ?_ ?_ <;> intro hg <;> (try simp only[decide_eq_true_eq,decide_eq_false_iff_not,Bool.not_eq_true',Bool.not_eq_false'] at hg))|refine st_nil ?_|refine st_tN ?_|refine st_seq ?_|refine st_block ?_|refine st_skip ?_|refine st_exit ?_|refine st_tE ?_|refine st_bN ?_|refine st_bH ?_)
          all_goals try (exfalso;omega)
          refine ⟨⟨i+1,v2,_⟩,(by refine ⟨by show i+1≤_;omega,by rw [hox];exact hS2.to (fun _ _ _ _ _=>rfl) (by (try simp only[go_sem]);omega),hk1,hk2,by (try simp only[go_sem]);omega⟩),(by show fits.length - (i+1) < fits.length - i;omega),(by repeat' (first|exact trivial|refine And.intro ?_ ?_|rfl|(simp (disch:=omega) only[go_sem,if_yes,if_no,↓reduceIte,reduceAdd,reduceMul,reduceEqDiff,Nat.reduceBEq,reduceLeDiff];rfl)|(simp (disch:=omega) only[go_sem,if_yes,if_no,↓reduceIte,reduceAdd,reduceMul,reduceEqDiff,Nat.reduceBEq,reduceLeDiff]))),(by repeat' (first|exact trivial|refine And.intro ?_ ?_|rfl|(simp (disch:=omega) only[go_sem,if_yes,if_no,↓reduceIte,reduceAdd,reduceMul,reduceEqDiff,Nat.reduceBEq,reduceLeDiff];rfl)|(simp (disch:=omega) only[go_sem,if_yes,if_no,↓reduceIte,reduceAdd,reduceMul,reduceEqDiff,Nat.reduceBEq,reduceLeDiff]))),rfl,HOld.refl _⟩
      obtain ⟨hg1,hg2⟩:=hgo
      have htk:List.take l.length (l.map iv) ++ [[.int .i64 (i:Nat)]]=(l ++ [(i:Int)]).map iv:=by rw [List.take_of_length_le (by simp),List.map_append];rfl
      rw [hg2] at k82
      rw [hg1] at hfa
      repeat' (first|refine st_seq_reg rfl (by first|(simp only[go_sem,length_map,hnv2,big,Nat.zero_add,htk,hbg,hfa];rfl)|rfl) (by first|(simp only[go_sem,length_map,hnv2,big,Nat.zero_add,htk,hbg,hfa];rfl)|rfl) ?_|refine st_reg rfl (by first|(simp only[go_sem,length_map,hnv2,big,Nat.zero_add,htk,hbg,hfa];rfl)|rfl) (by first|(simp only[go_sem,length_map,hnv2,big,Nat.zero_add,htk,hbg,hfa];rfl)|rfl) ?_|refine st_op ?_|refine st_det rfl (by simp (disch:=omega) only[go_sem,wr_i64,if_yes,if_no,↓reduceIte,reduceAdd,reduceMul,reduceEqDiff,Nat.reduceBEq,reduceLeDiff,length_map,hnv2,big,Nat.zero_add,htk,hbg,hfa];rfl) ?_|refine st_heap rfl (by simp (disch:=omega) only[go_sem,wr_i64,if_yes,if_no,↓reduceIte,reduceAdd,reduceMul,reduceEqDiff,Nat.reduceBEq,reduceLeDiff,length_map,hnv2,big,Nat.zero_add,htk,hbg,hfa];rfl) ?_|refine st_append (by simp (disch:=omega) only[go_sem,wr_i64,if_yes,if_no,↓reduceIte,reduceAdd,reduceMul,reduceEqDiff,Nat.reduceBEq,reduceLeDiff,length_map,hnv2,big,Nat.zero_add,htk,hbg,hfa];rfl) ?_|(refine st_pureE (by first|(simp (disch:=omega) only[go_sem,length_map,hnv2,big,Nat.zero_add,htk,hbg,hfa];rfl)|rfl) rfl (k82) (by first|(simp only[go_sem,length_map,hnv2,big,Nat.zero_add,htk,hbg,hfa];rfl)|rfl) (by intro n;first|(simp (disch:=omega) only[go_sem];rfl)|rfl) ?_;intro n hn)|refine st_gT rfl rfl rfl ?_|refine st_condT rfl ?_|(refine st_condS rfl ?_ ?_ <;> intro hg <;> (try simp only[decide_eq_true_eq,decide_eq_false_iff_not,Bool.not_eq_true',Bool.not_eq_false'] at hg))|refine st_nil ?_|refine st_tN ?_|refine st_seq ?_|refine st_block ?_|refine st_skip ?_|refine st_exit ?_|refine st_tE ?_|refine st_bH ?_)
      all_goals try (exfalso;omega)
      have hne:∀ (bb:Bid) d,bb.1 < g.clk→bb ≠ (n,d):=fun bb d q e=>by rw [e] at q;dsimp only at q;omega
      have hput2:∀ bb:Bid,bb.1 < g.clk→(((((g.tick (n+1)).put (n,41) none).put (n,43) none).put (n,46) (some ⟨1,(l ++ [(i:Int)]).map iv⟩)).put (n,46) none).at_ bb=g.at_ bb:=fun bb q=>by
        rw [put_ne _ _ (hne bb _ q),put_ne _ _ (hne bb _ q),put_ne _ _ (hne bb _ q),put_ne _ _ (hne bb _ q)];rfl
      have hsub:subM fits D f l i=allM fits D f (l ++ [(i:Int)]):=by
        unfold subM;rw [hg1,hg2];rfl
      repeat' (first|refine st_reg rfl (by first|(simp only[go_sem];rfl)|rfl) (by first|(simp only[go_sem];rfl)|rfl) ?_|refine st_op ?_|refine st_det rfl (by simp (disch:=omega) only[go_sem,wr_i64,if_yes,if_no,↓reduceIte,reduceAdd,reduceMul,reduceEqDiff,Nat.reduceBEq,reduceLeDiff];rfl) ?_|(refine st_callf (args:=[.lst 1 (fits.map bvs),.int .i64 (D:Nat),.slc (n,46) 1 0 (l.length+1),v2]) rfl (by show (true && (true && (true && (noL v2 && true))))=true;rw [hnv2];rfl) (ACalls.frzIn (b:=(n,46)) (k:=⟨1,(l ++ [(i:Int)]).map iv⟩) (put_same _ _ _) (frz_m fits D (l ++ [(i:Int)]) (by simp) (n,46) (slA_frz' hS2 (by dsimp only;omega))) (ih (l ++ [(i:Int)]) (by simp;omega) (by simp;omega) c0 _ v2 _ (hS2.to (fun bb m e q1 q2=>hput2 bb q2) (by (try simp only[go_sem]);omega)) (by (try simp only[go_sem]);omega) (by omega))) ?_;rintro r g3 ⟨z1,z2,z3,z4⟩)|refine st_nil ?_|refine st_tN ?_|refine st_bN ?_)
      have hnr:=z1.noL
      have z4':n+1≤g3.clk:=z4
      repeat' (first|refine st_seq_reg rfl (by first|(simp only[go_sem,hnr];rfl)|rfl) (by first|(simp only[go_sem,hnr];rfl)|rfl) ?_)
      all_goals try (exfalso;omega)
      refine ⟨⟨i+1,r,_⟩,(by refine ⟨by show i+1≤_;omega,by rw [outM_succ,hsub];exact z1.to (fun _ _ _ _ _=>rfl) (by (try simp only[go_sem]);omega),fun bb q=>(z2 bb q).trans ((hput2 bb (by omega)).trans (hk1 bb q)),z3.trans hk2,by (try simp only[go_sem]);omega⟩),(by show fits.length - (i+1) < fits.length - i;omega),(by repeat' (first|exact trivial|refine And.intro ?_ ?_|rfl|(simp (disch:=omega) only[go_sem,if_yes,if_no,↓reduceIte,reduceAdd,reduceMul,reduceEqDiff,Nat.reduceBEq,reduceLeDiff];rfl)|(simp (disch:=omega) only[go_sem,if_yes,if_no,↓reduceIte,reduceAdd,reduceMul,reduceEqDiff,Nat.reduceBEq,reduceLeDiff]))),(by repeat' (first|exact trivial|refine And.intro ?_ ?_|rfl|(simp (disch:=omega) only[go_sem,if_yes,if_no,↓reduceIte,reduceAdd,reduceMul,reduceEqDiff,Nat.reduceBEq,reduceLeDiff];rfl)|(simp (disch:=omega) only[go_sem,if_yes,if_no,↓reduceIte,reduceAdd,reduceMul,reduceEqDiff,Nat.reduceBEq,reduceLeDiff]))),rfl,HOld.refl _⟩
theorem c83 (f:Fl) (hf:(f.loads.length:Int) < 1000000):Pure Tryd.prog 83 [f.av] (fun v=>v=f.av):=by
  refine Pure.give Tryd.call83 fun h hold=>?_
  refine ACalls.of tab mixed Tryd.call83 Tryd.func83 rfl (fi:=⟨9,[1,2],[],none,[]⟩) rfl rfl (Nat.le_of_ble_eq_true rfl) (by decide) ?_
  unfold startA
  try simp only[go_sem]
  repeat' (first|refine st_seq_reg rfl (by first|(simp only[go_sem,length_map,big,Nat.zero_add];rfl)|rfl) (by first|(simp only[go_sem,length_map,big,Nat.zero_add];rfl)|rfl) ?_|refine st_op ?_|refine st_det rfl (by simp (disch:=omega) only[go_sem,wr_i64,if_yes,if_no,↓reduceIte,reduceAdd,reduceMul,reduceEqDiff,Nat.reduceBEq,reduceLeDiff,length_map,big,Nat.zero_add];rfl) ?_|refine st_loc rfl (by simp (disch:=omega) only[go_sem,wr_i64,if_yes,if_no,↓reduceIte,reduceAdd,reduceMul,reduceEqDiff,Nat.reduceBEq,reduceLeDiff,length_map,big,Nat.zero_add];rfl) ?_|refine st_heap rfl (by simp (disch:=omega) only[go_sem,wr_i64,if_yes,if_no,↓reduceIte,reduceAdd,reduceMul,reduceEqDiff,Nat.reduceBEq,reduceLeDiff,length_map,big,Nat.zero_add];rfl) ?_|refine st_store (by simp (disch:=omega) only[go_sem,wr_i64,if_yes,if_no,↓reduceIte,reduceAdd,reduceMul,reduceEqDiff,Nat.reduceBEq,reduceLeDiff,length_map,big,Nat.zero_add];rfl) ?_|refine st_append (by simp (disch:=omega) only[go_sem,wr_i64,if_yes,if_no,↓reduceIte,reduceAdd,reduceMul,reduceEqDiff,Nat.reduceBEq,reduceLeDiff,length_map,big,Nat.zero_add];rfl) ?_|refine st_nil ?_|refine st_ret ?_)
  simp (disch:=omega) only[AEnd,Tryd.results83,aresK,fin,go_sem,↓reduceIte,reduceEqDiff,reduceAdd,reduceLeDiff,if_yes,if_no,implies_true,true_and,and_true,List.reverse_cons,List.reverse_nil]
  refine ⟨fun b' q=>?_,.inr ⟨(h.clk+1,6),⟨7,f.loads.map Ld.row⟩,by show h.clk≤h.clk+1;omega,if_pos rfl,?_⟩⟩
  · repeat' split
    all_goals first|rfl|(rename_i e;exfalso;rw [e] at q;exact absurd q (by show ¬ h.clk+1 < h.clk;omega))|(rename_i e _;exfalso;rw [e] at q;exact absurd q (by show ¬ h.clk+1 < h.clk;omega))
  · have e:=frz_lst (b:=(h.clk+1,6)) (z:=7) (l:=f.loads.map Ld.row)
    rw [length_map] at e
    simp only[frz,frzs]
    simp only[frz] at e
    rw [e]
theorem c36h (l:List Fl) (hl:(l.length:Int) < 1000) (hlo:∀ f ∈ l,(f.loads.length:Int) < 1000000) (h:AH):ACalls Tryd.prog 36 [.lst 9 (l.map Fl.row)] h (fun v g=>SlA h.clk g v 9 (l.map Fl.row)∧(∀ b:Bid,b.1 < h.clk→g.at_ b=h.at_ b)∧g.lp=h.lp∧h.clk≤g.clk):=by
  refine ACalls.of tab mixed Tryd.call36 Tryd.func36 rfl (fi:=⟨20,[],[17],none,[]⟩) rfl rfl (Nat.le_of_ble_eq_true rfl) (by decide) ?_
  unfold startA
  try simp only[go_sem]
  repeat' (first|refine st_seq_reg rfl (by first|(simp only[go_sem];rfl)|rfl) (by first|(simp only[go_sem];rfl)|rfl) ?_|refine st_op ?_|refine st_det rfl (by simp (disch:=omega) only[go_sem,wr_i64,if_yes,if_no,↓reduceIte,reduceAdd,reduceMul,reduceEqDiff,Nat.reduceBEq,reduceLeDiff];rfl) ?_|refine st_nil ?_|refine st_seq ?_|refine st_block ?_)
  refine st_loopH (α:=MaS) tab mixed [] [] (by repeat (first|exact trivial|refine ⟨rfl,?_⟩)) [] [] (by repeat (first|exact trivial|refine ⟨rfl,?_⟩)) (fun a=>[(4,.int .i64 (a.i:Nat)),(3,a.v)]) [(0,_),(2,_)] (fun _=>[]) [] (fun a=>a.g) (fun a=>a.i≤l.length∧SlA h.clk a.g a.v 9 ((l.take a.i).map Fl.row)∧(∀ b:Bid,b.1 < h.clk→a.g.at_ b=h.at_ b)∧a.g.lp=h.lp∧h.clk≤a.g.clk) (fun a=>l.length - a.i) (by decide) ⟨0,.nils,_⟩ (by exact ⟨Nat.zero_le _,.inl ⟨rfl,rfl⟩,fun _ _=>rfl,rfl,by (try simp only[go_sem]);omega⟩) (by (try simp only[go_sem]);repeat' (first|exact trivial|refine And.intro ?_ ?_|rfl|(simp (disch:=omega) only[go_sem,if_yes,if_no,↓reduceIte,reduceAdd,reduceMul,reduceEqDiff,Nat.reduceBEq,reduceLeDiff];rfl)|(simp (disch:=omega) only[go_sem,if_yes,if_no,↓reduceIte,reduceAdd,reduceMul,reduceEqDiff,Nat.reduceBEq,reduceLeDiff]))) (by (try simp only[go_sem]);repeat' (first|exact trivial|refine And.intro ?_ ?_|rfl|(simp (disch:=omega) only[go_sem,if_yes,if_no,↓reduceIte,reduceAdd,reduceMul,reduceEqDiff,Nat.reduceBEq,reduceLeDiff];rfl)|(simp (disch:=omega) only[go_sem,if_yes,if_no,↓reduceIte,reduceAdd,reduceMul,reduceEqDiff,Nat.reduceBEq,reduceLeDiff]))) (HOld.refl _) ?_
  rintro ⟨i,v,g⟩ c ⟨hi,hS,hk1,hk2,hk3⟩ hc
  dsimp only at hi hS hk1 hk2 hk3 hc
  have hnv:=hS.noL
  simp only[go_sem]
  by_cases hil:i < l.length
  case neg =>
    have ei:i=l.length:=by omega
    subst ei
    rw [List.take_length] at hS
    repeat' (first|refine st_seq_reg rfl (by first|(simp only[go_sem,length_map,hnv];rfl)|rfl) (by first|(simp only[go_sem,length_map,hnv];rfl)|rfl) ?_|refine st_reg rfl (by first|(simp only[go_sem,length_map,hnv];rfl)|rfl) (by first|(simp only[go_sem,length_map,hnv];rfl)|rfl) ?_|refine st_op ?_|refine st_det rfl (by simp (disch:=omega) only[go_sem,wr_i64,if_yes,if_no,↓reduceIte,reduceAdd,reduceMul,reduceEqDiff,Nat.reduceBEq,reduceLeDiff,length_map,hnv];rfl) ?_|(refine st_condS rfl ?_ ?_ <;> intro hg <;> (try simp only[decide_eq_true_eq,decide_eq_false_iff_not,Bool.not_eq_true',Bool.not_eq_false'] at hg))|refine st_nil ?_|refine st_tN ?_|refine st_seq ?_|refine st_block ?_|refine st_skip ?_|refine st_exit ?_|refine st_ret ?_|refine st_tE ?_|refine st_bH ?_)
    all_goals try (exfalso;omega)
    simp (disch:=omega) only[AEnd,Tryd.results36,aresK,fin,go_sem,↓reduceIte,reduceEqDiff,reduceAdd,reduceLeDiff,if_yes,if_no,implies_true,true_and,and_true,List.reverse_cons,List.reverse_nil]
    exact ⟨hnv,hS.to (fun _ _ _ _ _=>rfl) (by (try simp only[go_sem]);omega),hk1,hk2,by (try simp only[go_sem]);omega⟩
  have hg0:=fl_getD hil
  have htk:l.take (i+1)=l.take i ++ [fl l i]:=take_snoc hil
  have htl:(l.take i).length=i:=by rw [List.length_take];omega
  have k83:=c83 (fl l i) (hlo _ (fl_mem hil))
  repeat' (first|refine st_seq_reg rfl (by first|(simp only[go_sem,length_map,hnv,hg0,htl];rfl)|rfl) (by first|(simp only[go_sem,length_map,hnv,hg0,htl];rfl)|rfl) ?_|refine st_reg rfl (by first|(simp only[go_sem,length_map,hnv,hg0,htl];rfl)|rfl) (by first|(simp only[go_sem,length_map,hnv,hg0,htl];rfl)|rfl) ?_|refine st_op ?_|refine st_det rfl (by simp (disch:=omega) only[go_sem,wr_i64,if_yes,if_no,↓reduceIte,reduceAdd,reduceMul,reduceEqDiff,Nat.reduceBEq,reduceLeDiff,length_map,hnv,hg0,htl];rfl) ?_|(refine st_pureE (by first|(simp (disch:=omega) only[go_sem,length_map,hnv,hg0,htl];rfl)|rfl) rfl (k83) (by first|(simp only[go_sem,length_map,hnv,hg0,htl];rfl)|rfl) (by intro n;first|(simp (disch:=omega) only[go_sem];rfl)|rfl) ?_;intro n hn)|(refine st_appS (by intro h id x y;simp only[go_sem];rfl) rfl (by simp only[go_sem,length_map,hnv,hg0,htl];rfl) (by first|(simp only[go_sem,length_map,hnv,hg0,htl];rfl)|rfl) (by decide) hS (fun _ _ _=>rfl) (by omega) (by simp only[length_map,List.length_cons,List.length_nil,big,length_map,hnv,hg0,htl];omega) (by omega) (by omega) ?_;intro v' g' hA)|(refine st_condS rfl ?_ ?_ <;> intro hg <;> (try simp only[decide_eq_true_eq,decide_eq_false_iff_not,Bool.not_eq_true',Bool.not_eq_false'] at hg))|refine st_nil ?_|refine st_tN ?_|refine st_seq ?_|refine st_block ?_|refine st_skip ?_|refine st_exit ?_|refine st_ret ?_|refine st_tE ?_|refine st_bN ?_|refine st_bH ?_)
  all_goals try (exfalso;omega)
  have hnv2:=hA.nol
  repeat' (first|refine st_seq_reg rfl (by first|(simp only[go_sem,hnv2];rfl)|rfl) (by first|(simp only[go_sem,hnv2];rfl)|rfl) ?_)
  refine ⟨⟨i+1,v',_⟩,(by refine ⟨by show i+1≤_;omega,by rw [htk,List.map_append];exact hA.sl.to (fun _ _ _ _ _=>rfl) (by (try simp only[go_sem]);omega),fun bb q=>(hA.old bb q).trans (hk1 bb q),hA.lp.trans hk2,by (try simp only[go_sem]);omega⟩),(by show l.length - (i+1) < l.length - i;omega),(by repeat' (first|exact trivial|refine And.intro ?_ ?_|rfl|(simp (disch:=omega) only[go_sem,if_yes,if_no,↓reduceIte,reduceAdd,reduceMul,reduceEqDiff,Nat.reduceBEq,reduceLeDiff];rfl)|(simp (disch:=omega) only[go_sem,if_yes,if_no,↓reduceIte,reduceAdd,reduceMul,reduceEqDiff,Nat.reduceBEq,reduceLeDiff]))),(by repeat' (first|exact trivial|refine And.intro ?_ ?_|rfl|(simp (disch:=omega) only[go_sem,if_yes,if_no,↓reduceIte,reduceAdd,reduceMul,reduceEqDiff,Nat.reduceBEq,reduceLeDiff];rfl)|(simp (disch:=omega) only[go_sem,if_yes,if_no,↓reduceIte,reduceAdd,reduceMul,reduceEqDiff,Nat.reduceBEq,reduceLeDiff]))),rfl,HOld.refl _⟩
theorem _root_.Go.Av.Pure.le {P:Program} {f:FuncId} {args:List AV} {a b:AV} (H:Pure P f args (fun v=>v=a)) (h:VLe a b):Pure P f args (fun v=>v=b):=fun g =>
  ((H g).mono (Q':=fun v h'=>(∃ v',VLe v v'∧(Later g h'∧v'=b)) ∨ ∃ b2 k,h'.at_ b2=some k∧g.at_ b2=none∧(Later g (h'.put b2 none)∧frz b2 k v=b)) (fun v h' q=>.inl ⟨b,by rw [q.2];exact h,q.1,rfl⟩)).give
theorem c31m (r:List Hu) (fs:List Fl) (ds:List (List Ld)) (hf:(fs.length:Int) < 1000000) (hd:(ds.length:Int) < 1000000) (he:fitsE r fs ds=0) :
    Pure Tryd.prog 31 [.lst 9 (fs.map Fl.row),.lst 1 (ds.map dsR),.lst 3 (r.map Hu.row)] (fun v=>v=.tup [.lst 1 ((matchR (fitsD r fs ds) ds.length).1.map iv),.int .i64 0]):=by
  have h:=c31 r fs ds hf hd
  have e:matchV r fs ds=.tup [mAV (matchR (fitsD r fs ds) ds.length).1,.int .i64 0]:=by unfold matchV;rw [if_neg (fun q=>q he)]
  rw [e] at h
  refine h.le ?_
  unfold mAV
  split
  · rename_i e0
    rw [e0]
    exact VLe.tup (by simp only[VLes];exact ⟨_,_,rfl,VLe.nils 1,_,_,rfl,.refl _,rfl⟩)
  · exact .refl _
theorem route_ok {r:List Hu} (hl:(r.length:Int)≤2) (h:∀ x ∈ r,(x.kind=3∧(500≤x.a∧x.a≤6000)∧300≤x.b∧x.b≤6000) ∨ (x.kind=2∧(200≤x.a∧x.a≤800)∧x.b=0)):routeE r=0:=by
  unfold routeE
  rw [if_neg (by omega)]
  clear hl
  induction r with
  | nil=>rfl
  | cons x r ih =>
    have hx:hurdleE x=0:=by
      unfold hurdleE
      rcases h x (by simp) with ⟨a,b,c⟩|⟨a,b,c⟩
      · rw [if_neg (by omega),if_neg (by omega),if_pos a,if_neg (by omega)]
      · rw [if_neg (by omega),if_pos a,if_neg (by omega),if_neg (by omega)]
    simp only[hurdlesE]
    rw [if_neg (fun q=>q hx)]
    exact ih fun y hy=>h y (by simp [hy])
theorem fitsD_len (r:List Hu) (fs:List Fl) (ds:List (List Ld)):(fitsD r fs ds).length=fs.length∧∀ i,i < (fitsD r fs ds).length→((fitsD r fs ds).getD i []).length=ds.length:=by
  refine ⟨by simp [fitsD],fun i hi=>?_⟩
  have hi':i < fs.length:=by simpa [fitsD] using hi
  simp [fitsD,List.getD_eq_getElem?_getD,hi']
end Go.Proofs.YtaijkalhkgjakaaDoor
