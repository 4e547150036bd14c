/- Contracts of functions that the claim reaches: what each call gives, told in our own logic. Conditions: those of each theorem. -/
import Derived.Test.YtefogfgddofdmaaGreatDoorG2
import Derived.Test.YtefogfgddofdmaaGreatDoorG6
open Nat (reduceAdd reduceMul reduceEqDiff reduceLeDiff)
set_option linter.all false
set_option linter.unusedSimpArgs false
set_option linter.unusedVariables false
namespace Go.Proofs.YtefogfgddofdmaaGreatDoor
open Go.Av Go.Txt Go.Lib
set_option maxRecDepth 20000
def wFund:List UInt8:=[102,117,110,100]
def wBill:List UInt8:=[98,105,108,108]
def wEnd:List UInt8:=[101,110,100]
def fdN (x:Fd):List Int:=[x.day,x.till,x.amt] ++ x.uses
def blN (x:Bl):List Int:=[x.day,x.use,x.amt]
def fdT (x:Fd):List UInt8:=rowT wFund (fdN x)
def blT (x:Bl):List UInt8:=rowT wBill (blN x)
def bookT (l:Lg):List UInt8:=l.fs.flatMap fdT ++ l.bs.flatMap blT ++ rowT wEnd [(l.bs.length:Int)]
def wrV (l:Lg):AV:=if chkE l=0 then .tup [.str (bookT l),.int .i64 0] else .tup [.str [],.int .i64 (chkE l)]
structure LSt where
  l:Lg
  e:Bool
def fdOf (l:List Int):Fd:=⟨nth l 0,nth l 1,nth l 2,l.drop 3⟩
def blOf (l:List Int):Bl:=⟨nth l 0,nth l 1,nth l 2⟩
def stepL (st:LSt) (w:List UInt8) (l:List Int):Option LSt :=
  if st.e=true then none
  else if w=wFund∧3≤l.length∧st.l.bs.length=0 then some ⟨⟨st.l.fs ++ [fdOf l],st.l.bs⟩,st.e⟩
  else if w=wBill∧l.length=3 then some ⟨⟨st.l.fs,st.l.bs ++ [blOf l]⟩,st.e⟩
  else if w=wEnd∧l.length=1∧nth l 0=st.l.bs.length then some ⟨st.l,true⟩
  else none
def stepR (st:LSt) (row:List UInt8):Option LSt:=match rowP 10 row with
  | none=>none
  | some (w,l)=>stepL st w l
def runR:Nat→LSt→List (List UInt8)→Nat ⊕ LSt
  | _,st,[]=>.inr st
  | i,st,r :: rs=>match stepR st r with
    | none=>.inl (i+1)
    | some st'=>runR (i+1) st' rs
def l0:Lg:=⟨[],[]⟩
def st0:LSt:=⟨l0,false⟩
def badV (k:Nat) (e:Int):AV:=.tup [l0.av,.int .i64 (k:Nat),.int .i64 e]
def rdV (text:List UInt8):AV :=
  if 2000 < text.length then badV 0 6 else
  match runR 0 st0 ((splitL 10 text).take ((splitL 10 text).length - 1)) with
  | .inl k=>badV k 1
  | .inr st =>
    if st.e=false then badV (splitL 10 text).length 1
    else if (splitL 10 text).getD ((splitL 10 text).length - 1) [] ≠ [] then badV (splitL 10 text).length 1
    else if chkE st.l ≠ 0 then badV 0 (chkE st.l)
    else .tup [st.l.av,.int .i64 0,.int .i64 0]
theorem run_drop {i:Nat} {st:LSt} {l:List (List UInt8)} (h:i < l.length):runR i st (l.drop i)=match stepR st (l.getD i []) with
    | none=>.inl (i+1)
    | some st'=>runR (i+1) st' (l.drop (i+1)):=by
  rw [List.drop_eq_getElem_cons h,runR,List.getD_eq_getElem?_getD,List.getElem?_eq_getElem h]
  rfl
def Sm (l:List Int):Prop:=∀ x ∈ l,0≤x∧x < 10000000000
theorem fd_sm {x:Fd} (h:FdOk x):Sm (fdN x)∧(fdN x).length≤11:=by
  have h1:=h.day;have h2:=h.amt;have h3:=h.many
  refine ⟨?_,by unfold fdN;simp;omega⟩
  intro y hy
  simp only[fdN,List.mem_append,List.mem_cons,List.not_mem_nil,or_false] at hy
  rcases hy with (rfl|rfl|rfl)|hy
  · omega
  · omega
  · omega
  · have:=h.uses y hy;omega
theorem bl_sm {x:Bl} (h:BlOk x):Sm (blN x):=by
  have h1:=h.day;have h2:=h.amt;have h3:=h.use
  intro y hy
  simp only[blN,List.mem_cons,List.not_mem_nil,or_false] at hy
  rcases hy with rfl|rfl|rfl <;> omega
theorem Sm.dec {l:List Int} (h:Sm l):∀ x ∈ l,0≤x∧(decDigits x.toNat).length≤10:=fun x hx=>⟨(h x hx).1,dec_len 9 _ (by have:=h x hx;omega)⟩
theorem numsT_sm:∀ {l:List Int},Sm l→(numsT l).length≤11 * l.length
  | [],_=>by simp [numsT]
  | x :: l,h=>by
    have h1:=Sm.dec h x (by simp)
    have h2:=numsT_sm (l:=l) (fun y hy=>h y (by simp [hy]))
    unfold numsT at h2 ⊢
    rw [List.flatMap_cons,List.length_append,List.length_cons,List.length_cons,itoa_nn h1.1]
    omega
theorem rowT_sm {w:List UInt8} {l:List Int} (h:Sm l):(rowT w l).length≤w.length+11 * l.length+1:=by
  have:=numsT_sm h
  unfold rowT
  simp only[List.length_append,List.length_cons,List.length_nil]
  omega
theorem flat_take {α:Type} {f:α→List UInt8} {l:List α} {d:α} {i:Nat} (h:i < l.length):(l.take (i+1)).flatMap f=(l.take i).flatMap f ++ f (l.getD i d):=by
  rw [List.take_add_one,List.flatMap_append,List.getElem?_eq_getElem h,List.getD_eq_getElem?_getD,List.getElem?_eq_getElem h]
  simp
theorem flat_len {α:Type} {f:α→List UInt8} {n:Nat} {l:List α} (h:∀ x ∈ l,(f x).length≤n):(l.flatMap f).length≤n * l.length:=by
  induction l with
  | nil=>simp
  | cons x l ih =>
    have h1:=h x (by simp)
    have h2:=ih (fun y hy=>h y (by simp [hy]))
    rw [List.flatMap_cons,List.length_append,List.length_cons,Nat.mul_succ]
    omega
theorem fdT_len {x:Fd} (h:FdOk x):(fdT x).length≤130:=by
  have:=rowT_sm (w:=wFund) (fd_sm h).1
  have e:wFund.length=4:=rfl
  have e2:=(fd_sm h).2
  unfold fdT;omega
theorem blT_len {x:Bl} (h:BlOk x):(blT x).length≤40:=by
  have:=rowT_sm (w:=wBill) (bl_sm h)
  have e:wBill.length=4:=rfl
  have e2:(blN x).length=3:=rfl
  unfold blT;omega
theorem Sm.ok {l:List Int} (h:Sm l) (hl:l.length≤1000):NumOk l:=⟨by omega,fun x hx=>by have:=h x hx;omega⟩
theorem sm_len {n:Nat} (h:n≤20):Sm [(n:Int)]:=by intro x hx;simp at hx;omega
theorem book_len {l:Lg} (h:LgOk l):(bookT l).length≤1500:=by
  have h1:=h.fn;have h2:=h.bn
  have k1:(l.fs.flatMap fdT).length≤130 * l.fs.length:=flat_len (fun x hx=>fdT_len (h.f x hx))
  have k2:(l.bs.flatMap blT).length≤40 * l.bs.length:=flat_len (fun x hx=>blT_len (h.b x hx))
  have k3:=rowT_sm (w:=wEnd) (sm_len (n:=l.bs.length) (by omega))
  have e2:wEnd.length=3:=rfl
  have e4:([(l.bs.length:Int)]:List Int).length=1:=rfl
  unfold bookT
  simp only[List.length_append]
  omega
def fdR (x:Fd):List UInt8:=wFund ++ numsT (fdN x)
def blR (x:Bl):List UInt8:=wBill ++ numsT (blN x)
def enR (n:Nat):List UInt8:=wEnd ++ numsT [(n:Int)]
def rowsC (l:Lg):List (List UInt8):=l.fs.map fdR ++ l.bs.map blR ++ [enR l.bs.length]
theorem book_flat (l:Lg):bookT l=(rowsC l).flatMap (· ++ [10]):=by
  unfold bookT rowsC enR
  simp only[List.flatMap_cons,List.flatMap_append,List.flatMap_map,List.flatMap_nil,List.append_nil]
  unfold rowT
  have e1:l.fs.flatMap fdT=l.fs.flatMap fun a=>fdR a ++ [10]:=rfl
  have e2:l.bs.flatMap blT=l.bs.flatMap fun a=>blR a ++ [10]:=rfl
  rw [e1,e2]
theorem fdN_fdOf {l:List Int} (h:3≤l.length):fdN (fdOf l)=l:=by
  match l,h with
  | a :: b :: c :: t,_=>rfl
theorem blN_blOf {l:List Int} (h:l.length=3):blN (blOf l)=l:=by
  match l,h with
  | [a,b,c],_=>rfl
theorem run_e:∀ {rs:List (List UInt8)} {i:Nat} {st st':LSt},runR i st rs=.inr st'→st.e=true→rs=[]∧st'=st
  | [],i,st,st',h,_=>by simp only[runR] at h;injection h with h;exact ⟨rfl,h.symm⟩
  | r :: rs,i,st,st',h,he=>by
    have:stepR st r=none:=by
      unfold stepR
      split
      · rfl
      · unfold stepL;rw [if_pos he]
    rw [runR,this] at h
    cases h
theorem run_inv:∀ {rs:List (List UInt8)} {i:Nat} {st st':LSt},runR i st rs=.inr st'→st.e=false→st'.e=true →
    ∃ f2 b2,rs=f2.map fdR ++ b2.map blR ++ [enR (st.l.bs ++ b2).length]∧st'.l=⟨st.l.fs ++ f2,st.l.bs ++ b2⟩∧(st.l.bs ≠ []→f2=[])
  | [],i,st,st',h,he,he'=>by
    simp only[runR] at h;injection h with h;rw [h] at he;rw [he] at he';cases he'
  | r :: rs,i,st,st',h,he,he'=>by
    rw [runR] at h
    cases hp:rowP 10 r with
    | none =>
      have:stepR st r=none:=by unfold stepR;rw [hp]
      rw [this] at h;cases h
    | some wl =>
      obtain ⟨w,l⟩:=wl
      have hr:=row_of hp
      have hst:stepR st r=stepL st w l:=by unfold stepR;rw [hp]
      unfold stepL at hst
      rw [if_neg (by simp [he])] at hst
      by_cases h0:w=wFund∧3≤l.length∧st.l.bs.length=0
      · rw [if_pos h0] at hst
        rw [hst] at h
        simp only at h
        obtain ⟨f2,b2,q1,q2,q3⟩:=run_inv h (by exact he) he'
        refine ⟨fdOf l :: f2,b2,?_,by rw [q2];simp,fun hne=>absurd (List.length_eq_zero_iff.1 h0.2.2) hne⟩
        rw [q1,hr,h0.1,List.map_cons,fdR,fdN_fdOf h0.2.1]
        simp
      rw [if_neg h0] at hst
      by_cases h1:w=wBill∧l.length=3
      · rw [if_pos h1] at hst
        rw [hst] at h
        simp only at h
        obtain ⟨f2,b2,q1,q2,q3⟩:=run_inv h (by exact he) he'
        have hf:f2=[]:=q3 (by simp)
        subst hf
        refine ⟨[],blOf l :: b2,?_,by rw [q2];simp,fun _=>rfl⟩
        rw [q1,hr,h1.1,List.map_cons,blR,blN_blOf h1.2]
        simp
      rw [if_neg h1] at hst
      by_cases h2:w=wEnd∧l.length=1∧nth l 0=st.l.bs.length
      · rw [if_pos h2] at hst
        rw [hst] at h
        simp only at h
        obtain ⟨e1,e2⟩:=run_e h rfl
        obtain ⟨e3,e4,e5⟩:=h2
        refine ⟨[],[],?_,by rw [e2];simp,fun _=>rfl⟩
        rw [e1,hr,e3]
        match l,e4 with
        | [a],_ =>
          have e6:a=st.l.bs.length:=e5
          rw [e6];simp [enR]
      rw [if_neg h2] at hst
      rw [hst] at h;cases h
theorem rd_inv (text:List UInt8):(∃ k e,rdV text=badV k e∧e ≠ 0) ∨ ∃ l:Lg,rdV text=.tup [l.av,.int .i64 0,.int .i64 0]∧chkE l=0∧bookT l=text:=by
  obtain ⟨rows,hrows⟩:∃ rows,rows=splitL 10 text:=⟨_,rfl⟩
  obtain ⟨nb,hnb⟩:∃ nb,nb=rows.length - 1:=⟨_,rfl⟩
  have hr1:1≤rows.length:=by rw [hrows];exact List.length_pos_iff.2 (splitL_ne _ _)
  unfold rdV
  by_cases h1:2000 < text.length
  · rw [if_pos h1];exact .inl ⟨_,_,rfl,by decide⟩
  rw [if_neg h1,← hrows,← hnb]
  cases hrun:runR 0 st0 (rows.take nb) with
  | inl k=>exact .inl ⟨_,_,rfl,by decide⟩
  | inr st =>
    simp only
    by_cases he:st.e=false
    · rw [if_pos he];exact .inl ⟨_,_,rfl,by decide⟩
    rw [if_neg he]
    by_cases hla:rows.getD nb [] ≠ []
    · rw [if_pos hla];exact .inl ⟨_,_,rfl,by decide⟩
    rw [if_neg hla]
    by_cases hE:chkE st.l ≠ 0
    · rw [if_pos hE];exact .inl ⟨_,_,rfl,hE⟩
    rw [if_neg hE]
    refine .inr ⟨st.l,rfl,by simpa using hE,?_⟩
    have hla:rows.getD nb []=[]:=by simpa using hla
    have he:st.e=true:=by simpa using he
    have hrl:rows=rows.take nb ++ [[]]:=by
      have e:=(List.take_append_drop nb rows).symm
      have e2:rows.drop nb=[[]]:=by
        rw [List.drop_eq_getElem_cons (by omega),List.drop_eq_nil_of_le (by omega)]
        rw [List.getD_eq_getElem?_getD,List.getElem?_eq_getElem (by omega)] at hla
        simpa using hla
      rw [e2] at e;exact e
    have htext:text=(rows.take nb).flatMap (· ++ [10]):=by
      rw [← join_rows,← hrl,hrows,join_split]
    rw [book_flat,htext]
    congr 1
    obtain ⟨f2,b2,q1,q2,_⟩:=run_inv hrun rfl he
    rw [q1,q2]
    rfl
end Go.Proofs.YtefogfgddofdmaaGreatDoor

namespace Go.Proofs.YtefogfgddofdmaaGreatDoor
open Go.Av Go.Txt Go.Lib
attribute [local irreducible] thenA blockA awp awpOps awpD awp1
set_option maxHeartbeats 8000000
set_option maxRecDepth 20000
def parV (k:Nat) (s:List UInt8):AV:=match rowP k s with
  | some (w,l)=>.tup [.str w,.lst 1 (l.map iv),.bool true]
  | none=>.tup [.str [],.lst 1 [],.bool false]
structure PaS where
  i:Nat
  v:AV
  ns:List Int
  g:AH
theorem strs_getD {l:List (List UInt8)} {i:Nat} (h:i < l.length):(strs l).getD i []=[.str (l.getD i [])]:=by
  unfold strs
  rw [List.getD_eq_getElem?_getD,List.getElem?_map,List.getElem?_eq_getElem h,List.getD_eq_getElem?_getD,List.getElem?_eq_getElem h];rfl
theorem strs_len (l:List (List UInt8)):(strs l).length=l.length:=List.length_map _
theorem str_mem {l:List (List UInt8)} {i:Nat} (h:i < l.length):l.getD i [] ∈ l:=by
  rw [List.getD_eq_getElem?_getD,List.getElem?_eq_getElem h];exact List.getElem_mem h
theorem take_str {l:List (List UInt8)} {i:Nat} (h:i < l.length):l.take (i+1)=l.take i ++ [l.getD i []]:=by
  rw [List.take_add_one,List.getElem?_eq_getElem h,List.getD_eq_getElem?_getD,List.getElem?_eq_getElem h];rfl
theorem c37 (s:List UInt8) (hs:s.length≤1000000):PureG gT Tryz.prog 37 [.str s] (fun v=>v=parV 10 s):=by
  refine PureG.give Tryz.call37 fun h hgl hold=>?_
  obtain ⟨w,ws,hw⟩:∃ w ws,splitL 32 s=w :: ws:=by
    cases e:splitL 32 s with
    | nil=>exact absurd e (splitL_ne _ _)
    | cons w ws=>exact ⟨w,ws,rfl⟩
  have hlen:=splitL_len 32 s
  rw [hw,List.length_cons] at hlen
  have hsub:∀ x ∈ ws,x.length≤1000000:=fun x hx=>Nat.le_trans (splitL_sub (by rw [hw];exact List.mem_cons_of_mem _ hx)) hs
  have k86:=c36 s 32 (by omega)
  rw [hw] at k86
  have eD:List.take (ws.length+1 - Int.toNat 1) (List.drop (Int.toNat 1) (strs (w :: ws)))=strs ws:=by
    show List.take (ws.length+1 - 1) (strs ws)=strs ws
    rw [Nat.add_sub_cancel]
    exact List.take_of_length_le (by rw [strs_len];exact Nat.le_refl _)
  refine ACalls.of tab mixed Tryz.call37 Tryz.func37 rfl (fi:=⟨51,[],[44],none,[]⟩) rfl rfl (Nat.le_of_ble_eq_true rfl) (by decide) ?_
  unfold startA
  try simp only[go_sem]
  repeat' (first|refine st_seq_reg rfl (by first|(simp only[go_sem,strs_len,List.length_cons];rfl)|rfl) (by first|(simp only[go_sem,strs_len,List.length_cons];rfl)|rfl) ?_|refine st_reg rfl (by first|(simp only[go_sem,strs_len,List.length_cons];rfl)|rfl) (by first|(simp only[go_sem,strs_len,List.length_cons];rfl)|rfl) ?_|refine st_op ?_|refine st_det rfl (by simp (disch:=omega) only[go_sem,wr_i64,if_yes,if_no,↓reduceIte,reduceAdd,reduceMul,reduceEqDiff,Nat.reduceBEq,reduceLeDiff,strs_len,List.length_cons];rfl) ?_|refine st_heap rfl (by simp (disch:=omega) only[go_sem,wr_i64,if_yes,if_no,↓reduceIte,reduceAdd,reduceMul,reduceEqDiff,Nat.reduceBEq,reduceLeDiff,strs_len,List.length_cons];rfl) ?_|refine st_append (by simp (disch:=omega) only[go_sem,wr_i64,if_yes,if_no,↓reduceIte,reduceAdd,reduceMul,reduceEqDiff,Nat.reduceBEq,reduceLeDiff,strs_len,List.length_cons];rfl) ?_|(refine st_pureGE (by first|(simp (disch:=omega) only[go_sem,strs_len,List.length_cons];rfl)|rfl) rfl (k86) (by exact hgl) (by first|(simp only[go_sem,strs_len,List.length_cons];rfl)|rfl) (by intro n;first|(simp (disch:=omega) only[go_sem];rfl)|rfl) ?_;intro n hn)|refine st_gT rfl rfl rfl ?_|refine st_gF rfl rfl rfl ?_|(refine st_gS rfl rfl ?_ ?_ <;> intro hg <;> (try simp only[decide_eq_true_eq,decide_eq_false_iff_not,Bool.not_eq_true',Bool.not_eq_false'] at hg))|refine st_condT rfl ?_|refine st_condF rfl ?_|(refine st_condS rfl ?_ ?_ <;> intro hg <;> (try simp only[decide_eq_true_eq,decide_eq_false_iff_not,Bool.not_eq_true',Bool.not_eq_false'] at hg))|refine st_nil ?_|refine st_tN ?_|refine st_seq ?_|refine st_block ?_|refine st_skip ?_|refine st_exit ?_|refine st_ret ?_|refine st_tE ?_|refine st_tR ?_|refine st_bN ?_|refine st_bR ?_|refine st_bH ?_|refine st_bM rfl ?_)
  simp only[eD,strs_len]
  have hbad:∀ i,i < ws.length→numP 10 (ws.getD i [])=none→numsP 10 ws=none:=by
    intro i hi hn
    have e:ws=ws.take (i+1) ++ ws.drop (i+1):=(List.take_append_drop _ _).symm
    rw [e]
    refine numsP_bad ?_
    rw [take_str hi,numsP_snoc,hn]
    cases numsP 10 (ws.take i) <;> rfl
  have hrow:∀ l,numsP 10 ws=some l→parV 10 s=.tup [.str w,.lst 1 (l.map iv),.bool true]:=by
    intro l hl
    unfold parV rowP;rw [hw];simp only[hl,Option.map_some]
  have hrow0:numsP 10 ws=none→parV 10 s=.tup [.str [],.lst 1 [],.bool false]:=by
    intro hl
    unfold parV rowP;rw [hw];simp only[hl,Option.map_none]
  refine st_loopH (α:=PaS) tab mixed [] [] (by repeat (first|exact trivial|refine ⟨rfl,?_⟩)) [] [] (by repeat (first|exact trivial|refine ⟨rfl,?_⟩)) (fun a=>[(16,.int .i64 (a.i:Nat)),(6,a.v)]) [(2,_),(3,_),(4,_),(5,_),(14,_),(15,_)] (fun _=>[]) [] (fun a=>a.g) (fun a=>a.i≤ws.length∧numsP 10 (ws.take a.i)=some a.ns∧a.ns.length=a.i∧SlA h.clk a.g a.v 1 (a.ns.map iv)∧(∀ b':Bid,b'.1 < h.clk→a.g.at_ b'=h.at_ b')∧a.g.lp=h.lp∧a.g.gl=gT∧h.clk≤a.g.clk) (fun a=>ws.length - a.i) (by decide) ⟨0,.nils,[],_⟩ (by exact ⟨Nat.zero_le _,rfl,rfl,.inl ⟨rfl,rfl⟩,fun _ _=>rfl,rfl,hgl,by (try simp only[go_sem]);omega⟩) (by (try simp only[go_sem]);repeat' (first|exact trivial|refine And.intro ?_ ?_|rfl|(simp (disch:=omega) only[go_sem,if_yes,if_no,↓reduceIte,reduceAdd,reduceMul,reduceEqDiff,Nat.reduceBEq,reduceLeDiff];rfl)|(simp (disch:=omega) only[go_sem,if_yes,if_no,↓reduceIte,reduceAdd,reduceMul,reduceEqDiff,Nat.reduceBEq,reduceLeDiff]))) (by (try simp only[go_sem]);repeat' (first|exact trivial|refine And.intro ?_ ?_|rfl|(simp (disch:=omega) only[go_sem,if_yes,if_no,↓reduceIte,reduceAdd,reduceMul,reduceEqDiff,Nat.reduceBEq,reduceLeDiff];rfl)|(simp (disch:=omega) only[go_sem,if_yes,if_no,↓reduceIte,reduceAdd,reduceMul,reduceEqDiff,Nat.reduceBEq,reduceLeDiff]))) (HOld.refl _) ?_
  rintro ⟨i,v,ns,g⟩ c ⟨hi,hns,hnl,hS,hat,hlp,hgl,hck⟩ hc
  dsimp only at hi hns hnl hS hat hlp hgl hck hc
  simp only[go_sem]
  have hnc:=hS.noL
  by_cases hil:i < ws.length
  case neg =>
    obtain rfl:i=ws.length:=by omega
    rw [List.take_length] at hns
    repeat' (first|refine st_seq_reg rfl (by first|(simp only[go_sem,strs_len,List.length_cons,hnc];rfl)|rfl) (by first|(simp only[go_sem,strs_len,List.length_cons,hnc];rfl)|rfl) ?_|refine st_reg rfl (by first|(simp only[go_sem,strs_len,List.length_cons,hnc];rfl)|rfl) (by first|(simp only[go_sem,strs_len,List.length_cons,hnc];rfl)|rfl) ?_|refine st_op ?_|refine st_det rfl (by simp (disch:=omega) only[go_sem,wr_i64,if_yes,if_no,↓reduceIte,reduceAdd,reduceMul,reduceEqDiff,Nat.reduceBEq,reduceLeDiff,strs_len,List.length_cons,hnc];rfl) ?_|refine st_heap rfl (by simp (disch:=omega) only[go_sem,wr_i64,if_yes,if_no,↓reduceIte,reduceAdd,reduceMul,reduceEqDiff,Nat.reduceBEq,reduceLeDiff,strs_len,List.length_cons,hnc];rfl) ?_|refine st_append (by simp (disch:=omega) only[go_sem,wr_i64,if_yes,if_no,↓reduceIte,reduceAdd,reduceMul,reduceEqDiff,Nat.reduceBEq,reduceLeDiff,strs_len,List.length_cons,hnc];rfl) ?_|refine st_gT rfl rfl rfl ?_|refine st_gF rfl rfl rfl ?_|(refine st_gS rfl rfl ?_ ?_ <;> intro hg <;> (try simp only[decide_eq_true_eq,decide_eq_false_iff_not,Bool.not_eq_true',Bool.not_eq_false'] at hg))|refine st_condT rfl ?_|refine st_condF rfl ?_|(refine st_condS rfl ?_ ?_ <;> intro hg <;> (try simp only[decide_eq_true_eq,decide_eq_false_iff_not,Bool.not_eq_true',Bool.not_eq_false'] at hg))|refine st_nil ?_|refine st_tN ?_|refine st_seq ?_|refine st_block ?_|refine st_skip ?_|refine st_exit ?_|refine st_ret ?_|refine st_tE ?_|refine st_tR ?_|refine st_bN ?_|refine st_bR ?_|refine st_bH ?_|refine st_bM rfl ?_)
    all_goals try (exfalso;omega)
    simp (disch:=omega) only[AEnd,Tryz.results37,aresK,fin,go_sem,↓reduceIte,reduceEqDiff,reduceAdd,reduceLeDiff,if_yes,if_no,implies_true,true_and,and_true,List.reverse_cons,List.reverse_nil]
    refine ⟨hnc,hat,hlp,?_⟩
    rw [hrow ns hns]
    exact SlA.ansT (R:=fun v=>v=.tup [.str w,.lst 1 (ns.map iv),.bool true]) [.str w] [.bool true] (fun _ _=>rfl) (fun _ _=>rfl) hS rfl
  obtain ⟨x,hx⟩:∃ x,x=ws.getD i []:=⟨_,rfl⟩
  have hxl:x.length≤1000000:=hx ▸ hsub _ (str_mem hil)
  have hxg:(strs ws).getD i []=[.str x]:=by rw [strs_getD hil,hx]
  have k114:=c59 x (by omega)
  have hn3:=numP_atoi (k:=10) (by decide) x
  have hfail:numP 10 x=none→(∃ v',VLe (.tup [.str [],.nils,.bool false]) v'∧v'=parV 10 s):=fun q =>
    ⟨_,VLe.tup (VLes.mid (pre:=[.str []]) (post:=[.bool false]) (VLe.nils 1)),(hrow0 (hbad i hil (hx ▸ q))).symm⟩
  rcases ha:atoiAll x with z|_|_
  rotate_left 1
  ·
    rw [atoiV,ha] at k114
    rw [ha] at hn3
    repeat' (first|refine st_seq_reg rfl (by first|(simp only[go_sem,strs_len,List.length_cons,hnc,hxg];rfl)|rfl) (by first|(simp only[go_sem,strs_len,List.length_cons,hnc,hxg];rfl)|rfl) ?_|refine st_reg rfl (by first|(simp only[go_sem,strs_len,List.length_cons,hnc,hxg];rfl)|rfl) (by first|(simp only[go_sem,strs_len,List.length_cons,hnc,hxg];rfl)|rfl) ?_|refine st_op ?_|refine st_det rfl (by simp (disch:=omega) only[go_sem,wr_i64,if_yes,if_no,↓reduceIte,reduceAdd,reduceMul,reduceEqDiff,Nat.reduceBEq,reduceLeDiff,strs_len,List.length_cons,hnc,hxg];rfl) ?_|refine st_heap rfl (by simp (disch:=omega) only[go_sem,wr_i64,if_yes,if_no,↓reduceIte,reduceAdd,reduceMul,reduceEqDiff,Nat.reduceBEq,reduceLeDiff,strs_len,List.length_cons,hnc,hxg];rfl) ?_|refine st_append (by simp (disch:=omega) only[go_sem,wr_i64,if_yes,if_no,↓reduceIte,reduceAdd,reduceMul,reduceEqDiff,Nat.reduceBEq,reduceLeDiff,strs_len,List.length_cons,hnc,hxg];rfl) ?_|(refine st_pureGE (by first|(simp (disch:=omega) only[go_sem,strs_len,List.length_cons,hnc,hxg];rfl)|rfl) rfl (k114) (by exact hgl) (by first|(simp only[go_sem,strs_len,List.length_cons,hnc,hxg];rfl)|rfl) (by intro n;first|(simp (disch:=omega) only[go_sem];rfl)|rfl) ?_;intro n hn)|refine st_gT rfl rfl rfl ?_|refine st_gF rfl rfl rfl ?_|(refine st_gS rfl rfl ?_ ?_ <;> intro hg <;> (try simp only[decide_eq_true_eq,decide_eq_false_iff_not,Bool.not_eq_true',Bool.not_eq_false'] at hg))|refine st_condT rfl ?_|refine st_condF rfl ?_|(refine st_condS rfl ?_ ?_ <;> intro hg <;> (try simp only[decide_eq_true_eq,decide_eq_false_iff_not,Bool.not_eq_true',Bool.not_eq_false'] at hg))|refine st_nil ?_|refine st_tN ?_|refine st_seq ?_|refine st_block ?_|refine st_skip ?_|refine st_exit ?_|refine st_ret ?_|refine st_tE ?_|refine st_tR ?_|refine st_bN ?_|refine st_bR ?_|refine st_bH ?_|refine st_bM rfl ?_)
    all_goals try (exfalso;omega)
    simp (disch:=omega) only[AEnd,Tryz.results37,aresK,fin,go_sem,↓reduceIte,reduceEqDiff,reduceAdd,reduceLeDiff,if_yes,if_no,implies_true,true_and,and_true,List.reverse_cons,List.reverse_nil]
    exact ⟨hat,hlp,.inl (hfail hn3)⟩
  ·
    rw [atoiV,ha] at k114
    rw [ha] at hn3
    repeat' (first|refine st_seq_reg rfl (by first|(simp only[go_sem,strs_len,List.length_cons,hnc,hxg];rfl)|rfl) (by first|(simp only[go_sem,strs_len,List.length_cons,hnc,hxg];rfl)|rfl) ?_|refine st_reg rfl (by first|(simp only[go_sem,strs_len,List.length_cons,hnc,hxg];rfl)|rfl) (by first|(simp only[go_sem,strs_len,List.length_cons,hnc,hxg];rfl)|rfl) ?_|refine st_op ?_|refine st_det rfl (by simp (disch:=omega) only[go_sem,wr_i64,if_yes,if_no,↓reduceIte,reduceAdd,reduceMul,reduceEqDiff,Nat.reduceBEq,reduceLeDiff,strs_len,List.length_cons,hnc,hxg];rfl) ?_|refine st_heap rfl (by simp (disch:=omega) only[go_sem,wr_i64,if_yes,if_no,↓reduceIte,reduceAdd,reduceMul,reduceEqDiff,Nat.reduceBEq,reduceLeDiff,strs_len,List.length_cons,hnc,hxg];rfl) ?_|refine st_append (by simp (disch:=omega) only[go_sem,wr_i64,if_yes,if_no,↓reduceIte,reduceAdd,reduceMul,reduceEqDiff,Nat.reduceBEq,reduceLeDiff,strs_len,List.length_cons,hnc,hxg];rfl) ?_|(refine st_pureGE (by first|(simp (disch:=omega) only[go_sem,strs_len,List.length_cons,hnc,hxg];rfl)|rfl) rfl (k114) (by exact hgl) (by first|(simp only[go_sem,strs_len,List.length_cons,hnc,hxg];rfl)|rfl) (by intro n;first|(simp (disch:=omega) only[go_sem];rfl)|rfl) ?_;intro n hn)|refine st_gT rfl rfl rfl ?_|refine st_gF rfl rfl rfl ?_|(refine st_gS rfl rfl ?_ ?_ <;> intro hg <;> (try simp only[decide_eq_true_eq,decide_eq_false_iff_not,Bool.not_eq_true',Bool.not_eq_false'] at hg))|refine st_condT rfl ?_|refine st_condF rfl ?_|(refine st_condS rfl ?_ ?_ <;> intro hg <;> (try simp only[decide_eq_true_eq,decide_eq_false_iff_not,Bool.not_eq_true',Bool.not_eq_false'] at hg))|refine st_nil ?_|refine st_tN ?_|refine st_seq ?_|refine st_block ?_|refine st_skip ?_|refine st_exit ?_|refine st_ret ?_|refine st_tE ?_|refine st_tR ?_|refine st_bN ?_|refine st_bR ?_|refine st_bH ?_|refine st_bM rfl ?_)
    all_goals try (exfalso;omega)
    simp (disch:=omega) only[AEnd,Tryz.results37,aresK,fin,go_sem,↓reduceIte,reduceEqDiff,reduceAdd,reduceLeDiff,if_yes,if_no,implies_true,true_and,and_true,List.reverse_cons,List.reverse_nil]
    exact ⟨hat,hlp,.inl (hfail hn3)⟩
  ·
    have hbd:=atoi_bd ha
    rw [atoiV,ha] at k114
    rw [ha] at hn3
    simp only at hn3
    have k79:=c54 z hbd.1 hbd.2
    by_cases h1:z < 0
    · rw [if_pos (.inl h1)] at hn3
      repeat' (first|refine st_seq_reg rfl (by first|(simp only[go_sem,strs_len,List.length_cons,hnc,hxg];rfl)|rfl) (by first|(simp only[go_sem,strs_len,List.length_cons,hnc,hxg];rfl)|rfl) ?_|refine st_reg rfl (by first|(simp only[go_sem,strs_len,List.length_cons,hnc,hxg];rfl)|rfl) (by first|(simp only[go_sem,strs_len,List.length_cons,hnc,hxg];rfl)|rfl) ?_|refine st_op ?_|refine st_det rfl (by simp (disch:=omega) only[go_sem,wr_i64,if_yes,if_no,↓reduceIte,reduceAdd,reduceMul,reduceEqDiff,Nat.reduceBEq,reduceLeDiff,strs_len,List.length_cons,hnc,hxg];rfl) ?_|refine st_heap rfl (by simp (disch:=omega) only[go_sem,wr_i64,if_yes,if_no,↓reduceIte,reduceAdd,reduceMul,reduceEqDiff,Nat.reduceBEq,reduceLeDiff,strs_len,List.length_cons,hnc,hxg];rfl) ?_|refine st_append (by simp (disch:=omega) only[go_sem,wr_i64,if_yes,if_no,↓reduceIte,reduceAdd,reduceMul,reduceEqDiff,Nat.reduceBEq,reduceLeDiff,strs_len,List.length_cons,hnc,hxg];rfl) ?_|(refine st_pureGE (by first|(simp (disch:=omega) only[go_sem,strs_len,List.length_cons,hnc,hxg];rfl)|rfl) rfl (k114) (by exact hgl) (by first|(simp only[go_sem,strs_len,List.length_cons,hnc,hxg];rfl)|rfl) (by intro n;first|(simp (disch:=omega) only[go_sem];rfl)|rfl) ?_;intro n hn)|refine st_gT rfl rfl rfl ?_|refine st_gF rfl rfl rfl ?_|(refine st_gS rfl rfl ?_ ?_ <;> intro hg <;> (try simp only[decide_eq_true_eq,decide_eq_false_iff_not,Bool.not_eq_true',Bool.not_eq_false'] at hg))|refine st_condT rfl ?_|refine st_condF rfl ?_|(refine st_condS rfl ?_ ?_ <;> intro hg <;> (try simp only[decide_eq_true_eq,decide_eq_false_iff_not,Bool.not_eq_true',Bool.not_eq_false'] at hg))|refine st_nil ?_|refine st_tN ?_|refine st_seq ?_|refine st_block ?_|refine st_skip ?_|refine st_exit ?_|refine st_ret ?_|refine st_tE ?_|refine st_tR ?_|refine st_bN ?_|refine st_bR ?_|refine st_bH ?_|refine st_bM rfl ?_)
      all_goals try (exfalso;omega)
      simp (disch:=omega) only[AEnd,Tryz.results37,aresK,fin,go_sem,↓reduceIte,reduceEqDiff,reduceAdd,reduceLeDiff,if_yes,if_no,implies_true,true_and,and_true,List.reverse_cons,List.reverse_nil]
      exact ⟨hat,hlp,.inl (hfail hn3)⟩
    by_cases h2:10 < x.length
    · rw [if_pos (.inr (.inl h2))] at hn3
      repeat' (first|refine st_seq_reg rfl (by first|(simp only[go_sem,strs_len,List.length_cons,hnc,hxg];rfl)|rfl) (by first|(simp only[go_sem,strs_len,List.length_cons,hnc,hxg];rfl)|rfl) ?_|refine st_reg rfl (by first|(simp only[go_sem,strs_len,List.length_cons,hnc,hxg];rfl)|rfl) (by first|(simp only[go_sem,strs_len,List.length_cons,hnc,hxg];rfl)|rfl) ?_|refine st_op ?_|refine st_det rfl (by simp (disch:=omega) only[go_sem,wr_i64,if_yes,if_no,↓reduceIte,reduceAdd,reduceMul,reduceEqDiff,Nat.reduceBEq,reduceLeDiff,strs_len,List.length_cons,hnc,hxg];rfl) ?_|refine st_heap rfl (by simp (disch:=omega) only[go_sem,wr_i64,if_yes,if_no,↓reduceIte,reduceAdd,reduceMul,reduceEqDiff,Nat.reduceBEq,reduceLeDiff,strs_len,List.length_cons,hnc,hxg];rfl) ?_|refine st_append (by simp (disch:=omega) only[go_sem,wr_i64,if_yes,if_no,↓reduceIte,reduceAdd,reduceMul,reduceEqDiff,Nat.reduceBEq,reduceLeDiff,strs_len,List.length_cons,hnc,hxg];rfl) ?_|(refine st_pureGE (by first|(simp (disch:=omega) only[go_sem,strs_len,List.length_cons,hnc,hxg];rfl)|rfl) rfl (k114) (by exact hgl) (by first|(simp only[go_sem,strs_len,List.length_cons,hnc,hxg];rfl)|rfl) (by intro n;first|(simp (disch:=omega) only[go_sem];rfl)|rfl) ?_;intro n hn)|refine st_gT rfl rfl rfl ?_|refine st_gF rfl rfl rfl ?_|(refine st_gS rfl rfl ?_ ?_ <;> intro hg <;> (try simp only[decide_eq_true_eq,decide_eq_false_iff_not,Bool.not_eq_true',Bool.not_eq_false'] at hg))|refine st_condT rfl ?_|refine st_condF rfl ?_|(refine st_condS rfl ?_ ?_ <;> intro hg <;> (try simp only[decide_eq_true_eq,decide_eq_false_iff_not,Bool.not_eq_true',Bool.not_eq_false'] at hg))|refine st_nil ?_|refine st_tN ?_|refine st_seq ?_|refine st_block ?_|refine st_skip ?_|refine st_exit ?_|refine st_ret ?_|refine st_tE ?_|refine st_tR ?_|refine st_bN ?_|refine st_bR ?_|refine st_bH ?_|refine st_bM rfl ?_)
      all_goals try (exfalso;omega)
      simp (disch:=omega) only[AEnd,Tryz.results37,aresK,fin,go_sem,↓reduceIte,reduceEqDiff,reduceAdd,reduceLeDiff,if_yes,if_no,implies_true,true_and,and_true,List.reverse_cons,List.reverse_nil]
      exact ⟨hat,hlp,.inl (hfail hn3)⟩
    by_cases h3:itoa z=x
    case neg =>
      rw [if_pos (.inr (.inr h3))] at hn3
      repeat' (first|refine st_seq_reg rfl (by first|(simp only[go_sem,strs_len,List.length_cons,hnc,hxg,h3];rfl)|rfl) (by first|(simp only[go_sem,strs_len,List.length_cons,hnc,hxg,h3];rfl)|rfl) ?_|refine st_reg rfl (by first|(simp only[go_sem,strs_len,List.length_cons,hnc,hxg,h3];rfl)|rfl) (by first|(simp only[go_sem,strs_len,List.length_cons,hnc,hxg,h3];rfl)|rfl) ?_|refine st_op ?_|refine st_det rfl (by simp (disch:=omega) only[go_sem,wr_i64,if_yes,if_no,↓reduceIte,reduceAdd,reduceMul,reduceEqDiff,Nat.reduceBEq,reduceLeDiff,strs_len,List.length_cons,hnc,hxg,h3];rfl) ?_|refine st_heap rfl (by simp (disch:=omega) only[go_sem,wr_i64,if_yes,if_no,↓reduceIte,reduceAdd,reduceMul,reduceEqDiff,Nat.reduceBEq,reduceLeDiff,strs_len,List.length_cons,hnc,hxg,h3];rfl) ?_|refine st_append (by simp (disch:=omega) only[go_sem,wr_i64,if_yes,if_no,↓reduceIte,reduceAdd,reduceMul,reduceEqDiff,Nat.reduceBEq,reduceLeDiff,strs_len,List.length_cons,hnc,hxg,h3];rfl) ?_|(refine st_pureGE (by first|(simp (disch:=omega) only[go_sem,strs_len,List.length_cons,hnc,hxg,h3];rfl)|rfl) rfl (k114) (by exact hgl) (by first|(simp only[go_sem,strs_len,List.length_cons,hnc,hxg,h3];rfl)|rfl) (by intro n;first|(simp (disch:=omega) only[go_sem];rfl)|rfl) ?_;intro n hn)|(refine st_pureGE (by first|(simp (disch:=omega) only[go_sem,strs_len,List.length_cons,hnc,hxg,h3];rfl)|rfl) rfl (k79) (by exact hgl) (by first|(simp only[go_sem,strs_len,List.length_cons,hnc,hxg,h3];rfl)|rfl) (by intro n;first|(simp (disch:=omega) only[go_sem];rfl)|rfl) ?_;intro n hn)|refine st_gT rfl rfl rfl ?_|refine st_gF rfl rfl rfl ?_|(refine st_gS rfl rfl ?_ ?_ <;> intro hg <;> (try simp only[decide_eq_true_eq,decide_eq_false_iff_not,Bool.not_eq_true',Bool.not_eq_false'] at hg))|refine st_condT rfl ?_|refine st_condF rfl ?_|(refine st_condS rfl ?_ ?_ <;> intro hg <;> (try simp only[decide_eq_true_eq,decide_eq_false_iff_not,Bool.not_eq_true',Bool.not_eq_false'] at hg))|refine st_nil ?_|refine st_tN ?_|refine st_seq ?_|refine st_block ?_|refine st_skip ?_|refine st_exit ?_|refine st_ret ?_|refine st_tE ?_|refine st_tR ?_|refine st_bN ?_|refine st_bR ?_|refine st_bH ?_|refine st_bM rfl ?_)
      all_goals try (exfalso;omega)
      simp (disch:=omega) only[AEnd,Tryz.results37,aresK,fin,go_sem,↓reduceIte,reduceEqDiff,reduceAdd,reduceLeDiff,if_yes,if_no,implies_true,true_and,and_true,List.reverse_cons,List.reverse_nil]
      exact ⟨hat,hlp,.inl (hfail hn3)⟩
    rw [if_neg (by rintro (q|q|q);exact h1 q;exact h2 q;exact q h3)] at hn3
    repeat' (first|refine st_seq_reg rfl (by first|(simp only[go_sem,strs_len,List.length_cons,hnc,hxg,h3];rfl)|rfl) (by first|(simp only[go_sem,strs_len,List.length_cons,hnc,hxg,h3];rfl)|rfl) ?_|refine st_reg rfl (by first|(simp only[go_sem,strs_len,List.length_cons,hnc,hxg,h3];rfl)|rfl) (by first|(simp only[go_sem,strs_len,List.length_cons,hnc,hxg,h3];rfl)|rfl) ?_|refine st_op ?_|refine st_det rfl (by simp (disch:=omega) only[go_sem,wr_i64,if_yes,if_no,↓reduceIte,reduceAdd,reduceMul,reduceEqDiff,Nat.reduceBEq,reduceLeDiff,strs_len,List.length_cons,hnc,hxg,h3];rfl) ?_|refine st_heap rfl (by simp (disch:=omega) only[go_sem,wr_i64,if_yes,if_no,↓reduceIte,reduceAdd,reduceMul,reduceEqDiff,Nat.reduceBEq,reduceLeDiff,strs_len,List.length_cons,hnc,hxg,h3];rfl) ?_|refine st_append (by simp (disch:=omega) only[go_sem,wr_i64,if_yes,if_no,↓reduceIte,reduceAdd,reduceMul,reduceEqDiff,Nat.reduceBEq,reduceLeDiff,strs_len,List.length_cons,hnc,hxg,h3];rfl) ?_|(refine st_pureGE (by first|(simp (disch:=omega) only[go_sem,strs_len,List.length_cons,hnc,hxg,h3];rfl)|rfl) rfl (k114) (by exact hgl) (by first|(simp only[go_sem,strs_len,List.length_cons,hnc,hxg,h3];rfl)|rfl) (by intro n;first|(simp (disch:=omega) only[go_sem];rfl)|rfl) ?_;intro n hn)|(refine st_pureGE (by first|(simp (disch:=omega) only[go_sem,strs_len,List.length_cons,hnc,hxg,h3];rfl)|rfl) rfl (k79) (by exact hgl) (by first|(simp only[go_sem,strs_len,List.length_cons,hnc,hxg,h3];rfl)|rfl) (by intro n;first|(simp (disch:=omega) only[go_sem];rfl)|rfl) ?_;intro n hn)|(refine st_appSg (by intro h id x y;simp only[go_sem];rfl) rfl (by simp only[go_sem,strs_len,List.length_cons,hnc,hxg,h3];rfl) (by first|(simp only[go_sem,strs_len,List.length_cons,hnc,hxg,h3];rfl)|rfl) (by decide) hS (fun _ _ _=>rfl) (by omega) (by simp only[List.length_map,List.length_cons,List.length_nil,big,strs_len,List.length_cons,hnc,hxg,h3];omega) (by omega) (by omega) ?_;intro v' g' hA hAg)|refine st_gT rfl rfl rfl ?_|refine st_gF rfl rfl rfl ?_|(refine st_gS rfl rfl ?_ ?_ <;> intro hg <;> (try simp only[decide_eq_true_eq,decide_eq_false_iff_not,Bool.not_eq_true',Bool.not_eq_false'] at hg))|refine st_condT rfl ?_|refine st_condF rfl ?_|(refine st_condS rfl ?_ ?_ <;> intro hg <;> (try simp only[decide_eq_true_eq,decide_eq_false_iff_not,Bool.not_eq_true',Bool.not_eq_false'] at hg))|refine st_nil ?_|refine st_tN ?_|refine st_seq ?_|refine st_block ?_|refine st_skip ?_|refine st_exit ?_|refine st_ret ?_|refine st_tE ?_|refine st_tR ?_|refine st_bN ?_|refine st_bR ?_|refine st_bH ?_|refine st_bM rfl ?_)
    all_goals try (exfalso;omega)
    have hns2:numsP 10 (ws.take (i+1))=some (ns ++ [z]):=by
      rw [take_str hil,numsP_snoc,hns,← hx,hn3]
      simp only
      rw [show ((z.toNat:Nat):Int)=z by omega]
    refine ⟨⟨i+1,v',ns ++ [z],_⟩,(by exact ⟨by show i+1≤ws.length;omega,hns2,by simp [hnl],by rw [List.map_append];exact hA.sl.to (fun _ _ _ _ _=>rfl) (by (try simp only[go_sem]);omega),fun b' hb'=>(hA.old b' hb').trans (hat b' hb'),hA.lp.trans hlp,hAg.trans hgl,by (try simp only[go_sem]);omega⟩),(by show ws.length - (i+1) < ws.length - i;omega),(by repeat' (first|exact trivial|refine And.intro ?_ ?_|rfl|(simp (disch:=omega) only[go_sem,if_yes,if_no,↓reduceIte,reduceAdd,reduceMul,reduceEqDiff,Nat.reduceBEq,reduceLeDiff];rfl)|(simp (disch:=omega) only[go_sem,if_yes,if_no,↓reduceIte,reduceAdd,reduceMul,reduceEqDiff,Nat.reduceBEq,reduceLeDiff]))),(by repeat' (first|exact trivial|refine And.intro ?_ ?_|rfl|(simp (disch:=omega) only[go_sem,if_yes,if_no,↓reduceIte,reduceAdd,reduceMul,reduceEqDiff,Nat.reduceBEq,reduceLeDiff];rfl)|(simp (disch:=omega) only[go_sem,if_yes,if_no,↓reduceIte,reduceAdd,reduceMul,reduceEqDiff,Nat.reduceBEq,reduceLeDiff]))),rfl,HOld.refl _⟩
end Go.Proofs.YtefogfgddofdmaaGreatDoor
