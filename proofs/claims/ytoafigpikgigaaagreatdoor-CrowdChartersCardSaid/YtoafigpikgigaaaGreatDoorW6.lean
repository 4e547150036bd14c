/- Contracts of functions that the claim reaches: what each call gives, told in our own logic. Conditions: those of each theorem. -/
import Derived.Test.YtoafigpikgigaaaGreatDoorV3
set_option linter.all false
set_option linter.unusedSimpArgs false
set_option linter.unusedVariables false
namespace Go.Proofs.YtoafigpikgigaaaGreatDoor
open Go.Av Go.Txt Go.Lib
set_option maxRecDepth 20000
def wTown:List UInt8:=[116,111,119,110]
def wSq:List UInt8:=[115,113,117,97,114,101]
def wSt:List UInt8:=[115,116,114,101,101,116]
def wGr:List UInt8:=[103,114,111,117,112]
def wEnd:List UInt8:=[101,110,100]
def sxN (x:Sx):List Int:=[x.a,x.b]
def gpN (g:Gp):List Int:=[g.lo,g.hi,g.alo,g.ahi,g.stay,g.first] ++ g.path
def rmT (n:Int):List UInt8:=rowT wSq [n]
def sxT (x:Sx):List UInt8:=rowT wSt (sxN x)
def gpT (g:Gp):List UInt8:=rowT wGr (gpN g)
def cardT (t:Tw):List UInt8:=rowT wTown [t.steps] ++ t.rooms.flatMap rmT ++ t.sts.flatMap sxT ++ t.gs.flatMap gpT ++ rowT wEnd [(t.gs.length:Int)]
def wrV (t:Tw):AV:=if chkE t=0 then .tup [.str (cardT t),.int .i64 0] else .tup [.str [],.int .i64 (chkE t)]
structure LSt where
 t:Tw
 e:Bool
def sxOf (l:List Int):Sx:=⟨elt l 0,elt l 1⟩
def gpOf (l:List Int):Gp:=⟨elt l 0,elt l 1,elt l 2,elt l 3,elt l 4,elt l 5,l.drop 6⟩
def stepL (i:Nat) (st:LSt) (w:List UInt8) (l:List Int):Option LSt :=
 if st.e=true then none
 else if i=0 then (if w=wTown∧l.length=1 then some ⟨⟨st.t.rooms,st.t.sts,st.t.gs,elt l 0⟩,st.e⟩ else none)
 else if w=wSq∧l.length=1∧st.t.sts.length=0∧st.t.gs.length=0 then some ⟨⟨st.t.rooms ++ [elt l 0],st.t.sts,st.t.gs,st.t.steps⟩,st.e⟩
 else if w=wSt∧l.length=2∧st.t.gs.length=0 then some ⟨⟨st.t.rooms,st.t.sts ++ [sxOf l],st.t.gs,st.t.steps⟩,st.e⟩
 else if w=wGr∧6≤l.length then some ⟨⟨st.t.rooms,st.t.sts,st.t.gs ++ [gpOf l],st.t.steps⟩,st.e⟩
 else if w=wEnd∧l.length=1∧elt l 0=st.t.gs.length then some ⟨st.t,true⟩
 else none
def stepR (i:Nat) (st:LSt) (row:List UInt8):Option LSt:=match rowP 7 row with
 | none=>none
 | some (w,l)=>stepL i st w l
def runR:Nat→LSt→List (List UInt8)→Nat ⊕ LSt
 | _,st,[]=>.inr st
 | i,st,r :: rs=>match stepR i st r with
  | none=>.inl (i+1)
  | some st'=>runR (i+1) st' rs
def t0:Tw:=⟨[],[],[],0⟩
def st0:LSt:=⟨t0,false⟩
def badV (k:Nat) (e:Int):AV:=.tup [t0.av,.int .i64 (k:Nat),.int .i64 e]
def rdV (text:List UInt8):AV :=
 if 4000 < text.length then badV 0 6 else
 match runR 0 st0 ((splitL 10 text).take ((splitL 10 text).length - 1)) with
 | .inl k=>badV k 1
 | .inr st =>
  if st.e=false then badV (splitL 10 text).length 1
  else if (splitL 10 text).getD ((splitL 10 text).length - 1) [] ≠ [] then badV (splitL 10 text).length 1
  else if chkE st.t ≠ 0 then badV 0 (chkE st.t)
  else .tup [st.t.av,.int .i64 0,.int .i64 0]
theorem run_drop {i:Nat} {st:LSt} {l:List (List UInt8)} (h:i < l.length):runR i st (l.drop i)=match stepR i st (l.getD i []) with
  | none=>.inl (i+1)
  | some st'=>runR (i+1) st' (l.drop (i+1)):=by
 rw [List.drop_eq_getElem_cons h,runR,List.getD_eq_getElem?_getD,List.getElem?_eq_getElem h]
 rfl
def Sm (l:List Int):Prop:=∀ x ∈ l,0≤x∧x < 10000000
theorem mem_elt {l:List Int} {x:Int} (h:x ∈ l):∃ i,i < l.length∧elt l i=x:=by
 obtain ⟨i,hi,e⟩:=List.getElem_of_mem h
 exact ⟨i,hi,by unfold elt;rw [List.getD_eq_getElem?_getD,List.getElem?_eq_getElem hi];exact e⟩
theorem mem_sx {l:List Sx} {x:Sx} (h:x ∈ l):∃ i,i < l.length∧sx l i=x:=by
 obtain ⟨i,hi,e⟩:=List.getElem_of_mem h
 exact ⟨i,hi,by unfold sx;rw [List.getD_eq_getElem?_getD,List.getElem?_eq_getElem hi];exact e⟩
theorem mem_gp {l:List Gp} {x:Gp} (h:x ∈ l):∃ i,i < l.length∧gp l i=x:=by
 obtain ⟨i,hi,e⟩:=List.getElem_of_mem h
 exact ⟨i,hi,by unfold gp;rw [List.getD_eq_getElem?_getD,List.getElem?_eq_getElem hi];exact e⟩
theorem rm_sm {t:Tw} (h:TwOk t) {x:Int} (hx:x ∈ t.rooms):Sm [x]:=by
 obtain ⟨i,hi,e⟩:=mem_elt hx
 have:=h.room i hi
 intro y hy
 simp only[List.mem_cons,List.not_mem_nil,or_false] at hy
 subst hy;omega
theorem sx_sm {t:Tw} (h:TwOk t) {x:Sx} (hx:x ∈ t.sts):Sm (sxN x):=by
 obtain ⟨i,hi,e⟩:=mem_sx hx
 have h1:=h.st i hi
 have h2:=h.rn
 rw [e] at h1
 intro y hy
 simp only[sxN,List.mem_cons,List.not_mem_nil,or_false] at hy
 rcases hy with rfl|rfl <;> omega
theorem gp_ok {t:Tw} (h:TwOk t) {x:Gp} (hx:x ∈ t.gs):GpOk t x:=by
 obtain ⟨i,hi,e⟩:=mem_gp hx
 rw [← e];exact h.g i hi
theorem gp_sm {t:Tw} (h:TwOk t) {x:Gp} (hx:x ∈ t.gs):Sm (gpN x)∧(gpN x).length≤18:=by
 have k:=gp_ok h hx
 have h1:=k.size;have h2:=k.at_;have h3:=k.stay;have h4:=k.first;have h5:=k.many;have h6:=h.rn;have h7:=h.sn
 refine ⟨?_,by unfold gpN;simp;omega⟩
 intro y hy
 simp only[gpN,List.mem_append,List.mem_cons,List.not_mem_nil,or_false] at hy
 rcases hy with (rfl|rfl|rfl|rfl|rfl|rfl)|hy
 ·omega
 ·omega
 ·omega
 ·omega
 ·omega
 ·omega
 ·obtain ⟨i,hi,e⟩:=mem_elt hy
  have:=k.st i hi
  omega
theorem Sm.dec {l:List Int} (h:Sm l):∀ x ∈ l,0≤x∧(decDigits x.toNat).length≤7:=fun x hx=>⟨(h x hx).1,dec_len 6 _ (by have:=h x hx;omega)⟩
theorem numsT_sm:∀ {l:List Int},Sm l→(numsT l).length≤8 * l.length
 | [],_=>by simp [numsT]
 | x :: l,h=>by
  have h1:=Sm.dec h x (by simp)
  have h2:=numsT_sm (l:=l) (fun y hy=>h y (by simp [hy]))
  unfold numsT at h2 ⊢
  rw [List.flatMap_cons,List.length_append,List.length_cons,List.length_cons,itoa_nn h1.1]
  omega
theorem rowT_sm {w:List UInt8} {l:List Int} (h:Sm l):(rowT w l).length≤w.length+8 * l.length+1:=by
 have:=numsT_sm h
 unfold rowT
 simp only[List.length_append,List.length_cons,List.length_nil]
 omega
theorem flat_take {α:Type} {f:α→List UInt8} {l:List α} {d:α} {i:Nat} (h:i < l.length):(l.take (i+1)).flatMap f=(l.take i).flatMap f ++ f (l.getD i d):=by
 rw [List.take_add_one,List.flatMap_append,List.getElem?_eq_getElem h,List.getD_eq_getElem?_getD,List.getElem?_eq_getElem h]
 simp
theorem flat_len {α:Type} {f:α→List UInt8} {n:Nat} {l:List α} (h:∀ x ∈ l,(f x).length≤n):(l.flatMap f).length≤n * l.length:=by
 induction l with
 | nil=>simp
 | cons x l ih =>
  have h1:=h x (by simp)
  have h2:=ih (fun y hy=>h y (by simp [hy]))
  rw [List.flatMap_cons,List.length_append,List.length_cons,Nat.mul_succ]
  omega
theorem rmT_len {t:Tw} (h:TwOk t) {x:Int} (hx:x ∈ t.rooms):(rmT x).length≤15:=rowT_sm (w:=wSq) (rm_sm h hx)
theorem sxT_len {t:Tw} (h:TwOk t) {x:Sx} (hx:x ∈ t.sts):(sxT x).length≤23:=rowT_sm (w:=wSt) (sx_sm h hx)
theorem gpT_len {t:Tw} (h:TwOk t) {x:Gp} (hx:x ∈ t.gs):(gpT x).length≤150:=by
 have:=rowT_sm (w:=wGr) (gp_sm h hx).1
 have e:wGr.length=5:=rfl
 have e2:=(gp_sm h hx).2
 unfold gpT;omega
theorem Sm.ok {l:List Int} (h:Sm l) (hl:l.length≤1000):NumOk l:=⟨by omega,fun x hx=>by have:=h x hx;omega⟩
theorem sm_len {n:Nat} (h:n≤20):Sm [(n:Int)]:=by intro x hx;simp at hx;omega
theorem sp_sm {t:Tw} (h:TwOk t):Sm [t.steps]:=by have:=h.steps;intro x hx;simp at hx;omega
theorem card_len {t:Tw} (h:TwOk t):(cardT t).length≤2300:=by
 have h1:=h.rn;have h2:=h.sn;have h3:=h.gn
 have k1:(t.rooms.flatMap rmT).length≤15 * t.rooms.length:=flat_len (fun x hx=>rmT_len h hx)
 have k2:(t.sts.flatMap sxT).length≤23 * t.sts.length:=flat_len (fun x hx=>sxT_len h hx)
 have k3:(t.gs.flatMap gpT).length≤150 * t.gs.length:=flat_len (fun x hx=>gpT_len h hx)
 have k4:=rowT_sm (w:=wEnd) (sm_len (n:=t.gs.length) (by omega))
 have k5:=rowT_sm (w:=wTown) (sp_sm h)
 have e2:wEnd.length=3:=rfl
 have e3:wTown.length=4:=rfl
 have e4:([(t.gs.length:Int)]:List Int).length=1:=rfl
 have e5:([t.steps]:List Int).length=1:=rfl
 unfold cardT
 simp only[List.length_append]
 omega
def tnR (n:Int):List UInt8:=wTown ++ numsT [n]
def rmR (n:Int):List UInt8:=wSq ++ numsT [n]
def sxR (x:Sx):List UInt8:=wSt ++ numsT (sxN x)
def gpR (x:Gp):List UInt8:=wGr ++ numsT (gpN x)
def enR (n:Nat):List UInt8:=wEnd ++ numsT [(n:Int)]
def rowsB (t:Tw):List (List UInt8):=t.rooms.map rmR ++ t.sts.map sxR ++ t.gs.map gpR ++ [enR t.gs.length]
def rowsC (t:Tw):List (List UInt8):=tnR t.steps :: rowsB t
theorem card_flat (t:Tw):cardT t=(rowsC t).flatMap (· ++ [10]):=by
 unfold cardT rowsC rowsB enR tnR
 simp only[List.flatMap_cons,List.flatMap_append,List.flatMap_map,List.flatMap_nil,List.append_nil]
 unfold rowT
 have e1:t.rooms.flatMap rmT=t.rooms.flatMap fun a=>rmR a ++ [10]:=rfl
 have e2:t.sts.flatMap sxT=t.sts.flatMap fun a=>sxR a ++ [10]:=rfl
 have e3:t.gs.flatMap gpT=t.gs.flatMap fun a=>gpR a ++ [10]:=rfl
 rw [e1,e2,e3]
 simp only[List.append_assoc]
theorem sxN_sxOf {l:List Int} (h:l.length=2):sxN (sxOf l)=l:=by
 match l,h with
 | [a,b],_=>rfl
theorem gpN_gpOf {l:List Int} (h:6≤l.length):gpN (gpOf l)=l:=by
 match l,h with
 | a :: b :: c :: d :: e :: f :: t,_=>rfl
theorem run_e:∀ {rs:List (List UInt8)} {i:Nat} {st st':LSt},runR i st rs=.inr st'→st.e=true→rs=[]∧st'=st
 | [],i,st,st',h,_=>by simp only[runR] at h;injection h with h;exact ⟨rfl,h.symm⟩
 | r :: rs,i,st,st',h,he=>by
  have:stepR i st r=none:=by
   unfold stepR
   split
   ·rfl
   ·unfold stepL;rw [if_pos he]
  rw [runR,this] at h
  cases h
theorem run_inv:∀ {rs:List (List UInt8)} {i:Nat} {st st':LSt},runR (i+1) st rs=.inr st'→st.e=false→st'.e=true →
  ∃ r2 s2 g2,rs=r2.map rmR ++ s2.map sxR ++ g2.map gpR ++ [enR (st.t.gs ++ g2).length]∧st'.t=⟨st.t.rooms ++ r2,st.t.sts ++ s2,st.t.gs ++ g2,st.t.steps⟩∧(st.t.sts ≠ [] ∨ st.t.gs ≠ []→r2=[])∧(st.t.gs ≠ []→s2=[])
 | [],i,st,st',h,he,he'=>by
  simp only[runR] at h;injection h with h;rw [h] at he;rw [he] at he';cases he'
 | r :: rs,i,st,st',h,he,he'=>by
  rw [runR] at h
  cases hp:rowP 7 r with
  | none =>
   have:stepR (i+1) st r=none:=by unfold stepR;rw [hp]
   rw [this] at h;cases h
  | some wl =>
   obtain ⟨w,l⟩:=wl
   have hr:=row_of hp
   have hst:stepR (i+1) st r=stepL (i+1) st w l:=by unfold stepR;rw [hp]
   unfold stepL at hst
   rw [if_neg (by simp [he]),if_neg (by omega)] at hst
   by_cases h0:w=wSq∧l.length=1∧st.t.sts.length=0∧st.t.gs.length=0
   ·rw [if_pos h0] at hst
    rw [hst] at h
    simp only at h
    obtain ⟨r2,s2,g2,q1,q2,q3,q4⟩:=run_inv h (by exact he) he'
    refine ⟨elt l 0 :: r2,s2,g2,?_,by rw [q2];simp,fun hne=>?_,q4⟩
    ·obtain ⟨e1,e2,e3,e4⟩:=h0
     match l,e2 with
     | [a],_ =>
      rw [q1,hr,e1]
      simp [rmR,elt]
    ·rcases hne with hne|hne
     ·exact absurd (List.length_eq_zero_iff.1 h0.2.2.1) hne
     ·exact absurd (List.length_eq_zero_iff.1 h0.2.2.2) hne
   rw [if_neg h0] at hst
   by_cases h1:w=wSt∧l.length=2∧st.t.gs.length=0
   ·rw [if_pos h1] at hst
    rw [hst] at h
    simp only at h
    obtain ⟨r2,s2,g2,q1,q2,q3,q4⟩:=run_inv h (by exact he) he'
    have hf:r2=[]:=q3 (.inl (by simp))
    subst hf
    refine ⟨[],sxOf l :: s2,g2,?_,by rw [q2];simp,fun _=>rfl,fun hne=>absurd (List.length_eq_zero_iff.1 h1.2.2) hne⟩
    rw [q1,hr,h1.1,List.map_cons,sxR,sxN_sxOf h1.2.1]
    simp
   rw [if_neg h1] at hst
   by_cases h2:w=wGr∧6≤l.length
   ·rw [if_pos h2] at hst
    rw [hst] at h
    simp only at h
    obtain ⟨r2,s2,g2,q1,q2,q3,q4⟩:=run_inv h (by exact he) he'
    have hf:r2=[]:=q3 (.inr (by simp))
    have hs:s2=[]:=q4 (by simp)
    subst hf;subst hs
    refine ⟨[],[],gpOf l :: g2,?_,by rw [q2];simp,fun _=>rfl,fun _=>rfl⟩
    rw [q1,hr,h2.1,List.map_cons,gpR,gpN_gpOf h2.2]
    simp
   rw [if_neg h2] at hst
   by_cases h3:w=wEnd∧l.length=1∧elt l 0=st.t.gs.length
   ·rw [if_pos h3] at hst
    rw [hst] at h
    simp only at h
    obtain ⟨e1,e2⟩:=run_e h rfl
    obtain ⟨e3,e4,e5⟩:=h3
    refine ⟨[],[],[],?_,by rw [e2];simp,fun _=>rfl,fun _=>rfl⟩
    rw [e1,hr,e3]
    match l,e4 with
    | [a],_ =>
     have e6:a=st.t.gs.length:=e5
     rw [e6];simp [enR]
   rw [if_neg h3] at hst
   rw [hst] at h;cases h
theorem run_inv0 {rs:List (List UInt8)} {st':LSt} (h:runR 0 st0 rs=.inr st') (he':st'.e=true):rs=rowsC st'.t:=by
 cases rs with
 | nil=>simp only[runR] at h;injection h with h;rw [← h] at he';cases he'
 | cons r rs =>
  rw [runR] at h
  cases hp:rowP 7 r with
  | none =>
   have:stepR 0 st0 r=none:=by unfold stepR;rw [hp]
   rw [this] at h;cases h
  | some wl =>
   obtain ⟨w,l⟩:=wl
   have hr:=row_of hp
   have hst:stepR 0 st0 r=stepL 0 st0 w l:=by unfold stepR;rw [hp]
   unfold stepL at hst
   rw [if_neg (by simp [st0]),if_pos rfl] at hst
   by_cases h0:w=wTown∧l.length=1
   case neg=>rw [if_neg h0] at hst;rw [hst] at h;cases h
   rw [if_pos h0] at hst
   rw [hst] at h
   simp only at h
   obtain ⟨r2,s2,g2,q1,q2,q3,q4⟩:=run_inv h rfl he'
   obtain ⟨e1,e2⟩:=h0
   match l,e2 with
   | [a],_ =>
    rw [q1,q2,hr,e1]
    rfl
theorem rd_inv (text:List UInt8):(∃ k e,rdV text=badV k e∧e ≠ 0) ∨ ∃ t:Tw,rdV text=.tup [t.av,.int .i64 0,.int .i64 0]∧chkE t=0∧cardT t=text:=by
 obtain ⟨rows,hrows⟩:∃ rows,rows=splitL 10 text:=⟨_,rfl⟩
 obtain ⟨nb,hnb⟩:∃ nb,nb=rows.length - 1:=⟨_,rfl⟩
 have hr1:1≤rows.length:=by rw [hrows];exact List.length_pos_iff.2 (splitL_ne _ _)
 unfold rdV
 by_cases h1:4000 < text.length
 ·rw [if_pos h1];exact .inl ⟨_,_,rfl,by decide⟩
 rw [if_neg h1,← hrows,← hnb]
 cases hrun:runR 0 st0 (rows.take nb) with
 | inl k=>exact .inl ⟨_,_,rfl,by decide⟩
 | inr st =>
  simp only
  by_cases he:st.e=false
  ·rw [if_pos he];exact .inl ⟨_,_,rfl,by decide⟩
  rw [if_neg he]
  by_cases hla:rows.getD nb [] ≠ []
  ·rw [if_pos hla];exact .inl ⟨_,_,rfl,by decide⟩
  rw [if_neg hla]
  by_cases hE:chkE st.t ≠ 0
  ·rw [if_pos hE];exact .inl ⟨_,_,rfl,hE⟩
  rw [if_neg hE]
  refine .inr ⟨st.t,rfl,by simpa using hE,?_⟩
  have hla:rows.getD nb []=[]:=by simpa using hla
  have he:st.e=true:=by simpa using he
  have hrl:rows=rows.take nb ++ [[]]:=by
   have e:=(List.take_append_drop nb rows).symm
   have e2:rows.drop nb=[[]]:=by
    rw [List.drop_eq_getElem_cons (by omega),List.drop_eq_nil_of_le (by omega)]
    rw [List.getD_eq_getElem?_getD,List.getElem?_eq_getElem (by omega)] at hla
    simpa using hla
   rw [e2] at e;exact e
  have htext:text=(rows.take nb).flatMap (· ++ [10]):=by
   rw [← join_rows,← hrl,hrows,join_split]
  rw [card_flat,htext]
  congr 1
  exact (run_inv0 hrun he).symm
end Go.Proofs.YtoafigpikgigaaaGreatDoor

namespace Go.Proofs.YtoafigpikgigaaaGreatDoor
open Go.Av Go.Txt Go.Lib
attribute [local irreducible] thenA blockA awp awpOps awpD awp1
attribute [local go_sem_proc] Nat.reduceAdd Nat.reduceMul Nat.reduceEqDiff Nat.reduceBEq Nat.reduceLeDiff
attribute [local go_sem_proc ↓] reduceIte
attribute [local go_sem] if_yes if_no
set_option maxHeartbeats 8000000
set_option maxRecDepth 20000
def parV (k:Nat) (s:List UInt8):AV:=match rowP k s with
 | some (w,l)=>.tup [.str w,.lst 1 (l.map iv),.bool true]
 | none=>.tup [.str [],.lst 1 [],.bool false]
structure PaS where
 i:Nat
 v:AV
 ns:List Int
 g:AH
theorem strs_getD {l:List (List UInt8)} {i:Nat} (h:i < l.length):(strs l).getD i []=[.str (l.getD i [])]:=by
 unfold strs
 rw [List.getD_eq_getElem?_getD,List.getElem?_map,List.getElem?_eq_getElem h,List.getD_eq_getElem?_getD,List.getElem?_eq_getElem h];rfl
theorem sL (l:List (List UInt8)):(strs l).length=l.length:=Lm _
theorem str_mem {l:List (List UInt8)} {i:Nat} (h:i < l.length):l.getD i [] ∈ l:=by
 rw [List.getD_eq_getElem?_getD,List.getElem?_eq_getElem h];exact List.getElem_mem h
theorem take_str {l:List (List UInt8)} {i:Nat} (h:i < l.length):l.take (i+1)=l.take i ++ [l.getD i []]:=by
 rw [List.take_add_one,List.getElem?_eq_getElem h,List.getD_eq_getElem?_getD,List.getElem?_eq_getElem h];rfl
theorem c40 (s:List UInt8) (hs:s.length≤1000000):PureG gT Tryz.prog 40 [.str s] (fun v=>v=parV 7 s):=by
 refine PureG.give Tryz.call40 fun h hgl hold=>?_
 obtain ⟨w,ws,hw⟩:∃ w ws,splitL 32 s=w :: ws:=by
  cases e:splitL 32 s with
  | nil=>exact absurd e (splitL_ne _ _)
  | cons w ws=>exact ⟨w,ws,rfl⟩
 have hlen:=splitL_len 32 s
 rw [hw,List.length_cons] at hlen
 have hsub:∀ x ∈ ws,x.length≤1000000:=fun x hx=>Nat.le_trans (splitL_sub (by rw [hw];exact List.mem_cons_of_mem _ hx)) hs
 have k86:=c39 s 32 (by omega)
 rw [hw] at k86
 have eD:List.take (ws.length+1 - Int.toNat 1) (List.drop (Int.toNat 1) (strs (w :: ws)))=strs ws:=by
  show List.take (ws.length+1 - 1) (strs ws)=strs ws
  rw [Nat.add_sub_cancel]
  exact List.take_of_length_le (by rw [sL];exact Nat.le_refl _)
 refine ACalls.of tab mixed Tryz.call40 Tryz.func40 rfl (fi:=⟨51,[],[44],none,[]⟩) rfl rfl (Nat.le_of_ble_eq_true rfl) (by decide) ?_
 unfold startA
 try simp only[go_sem]
 repeat' (first|refine st_seq_reg rfl (by first|(simp only[go_sem,sL,List.length_cons];rfl)|rfl) (by first|(simp only[go_sem,sL,List.length_cons];rfl)|rfl) ?_|refine st_op ?_|refine st_det rfl (by simp (disch:=omega) only[go_sem,wr_i64,sL,List.length_cons];rfl) ?_|(refine st_pureGE (by first|(simp (disch:=omega) only[go_sem,sL,List.length_cons];rfl)|rfl) rfl (k86) (by exact hgl) (by first|(simp only[go_sem,sL,List.length_cons];rfl)|rfl) (by intro n;first|(simp (disch:=omega) only[go_sem];rfl)|rfl) ?_;intro n hn)|refine st_nil ?_|refine st_seq ?_|refine st_block ?_)
 simp only[eD,sL]
 have hbad:∀ i,i < ws.length→numP 7 (ws.getD i [])=none→numsP 7 ws=none:=by
  intro i hi hn
  have e:ws=ws.take (i+1) ++ ws.drop (i+1):=(List.take_append_drop _ _).symm
  rw [e]
  refine numsP_bad ?_
  rw [take_str hi,numsP_snoc,hn]
  cases numsP 7 (ws.take i) <;> rfl
 have hrow:∀ l,numsP 7 ws=some l→parV 7 s=.tup [.str w,.lst 1 (l.map iv),.bool true]:=by
  intro l hl
  unfold parV rowP;rw [hw];simp only[hl,Option.map_some]
 have hrow0:numsP 7 ws=none→parV 7 s=.tup [.str [],.lst 1 [],.bool false]:=by
  intro hl
  unfold parV rowP;rw [hw];simp only[hl,Option.map_none]
 refine st_loopH (α:=PaS) tab mixed [] [] (by repeat (first|exact trivial|refine ⟨rfl,?_⟩)) [] [] (by repeat (first|exact trivial|refine ⟨rfl,?_⟩)) (fun a=>[(16,.int .i64 (a.i:Nat)),(6,a.v)]) [(2,_),(3,_),(4,_),(5,_),(14,_),(15,_)] (fun _=>[]) [] (fun a=>a.g) (fun a=>a.i≤ws.length∧numsP 7 (ws.take a.i)=some a.ns∧a.ns.length=a.i∧SlA h.clk a.g a.v 1 (a.ns.map iv)∧(∀ b':Bid,b'.1 < h.clk→a.g.at_ b'=h.at_ b')∧a.g.lp=h.lp∧a.g.gl=gT∧h.clk≤a.g.clk) (fun a=>ws.length - a.i) (by decide) ⟨0,.nils,[],_⟩ (by exact ⟨Nat.zero_le _,rfl,rfl,.inl ⟨rfl,rfl⟩,fun _ _=>rfl,rfl,hgl,by (try simp only[go_sem]);omega⟩) (by (try simp only[go_sem]);repeat' (first|exact trivial|refine And.intro ?_ ?_|rfl|(simp (disch:=omega) only[go_sem,if_yes,if_no,if_no];rfl)|(simp (disch:=omega) only[go_sem,if_yes,if_no,if_no]))) (by (try simp only[go_sem]);repeat' (first|exact trivial|refine And.intro ?_ ?_|rfl|(simp (disch:=omega) only[go_sem,if_yes,if_no,if_no];rfl)|(simp (disch:=omega) only[go_sem,if_yes,if_no,if_no]))) (HOld.refl _) ?_
 rintro ⟨i,v,ns,g⟩ c ⟨hi,hns,hnl,hS,hat,hlp,hgl,hck⟩ hc
 dsimp only at hi hns hnl hS hat hlp hgl hck hc
 simp only[go_sem]
 have hnc:=hS.noL
 by_cases hil:i < ws.length
 case neg =>
  obtain rfl:i=ws.length:=by omega
  rw [List.take_length] at hns
  repeat' (first|refine st_seq_reg rfl (by first|(simp only[go_sem,sL,List.length_cons,hnc];rfl)|rfl) (by first|(simp only[go_sem,sL,List.length_cons,hnc];rfl)|rfl) ?_|refine st_op ?_|refine st_det rfl (by simp (disch:=omega) only[go_sem,wr_i64,sL,List.length_cons,hnc];rfl) ?_|(refine st_condS rfl ?_ ?_ <;> intro hg <;> (try simp only[dcT,dcF,bnT,bnF] at hg))|refine st_nil ?_|refine st_tN ?_|refine st_seq ?_|refine st_block ?_|refine st_skip ?_|refine st_exit ?_|refine st_ret ?_|refine st_tE ?_|refine st_bH ?_)
  all_goals try (exfalso;omega)
  simp (disch:=omega) only[AEnd,Tryz.results40,aresK,fin,go_sem,implies_true,true_and,and_true,List.reverse_cons,List.reverse_nil]
  refine ⟨hnc,hat,hlp,?_⟩
  rw [hrow ns hns]
  exact SlA.ansT (R:=fun v=>v=.tup [.str w,.lst 1 (ns.map iv),.bool true]) [.str w] [.bool true] (fun _ _=>rfl) (fun _ _=>rfl) hS rfl
 obtain ⟨x,hx⟩:∃ x,x=ws.getD i []:=⟨_,rfl⟩
 have hxl:x.length≤1000000:=hx ▸ hsub _ (str_mem hil)
 have hxg:(strs ws).getD i []=[.str x]:=by rw [strs_getD hil,hx]
 have k114:=c62 x (by omega)
 have hn3:=numP_atoi (k:=7) (by decide) x
 have hfail:numP 7 x=none→(∃ v',VLe (.tup [.str [],.nils,.bool false]) v'∧v'=parV 7 s):=fun q =>
  ⟨_,VLe.tup (VLes.mid (pre:=[.str []]) (post:=[.bool false]) (VLe.nils 1)),(hrow0 (hbad i hil (hx ▸ q))).symm⟩
 rcases ha:atoiAll x with z|_|_
 rotate_left 1
 ·
  rw [atoiV,ha] at k114
  rw [ha] at hn3
  repeat' (first|refine st_seq_reg rfl (by first|(simp only[go_sem,sL,List.length_cons,hnc,hxg];rfl)|rfl) (by first|(simp only[go_sem,sL,List.length_cons,hnc,hxg];rfl)|rfl) ?_|refine st_op ?_|refine st_det rfl (by simp (disch:=omega) only[go_sem,wr_i64,sL,List.length_cons,hnc,hxg];rfl) ?_|(refine st_pureGE (by first|(simp (disch:=omega) only[go_sem,sL,List.length_cons,hnc,hxg];rfl)|rfl) rfl (k114) (by exact hgl) (by first|(simp only[go_sem,sL,List.length_cons,hnc,hxg];rfl)|rfl) (by intro n;first|(simp (disch:=omega) only[go_sem];rfl)|rfl) ?_;intro n hn)|refine st_gF rfl rfl rfl ?_|refine st_condT rfl ?_|(refine st_condS rfl ?_ ?_ <;> intro hg <;> (try simp only[dcT,dcF,bnT,bnF] at hg))|refine st_nil ?_|refine st_tN ?_|refine st_seq ?_|refine st_block ?_|refine st_skip ?_|refine st_exit ?_|refine st_ret ?_|refine st_tE ?_|refine st_tR ?_|refine st_bR ?_|refine st_bH ?_)
  all_goals try (exfalso;omega)
  simp (disch:=omega) only[AEnd,Tryz.results40,aresK,fin,go_sem,implies_true,true_and,and_true,List.reverse_cons,List.reverse_nil]
  exact ⟨hat,hlp,.inl (hfail hn3)⟩
 ·
  rw [atoiV,ha] at k114
  rw [ha] at hn3
  repeat' (first|refine st_seq_reg rfl (by first|(simp only[go_sem,sL,List.length_cons,hnc,hxg];rfl)|rfl) (by first|(simp only[go_sem,sL,List.length_cons,hnc,hxg];rfl)|rfl) ?_|refine st_op ?_|refine st_det rfl (by simp (disch:=omega) only[go_sem,wr_i64,sL,List.length_cons,hnc,hxg];rfl) ?_|(refine st_pureGE (by first|(simp (disch:=omega) only[go_sem,sL,List.length_cons,hnc,hxg];rfl)|rfl) rfl (k114) (by exact hgl) (by first|(simp only[go_sem,sL,List.length_cons,hnc,hxg];rfl)|rfl) (by intro n;first|(simp (disch:=omega) only[go_sem];rfl)|rfl) ?_;intro n hn)|refine st_gF rfl rfl rfl ?_|refine st_condT rfl ?_|(refine st_condS rfl ?_ ?_ <;> intro hg <;> (try simp only[dcT,dcF,bnT,bnF] at hg))|refine st_nil ?_|refine st_tN ?_|refine st_seq ?_|refine st_block ?_|refine st_skip ?_|refine st_exit ?_|refine st_ret ?_|refine st_tE ?_|refine st_tR ?_|refine st_bR ?_|refine st_bH ?_)
  all_goals try (exfalso;omega)
  simp (disch:=omega) only[AEnd,Tryz.results40,aresK,fin,go_sem,implies_true,true_and,and_true,List.reverse_cons,List.reverse_nil]
  exact ⟨hat,hlp,.inl (hfail hn3)⟩
 ·
  have hbd:=atoi_bd ha
  rw [atoiV,ha] at k114
  rw [ha] at hn3
  simp only at hn3
  have k79:=c35 z hbd.1 hbd.2
  by_cases h1:z < 0
  ·rw [if_pos (.inl h1)] at hn3
   repeat' (first|refine st_seq_reg rfl (by first|(simp only[go_sem,sL,List.length_cons,hnc,hxg];rfl)|rfl) (by first|(simp only[go_sem,sL,List.length_cons,hnc,hxg];rfl)|rfl) ?_|refine st_op ?_|refine st_det rfl (by simp (disch:=omega) only[go_sem,wr_i64,sL,List.length_cons,hnc,hxg];rfl) ?_|(refine st_pureGE (by first|(simp (disch:=omega) only[go_sem,sL,List.length_cons,hnc,hxg];rfl)|rfl) rfl (k114) (by exact hgl) (by first|(simp only[go_sem,sL,List.length_cons,hnc,hxg];rfl)|rfl) (by intro n;first|(simp (disch:=omega) only[go_sem];rfl)|rfl) ?_;intro n hn)|refine st_gT rfl rfl rfl ?_|refine st_gF rfl rfl rfl ?_|(refine st_gS rfl rfl ?_ ?_ <;> intro hg <;> (try simp only[dcT,dcF,bnT,bnF] at hg))|refine st_condT rfl ?_|(refine st_condS rfl ?_ ?_ <;> intro hg <;> (try simp only[dcT,dcF,bnT,bnF] at hg))|refine st_nil ?_|refine st_tN ?_|refine st_seq ?_|refine st_block ?_|refine st_skip ?_|refine st_exit ?_|refine st_ret ?_|refine st_tE ?_|refine st_tR ?_|refine st_bR ?_|refine st_bH ?_)
   all_goals try (exfalso;omega)
   simp (disch:=omega) only[AEnd,Tryz.results40,aresK,fin,go_sem,implies_true,true_and,and_true,List.reverse_cons,List.reverse_nil]
   exact ⟨hat,hlp,.inl (hfail hn3)⟩
  by_cases h2:7 < x.length
  ·rw [if_pos (.inr (.inl h2))] at hn3
   repeat' (first|refine st_seq_reg rfl (by first|(simp only[go_sem,sL,List.length_cons,hnc,hxg];rfl)|rfl) (by first|(simp only[go_sem,sL,List.length_cons,hnc,hxg];rfl)|rfl) ?_|refine st_op ?_|refine st_det rfl (by simp (disch:=omega) only[go_sem,wr_i64,sL,List.length_cons,hnc,hxg];rfl) ?_|(refine st_pureGE (by first|(simp (disch:=omega) only[go_sem,sL,List.length_cons,hnc,hxg];rfl)|rfl) rfl (k114) (by exact hgl) (by first|(simp only[go_sem,sL,List.length_cons,hnc,hxg];rfl)|rfl) (by intro n;first|(simp (disch:=omega) only[go_sem];rfl)|rfl) ?_;intro n hn)|refine st_gT rfl rfl rfl ?_|refine st_gF rfl rfl rfl ?_|(refine st_gS rfl rfl ?_ ?_ <;> intro hg <;> (try simp only[dcT,dcF,bnT,bnF] at hg))|refine st_condT rfl ?_|(refine st_condS rfl ?_ ?_ <;> intro hg <;> (try simp only[dcT,dcF,bnT,bnF] at hg))|refine st_nil ?_|refine st_tN ?_|refine st_seq ?_|refine st_block ?_|refine st_skip ?_|refine st_exit ?_|refine st_ret ?_|refine st_tE ?_|refine st_tR ?_|refine st_bR ?_|refine st_bH ?_)
   all_goals try (exfalso;omega)
   simp (disch:=omega) only[AEnd,Tryz.results40,aresK,fin,go_sem,implies_true,true_and,and_true,List.reverse_cons,List.reverse_nil]
   exact ⟨hat,hlp,.inl (hfail hn3)⟩
  by_cases h3:itoa z=x
  case neg =>
   rw [if_pos (.inr (.inr h3))] at hn3
   repeat' (first|refine st_seq_reg rfl (by first|(simp only[go_sem,sL,List.length_cons,hnc,hxg,h3];rfl)|rfl) (by first|(simp only[go_sem,sL,List.length_cons,hnc,hxg,h3];rfl)|rfl) ?_|refine st_op ?_|refine st_det rfl (by simp (disch:=omega) only[go_sem,wr_i64,sL,List.length_cons,hnc,hxg,h3];rfl) ?_|(refine st_pureGE (by first|(simp (disch:=omega) only[go_sem,sL,List.length_cons,hnc,hxg,h3];rfl)|rfl) rfl (k114) (by exact hgl) (by first|(simp only[go_sem,sL,List.length_cons,hnc,hxg,h3];rfl)|rfl) (by intro n;first|(simp (disch:=omega) only[go_sem];rfl)|rfl) ?_;intro n hn)|(refine st_pureGE (by first|(simp (disch:=omega) only[go_sem,sL,List.length_cons,hnc,hxg,h3];rfl)|rfl) rfl (k79) (by exact hgl) (by first|(simp only[go_sem,sL,List.length_cons,hnc,hxg,h3];rfl)|rfl) (by intro n;first|(simp (disch:=omega) only[go_sem];rfl)|rfl) ?_;intro n hn)|refine st_gT rfl rfl rfl ?_|refine st_gF rfl rfl rfl ?_|(refine st_gS rfl rfl ?_ ?_ <;> intro hg <;> (try simp only[dcT,dcF,bnT,bnF] at hg))|refine st_condT rfl ?_|(refine st_condS rfl ?_ ?_ <;> intro hg <;> (try simp only[dcT,dcF,bnT,bnF] at hg))|refine st_nil ?_|refine st_tN ?_|refine st_seq ?_|refine st_block ?_|refine st_skip ?_|refine st_exit ?_|refine st_ret ?_|refine st_tE ?_|refine st_tR ?_|refine st_bR ?_|refine st_bH ?_)
   all_goals try (exfalso;omega)
   simp (disch:=omega) only[AEnd,Tryz.results40,aresK,fin,go_sem,implies_true,true_and,and_true,List.reverse_cons,List.reverse_nil]
   exact ⟨hat,hlp,.inl (hfail hn3)⟩
  rw [if_neg (by rintro (q|q|q);exact h1 q;exact h2 q;exact q h3)] at hn3
  repeat' (first|refine st_seq_reg rfl (by first|(simp only[go_sem,sL,List.length_cons,hnc,hxg,h3];rfl)|rfl) (by first|(simp only[go_sem,sL,List.length_cons,hnc,hxg,h3];rfl)|rfl) ?_|refine st_reg rfl (by first|(simp only[go_sem,sL,List.length_cons,hnc,hxg,h3];rfl)|rfl) (by first|(simp only[go_sem,sL,List.length_cons,hnc,hxg,h3];rfl)|rfl) ?_|refine st_op ?_|refine st_det rfl (by simp (disch:=omega) only[go_sem,wr_i64,sL,List.length_cons,hnc,hxg,h3];rfl) ?_|(refine st_pureGE (by first|(simp (disch:=omega) only[go_sem,sL,List.length_cons,hnc,hxg,h3];rfl)|rfl) rfl (k114) (by exact hgl) (by first|(simp only[go_sem,sL,List.length_cons,hnc,hxg,h3];rfl)|rfl) (by intro n;first|(simp (disch:=omega) only[go_sem];rfl)|rfl) ?_;intro n hn)|(refine st_pureGE (by first|(simp (disch:=omega) only[go_sem,sL,List.length_cons,hnc,hxg,h3];rfl)|rfl) rfl (k79) (by exact hgl) (by first|(simp only[go_sem,sL,List.length_cons,hnc,hxg,h3];rfl)|rfl) (by intro n;first|(simp (disch:=omega) only[go_sem];rfl)|rfl) ?_;intro n hn)|(refine st_appSg (by intro h id x y;simp only[go_sem];rfl) rfl (by simp only[go_sem,sL,List.length_cons,hnc,hxg,h3];rfl) (by first|(simp only[go_sem,sL,List.length_cons,hnc,hxg,h3];rfl)|rfl) (by decide) hS (fun _ _ _=>rfl) (by omega) (by simp only[Lm,List.length_cons,List.length_nil,big,sL,List.length_cons,hnc,hxg,h3];omega) (by omega) (by omega) ?_;intro v' g' hA hAg)|refine st_gT rfl rfl rfl ?_|refine st_gF rfl rfl rfl ?_|(refine st_gS rfl rfl ?_ ?_ <;> intro hg <;> (try simp only[dcT,dcF,bnT,bnF] at hg))|refine st_condT rfl ?_|refine st_condF rfl ?_|(refine st_condS rfl ?_ ?_ <;> intro hg <;> (try simp only[dcT,dcF,bnT,bnF] at hg))|refine st_nil ?_|refine st_tN ?_|refine st_seq ?_|refine st_block ?_|refine st_skip ?_|refine st_exit ?_|refine st_ret ?_|refine st_tE ?_|refine st_tR ?_|refine st_bN ?_|refine st_bR ?_|refine st_bH ?_)
  all_goals try (exfalso;omega)
  have hns2:numsP 7 (ws.take (i+1))=some (ns ++ [z]):=by
   rw [take_str hil,numsP_snoc,hns,← hx,hn3]
   simp only
   rw [show ((z.toNat:Nat):Int)=z by omega]
  refine ⟨⟨i+1,v',ns ++ [z],_⟩,(by exact ⟨by show i+1≤ws.length;omega,hns2,by simp [hnl],by rw [List.map_append];exact hA.sl.to (fun _ _ _ _ _=>rfl) (by (try simp only[go_sem]);omega),fun b' hb'=>(hA.old b' hb').trans (hat b' hb'),hA.lp.trans hlp,hAg.trans hgl,by (try simp only[go_sem]);omega⟩),(by show ws.length - (i+1) < ws.length - i;omega),(by repeat' (first|exact trivial|refine And.intro ?_ ?_|rfl|(simp (disch:=omega) only[go_sem,if_yes,if_no,if_no];rfl)|(simp (disch:=omega) only[go_sem,if_yes,if_no,if_no]))),(by repeat' (first|exact trivial|refine And.intro ?_ ?_|rfl|(simp (disch:=omega) only[go_sem,if_yes,if_no,if_no];rfl)|(simp (disch:=omega) only[go_sem,if_yes,if_no,if_no]))),rfl,HOld.refl _⟩
end Go.Proofs.YtoafigpikgigaaaGreatDoor
