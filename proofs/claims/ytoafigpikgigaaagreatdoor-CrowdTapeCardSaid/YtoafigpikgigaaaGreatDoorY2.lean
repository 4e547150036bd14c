/- Contracts of functions that the claim reaches: what each call gives, told in our own logic. Conditions: those of each theorem. -/
import Derived.Test.YtoafigpikgigaaaGreatDoorQ2
set_option linter.all false
set_option linter.unusedSimpArgs false
set_option linter.unusedVariables false
namespace Go.Proofs.YtoafigpikgigaaaGreatDoor
open Go.Av
set_option maxRecDepth 20000
theorem spanE_ok {lo hi m:Int} (h:0≤lo∧lo≤hi∧hi≤m):spanE lo hi m=0:=by
 unfold spanE;rw [if_neg (by omega),if_neg (by omega)]
theorem grpE_ok {t:Tw} {g:Gp} (h:GpOk t g):grpE t g=0:=by
 have h1:=h.stay;have h2:=h.first;have h3:=h.many
 unfold grpE
 rw [spanE_ok h.size,spanE_ok h.at_,if_neg (by simp),if_neg (by simp),if_neg (by omega),if_neg (by omega),if_neg (by omega)]
 refine errN_all fun i hi=>?_
 have a:=h.st i hi
 have b:=h.way (i+1) (by omega)
 unfold pathF
 rw [if_neg (by omega),if_neg (by omega)]
theorem allIn_of {lo hi:Int}:∀ {l:List Int},(∀ i,i < l.length→lo≤elt l i∧elt l i≤hi)→allIn lo hi l=true
 | [],_=>rfl
 | x :: l,h=>by
  have h0:=h 0 (by simp)
  have ih:=allIn_of (l:=l) fun i hi=>by have:=h (i+1) (by simpa using hi);simpa [elt] using this
  have e:elt (x :: l) 0=x:=rfl
  rw [e] at h0
  show (decide (lo≤x∧x≤hi) && allIn lo hi l)=true
  rw [ih,decide_eq_true h0];rfl
theorem chkE_ok {t:Tw} (h:TwOk t):chkE t=0:=by
 have h1:=h.r0;have h2:=h.rn;have h3:=h.sn;have h4:=h.steps;have h5:=h.gn
 have e1:errN (stE t) t.sts.length=0:=errN_all fun i hi=>by
  have a:=h.st i hi
  unfold stE;rw [if_neg (by omega),if_neg (by omega)]
 unfold chkE
 rw [if_neg (by omega),if_neg (by omega),allIn_of h.room,if_neg (by simp),if_neg (by omega),e1,if_neg (by simp),if_neg (by omega),if_neg (by omega)]
 exact errN_all fun i hi=>grpE_ok (h.g i hi)
theorem wayN_congr {t u:Tw} (h:t.sts=u.sts) (p:List Int) (q:Int):∀ i,wayN t p q i=wayN u p q i
 | 0=>rfl
 | i+1=>by show oth (sx t.sts _) (wayN t p q i)=_;rw [wayN_congr h p q i,h];rfl
theorem GpOk.congr {t u:Tw} {g:Gp} (h:GpOk t g) (h1:t.rooms=u.rooms) (h2:t.sts=u.sts):GpOk u g :=
 ⟨h.size,h.at_,h.stay,by rw [← h1];exact h.first,h.many,by rw [← h2];exact h.st,fun i hi=>by rw [← wayN_congr h2];exact h.way i hi⟩
theorem elt_app {l:List Int} {r:Int} {i:Nat} (h:i < l.length):elt (l ++ [r]) i=elt l i:=by
 unfold elt;simp only[List.getD_eq_getElem?_getD];rw [List.getElem?_append_left h]
theorem elt_last {l:List Int} {r:Int}:elt (l ++ [r]) l.length=r:=by
 unfold elt;simp only[List.getD_eq_getElem?_getD];simp
theorem wayN_app {t:Tw} {p:List Int} {q r:Int}:∀ i,i≤p.length→wayN t (p ++ [r]) q i=wayN t p q i
 | 0,_=>rfl
 | i+1,h=>by
  show oth (sx t.sts (elt (p ++ [r]) i).toNat) (wayN t (p ++ [r]) q i)=oth (sx t.sts (elt p i).toNat) (wayN t p q i)
  rw [elt_app (by omega),wayN_app i (by omega)]
structure PtOk (t:Tw) (q:Int) (p:List Int):Prop where
 st:∀ i,i < p.length→0≤elt p i∧elt p i < t.sts.length
 way:∀ i,i≤p.length→0≤wayN t p q i
theorem PtOk.add {t:Tw} {q:Int} {p:List Int} {r:Int} (h:PtOk t q p) (hr:0≤r∧r < t.sts.length) (hw:0≤oth (sx t.sts r.toNat) (wayN t p q p.length)):PtOk t q (p ++ [r])∧wayN t (p ++ [r]) q (p ++ [r]).length=oth (sx t.sts r.toNat) (wayN t p q p.length):=by
 have hl:(p ++ [r]).length=p.length+1:=by simp
 have e:wayN t (p ++ [r]) q (p.length+1)=oth (sx t.sts r.toNat) (wayN t p q p.length):=by
  show oth (sx t.sts (elt (p ++ [r]) p.length).toNat) (wayN t (p ++ [r]) q p.length)=_
  rw [elt_last,wayN_app _ (Nat.le_refl _)]
 refine ⟨⟨fun i hi=>?_,fun i hi=>?_⟩,by rw [hl];exact e⟩
 ·by_cases c:i < p.length
  ·rw [elt_app c];exact h.st i c
  ·obtain rfl:i=p.length:=by omega
   rw [elt_last];exact hr
 ·by_cases c:i≤p.length
  ·rw [wayN_app i c];exact h.way i c
  ·obtain rfl:i=p.length+1:=by omega
   rw [e];exact hw
structure GpGood (t:Tw) (g:Gp):Prop where
 size:0≤g.lo∧g.lo≤g.hi∧g.hi≤90
 at_:0≤g.alo∧g.alo≤g.ahi∧g.ahi≤4
 stay:1≤g.stay∧g.stay≤4
 first:0≤g.first∧g.first < t.rooms.length
 many:g.path.length≤4
 pt:PtOk t g.first g.path
structure TwGood (t:Tw) (SQ ST GR:Int):Prop where
 r0:0 < t.rooms.length
 rn:(t.rooms.length:Int)≤SQ
 room:∀ x ∈ t.rooms,0≤x∧x≤500
 sn:(t.sts.length:Int)≤ST
 st:∀ x ∈ t.sts,0≤x.a∧x.a < t.rooms.length∧0≤x.b∧x.b < t.rooms.length∧x.a ≠ x.b
 steps:0≤t.steps∧t.steps≤10
 gn:(t.gs.length:Int)≤GR
 g:∀ x ∈ t.gs,GpGood t x
theorem TwGood.ok {t:Tw} {SQ ST GR:Int} (h:TwGood t SQ ST GR) (h1:SQ≤12) (h2:ST≤12) (h3:GR≤12):TwOk t:=by
 have a:=h.rn;have b:=h.sn;have c:=h.gn;have d:=h.steps
 refine ⟨h.r0,by omega,fun i hi=>?_,by omega,fun i hi=>h.st _ (sx_mem hi),by omega,by omega,fun i hi=>?_⟩
 ·have:=h.room _ (elt_mem hi);omega
 ·have k:=h.g _ (gp_mem hi)
  have k1:=k.size;have k2:=k.at_;have k3:=k.stay;have k4:=k.many
  exact ⟨by omega,by omega,by omega,k.first,by omega,k.pt.st,k.pt.way⟩
structure ClOk (t:Tw) (c:List Int) (j:Nat):Prop where
 len:c.length≤j
 bd:∀ i,i < c.length→0≤elt c i∧elt c i < j
 up:∀ i,0 < i→i < c.length→elt c (i - 1) < elt c i
theorem ClOk.mono {t:Tw} {c:List Int} {j k:Nat} (h:ClOk t c j) (hk:j≤k):ClOk t c k:=⟨by have:=h.len;omega,fun i hi=>by have:=h.bd i hi;omega,h.up⟩
theorem ClOk.add {t:Tw} {c:List Int} {j:Nat} (h:ClOk t c j):ClOk t (c ++ [((j:Nat):Int)]) (j+1):=by
 have hl:=h.len
 have hl1:(c ++ [((j:Nat):Int)]).length=c.length+1:=by simp
 refine ⟨by omega,fun i hi=>?_,fun i h0 hi=>?_⟩
 ·by_cases q:i < c.length
  ·rw [elt_app q];have:=h.bd i q;omega
  ·obtain rfl:i=c.length:=by omega
   rw [elt_last];omega
 ·by_cases q:i < c.length
  ·rw [elt_app q,elt_app (by omega)];exact h.up i h0 q
  ·obtain rfl:i=c.length:=by omega
   rw [elt_last,elt_app (by omega)];exact (h.bd _ (by omega)).2
theorem ClOk.cloE {t:Tw} {c:List Int} (h:ClOk t c t.sts.length) (hT:chkE t=0):cloE t c=0:=by
 unfold Go.Proofs.YtoafigpikgigaaaGreatDoor.cloE
 rw [if_neg (fun e=>e hT)]
 refine errN_all fun i hi=>?_
 have a:=h.bd i hi
 unfold cloF
 rw [if_neg (by omega),if_neg]
 rintro ⟨h0,h1⟩
 have:=h.up i h0 hi
 omega
end Go.Proofs.YtoafigpikgigaaaGreatDoor

namespace Go.Proofs.YtoafigpikgigaaaGreatDoor
open Go.Av Go.Txt Go.Lib
set_option maxRecDepth 20000
def wTown:List UInt8:=[116,111,119,110]
def wSq:List UInt8:=[115,113,117,97,114,101]
def wSt:List UInt8:=[115,116,114,101,101,116]
def wGr:List UInt8:=[103,114,111,117,112]
def wEnd:List UInt8:=[101,110,100]
def sxN (x:Sx):List Int:=[x.a,x.b]
def gpN (g:Gp):List Int:=[g.lo,g.hi,g.alo,g.ahi,g.stay,g.first] ++ g.path
def rmT (n:Int):List UInt8:=rowT wSq [n]
def sxT (x:Sx):List UInt8:=rowT wSt (sxN x)
def gpT (g:Gp):List UInt8:=rowT wGr (gpN g)
def cardT (t:Tw):List UInt8:=rowT wTown [t.steps] ++ t.rooms.flatMap rmT ++ t.sts.flatMap sxT ++ t.gs.flatMap gpT ++ rowT wEnd [(t.gs.length:Int)]
def wrV (t:Tw):AV:=if chkE t=0 then .tup [.str (cardT t),.int .i64 0] else .tup [.str [],.int .i64 (chkE t)]
structure LSt where
 t:Tw
 e:Bool
def sxOf (l:List Int):Sx:=⟨elt l 0,elt l 1⟩
def gpOf (l:List Int):Gp:=⟨elt l 0,elt l 1,elt l 2,elt l 3,elt l 4,elt l 5,l.drop 6⟩
def stepL (i:Nat) (st:LSt) (w:List UInt8) (l:List Int):Option LSt :=
 if st.e=true then none
 else if i=0 then (if w=wTown∧l.length=1 then some ⟨⟨st.t.rooms,st.t.sts,st.t.gs,elt l 0⟩,st.e⟩ else none)
 else if w=wSq∧l.length=1∧st.t.sts.length=0∧st.t.gs.length=0 then some ⟨⟨st.t.rooms ++ [elt l 0],st.t.sts,st.t.gs,st.t.steps⟩,st.e⟩
 else if w=wSt∧l.length=2∧st.t.gs.length=0 then some ⟨⟨st.t.rooms,st.t.sts ++ [sxOf l],st.t.gs,st.t.steps⟩,st.e⟩
 else if w=wGr∧6≤l.length then some ⟨⟨st.t.rooms,st.t.sts,st.t.gs ++ [gpOf l],st.t.steps⟩,st.e⟩
 else if w=wEnd∧l.length=1∧elt l 0=st.t.gs.length then some ⟨st.t,true⟩
 else none
def stepR (i:Nat) (st:LSt) (row:List UInt8):Option LSt:=match rowP 7 row with
 | none=>none
 | some (w,l)=>stepL i st w l
def runR:Nat→LSt→List (List UInt8)→Nat ⊕ LSt
 | _,st,[]=>.inr st
 | i,st,r :: rs=>match stepR i st r with
  | none=>.inl (i+1)
  | some st'=>runR (i+1) st' rs
def t0:Tw:=⟨[],[],[],0⟩
def st0:LSt:=⟨t0,false⟩
def badV (k:Nat) (e:Int):AV:=.tup [t0.av,.int .i64 (k:Nat),.int .i64 e]
def rdV (text:List UInt8):AV :=
 if 4000 < text.length then badV 0 6 else
 match runR 0 st0 ((splitL 10 text).take ((splitL 10 text).length - 1)) with
 | .inl k=>badV k 1
 | .inr st =>
  if st.e=false then badV (splitL 10 text).length 1
  else if (splitL 10 text).getD ((splitL 10 text).length - 1) [] ≠ [] then badV (splitL 10 text).length 1
  else if chkE st.t ≠ 0 then badV 0 (chkE st.t)
  else .tup [st.t.av,.int .i64 0,.int .i64 0]
theorem run_drop {i:Nat} {st:LSt} {l:List (List UInt8)} (h:i < l.length):runR i st (l.drop i)=match stepR i st (l.getD i []) with
  | none=>.inl (i+1)
  | some st'=>runR (i+1) st' (l.drop (i+1)):=by
 rw [List.drop_eq_getElem_cons h,runR,List.getD_eq_getElem?_getD,List.getElem?_eq_getElem h]
 rfl
def Sm (l:List Int):Prop:=∀ x ∈ l,0≤x∧x < 10000000
theorem mem_elt {l:List Int} {x:Int} (h:x ∈ l):∃ i,i < l.length∧elt l i=x:=by
 obtain ⟨i,hi,e⟩:=List.getElem_of_mem h
 exact ⟨i,hi,by unfold elt;rw [List.getD_eq_getElem?_getD,List.getElem?_eq_getElem hi];exact e⟩
theorem mem_sx {l:List Sx} {x:Sx} (h:x ∈ l):∃ i,i < l.length∧sx l i=x:=by
 obtain ⟨i,hi,e⟩:=List.getElem_of_mem h
 exact ⟨i,hi,by unfold sx;rw [List.getD_eq_getElem?_getD,List.getElem?_eq_getElem hi];exact e⟩
theorem mem_gp {l:List Gp} {x:Gp} (h:x ∈ l):∃ i,i < l.length∧gp l i=x:=by
 obtain ⟨i,hi,e⟩:=List.getElem_of_mem h
 exact ⟨i,hi,by unfold gp;rw [List.getD_eq_getElem?_getD,List.getElem?_eq_getElem hi];exact e⟩
theorem rm_sm {t:Tw} (h:TwOk t) {x:Int} (hx:x ∈ t.rooms):Sm [x]:=by
 obtain ⟨i,hi,e⟩:=mem_elt hx
 have:=h.room i hi
 intro y hy
 simp only[List.mem_cons,List.not_mem_nil,or_false] at hy
 subst hy;omega
theorem sx_sm {t:Tw} (h:TwOk t) {x:Sx} (hx:x ∈ t.sts):Sm (sxN x):=by
 obtain ⟨i,hi,e⟩:=mem_sx hx
 have h1:=h.st i hi
 have h2:=h.rn
 rw [e] at h1
 intro y hy
 simp only[sxN,List.mem_cons,List.not_mem_nil,or_false] at hy
 rcases hy with rfl|rfl <;> omega
theorem gp_ok {t:Tw} (h:TwOk t) {x:Gp} (hx:x ∈ t.gs):GpOk t x:=by
 obtain ⟨i,hi,e⟩:=mem_gp hx
 rw [← e];exact h.g i hi
theorem gp_sm {t:Tw} (h:TwOk t) {x:Gp} (hx:x ∈ t.gs):Sm (gpN x)∧(gpN x).length≤18:=by
 have k:=gp_ok h hx
 have h1:=k.size;have h2:=k.at_;have h3:=k.stay;have h4:=k.first;have h5:=k.many;have h6:=h.rn;have h7:=h.sn
 refine ⟨?_,by unfold gpN;simp;omega⟩
 intro y hy
 simp only[gpN,List.mem_append,List.mem_cons,List.not_mem_nil,or_false] at hy
 rcases hy with (rfl|rfl|rfl|rfl|rfl|rfl)|hy
 ·omega
 ·omega
 ·omega
 ·omega
 ·omega
 ·omega
 ·obtain ⟨i,hi,e⟩:=mem_elt hy
  have:=k.st i hi
  omega
theorem Sm.dec {l:List Int} (h:Sm l):∀ x ∈ l,0≤x∧(decDigits x.toNat).length≤7:=fun x hx=>⟨(h x hx).1,dec_len 6 _ (by have:=h x hx;omega)⟩
theorem numsT_sm:∀ {l:List Int},Sm l→(numsT l).length≤8 * l.length
 | [],_=>by simp [numsT]
 | x :: l,h=>by
  have h1:=Sm.dec h x (by simp)
  have h2:=numsT_sm (l:=l) (fun y hy=>h y (by simp [hy]))
  unfold numsT at h2 ⊢
  rw [List.flatMap_cons,List.length_append,List.length_cons,List.length_cons,itoa_nn h1.1]
  omega
theorem rowT_sm {w:List UInt8} {l:List Int} (h:Sm l):(rowT w l).length≤w.length+8 * l.length+1:=by
 have:=numsT_sm h
 unfold rowT
 simp only[List.length_append,List.length_cons,List.length_nil]
 omega
theorem flat_take {α:Type} {f:α→List UInt8} {l:List α} {d:α} {i:Nat} (h:i < l.length):(l.take (i+1)).flatMap f=(l.take i).flatMap f ++ f (l.getD i d):=by
 rw [List.take_add_one,List.flatMap_append,List.getElem?_eq_getElem h,List.getD_eq_getElem?_getD,List.getElem?_eq_getElem h]
 simp
theorem flat_len {α:Type} {f:α→List UInt8} {n:Nat} {l:List α} (h:∀ x ∈ l,(f x).length≤n):(l.flatMap f).length≤n * l.length:=by
 induction l with
 | nil=>simp
 | cons x l ih =>
  have h1:=h x (by simp)
  have h2:=ih (fun y hy=>h y (by simp [hy]))
  rw [List.flatMap_cons,List.length_append,List.length_cons,Nat.mul_succ]
  omega
theorem rmT_len {t:Tw} (h:TwOk t) {x:Int} (hx:x ∈ t.rooms):(rmT x).length≤15:=rowT_sm (w:=wSq) (rm_sm h hx)
theorem sxT_len {t:Tw} (h:TwOk t) {x:Sx} (hx:x ∈ t.sts):(sxT x).length≤23:=rowT_sm (w:=wSt) (sx_sm h hx)
theorem gpT_len {t:Tw} (h:TwOk t) {x:Gp} (hx:x ∈ t.gs):(gpT x).length≤150:=by
 have:=rowT_sm (w:=wGr) (gp_sm h hx).1
 have e:wGr.length=5:=rfl
 have e2:=(gp_sm h hx).2
 unfold gpT;omega
theorem Sm.ok {l:List Int} (h:Sm l) (hl:l.length≤1000):NumOk l:=⟨by omega,fun x hx=>by have:=h x hx;omega⟩
theorem sm_len {n:Nat} (h:n≤20):Sm [(n:Int)]:=by intro x hx;simp at hx;omega
theorem sp_sm {t:Tw} (h:TwOk t):Sm [t.steps]:=by have:=h.steps;intro x hx;simp at hx;omega
theorem card_len {t:Tw} (h:TwOk t):(cardT t).length≤2300:=by
 have h1:=h.rn;have h2:=h.sn;have h3:=h.gn
 have k1:(t.rooms.flatMap rmT).length≤15 * t.rooms.length:=flat_len (fun x hx=>rmT_len h hx)
 have k2:(t.sts.flatMap sxT).length≤23 * t.sts.length:=flat_len (fun x hx=>sxT_len h hx)
 have k3:(t.gs.flatMap gpT).length≤150 * t.gs.length:=flat_len (fun x hx=>gpT_len h hx)
 have k4:=rowT_sm (w:=wEnd) (sm_len (n:=t.gs.length) (by omega))
 have k5:=rowT_sm (w:=wTown) (sp_sm h)
 have e2:wEnd.length=3:=rfl
 have e3:wTown.length=4:=rfl
 have e4:([(t.gs.length:Int)]:List Int).length=1:=rfl
 have e5:([t.steps]:List Int).length=1:=rfl
 unfold cardT
 simp only[List.length_append]
 omega
def tnR (n:Int):List UInt8:=wTown ++ numsT [n]
def rmR (n:Int):List UInt8:=wSq ++ numsT [n]
def sxR (x:Sx):List UInt8:=wSt ++ numsT (sxN x)
def gpR (x:Gp):List UInt8:=wGr ++ numsT (gpN x)
def enR (n:Nat):List UInt8:=wEnd ++ numsT [(n:Int)]
def rowsB (t:Tw):List (List UInt8):=t.rooms.map rmR ++ t.sts.map sxR ++ t.gs.map gpR ++ [enR t.gs.length]
def rowsC (t:Tw):List (List UInt8):=tnR t.steps :: rowsB t
theorem card_flat (t:Tw):cardT t=(rowsC t).flatMap (· ++ [10]):=by
 unfold cardT rowsC rowsB enR tnR
 simp only[List.flatMap_cons,List.flatMap_append,List.flatMap_map,List.flatMap_nil,List.append_nil]
 unfold rowT
 have e1:t.rooms.flatMap rmT=t.rooms.flatMap fun a=>rmR a ++ [10]:=rfl
 have e2:t.sts.flatMap sxT=t.sts.flatMap fun a=>sxR a ++ [10]:=rfl
 have e3:t.gs.flatMap gpT=t.gs.flatMap fun a=>gpR a ++ [10]:=rfl
 rw [e1,e2,e3]
 simp only[List.append_assoc]
theorem wne1:¬ wSt=wSq:=by decide
theorem wne2:¬ wGr=wSq:=by decide
theorem wne3:¬ wGr=wSt:=by decide
theorem wne4:¬ wEnd=wSq:=by decide
theorem wne5:¬ wEnd=wSt:=by decide
theorem wne6:¬ wEnd=wGr:=by decide
theorem sxN_sxOf {l:List Int} (h:l.length=2):sxN (sxOf l)=l:=by
 match l,h with
 | [a,b],_=>rfl
theorem gpN_gpOf {l:List Int} (h:6≤l.length):gpN (gpOf l)=l:=by
 match l,h with
 | a :: b :: c :: d :: e :: f :: t,_=>rfl
theorem gpOf_gpN (x:Gp):gpOf (gpN x)=x:=rfl
theorem step_tn {st:LSt} {n:Int} (h:Sm [n]) (he:st.e=false):stepR 0 st (tnR n)=some ⟨⟨st.t.rooms,st.t.sts,st.t.gs,n⟩,st.e⟩:=by
 have hp:rowP 7 (tnR n)=some (wTown,[n]):=rowP_row (by decide) h.dec
 unfold stepR stepL
 rw [hp]
 dsimp only
 rw [if_neg (by simp [he]),if_pos rfl,if_pos ⟨rfl,rfl⟩]
 rfl
theorem step_rm {i:Nat} {st:LSt} {x:Int} (h:Sm [x]) (he:st.e=false) (hs:st.t.sts=[]) (hg:st.t.gs=[]):stepR (i+1) st (rmR x)=some ⟨⟨st.t.rooms ++ [x],st.t.sts,st.t.gs,st.t.steps⟩,st.e⟩:=by
 have hp:rowP 7 (rmR x)=some (wSq,[x]):=rowP_row (by decide) h.dec
 unfold stepR stepL
 rw [hp]
 dsimp only
 rw [if_neg (by simp [he]),if_neg (by omega),if_pos ⟨rfl,rfl,by simp [hs],by simp [hg]⟩]
 rfl
theorem step_sx {i:Nat} {st:LSt} {x:Sx} (h:Sm (sxN x)) (he:st.e=false) (hg:st.t.gs=[]):stepR (i+1) st (sxR x)=some ⟨⟨st.t.rooms,st.t.sts ++ [x],st.t.gs,st.t.steps⟩,st.e⟩:=by
 have hp:rowP 7 (sxR x)=some (wSt,sxN x):=rowP_row (by decide) h.dec
 unfold stepR stepL
 rw [hp]
 dsimp only
 rw [if_neg (by simp [he]),if_neg (by omega),if_neg (by simp [wne1]),if_pos ⟨rfl,rfl,by simp [hg]⟩]
 rfl
theorem step_gp {i:Nat} {st:LSt} {x:Gp} (h:Sm (gpN x)) (he:st.e=false):stepR (i+1) st (gpR x)=some ⟨⟨st.t.rooms,st.t.sts,st.t.gs ++ [x],st.t.steps⟩,st.e⟩:=by
 have hp:rowP 7 (gpR x)=some (wGr,gpN x):=rowP_row (by decide) h.dec
 unfold stepR stepL
 rw [hp]
 dsimp only
 rw [if_neg (by simp [he]),if_neg (by omega),if_neg (by simp [wne2]),if_neg (by simp [wne3]),if_pos ⟨rfl,by simp [gpN]⟩,gpOf_gpN]
theorem step_en {i:Nat} {st:LSt} (hn:st.t.gs.length≤20) (he:st.e=false):stepR (i+1) st (enR st.t.gs.length)=some ⟨st.t,true⟩:=by
 have hp:rowP 7 (enR st.t.gs.length)=some (wEnd,[(st.t.gs.length:Int)]):=rowP_row (by decide) (sm_len hn).dec
 unfold stepR stepL
 rw [hp]
 dsimp only
 rw [if_neg (by simp [he]),if_neg (by omega),if_neg (by simp [wne4]),if_neg (by simp [wne5]),if_neg (by simp [wne6]),if_pos ⟨rfl,rfl,rfl⟩]
theorem run_rm:∀ (l:List Int) (i:Nat) (st:LSt) (rest:List (List UInt8)),(∀ x ∈ l,Sm [x])→st.e=false→st.t.sts=[]→st.t.gs=[]→runR (i+1) st (l.map rmR ++ rest)=runR (i+1+l.length) ⟨⟨st.t.rooms ++ l,st.t.sts,st.t.gs,st.t.steps⟩,st.e⟩ rest
 | [],i,st,rest,_,_,_,_=>by simp
 | x :: l,i,st,rest,hx,he,hs,hg=>by
  rw [List.map_cons,List.cons_append,runR,step_rm (hx x (by simp)) he hs hg]
  simp only
  rw [run_rm l (i+1) _ rest (fun y hy=>hx y (by simp [hy])) (by exact he) (by exact hs) (by exact hg)]
  simp only[List.append_assoc,List.singleton_append,List.length_cons]
  congr 1;omega
theorem run_sx:∀ (l:List Sx) (i:Nat) (st:LSt) (rest:List (List UInt8)),(∀ x ∈ l,Sm (sxN x))→st.e=false→st.t.gs=[]→runR (i+1) st (l.map sxR ++ rest)=runR (i+1+l.length) ⟨⟨st.t.rooms,st.t.sts ++ l,st.t.gs,st.t.steps⟩,st.e⟩ rest
 | [],i,st,rest,_,_,_=>by simp
 | x :: l,i,st,rest,hx,he,hg=>by
  rw [List.map_cons,List.cons_append,runR,step_sx (hx x (by simp)) he hg]
  simp only
  rw [run_sx l (i+1) _ rest (fun y hy=>hx y (by simp [hy])) (by exact he) (by exact hg)]
  simp only[List.append_assoc,List.singleton_append,List.length_cons]
  congr 1;omega
theorem run_gp:∀ (l:List Gp) (i:Nat) (st:LSt) (rest:List (List UInt8)),(∀ x ∈ l,Sm (gpN x))→st.e=false→runR (i+1) st (l.map gpR ++ rest)=runR (i+1+l.length) ⟨⟨st.t.rooms,st.t.sts,st.t.gs ++ l,st.t.steps⟩,st.e⟩ rest
 | [],i,st,rest,_,_=>by simp
 | x :: l,i,st,rest,hx,he=>by
  rw [List.map_cons,List.cons_append,runR,step_gp (hx x (by simp)) he]
  simp only
  rw [run_gp l (i+1) _ rest (fun y hy=>hx y (by simp [hy])) (by exact he)]
  simp only[List.append_assoc,List.singleton_append,List.length_cons]
  congr 1;omega
theorem run_rows {t:Tw} (h:TwOk t):runR 0 st0 (rowsC t)=.inr ⟨t,true⟩:=by
 have h2:=h.gn
 unfold rowsC rowsB
 rw [runR,step_tn (sp_sm h) rfl]
 simp only
 have ez:(0:Nat)+1=0+1:=rfl
 rw [List.append_assoc,List.append_assoc,run_rm _ 0 _ _ (fun x hx=>rm_sm h hx) rfl rfl rfl]
 have e1:0+1+t.rooms.length=t.rooms.length+1:=by omega
 rw [e1,run_sx _ _ _ _ (fun x hx=>sx_sm h hx) rfl rfl]
 have e2:t.rooms.length+1+t.sts.length=(t.rooms.length+t.sts.length)+1:=by omega
 rw [e2,run_gp _ _ _ _ (fun x hx=>(gp_sm h hx).1) rfl]
 have e3:t.rooms.length+t.sts.length+1+t.gs.length=(t.rooms.length+t.sts.length+t.gs.length)+1:=by omega
 have e:(⟨⟨st0.t.rooms ++ t.rooms,st0.t.sts ++ t.sts,st0.t.gs ++ t.gs,t.steps⟩,st0.e⟩:LSt)=⟨t,false⟩:=by simp [st0,t0]
 rw [e3,e,runR,step_en (st:=⟨t,false⟩) (by show t.gs.length≤20;omega) rfl]
 rfl
theorem rows_no {t:Tw} (h:TwOk t):∀ r ∈ rowsC t,(10:UInt8) ∉ r:=by
 have h2:=h.gn
 intro r hr
 have nn:∀ {w:List UInt8} {l:List Int},(10:UInt8) ∉ w→Sm l→(10:UInt8) ∉ w ++ numsT l:=fun h1 h2 h=>by
  rcases List.mem_append.1 h with h|h
  ·exact h1 h
  ·exact numsT_no (by decide) (by decide) (fun x hx=>(h2 x hx).1) h
 unfold rowsC rowsB at hr
 simp only[List.mem_cons,List.mem_append,List.mem_map,List.not_mem_nil,or_false] at hr
 rcases hr with rfl|((⟨x,hm,rfl⟩|⟨x,hm,rfl⟩)|⟨x,hm,rfl⟩)|rfl
 ·exact nn (by decide) (sp_sm h)
 ·exact nn (by decide) (rm_sm h hm)
 ·exact nn (by decide) (sx_sm h hm)
 ·exact nn (by decide) (gp_sm h hm).1
 ·exact nn (by decide) (sm_len (by omega))
theorem rd_wr {t:Tw} (hE:chkE t=0) (h:TwOk t):rdV (cardT t)=.tup [t.av,.int .i64 0,.int .i64 0]:=by
 have hl:=card_len h
 have hsp:splitL 10 (cardT t)=rowsC t ++ [[]]:=by rw [card_flat,split_rows (rows_no h)]
 have hb:(rowsC t ++ [[]]).length - 1=(rowsC t).length:=by simp
 unfold rdV
 rw [if_neg (by omega),hsp,hb,List.take_left,run_rows h]
 simp only
 rw [if_neg (by simp),if_neg (by simp [List.getD_eq_getElem?_getD]),if_neg (by simp [hE])]
theorem run_e:∀ {rs:List (List UInt8)} {i:Nat} {st st':LSt},runR i st rs=.inr st'→st.e=true→rs=[]∧st'=st
 | [],i,st,st',h,_=>by simp only[runR] at h;injection h with h;exact ⟨rfl,h.symm⟩
 | r :: rs,i,st,st',h,he=>by
  have:stepR i st r=none:=by
   unfold stepR
   split
   ·rfl
   ·unfold stepL;rw [if_pos he]
  rw [runR,this] at h
  cases h
theorem run_inv:∀ {rs:List (List UInt8)} {i:Nat} {st st':LSt},runR (i+1) st rs=.inr st'→st.e=false→st'.e=true →
  ∃ r2 s2 g2,rs=r2.map rmR ++ s2.map sxR ++ g2.map gpR ++ [enR (st.t.gs ++ g2).length]∧st'.t=⟨st.t.rooms ++ r2,st.t.sts ++ s2,st.t.gs ++ g2,st.t.steps⟩∧(st.t.sts ≠ [] ∨ st.t.gs ≠ []→r2=[])∧(st.t.gs ≠ []→s2=[])
 | [],i,st,st',h,he,he'=>by
  simp only[runR] at h;injection h with h;rw [h] at he;rw [he] at he';cases he'
 | r :: rs,i,st,st',h,he,he'=>by
  rw [runR] at h
  cases hp:rowP 7 r with
  | none =>
   have:stepR (i+1) st r=none:=by unfold stepR;rw [hp]
   rw [this] at h;cases h
  | some wl =>
   obtain ⟨w,l⟩:=wl
   have hr:=row_of hp
   have hst:stepR (i+1) st r=stepL (i+1) st w l:=by unfold stepR;rw [hp]
   unfold stepL at hst
   rw [if_neg (by simp [he]),if_neg (by omega)] at hst
   by_cases h0:w=wSq∧l.length=1∧st.t.sts.length=0∧st.t.gs.length=0
   ·rw [if_pos h0] at hst
    rw [hst] at h
    simp only at h
    obtain ⟨r2,s2,g2,q1,q2,q3,q4⟩:=run_inv h (by exact he) he'
    refine ⟨elt l 0 :: r2,s2,g2,?_,by rw [q2];simp,fun hne=>?_,q4⟩
    ·obtain ⟨e1,e2,e3,e4⟩:=h0
     match l,e2 with
     | [a],_ =>
      rw [q1,hr,e1]
      simp [rmR,elt]
    ·rcases hne with hne|hne
     ·exact absurd (List.length_eq_zero_iff.1 h0.2.2.1) hne
     ·exact absurd (List.length_eq_zero_iff.1 h0.2.2.2) hne
   rw [if_neg h0] at hst
   by_cases h1:w=wSt∧l.length=2∧st.t.gs.length=0
   ·rw [if_pos h1] at hst
    rw [hst] at h
    simp only at h
    obtain ⟨r2,s2,g2,q1,q2,q3,q4⟩:=run_inv h (by exact he) he'
    have hf:r2=[]:=q3 (.inl (by simp))
    subst hf
    refine ⟨[],sxOf l :: s2,g2,?_,by rw [q2];simp,fun _=>rfl,fun hne=>absurd (List.length_eq_zero_iff.1 h1.2.2) hne⟩
    rw [q1,hr,h1.1,List.map_cons,sxR,sxN_sxOf h1.2.1]
    simp
   rw [if_neg h1] at hst
   by_cases h2:w=wGr∧6≤l.length
   ·rw [if_pos h2] at hst
    rw [hst] at h
    simp only at h
    obtain ⟨r2,s2,g2,q1,q2,q3,q4⟩:=run_inv h (by exact he) he'
    have hf:r2=[]:=q3 (.inr (by simp))
    have hs:s2=[]:=q4 (by simp)
    subst hf;subst hs
    refine ⟨[],[],gpOf l :: g2,?_,by rw [q2];simp,fun _=>rfl,fun _=>rfl⟩
    rw [q1,hr,h2.1,List.map_cons,gpR,gpN_gpOf h2.2]
    simp
   rw [if_neg h2] at hst
   by_cases h3:w=wEnd∧l.length=1∧elt l 0=st.t.gs.length
   ·rw [if_pos h3] at hst
    rw [hst] at h
    simp only at h
    obtain ⟨e1,e2⟩:=run_e h rfl
    obtain ⟨e3,e4,e5⟩:=h3
    refine ⟨[],[],[],?_,by rw [e2];simp,fun _=>rfl,fun _=>rfl⟩
    rw [e1,hr,e3]
    match l,e4 with
    | [a],_ =>
     have e6:a=st.t.gs.length:=e5
     rw [e6];simp [enR]
   rw [if_neg h3] at hst
   rw [hst] at h;cases h
theorem run_inv0 {rs:List (List UInt8)} {st':LSt} (h:runR 0 st0 rs=.inr st') (he':st'.e=true):rs=rowsC st'.t:=by
 cases rs with
 | nil=>simp only[runR] at h;injection h with h;rw [← h] at he';cases he'
 | cons r rs =>
  rw [runR] at h
  cases hp:rowP 7 r with
  | none =>
   have:stepR 0 st0 r=none:=by unfold stepR;rw [hp]
   rw [this] at h;cases h
  | some wl =>
   obtain ⟨w,l⟩:=wl
   have hr:=row_of hp
   have hst:stepR 0 st0 r=stepL 0 st0 w l:=by unfold stepR;rw [hp]
   unfold stepL at hst
   rw [if_neg (by simp [st0]),if_pos rfl] at hst
   by_cases h0:w=wTown∧l.length=1
   case neg=>rw [if_neg h0] at hst;rw [hst] at h;cases h
   rw [if_pos h0] at hst
   rw [hst] at h
   simp only at h
   obtain ⟨r2,s2,g2,q1,q2,q3,q4⟩:=run_inv h rfl he'
   obtain ⟨e1,e2⟩:=h0
   match l,e2 with
   | [a],_ =>
    rw [q1,q2,hr,e1]
    rfl
theorem rd_inv (text:List UInt8):(∃ k e,rdV text=badV k e∧e ≠ 0) ∨ ∃ t:Tw,rdV text=.tup [t.av,.int .i64 0,.int .i64 0]∧chkE t=0∧cardT t=text:=by
 obtain ⟨rows,hrows⟩:∃ rows,rows=splitL 10 text:=⟨_,rfl⟩
 obtain ⟨nb,hnb⟩:∃ nb,nb=rows.length - 1:=⟨_,rfl⟩
 have hr1:1≤rows.length:=by rw [hrows];exact List.length_pos_iff.2 (splitL_ne _ _)
 unfold rdV
 by_cases h1:4000 < text.length
 ·rw [if_pos h1];exact .inl ⟨_,_,rfl,by decide⟩
 rw [if_neg h1,← hrows,← hnb]
 cases hrun:runR 0 st0 (rows.take nb) with
 | inl k=>exact .inl ⟨_,_,rfl,by decide⟩
 | inr st =>
  simp only
  by_cases he:st.e=false
  ·rw [if_pos he];exact .inl ⟨_,_,rfl,by decide⟩
  rw [if_neg he]
  by_cases hla:rows.getD nb [] ≠ []
  ·rw [if_pos hla];exact .inl ⟨_,_,rfl,by decide⟩
  rw [if_neg hla]
  by_cases hE:chkE st.t ≠ 0
  ·rw [if_pos hE];exact .inl ⟨_,_,rfl,hE⟩
  rw [if_neg hE]
  refine .inr ⟨st.t,rfl,by simpa using hE,?_⟩
  have hla:rows.getD nb []=[]:=by simpa using hla
  have he:st.e=true:=by simpa using he
  have hrl:rows=rows.take nb ++ [[]]:=by
   have e:=(List.take_append_drop nb rows).symm
   have e2:rows.drop nb=[[]]:=by
    rw [List.drop_eq_getElem_cons (by omega),List.drop_eq_nil_of_le (by omega)]
    rw [List.getD_eq_getElem?_getD,List.getElem?_eq_getElem (by omega)] at hla
    simpa using hla
   rw [e2] at e;exact e
  have htext:text=(rows.take nb).flatMap (· ++ [10]):=by
   rw [← join_rows,← hrl,hrows,join_split]
  rw [card_flat,htext]
  congr 1
  exact (run_inv0 hrun he).symm
end Go.Proofs.YtoafigpikgigaaaGreatDoor
