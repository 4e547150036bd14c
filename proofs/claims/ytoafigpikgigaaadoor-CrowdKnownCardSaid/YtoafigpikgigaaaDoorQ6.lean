/- Contracts of functions that the claim reaches: what each call gives, told in our own logic. Conditions: those of each theorem. -/
import Derived.Test.YtoafigpikgigaaaDoorWG
open List (length_map)
set_option linter.all false
set_option linter.unusedSimpArgs false
set_option linter.unusedVariables false
namespace Go.Proofs.YtoafigpikgigaaaDoor
open Go.Av
set_option maxRecDepth 20000
def catN {α:Type} (g:Nat→List α):Nat→List α
 | 0=>[]
 | k+1=>catN g k ++ g k
def catK (g:Nat→List (List Int)) (a:Nat):Nat→List (List Int)
 | 0=>[]
 | k+1=>catK g a k ++ g (a+k)
def chs (n:Nat):Nat→Nat→List (List Int)
 | 0,_=>[[]]
 | m+1,a=>catK (fun i=>(chs n m (i+1)).map (((i:Nat):Int) :: ·)) a (n - a)
def cls (l:List Int) (i:Nat):Int:=if l.contains ((i:Nat):Int) then 2 else 1
structure Cr where
 step:Int
 sq:Int
 most:Int
def Cr.row (x:Cr):List AV:=[.int .i64 x.step,.int .i64 x.sq,.int .i64 x.most]
@[go_sem] theorem Cr.row_eq (x:Cr):x.row=[.int .i64 x.step,.int .i64 x.sq,.int .i64 x.most]:=rfl
def crF (t:Tw) (s:Nat→Int) (st q:Nat):List Cr:=if elt t.rooms q < ldHi t s (q:Nat) (st:Nat) then [⟨(st:Nat),(q:Nat),ldHi t s (q:Nat) (st:Nat)⟩] else []
def crS (t:Tw) (s:Nat→Int) (st:Nat):List Cr:=catN (crF t s st) t.rooms.length
def crL (t:Tw) (s:Nat→Int):List Cr:=catN (crS t s) (t.steps+1).toNat
def chsAll (n most:Nat):List (List Int):=catN (fun m=>chs n m 0) (min most n+1)
def clo (t:Tw) (most:Nat):Option (List Int):=(chsAll t.sts.length most).find? fun l=>(crL t (cls l)).isEmpty
structure Rn where
 kind:Int
 st:Int
 sq:Int
 step:Int
 deriving DecidableEq
def Rn.row (x:Rn):List AV:=[.int .i64 x.kind,.int .i64 x.st,.int .i64 x.sq,.int .i64 x.step]
@[go_sem] theorem Rn.row_eq (x:Rn):x.row=[.int .i64 x.kind,.int .i64 x.st,.int .i64 x.sq,.int .i64 x.step]:=rfl
def shN (s:List Int):Int:=sumF (fun i=>if elt s i=2 then 1 else 0) s.length
def und (t:Tw) (s:List Int):Option Nat:=(List.range t.sts.length).find? fun i=>decide (elt s i=0)
def prv (t:Tw) (most:Int):Nat→List Int→List Rn
 | 0,_=>[]
 | k+1,s=>if most < shN s then [⟨3,0,0,0⟩] else match (crL t (elt s)).head? with
  | some x=>[⟨2,0,x.sq,x.step⟩]
  | none=>match und t s with
   | none=>[]
   | some i=>⟨1,(i:Nat),0,0⟩ :: (prv t most k (s.set i 1) ++ prv t most k (s.set i 2))
def pvd (t:Tw) (most:Int):Nat→List Int→List Rn→Option (List Rn)
  | 0,_,_=>none
  | _+1,_,[]=>none
  | k+1,s,r :: rest =>
    if r=⟨3,0,0,0⟩ then (if most < shN s then some rest else none)
    else if r.kind=2∧r.st=0 then (if 0≤r.sq∧r.sq < t.rooms.length∧0≤r.step∧r.step≤t.steps∧elt t.rooms r.sq.toNat < ldHi t (elt s) r.sq r.step then some rest else none)
    else if r.kind=1∧r.sq=0∧r.step=0 then
      (if 0≤r.st∧r.st < t.sts.length∧elt s r.st.toNat=0 then match pvd t most k (s.set r.st.toNat 1) rest with
        | none=>none
        | some r2=>pvd t most k (s.set r.st.toNat 2) r2
       else none)
    else none
theorem wayN_congr {t u:Tw} (h:t.sts=u.sts) (p:List Int) (q:Int):∀ i,wayN t p q i=wayN u p q i
 | 0=>rfl
 | i+1=>by show oth (sx t.sts _) (wayN t p q i)=_;rw [wayN_congr h p q i,h];rfl
theorem GpOk.congr {t u:Tw} {g:Gp} (h:GpOk t g) (h1:t.rooms=u.rooms) (h2:t.sts=u.sts):GpOk u g :=
 ⟨h.size,h.at_,h.stay,by rw [← h1];exact h.first,h.many,by rw [← h2];exact h.st,fun i hi=>by rw [← wayN_congr h2];exact h.way i hi⟩
theorem elt_app {l:List Int} {r:Int} {i:Nat} (h:i < l.length):elt (l ++ [r]) i=elt l i:=by
 unfold elt;simp only[List.getD_eq_getElem?_getD];rw [List.getElem?_append_left h]
theorem elt_last {l:List Int} {r:Int}:elt (l ++ [r]) l.length=r:=by
 unfold elt;simp only[List.getD_eq_getElem?_getD];simp
theorem wayN_app {t:Tw} {p:List Int} {q r:Int}:∀ i,i≤p.length→wayN t (p ++ [r]) q i=wayN t p q i
 | 0,_=>rfl
 | i+1,h=>by
  show oth (sx t.sts (elt (p ++ [r]) i).toNat) (wayN t (p ++ [r]) q i)=oth (sx t.sts (elt p i).toNat) (wayN t p q i)
  rw [elt_app (by omega),wayN_app i (by omega)]
structure PtOk (t:Tw) (q:Int) (p:List Int):Prop where
 st:∀ i,i < p.length→0≤elt p i∧elt p i < t.sts.length
 way:∀ i,i≤p.length→0≤wayN t p q i
theorem PtOk.add {t:Tw} {q:Int} {p:List Int} {r:Int} (h:PtOk t q p) (hr:0≤r∧r < t.sts.length) (hw:0≤oth (sx t.sts r.toNat) (wayN t p q p.length)):PtOk t q (p ++ [r])∧wayN t (p ++ [r]) q (p ++ [r]).length=oth (sx t.sts r.toNat) (wayN t p q p.length):=by
 have hl:(p ++ [r]).length=p.length+1:=by simp
 have e:wayN t (p ++ [r]) q (p.length+1)=oth (sx t.sts r.toNat) (wayN t p q p.length):=by
  show oth (sx t.sts (elt (p ++ [r]) p.length).toNat) (wayN t (p ++ [r]) q p.length)=_
  rw [elt_last,wayN_app _ (Nat.le_refl _)]
 refine ⟨⟨fun i hi=>?_,fun i hi=>?_⟩,by rw [hl];exact e⟩
 ·by_cases c:i < p.length
  ·rw [elt_app c];exact h.st i c
  ·obtain rfl:i=p.length:=by omega
   rw [elt_last];exact hr
 ·by_cases c:i≤p.length
  ·rw [wayN_app i c];exact h.way i c
  ·obtain rfl:i=p.length+1:=by omega
   rw [e];exact hw
structure GpGood (t:Tw) (g:Gp):Prop where
 size:0≤g.lo∧g.lo≤g.hi∧g.hi≤90
 at_:0≤g.alo∧g.alo≤g.ahi∧g.ahi≤4
 stay:1≤g.stay∧g.stay≤4
 first:0≤g.first∧g.first < t.rooms.length
 many:g.path.length≤4
 pt:PtOk t g.first g.path
structure TwGood (t:Tw) (SQ ST GR:Int):Prop where
 r0:0 < t.rooms.length
 rn:(t.rooms.length:Int)≤SQ
 room:∀ x ∈ t.rooms,0≤x∧x≤500
 sn:(t.sts.length:Int)≤ST
 st:∀ x ∈ t.sts,0≤x.a∧x.a < t.rooms.length∧0≤x.b∧x.b < t.rooms.length∧x.a ≠ x.b
 steps:0≤t.steps∧t.steps≤10
 gn:(t.gs.length:Int)≤GR
 g:∀ x ∈ t.gs,GpGood t x
theorem TwGood.ok {t:Tw} {SQ ST GR:Int} (h:TwGood t SQ ST GR) (h1:SQ≤12) (h2:ST≤12) (h3:GR≤12):TwOk t:=by
 have a:=h.rn;have b:=h.sn;have c:=h.gn;have d:=h.steps
 refine ⟨h.r0,by omega,fun i hi=>?_,by omega,fun i hi=>h.st _ (sx_mem hi),by omega,by omega,fun i hi=>?_⟩
 ·have:=h.room _ (elt_mem hi);omega
 ·have k:=h.g _ (gp_mem hi)
  have k1:=k.size;have k2:=k.at_;have k3:=k.stay;have k4:=k.many
  exact ⟨by omega,by omega,by omega,k.first,by omega,k.pt.st,k.pt.way⟩
structure ClOk (t:Tw) (c:List Int) (j:Nat):Prop where
 len:c.length≤j
 bd:∀ i,i < c.length→0≤elt c i∧elt c i < j
 up:∀ i,0 < i→i < c.length→elt c (i - 1) < elt c i
theorem ClOk.mono {t:Tw} {c:List Int} {j k:Nat} (h:ClOk t c j) (hk:j≤k):ClOk t c k:=⟨by have:=h.len;omega,fun i hi=>by have:=h.bd i hi;omega,h.up⟩
theorem ClOk.add {t:Tw} {c:List Int} {j:Nat} (h:ClOk t c j):ClOk t (c ++ [((j:Nat):Int)]) (j+1):=by
 have hl:=h.len
 have hl1:(c ++ [((j:Nat):Int)]).length=c.length+1:=by simp
 refine ⟨by omega,fun i hi=>?_,fun i h0 hi=>?_⟩
 ·by_cases q:i < c.length
  ·rw [elt_app q];have:=h.bd i q;omega
  ·obtain rfl:i=c.length:=by omega
   rw [elt_last];omega
 ·by_cases q:i < c.length
  ·rw [elt_app q,elt_app (by omega)];exact h.up i h0 q
  ·obtain rfl:i=c.length:=by omega
   rw [elt_last,elt_app (by omega)];exact (h.bd _ (by omega)).2
theorem ClOk.cloE {t:Tw} {c:List Int} (h:ClOk t c t.sts.length) (hT:chkE t=0):cloE t c=0:=by
 unfold Go.Proofs.YtoafigpikgigaaaDoor.cloE
 rw [if_neg (fun e=>e hT)]
 refine errN_all fun i hi=>?_
 have a:=h.bd i hi
 unfold cloF
 rw [if_neg (by omega),if_neg]
 rintro ⟨h0,h1⟩
 have:=h.up i h0 hi
 omega
end Go.Proofs.YtoafigpikgigaaaDoor

namespace Go.Proofs.YtoafigpikgigaaaDoor
open Go.Av Go.Txt Go.Lib
set_option maxRecDepth 20000
def wTown:List UInt8:=[116,111,119,110]
def wSq:List UInt8:=[115,113,117,97,114,101]
def wSt:List UInt8:=[115,116,114,101,101,116]
def wGr:List UInt8:=[103,114,111,117,112]
def wEnd:List UInt8:=[101,110,100]
def sxN (x:Sx):List Int:=[x.a,x.b]
def gpN (g:Gp):List Int:=[g.lo,g.hi,g.alo,g.ahi,g.stay,g.first] ++ g.path
def rmT (n:Int):List UInt8:=rowT wSq [n]
def sxT (x:Sx):List UInt8:=rowT wSt (sxN x)
def gpT (g:Gp):List UInt8:=rowT wGr (gpN g)
def cardT (t:Tw):List UInt8:=rowT wTown [t.steps] ++ t.rooms.flatMap rmT ++ t.sts.flatMap sxT ++ t.gs.flatMap gpT ++ rowT wEnd [(t.gs.length:Int)]
def wrV (t:Tw):AV:=if chkE t=0 then .tup [.str (cardT t),.int .i64 0] else .tup [.str [],.int .i64 (chkE t)]
def t0:Tw:=⟨[],[],[],0⟩
def Sm (l:List Int):Prop:=∀ x ∈ l,0≤x∧x < 10000000
theorem mem_elt {l:List Int} {x:Int} (h:x ∈ l):∃ i,i < l.length∧elt l i=x:=by
 obtain ⟨i,hi,e⟩:=List.getElem_of_mem h
 exact ⟨i,hi,by unfold elt;rw [List.getD_eq_getElem?_getD,List.getElem?_eq_getElem hi];exact e⟩
theorem mem_sx {l:List Sx} {x:Sx} (h:x ∈ l):∃ i,i < l.length∧sx l i=x:=by
 obtain ⟨i,hi,e⟩:=List.getElem_of_mem h
 exact ⟨i,hi,by unfold sx;rw [List.getD_eq_getElem?_getD,List.getElem?_eq_getElem hi];exact e⟩
theorem mem_gp {l:List Gp} {x:Gp} (h:x ∈ l):∃ i,i < l.length∧gp l i=x:=by
 obtain ⟨i,hi,e⟩:=List.getElem_of_mem h
 exact ⟨i,hi,by unfold gp;rw [List.getD_eq_getElem?_getD,List.getElem?_eq_getElem hi];exact e⟩
theorem rm_sm {t:Tw} (h:TwOk t) {x:Int} (hx:x ∈ t.rooms):Sm [x]:=by
 obtain ⟨i,hi,e⟩:=mem_elt hx
 have:=h.room i hi
 intro y hy
 simp only[List.mem_cons,List.not_mem_nil,or_false] at hy
 subst hy;omega
theorem sx_sm {t:Tw} (h:TwOk t) {x:Sx} (hx:x ∈ t.sts):Sm (sxN x):=by
 obtain ⟨i,hi,e⟩:=mem_sx hx
 have h1:=h.st i hi
 have h2:=h.rn
 rw [e] at h1
 intro y hy
 simp only[sxN,List.mem_cons,List.not_mem_nil,or_false] at hy
 rcases hy with rfl|rfl <;> omega
theorem gp_ok {t:Tw} (h:TwOk t) {x:Gp} (hx:x ∈ t.gs):GpOk t x:=by
 obtain ⟨i,hi,e⟩:=mem_gp hx
 rw [← e];exact h.g i hi
theorem gp_sm {t:Tw} (h:TwOk t) {x:Gp} (hx:x ∈ t.gs):Sm (gpN x)∧(gpN x).length≤18:=by
 have k:=gp_ok h hx
 have h1:=k.size;have h2:=k.at_;have h3:=k.stay;have h4:=k.first;have h5:=k.many;have h6:=h.rn;have h7:=h.sn
 refine ⟨?_,by unfold gpN;simp;omega⟩
 intro y hy
 simp only[gpN,List.mem_append,List.mem_cons,List.not_mem_nil,or_false] at hy
 rcases hy with (rfl|rfl|rfl|rfl|rfl|rfl)|hy
 ·omega
 ·omega
 ·omega
 ·omega
 ·omega
 ·omega
 ·obtain ⟨i,hi,e⟩:=mem_elt hy
  have:=k.st i hi
  omega
theorem Sm.dec {l:List Int} (h:Sm l):∀ x ∈ l,0≤x∧(decDigits x.toNat).length≤7:=fun x hx=>⟨(h x hx).1,dec_len 6 _ (by have:=h x hx;omega)⟩
theorem numsT_sm:∀ {l:List Int},Sm l→(numsT l).length≤8 * l.length
 | [],_=>by simp [numsT]
 | x :: l,h=>by
  have h1:=Sm.dec h x (by simp)
  have h2:=numsT_sm (l:=l) (fun y hy=>h y (by simp [hy]))
  unfold numsT at h2 ⊢
  rw [List.flatMap_cons,List.length_append,List.length_cons,List.length_cons,itoa_nn h1.1]
  omega
theorem rowT_sm {w:List UInt8} {l:List Int} (h:Sm l):(rowT w l).length≤w.length+8 * l.length+1:=by
 have:=numsT_sm h
 unfold rowT
 simp only[List.length_append,List.length_cons,List.length_nil]
 omega
theorem flat_take {α:Type} {f:α→List UInt8} {l:List α} {d:α} {i:Nat} (h:i < l.length):(l.take (i+1)).flatMap f=(l.take i).flatMap f ++ f (l.getD i d):=by
 rw [List.take_add_one,List.flatMap_append,List.getElem?_eq_getElem h,List.getD_eq_getElem?_getD,List.getElem?_eq_getElem h]
 simp
theorem flat_len {α:Type} {f:α→List UInt8} {n:Nat} {l:List α} (h:∀ x ∈ l,(f x).length≤n):(l.flatMap f).length≤n * l.length:=by
 induction l with
 | nil=>simp
 | cons x l ih =>
  have h1:=h x (by simp)
  have h2:=ih (fun y hy=>h y (by simp [hy]))
  rw [List.flatMap_cons,List.length_append,List.length_cons,Nat.mul_succ]
  omega
theorem rmT_len {t:Tw} (h:TwOk t) {x:Int} (hx:x ∈ t.rooms):(rmT x).length≤15:=rowT_sm (w:=wSq) (rm_sm h hx)
theorem sxT_len {t:Tw} (h:TwOk t) {x:Sx} (hx:x ∈ t.sts):(sxT x).length≤23:=rowT_sm (w:=wSt) (sx_sm h hx)
theorem gpT_len {t:Tw} (h:TwOk t) {x:Gp} (hx:x ∈ t.gs):(gpT x).length≤150:=by
 have:=rowT_sm (w:=wGr) (gp_sm h hx).1
 have e:wGr.length=5:=rfl
 have e2:=(gp_sm h hx).2
 unfold gpT;omega
theorem Sm.ok {l:List Int} (h:Sm l) (hl:l.length≤1000):NumOk l:=⟨by omega,fun x hx=>by have:=h x hx;omega⟩
theorem sm_len {n:Nat} (h:n≤20):Sm [(n:Int)]:=by intro x hx;simp at hx;omega
theorem sp_sm {t:Tw} (h:TwOk t):Sm [t.steps]:=by have:=h.steps;intro x hx;simp at hx;omega
end Go.Proofs.YtoafigpikgigaaaDoor

namespace Go.Proofs.YtoafigpikgigaaaDoor
open Go.Av
attribute [local irreducible] thenA blockA awp awpOps awpD awp1
attribute [local go_sem_proc] Nat.reduceAdd Nat.reduceMul Nat.reduceEqDiff Nat.reduceBEq Nat.reduceLeDiff
attribute [local go_sem_proc ↓] reduceIte
attribute [local go_sem] if_yes if_no
set_option maxHeartbeats 8000000
set_option maxRecDepth 20000
end Go.Proofs.YtoafigpikgigaaaDoor

namespace Go.Proofs.YtoafigpikgigaaaDoor
open Go.Av
attribute [local irreducible] thenA blockA awp awpOps awpD awp1
attribute [local go_sem_proc] Nat.reduceAdd Nat.reduceMul Nat.reduceEqDiff Nat.reduceBEq Nat.reduceLeDiff
attribute [local go_sem_proc ↓] reduceIte
attribute [local go_sem] if_yes if_no
set_option maxHeartbeats 8000000
set_option maxRecDepth 20000
theorem elt_def (l:List Int) (i:Nat):elt l i=l.getD i 0:=rfl
theorem c20 (lo hi:Int) (es:List Int) (hl:(es.length:Int) < 1000000):Pure Tryd.prog 20 [.int .i64 lo,.int .i64 hi,.lst 1 (es.map iv)] (fun v=>v=.bool (allIn lo hi es)):=by
 intro h
 refine ACalls.forget (ACalls.of tab mixed Tryd.call20 Tryd.func20 rfl (fi:=⟨24,[],[],none,[]⟩) rfl rfl (Nat.le_of_ble_eq_true rfl) (by decide) ?_)
 unfold startA
 repeat' (first|refine st_seq_reg rfl (by first|(simp only[go_sem];rfl)|rfl) (by first|(simp only[go_sem];rfl)|rfl) ?_|refine st_reg rfl (by first|(simp only[go_sem];rfl)|rfl) (by first|(simp only[go_sem];rfl)|rfl) ?_|refine st_op ?_|refine st_det rfl (by simp (disch:=omega) only[go_sem,wr_i64];rfl) ?_|refine st_gT rfl rfl rfl ?_|refine st_gF rfl rfl rfl ?_|(refine st_gS rfl rfl ?_ ?_ <;> intro hg <;> (try simp only[dcT,dcF,bnT,bnF] at hg))|refine st_condT rfl ?_|refine st_condF rfl ?_|(refine st_condS rfl ?_ ?_ <;> intro hg <;> (try simp only[dcT,dcF,bnT,bnF] at hg))|refine st_nil ?_|refine st_tN ?_|refine st_seq ?_|refine st_block ?_|refine st_skip ?_|refine st_exit ?_|refine st_ret ?_|refine st_tE ?_|refine st_tR ?_|refine st_bN ?_|refine st_bR ?_|refine st_bH ?_|refine st_bM rfl ?_)
 refine st_loopC (α:=Nat) tab mixed [] [] (by repeat (first|exact trivial|refine ⟨rfl,?_⟩)) [] [] (by repeat (first|exact trivial|refine ⟨rfl,?_⟩)) (fun i=>[(11,.int .i64 i)]) [(0,_),(1,_),(6,_),(9,_),(10,_)] (fun _=>[]) [] (fun i=>i≤es.length∧allIn lo hi (es.drop i)=allIn lo hi es) (fun i=>es.length - i) (by decide) 0 ⟨by omega,rfl⟩ (by (try simp only[go_sem]);repeat' (first|exact trivial|refine And.intro ?_ ?_|rfl|(simp (disch:=omega) only[go_sem,if_yes,if_no,if_no];rfl)|(simp (disch:=omega) only[go_sem,if_yes,if_no,if_no]))) (by (try simp only[go_sem]);repeat' (first|exact trivial|refine And.intro ?_ ?_|rfl|(simp (disch:=omega) only[go_sem,if_yes,if_no,if_no];rfl)|(simp (disch:=omega) only[go_sem,if_yes,if_no,if_no]))) (by first|(simp only[go_sem];rfl)|rfl) (by intro n;simp only[go_sem];rfl) ?_
 rintro i c ⟨hi',hall⟩ hc
 simp only[go_sem]
 repeat' (first|refine st_seq_reg rfl (by first|(simp only[go_sem];rfl)|rfl) (by first|(simp only[go_sem];rfl)|rfl) ?_|refine st_reg rfl (by first|(simp only[go_sem];rfl)|rfl) (by first|(simp only[go_sem];rfl)|rfl) ?_|refine st_op ?_|refine st_det rfl (by simp (disch:=omega) only[go_sem,wr_i64];rfl) ?_|refine st_gT rfl rfl rfl ?_|refine st_gF rfl rfl rfl ?_|(refine st_gS rfl rfl ?_ ?_ <;> intro hg <;> (try simp only[dcT,dcF,bnT,bnF] at hg))|refine st_condT rfl ?_|refine st_condF rfl ?_|(refine st_condS rfl ?_ ?_ <;> intro hg <;> (try simp only[dcT,dcF,bnT,bnF] at hg))|refine st_nil ?_|refine st_tN ?_|refine st_seq ?_|refine st_block ?_|refine st_skip ?_|refine st_exit ?_|refine st_ret ?_|refine st_tE ?_|refine st_tR ?_|refine st_bN ?_|refine st_bR ?_|refine st_bH ?_|refine st_bM rfl ?_)
 ·simp (disch:=omega) only[AEnd,Tryd.results20,aresK,fin,go_sem,implies_true,true_and,and_true,List.reverse_cons,List.reverse_nil]
  rw [← hall,drop_getD 0 (by omega)];simp [allIn,← elt_def,-List.getD_eq_getElem?_getD];omega
 ·simp (disch:=omega) only[AEnd,Tryd.results20,aresK,fin,go_sem,implies_true,true_and,and_true,List.reverse_cons,List.reverse_nil]
  rw [← hall,drop_getD 0 (by omega)];simp [allIn,← elt_def,-List.getD_eq_getElem?_getD];omega
 ·refine ⟨i+1,⟨by omega,by rw [← hall,drop_getD 0 (by omega:i < es.length)];simp [allIn,← elt_def,-List.getD_eq_getElem?_getD];omega⟩,by omega,(by repeat' (first|exact trivial|refine And.intro ?_ ?_|rfl|(simp (disch:=omega) only[go_sem,if_yes,if_no,if_no];rfl)|(simp (disch:=omega) only[go_sem,if_yes,if_no,if_no]))),(by repeat' (first|exact trivial|refine And.intro ?_ ?_|rfl|(simp (disch:=omega) only[go_sem,if_yes,if_no,if_no];rfl)|(simp (disch:=omega) only[go_sem,if_yes,if_no,if_no]))),rfl,(by first|exact HOld.of _ (by omega)|exact HOld.put _ _ _ (by omega))⟩
 ·simp (disch:=omega) only[AEnd,Tryd.results20,aresK,fin,go_sem,implies_true,true_and,and_true,List.reverse_cons,List.reverse_nil]
  rw [← hall,List.drop_eq_nil_of_le (by omega)];rfl
theorem c20a (lo hi a:Int):Pure Tryd.prog 20 [.int .i64 lo,.int .i64 hi,.lst 1 [[.int .i64 a]]] (fun v=>v=.bool (decide (lo≤a∧a≤hi))):=by
 have h:=c20 lo hi [a] (by simp)
 have e:allIn lo hi [a]=decide (lo≤a∧a≤hi):=by simp [allIn]
 rw [e] at h;exact h
theorem c20b (lo hi a b:Int):Pure Tryd.prog 20 [.int .i64 lo,.int .i64 hi,.lst 1 [[.int .i64 a],[.int .i64 b]]] (fun v=>v=.bool (decide (lo≤a∧a≤hi∧lo≤b∧b≤hi))):=by
 have h:=c20 lo hi [a,b] (by simp)
 have e:allIn lo hi [a,b]=decide (lo≤a∧a≤hi∧lo≤b∧b≤hi):=by simp [allIn,Bool.decide_and,Bool.and_assoc]
 rw [e] at h;exact h
theorem c36 (s:Sx) (q:Int):Pure Tryd.prog 36 [.agg s.row,.int .i64 q] (fun v=>v=.int .i64 (oth s q)):=by
 intro h
 refine ACalls.forget (ACalls.of tab mixed Tryd.call36 Tryd.func36 rfl (fi:=⟨18,[],[2],none,[]⟩) rfl rfl (Nat.le_of_ble_eq_true rfl) (by decide) ?_)
 unfold startA
 simp only[go_sem]
 repeat' (first|refine st_seq_reg rfl (by first|(simp only[go_sem];rfl)|rfl) (by first|(simp only[go_sem];rfl)|rfl) ?_|refine st_reg rfl (by first|(simp only[go_sem];rfl)|rfl) (by first|(simp only[go_sem];rfl)|rfl) ?_|refine st_op ?_|refine st_det rfl (by simp (disch:=omega) only[go_sem,wr_i64];rfl) ?_|refine st_loc rfl (by simp (disch:=omega) only[go_sem,wr_i64];rfl) ?_|refine st_heap rfl (by simp (disch:=omega) only[go_sem,wr_i64];rfl) ?_|refine st_condT rfl ?_|refine st_condF rfl ?_|(refine st_condS rfl ?_ ?_ <;> intro hg <;> (try simp only[dcT,dcF,bnT,bnF] at hg))|refine st_nil ?_|refine st_tN ?_|refine st_seq ?_|refine st_block ?_|refine st_skip ?_|refine st_exit ?_|refine st_ret ?_|refine st_tE ?_|refine st_tR ?_|refine st_bN ?_|refine st_bR ?_|refine st_bH ?_|refine st_bM rfl ?_)
 all_goals
  simp (disch:=omega) only[AEnd,Tryd.results36,aresK,fin,go_sem,implies_true,true_and,and_true,List.reverse_cons,List.reverse_nil]
  unfold oth;first|rw [if_pos ‹q=s.a›]|rw [if_neg ‹¬ q=s.a›,if_pos ‹q=s.b›]|rw [if_neg ‹¬ q=s.a›,if_neg ‹¬ q=s.b›]
theorem c40 (lo hi m:Int):Pure Tryd.prog 40 [.agg [.int .i64 lo,.int .i64 hi],.int .i64 m] (fun v=>v=.int .i64 (spanE lo hi m)):=by
 intro h
 refine ACalls.forget (ACalls.of tab mixed Tryd.call40 Tryd.func40 rfl (fi:=⟨20,[],[2,11],none,[]⟩) rfl rfl (Nat.le_of_ble_eq_true rfl) (by decide) ?_)
 unfold startA
 repeat' (first|refine st_seq_reg rfl (by first|(simp only[go_sem];rfl)|rfl) (by first|(simp only[go_sem];rfl)|rfl) ?_|refine st_reg rfl (by first|(simp only[go_sem];rfl)|rfl) (by first|(simp only[go_sem];rfl)|rfl) ?_|refine st_op ?_|refine st_det rfl (by simp (disch:=omega) only[go_sem,wr_i64];rfl) ?_|refine st_loc rfl (by simp (disch:=omega) only[go_sem,wr_i64];rfl) ?_|refine st_heap rfl (by simp (disch:=omega) only[go_sem,wr_i64];rfl) ?_|(refine st_pureE (by first|(simp (disch:=omega) only[go_sem];rfl)|rfl) rfl (c20b 0 m lo hi) (by first|(simp only[go_sem];rfl)|rfl) (by intro n;first|(simp (disch:=omega) only[go_sem];rfl)|rfl) ?_;intro n hn)|refine st_condT rfl ?_|refine st_condF rfl ?_|(refine st_condS rfl ?_ ?_ <;> intro hg <;> (try simp only[dcT,dcF,bnT,bnF] at hg))|refine st_nil ?_|refine st_tN ?_|refine st_seq ?_|refine st_block ?_|refine st_skip ?_|refine st_exit ?_|refine st_ret ?_|refine st_tE ?_|refine st_tR ?_|refine st_bN ?_|refine st_bR ?_|refine st_bH ?_|refine st_bM rfl ?_)
 all_goals
  simp (disch:=omega) only[AEnd,Tryd.results40,aresK,fin,go_sem,implies_true,true_and,and_true,List.reverse_cons,List.reverse_nil]
  unfold spanE;(repeat' split) <;> first|rfl|omega
end Go.Proofs.YtoafigpikgigaaaDoor

namespace Go.Proofs.YtoafigpikgigaaaDoor
open Go.Av
attribute [local irreducible] thenA blockA awp awpOps awpD awp1
attribute [local go_sem_proc] Nat.reduceAdd Nat.reduceMul Nat.reduceEqDiff Nat.reduceBEq Nat.reduceLeDiff
attribute [local go_sem_proc ↓] reduceIte
attribute [local go_sem] if_yes if_no
set_option maxHeartbeats 8000000
set_option maxRecDepth 20000
theorem c21 (t:Tw) (g:Gp) (h1:t.rooms.length≤12) (h2:t.sts.length≤12):Pure Tryd.prog 21 [t.av,.agg g.row] (fun v=>v=.int .i64 (grpE t g)):=by
 have k1:=c40 g.lo g.hi 1000000
 have k2:=c40 g.alo g.ahi 96
 have k3:=c20a 1 96 g.stay
 have k4:=c20a 0 (t.rooms.length - 1:Int) g.first
 intro h
 refine ACalls.forget (ACalls.of tab mixed Tryd.call21 Tryd.func21 rfl (fi:=⟨70,[],[2,3,25,35,57],none,[]⟩) rfl rfl (Nat.le_of_ble_eq_true rfl) (by decide) ?_)
 unfold startA
 simp only[go_sem]
 repeat' (first|refine st_seq_reg rfl (by first|(simp only[go_sem,length_map];rfl)|rfl) (by first|(simp only[go_sem,length_map];rfl)|rfl) ?_|refine st_op ?_|refine st_det rfl (by simp (disch:=omega) only[go_sem,wr_i64,length_map];rfl) ?_|(refine st_pureE (by first|(simp (disch:=omega) only[go_sem,length_map];rfl)|rfl) rfl (k1) (by first|(simp only[go_sem,length_map];rfl)|rfl) (by intro n;first|(simp (disch:=omega) only[go_sem];rfl)|rfl) ?_;intro n hn)|(refine st_pureE (by first|(simp (disch:=omega) only[go_sem,length_map];rfl)|rfl) rfl (k2) (by first|(simp only[go_sem,length_map];rfl)|rfl) (by intro n;first|(simp (disch:=omega) only[go_sem];rfl)|rfl) ?_;intro n hn)|(refine st_pureE (by first|(simp (disch:=omega) only[go_sem,length_map];rfl)|rfl) rfl (k3) (by first|(simp only[go_sem,length_map];rfl)|rfl) (by intro n;first|(simp (disch:=omega) only[go_sem];rfl)|rfl) ?_;intro n hn)|(refine st_pureE (by first|(simp (disch:=omega) only[go_sem,length_map];rfl)|rfl) rfl (k4) (by first|(simp only[go_sem,length_map];rfl)|rfl) (by intro n;first|(simp (disch:=omega) only[go_sem];rfl)|rfl) ?_;intro n hn)|(refine st_condS rfl ?_ ?_ <;> intro hg <;> (try simp only[dcT,dcF,bnT,bnF] at hg))|refine st_nil ?_|refine st_tN ?_|refine st_seq ?_|refine st_block ?_|refine st_skip ?_|refine st_ret ?_|refine st_tR ?_|refine st_bN ?_|refine st_bR ?_)
 all_goals try (exfalso;omega)
 ·simp (disch:=omega) only[AEnd,Tryd.results21,aresK,fin,go_sem,implies_true,true_and,and_true,List.reverse_cons,List.reverse_nil]
  unfold grpE;rw [if_pos (by omega)]
 ·simp (disch:=omega) only[AEnd,Tryd.results21,aresK,fin,go_sem,implies_true,true_and,and_true,List.reverse_cons,List.reverse_nil]
  unfold grpE;rw [if_neg (by omega),if_pos (by omega)]
 ·simp (disch:=omega) only[AEnd,Tryd.results21,aresK,fin,go_sem,implies_true,true_and,and_true,List.reverse_cons,List.reverse_nil]
  unfold grpE;rw [if_neg (by omega),if_neg (by omega),if_pos (by omega)]
 ·simp (disch:=omega) only[AEnd,Tryd.results21,aresK,fin,go_sem,implies_true,true_and,and_true,List.reverse_cons,List.reverse_nil]
  unfold grpE;rw [if_neg (by omega),if_neg (by omega),if_neg (by omega),if_pos (by omega)]
 ·simp (disch:=omega) only[AEnd,Tryd.results21,aresK,fin,go_sem,implies_true,true_and,and_true,List.reverse_cons,List.reverse_nil]
  unfold grpE;rw [if_neg (by omega),if_neg (by omega),if_neg (by omega),if_neg (by omega),if_pos (by omega)]
 have hE:grpE t g=errN (pathF t g.path g.first) g.path.length:=by
  unfold grpE;rw [if_neg (by omega),if_neg (by omega),if_neg (by omega),if_neg (by omega),if_neg (by omega)]
 refine st_loopC (α:=Nat) tab mixed [] [] (by repeat (first|exact trivial|refine ⟨rfl,?_⟩)) [] [] (by repeat (first|exact trivial|refine ⟨rfl,?_⟩)) (fun i=>[(48,.int .i64 (i:Nat)),(7,.int .i64 (wayN t g.path g.first i))]) [(0,_),(1,_),(2,_),(3,_),(4,_),(5,_),(6,_),(46,_),(47,_)] (fun _=>[]) [] (fun i=>i≤g.path.length∧errN (pathF t g.path g.first) i=0) (fun i=>g.path.length - i) (by decide) 0 ⟨by omega,rfl⟩ (by (try simp only[go_sem]);repeat' (first|exact trivial|refine And.intro ?_ ?_|rfl|(simp (disch:=omega) only[go_sem,if_yes,if_no,if_no];rfl)|(simp (disch:=omega) only[go_sem,if_yes,if_no,if_no]))) (by (try simp only[go_sem]);repeat' (first|exact trivial|refine And.intro ?_ ?_|rfl|(simp (disch:=omega) only[go_sem,if_yes,if_no,if_no];rfl)|(simp (disch:=omega) only[go_sem,if_yes,if_no,if_no]))) (by first|(simp only[go_sem];rfl)|rfl) (by intro n;simp only[go_sem];rfl) ?_
 rintro i c ⟨hi',he⟩ hc
 simp only[go_sem]
 have q1:=c20a 0 (t.sts.length - 1:Int) (elt g.path i)
 have q2:=c36 (sx t.sts (elt g.path i).toNat) (wayN t g.path g.first i)
 have e1:errN (pathF t g.path g.first) (i+1)=pathF t g.path g.first i:=errN_next he
 have e2:pathF t g.path g.first i=if ¬ (0≤elt g.path i∧elt g.path i < t.sts.length) then 7 else if wayN t g.path g.first (i+1) < 0 then 1 else 0:=rfl
 have e3:wayN t g.path g.first (i+1)=oth (sx t.sts (elt g.path i).toNat) (wayN t g.path g.first i):=rfl
 repeat' (first|refine st_seq_reg rfl (by first|(simp only[go_sem,length_map];rfl)|rfl) (by first|(simp only[go_sem,length_map];rfl)|rfl) ?_|refine st_reg rfl (by first|(simp only[go_sem,length_map];rfl)|rfl) (by first|(simp only[go_sem,length_map];rfl)|rfl) ?_|refine st_op ?_|refine st_det rfl (by simp (disch:=omega) only[go_sem,wr_i64,length_map];rfl) ?_|(refine st_pureE (by first|(simp (disch:=omega) only[go_sem,length_map];rfl)|rfl) rfl (q1) (by first|(simp only[go_sem,length_map];rfl)|rfl) (by intro n;first|(simp (disch:=omega) only[go_sem];rfl)|rfl) ?_;intro n hn)|(refine st_pureE (by first|(simp (disch:=omega) only[go_sem,length_map];rfl)|rfl) rfl (q2) (by first|(simp only[go_sem,length_map];rfl)|rfl) (by intro n;first|(simp (disch:=omega) only[go_sem];rfl)|rfl) ?_;intro n hn)|(refine st_condS rfl ?_ ?_ <;> intro hg <;> (try simp only[dcT,dcF,bnT,bnF] at hg))|refine st_nil ?_|refine st_tN ?_|refine st_seq ?_|refine st_block ?_|refine st_skip ?_|refine st_exit ?_|refine st_ret ?_|refine st_tE ?_|refine st_tR ?_|refine st_bN ?_|refine st_bR ?_|refine st_bH ?_)
 all_goals try (exfalso;omega)
 ·have hv:pathF t g.path g.first i=7:=by rw [e2,if_pos (by omega)]
  simp (disch:=omega) only[AEnd,Tryd.results21,aresK,fin,go_sem,implies_true,true_and,and_true,List.reverse_cons,List.reverse_nil]
  rw [hE,errN_stop he (by omega) (by omega),hv]
 ·have hv:pathF t g.path g.first i=1:=by rw [e2,if_neg (by omega),if_pos (by omega)]
  simp (disch:=omega) only[AEnd,Tryd.results21,aresK,fin,go_sem,implies_true,true_and,and_true,List.reverse_cons,List.reverse_nil]
  rw [hE,errN_stop he (by omega) (by omega),hv]
 ·have hv:pathF t g.path g.first i=0:=by rw [e2,if_neg (by omega),if_neg (by omega)]
  refine ⟨i+1,⟨by omega,by omega⟩,by omega,(by repeat' (first|exact trivial|refine And.intro ?_ ?_|rfl|(simp (disch:=omega) only[go_sem,if_yes,if_no,if_no];rfl)|(simp (disch:=omega) only[go_sem,if_yes,if_no,if_no]))),(by repeat' (first|exact trivial|refine And.intro ?_ ?_|rfl|(simp (disch:=omega) only[go_sem,if_yes,if_no,if_no];rfl)|(simp (disch:=omega) only[go_sem,if_yes,if_no,if_no]))),rfl,(by first|exact HOld.of _ (by omega)|exact HOld.put _ _ _ (by omega))⟩
 ·simp (disch:=omega) only[AEnd,Tryd.results21,aresK,fin,go_sem,implies_true,true_and,and_true,List.reverse_cons,List.reverse_nil]
  rw [hE,← (by omega:i=g.path.length),he]
end Go.Proofs.YtoafigpikgigaaaDoor

namespace Go.Proofs.YtoafigpikgigaaaDoor
open Go.Av
attribute [local irreducible] thenA blockA awp awpOps awpD awp1
attribute [local go_sem_proc] Nat.reduceAdd Nat.reduceMul Nat.reduceEqDiff Nat.reduceBEq Nat.reduceLeDiff
attribute [local go_sem_proc ↓] reduceIte
attribute [local go_sem] if_yes if_no
set_option maxHeartbeats 8000000
set_option maxRecDepth 20000
end Go.Proofs.YtoafigpikgigaaaDoor
