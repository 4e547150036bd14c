/- Contracts of functions that the claim reaches: what each call gives, told in our own logic. Conditions: those of each theorem. -/
import Derived.Test.YtoafigpikgigaaaGreatDoorAvT
import Derived.Test.YtoafigpikgigaaaGreatDoorWSH
open List (length_map)
set_option linter.all false
set_option linter.unusedSimpArgs false
set_option linter.unusedVariables false
namespace Go.Proofs.YtoafigpikgigaaaGreatDoor
open Go.Av
set_option maxRecDepth 20000
theorem mixed:Tryz.prog.follows .mixedOrders=true:=by decide
theorem drop_getD {α:Type} {l:List α} {i:Nat} (d:α) (h:i < l.length):l.drop i=l.getD i d :: l.drop (i+1):=by
 rw [List.drop_eq_getElem_cons h,List.getD_eq_getElem?_getD,List.getElem?_eq_getElem h];rfl
def iv (n:Int):List AV:=[.int .i64 n]
@[go_sem] theorem iv_eq (n:Int):iv n=[.int .i64 n]:=rfl
@[go_sem] theorem map_len {α β:Type} (f:α→β) (l:List α):(l.map f).length=l.length:=Lm f
@[go_sem] theorem toNat_cast (n:Nat):((n:Nat):Int).toNat=n:=rfl
structure Sx where
 a:Int
 b:Int
structure Gp where
 lo:Int
 hi:Int
 alo:Int
 ahi:Int
 stay:Int
 first:Int
 path:List Int
structure Tw where
 rooms:List Int
 sts:List Sx
 gs:List Gp
 steps:Int
def Sx.row (x:Sx):List AV:=[.int .i64 x.a,.int .i64 x.b]
@[go_sem] theorem Sx.row_eq (x:Sx):x.row=[.int .i64 x.a,.int .i64 x.b]:=rfl
def Gp.row (g:Gp):List AV:=[.int .i64 g.lo,.int .i64 g.hi,.int .i64 g.alo,.int .i64 g.ahi,.int .i64 g.stay,.int .i64 g.first,.lst 1 (g.path.map iv)]
@[go_sem] theorem Gp.row_eq (g:Gp):g.row=[.int .i64 g.lo,.int .i64 g.hi,.int .i64 g.alo,.int .i64 g.ahi,.int .i64 g.stay,.int .i64 g.first,.lst 1 (g.path.map iv)]:=rfl
def Tw.av (t:Tw):AV:=.agg [.lst 1 (t.rooms.map iv),.lst 2 (t.sts.map Sx.row),.lst 7 (t.gs.map Gp.row),.int .i64 t.steps]
@[go_sem] theorem Tw.av_eq (t:Tw):t.av=.agg [.lst 1 (t.rooms.map iv),.lst 2 (t.sts.map Sx.row),.lst 7 (t.gs.map Gp.row),.int .i64 t.steps]:=rfl
def elt (l:List Int) (i:Nat):Int:=l.getD i 0
@[go_sem] theorem ivs_getD {l:List Int} {i:Nat} (h:i < l.length):(l.map iv).getD i []=[.int .i64 (elt l i)]:=by
 simp [List.getD_eq_getElem?_getD,h,iv,elt]
def sx (l:List Sx) (i:Nat):Sx:=l.getD i ⟨0,0⟩
def gp (l:List Gp) (i:Nat):Gp:=l.getD i ⟨0,0,0,0,0,0,[]⟩
@[go_sem] theorem srow_getD {l:List Sx} {i:Nat} (h:i < l.length):(l.map Sx.row).getD i []=(sx l i).row:=by
 simp [List.getD_eq_getElem?_getD,h,sx]
@[go_sem] theorem grow_getD {l:List Gp} {i:Nat} (h:i < l.length):(l.map Gp.row).getD i []=(gp l i).row:=by
 simp [List.getD_eq_getElem?_getD,h,gp]
theorem elt_mem {l:List Int} {i:Nat} (h:i < l.length):elt l i ∈ l:=by
 unfold elt;rw [List.getD_eq_getElem?_getD,List.getElem?_eq_getElem h];exact List.getElem_mem h
theorem sx_mem {l:List Sx} {i:Nat} (h:i < l.length):sx l i ∈ l:=by
 unfold sx;rw [List.getD_eq_getElem?_getD,List.getElem?_eq_getElem h];exact List.getElem_mem h
theorem gp_mem {l:List Gp} {i:Nat} (h:i < l.length):gp l i ∈ l:=by
 unfold gp;rw [List.getD_eq_getElem?_getD,List.getElem?_eq_getElem h];exact List.getElem_mem h
def errN (f:Nat→Int):Nat→Int
 | 0=>0
 | n+1=>if errN f n ≠ 0 then errN f n else f n
theorem errN_next {f:Nat→Int} {i:Nat} (h:errN f i=0):errN f (i+1)=f i:=by
 show (if errN f i ≠ 0 then errN f i else f i)=f i
 rw [if_neg (fun e=>e h)]
theorem errN_keep {f:Nat→Int} {i:Nat} (h:errN f i ≠ 0):∀ {n:Nat},i≤n→errN f n=errN f i
  | 0, hn => by obtain rfl : i = 0 := by omega
                rfl
  | n+1,hn=>by
    by_cases e:i=n+1
    · rw [e]
    · have ih:=errN_keep h (n:=n) (by omega)
      show (if errN f n ≠ 0 then errN f n else f n)=_
      rw [ih,if_pos h]
theorem errN_stop {f:Nat→Int} {i n:Nat} (h:errN f i=0) (hf:f i ≠ 0) (hi:i < n):errN f n=f i:=by
 have e:=errN_next h
 rw [← e]
 exact errN_keep (by rw [e];exact hf) (by omega)
theorem errN_zero {f:Nat→Int}:∀ {n:Nat},errN f n=0→∀ i,i < n→f i=0
 | 0,_,i,hi=>absurd hi (Nat.not_lt_zero _)
 | n+1,h,i,hi=>by
  have h':(if errN f n ≠ 0 then errN f n else f n)=0:=h
  by_cases e:errN f n=0
  ·rw [if_neg (fun h=>h e)] at h'
   by_cases e2:i=n
   ·rw [e2];exact h'
   ·exact errN_zero e i (by omega)
  ·rw [if_pos e] at h';exact absurd h' e
theorem errN_all {f:Nat→Int}:∀ {n:Nat},(∀ i,i < n→f i=0)→errN f n=0
 | 0,_=>rfl
 | n+1,h=>by
  have ih:=errN_all (f:=f) (n:=n) fun i hi=>h i (by omega)
  rw [errN_next ih];exact h n (by omega)
def allIn (lo hi:Int) (l:List Int):Bool:=l.all fun a=>decide (lo≤a∧a≤hi)
theorem allIn_elt {lo hi:Int} {l:List Int} (h:allIn lo hi l=true) (i:Nat) (hi':i < l.length):lo≤elt l i∧elt l i≤hi :=
 of_decide_eq_true (List.all_eq_true.1 h (elt l i) (elt_mem hi'))
def oth (s:Sx) (q:Int):Int:=if q=s.a then s.b else if q=s.b then s.a else -1
def spanE (lo hi m:Int):Int:=if ¬ (0≤lo∧lo≤m∧0≤hi∧hi≤m) then 2 else if hi < lo then 9 else 0
def wayN (t:Tw) (p:List Int) (q:Int):Nat→Int
 | 0=>q
 | i+1=>oth (sx t.sts (elt p i).toNat) (wayN t p q i)
def pathF (t:Tw) (p:List Int) (q:Int) (i:Nat):Int:=if ¬ (0≤elt p i∧elt p i < t.sts.length) then 7 else if wayN t p q (i+1) < 0 then 1 else 0
def grpE (t:Tw) (g:Gp):Int :=
 if spanE g.lo g.hi 1000000 ≠ 0 then spanE g.lo g.hi 1000000 else if spanE g.alo g.ahi 96 ≠ 0 then spanE g.alo g.ahi 96 else if ¬ (1≤g.stay∧g.stay≤96) then 2
 else if ¬ (0≤g.first∧g.first < t.rooms.length) then 7 else if 12 < g.path.length then 5 else errN (pathF t g.path g.first) g.path.length
def stE (t:Tw) (i:Nat):Int:=if ¬ (0≤(sx t.sts i).a∧(sx t.sts i).a < t.rooms.length∧0≤(sx t.sts i).b∧(sx t.sts i).b < t.rooms.length) then 7 else if (sx t.sts i).a=(sx t.sts i).b then 1 else 0
def chkE (t:Tw):Int :=
 if t.rooms.length=0 then 4 else if 12 < t.rooms.length then 5 else if allIn 0 1000000 t.rooms=false then 2 else if 12 < t.sts.length then 5
 else if errN (stE t) t.sts.length ≠ 0 then errN (stE t) t.sts.length else if ¬ (0≤t.steps∧t.steps≤96) then 2 else if 12 < t.gs.length then 5 else errN (fun i=>grpE t (gp t.gs i)) t.gs.length
def cloF (t:Tw) (c:List Int) (i:Nat):Int:=if ¬ (0≤elt c i∧elt c i < t.sts.length) then 7 else if 0 < i∧elt c i≤elt c (i - 1) then 9 else 0
def cloE (t:Tw) (c:List Int):Int:=if chkE t ≠ 0 then chkE t else errN (cloF t c) c.length
structure GpOk (t:Tw) (g:Gp):Prop where
 size:0≤g.lo∧g.lo≤g.hi∧g.hi≤1000000
 at_:0≤g.alo∧g.alo≤g.ahi∧g.ahi≤96
 stay:1≤g.stay∧g.stay≤96
 first:0≤g.first∧g.first < t.rooms.length
 many:g.path.length≤12
 st:∀ i,i < g.path.length→0≤elt g.path i∧elt g.path i < t.sts.length
 way:∀ i,i≤g.path.length→0≤wayN t g.path g.first i
structure TwOk (t:Tw):Prop where
 r0:0 < t.rooms.length
 rn:t.rooms.length≤12
 room:∀ i,i < t.rooms.length→0≤elt t.rooms i∧elt t.rooms i≤1000000
 sn:t.sts.length≤12
 st:∀ i,i < t.sts.length→0≤(sx t.sts i).a∧(sx t.sts i).a < t.rooms.length∧0≤(sx t.sts i).b∧(sx t.sts i).b < t.rooms.length∧(sx t.sts i).a ≠ (sx t.sts i).b
 steps:0≤t.steps∧t.steps≤96
 gn:t.gs.length≤12
 g:∀ i,i < t.gs.length→GpOk t (gp t.gs i)
theorem spanE_zero {lo hi m:Int} (h:spanE lo hi m=0):0≤lo∧lo≤hi∧hi≤m:=by
 unfold spanE at h
 split at h
 ·omega
 ·split at h <;> omega
theorem grpOk {t:Tw} {g:Gp} (h:grpE t g=0):GpOk t g:=by
 unfold grpE at h
 by_cases h1:spanE g.lo g.hi 1000000=0
 case neg=>rw [if_pos h1] at h;exact absurd h h1
 rw [if_neg (fun e=>e h1)] at h
 by_cases h2:spanE g.alo g.ahi 96=0
 case neg=>rw [if_pos h2] at h;exact absurd h h2
 rw [if_neg (fun e=>e h2)] at h
 by_cases h3:1≤g.stay∧g.stay≤96
 case neg=>rw [if_pos h3] at h;cases h
 rw [if_neg (fun e=>e h3)] at h
 by_cases h4:0≤g.first∧g.first < t.rooms.length
 case neg=>rw [if_pos h4] at h;cases h
 rw [if_neg (fun e=>e h4)] at h
 by_cases h5:12 < g.path.length
 ·rw [if_pos h5] at h;cases h
 rw [if_neg h5] at h
 have hz:=errN_zero h
 have hst:∀ i,i < g.path.length→0≤elt g.path i∧elt g.path i < t.sts.length:=fun i hi=>by
  have:=hz i hi
  unfold pathF at this
  by_cases c:0≤elt g.path i∧elt g.path i < t.sts.length
  ·exact c
  ·rw [if_pos c] at this;cases this
 refine ⟨spanE_zero h1,spanE_zero h2,h3,h4,by omega,hst,fun i hi=>?_⟩
 cases i with
 | zero=>exact h4.1
 | succ i =>
  have:=hz i (by omega)
  unfold pathF at this
  rw [if_neg (fun e=>e (hst i (by omega)))] at this
  by_cases c:wayN t g.path g.first (i+1) < 0
  ·rw [if_pos c] at this;cases this
  ·omega
theorem townOk {t:Tw} (h:chkE t=0):TwOk t:=by
 unfold chkE at h
 by_cases h1:t.rooms.length=0
 ·rw [if_pos h1] at h;cases h
 rw [if_neg h1] at h
 by_cases h2:12 < t.rooms.length
 ·rw [if_pos h2] at h;cases h
 rw [if_neg h2] at h
 cases h3:allIn 0 1000000 t.rooms
 ·rw [h3] at h;simp at h
 rw [h3,if_neg (by simp)] at h
 by_cases h4:12 < t.sts.length
 ·rw [if_pos h4] at h;cases h
 rw [if_neg h4] at h
 by_cases h5:errN (stE t) t.sts.length=0
 case neg=>rw [if_pos h5] at h;exact absurd h h5
 rw [if_neg (fun e=>e h5)] at h
 by_cases h6:0≤t.steps∧t.steps≤96
 case neg=>rw [if_pos h6] at h;cases h
 rw [if_neg (fun e=>e h6)] at h
 by_cases h7:12 < t.gs.length
 ·rw [if_pos h7] at h;cases h
 rw [if_neg h7] at h
 refine ⟨by omega,by omega,fun i hi=>allIn_elt h3 i hi,by omega,fun i hi=>?_,h6,by omega,fun i hi=>grpOk (errN_zero h i hi)⟩
 have:=errN_zero h5 i hi
 unfold stE at this
 by_cases c:0≤(sx t.sts i).a∧(sx t.sts i).a < t.rooms.length∧0≤(sx t.sts i).b∧(sx t.sts i).b < t.rooms.length
 ·rw [if_neg (fun e=>e c)] at this
  by_cases c2:(sx t.sts i).a=(sx t.sts i).b
  ·rw [if_pos c2] at this;cases this
  ·exact ⟨c.1,c.2.1,c.2.2.1,c.2.2.2,c2⟩
 ·rw [if_pos c] at this;cases this
def wlk (t:Tw) (s:Nat→Int):List Int→Nat→Int→Int
 | [],k,q=>if 0 < k then -1 else q
 | _ :: _,0,q=>q
 | p :: ps,k+1,q=>if s p.toNat=0 then -2 else if s p.toNat=2 then q else wlk t s ps k (oth (sx t.sts p.toNat) q)
def plc (t:Tw) (s:Nat→Int) (g:Gp) (came step:Int):Int:=if step < came then -1 else wlk t s g.path ((step - came).tdiv g.stay).toNat g.first
def someB (t:Tw) (s:Nat→Int) (g:Gp) (q step:Int):Bool:=(List.range (g.ahi - g.alo+1).toNat).any fun i=>decide (plc t s g (g.alo+i) step=q)
def allB (t:Tw) (s:Nat→Int) (g:Gp) (q step:Int):Bool:=(List.range (g.ahi - g.alo+1).toNat).all fun i=>decide (plc t s g (g.alo+i) step=q)
def sumF (F:Nat→Int):Nat→Int
 | 0=>0
 | n+1=>sumF F n+F n
def loF (t:Tw) (s:Nat→Int) (q step:Int) (i:Nat):Int:=if allB t s (gp t.gs i) q step=true then (gp t.gs i).lo else 0
def hiF (t:Tw) (s:Nat→Int) (q step:Int) (i:Nat):Int:=if someB t s (gp t.gs i) q step=true then (gp t.gs i).hi else 0
def ldLo (t:Tw) (s:Nat→Int) (q step:Int):Int:=sumF (loF t s q step) t.gs.length
def ldHi (t:Tw) (s:Nat→Int) (q step:Int):Int:=sumF (hiF t s q step) t.gs.length
end Go.Proofs.YtoafigpikgigaaaGreatDoor

namespace Go.Proofs.YtoafigpikgigaaaGreatDoor
open Go.Av Go.Txt Go.Lib
set_option maxRecDepth 20000
def gT:Nat→Option (List AV):=fun g=>if g=0 then some powAV else if g=1 then some [.ani] else if g=2 then some [.ifc] else if g=3 then some [.ifc] else none
theorem c35 (n:Int) (h0:-9223372036854775808≤n) (h1:n≤9223372036854775807):PureG gT Tryz.prog 35 [.int .i64 n] (fun v=>v=.str (itoa n)) :=
 cItoa (ρ:=laysM171_ren) (g:=0) laysM171 Tryz.call35 rfl (by kernel_rfl) n h0 h1
theorem c62 (s:List UInt8) (hs:s.length≤281474976710656):PureG gT Tryz.prog 62 [.str s] (fun v=>v=atoiV s) :=
 cAtoi (ρ:=laysC172_ren) laysC172 Tryz.call62 rfl rfl s hs
theorem c39 (s:List UInt8) (b:UInt8) (hs:s.length < 4294967281):PureG gT Tryz.prog 39 [.str s,.str [b]] (fun v=>v=.lst 1 (strs (splitL b s))) :=
 cSplit (ρ:=lays146_ren) lays146 Tryz.call39 (by kernel_rfl) rfl s b hs
abbrev BdZ:=Bd 75 5
theorem c34 {h0 h:AH} {l:Nat} {bs s:List UInt8} (hB:BdZ h0 h l bs) (hl:bs.length+s.length≤140737488355328) :
  ACalls Tryz.prog 34 [.gptr l 0,.str s] h (fun r h'=>r=.tup [.int .i64 s.length,.nilif]∧BdZ h0 h' l (bs ++ s)∧h'.at_=h.at_∧h'.clk=h.clk∧h'.gl=h.gl):=cWriteString wStr Tryz.call34 hB hl
theorem c36 {h0 h:AH} {l:Nat} {bs:List UInt8} (b:UInt8) (hB:BdZ h0 h l bs) (hl:bs.length+1≤140737488355328) :
  ACalls Tryz.prog 36 [.gptr l 0,.int .u8 b.toNat] h (fun r h'=>r=.nilif∧BdZ h0 h' l (bs ++ [b])∧h'.at_=h.at_∧h'.clk=h.clk∧h'.gl=h.gl):=cWriteByte wByte Tryz.call36 b hB hl
theorem c37 {h0 h:AH} {l:Nat} {bs:List UInt8} (hB:BdZ h0 h l bs) (hl:bs ≠ []) :
  ACalls Tryz.prog 37 [.gptr l 0] h (fun r h'=>r=.str bs∧(∀ i r,h0.lp i=some r→h'.lp i=some r)∧h'.at_=h.at_∧h'.clk=h.clk∧h'.gl=h.gl):=cString (ρ:=lays169_ren) lays169 Builder_Extra_169 Tryz.call37 hB hl
end Go.Proofs.YtoafigpikgigaaaGreatDoor

namespace Go.Proofs.YtoafigpikgigaaaGreatDoor
open Go.Av Go.Txt Go.Lib
attribute [local irreducible] thenA blockA awp awpOps awpD awp1
attribute [local go_sem_proc] Nat.reduceAdd Nat.reduceMul Nat.reduceEqDiff Nat.reduceBEq Nat.reduceLeDiff
attribute [local go_sem_proc ↓] reduceIte
attribute [local go_sem] if_yes if_no
set_option maxHeartbeats 8000000
set_option maxRecDepth 20000
def numsT (l:List Int):List UInt8:=l.flatMap fun n=>32 :: itoa n
def rowT (w:List UInt8) (l:List Int):List UInt8:=w ++ numsT l ++ [10]
def NumOk (l:List Int):Prop:=l.length≤1000000∧∀ x ∈ l,-9223372036854775808≤x∧x≤9223372036854775807
theorem numsT_len {l:List Int} (h:∀ x ∈ l,-9223372036854775808≤x∧x≤9223372036854775807):(numsT l).length≤22 * l.length:=by
 induction l with
 | nil=>exact Nat.le_refl _
 | cons x l ih =>
  have h1:=h x (by simp)
  have h2:=itoa_length_le x h1.1 h1.2
  have h3:=ih (fun y hy=>h y (by simp [hy]))
  unfold numsT at h3 ⊢
  rw [List.flatMap_cons,List.length_append,List.length_cons,List.length_cons]
  omega
theorem numsT_take {l:List Int} {i:Nat} (h:i < l.length):numsT (l.take (i+1))=numsT (l.take i) ++ (32 :: itoa (l.getD i 0)):=by
 unfold numsT
 rw [List.take_succ,List.flatMap_append,List.getElem?_eq_getElem h,List.getD_eq_getElem?_getD,List.getElem?_eq_getElem h]
 simp
theorem iv_getD {l:List Int} {i:Nat} (h:i < l.length):(l.map iv).getD i []=[.int .i64 (l.getD i 0)]:=by
 rw [List.getD_eq_getElem?_getD,List.getElem?_map,List.getElem?_eq_getElem h,List.getD_eq_getElem?_getD,List.getElem?_eq_getElem h];rfl
theorem int_mem {l:List Int} {i:Nat} (h:i < l.length):l.getD i 0 ∈ l:=by
 rw [List.getD_eq_getElem?_getD,List.getElem?_eq_getElem h];exact List.getElem_mem h
theorem c33 (word:List UInt8) (l:List Int) (lb:Nat) (bs:List UInt8) (h0 h:AH) (hgl:h.gl=gT) (hB:BdZ h0 h lb bs) (hn:NumOk l) (hb:bs.length≤1000000000) (hw:word.length≤1000) :
  ACalls Tryz.prog 33 [.str word,.lst 1 (l.map iv),.gptr lb 0] h (fun v h'=>v=.tup []∧BdZ h0 h' lb (bs ++ rowT word l)∧h'.at_=h.at_∧h.clk≤h'.clk∧h'.gl=h.gl):=by
 obtain ⟨hn1,hn2⟩:=hn
 have hB0:BdZ h0 (h.tick (h.clk+1)) lb bs:=hB
 have hlen:∀ i,(numsT (l.take i)).length≤22000000:=fun i=>by
  have:=numsT_len (l:=l.take i) (fun x hx=>hn2 x (List.mem_of_mem_take hx))
  rw [List.length_take] at this
  omega
 refine ACalls.ofS tab Tryz.call33 Tryz.func33 rfl (fi:=⟨21,[],[],none,[]⟩) rfl rfl (Nat.le_of_ble_eq_true rfl) ?_
 unfold startA
 try simp only[go_sem]
 refine asem_awp (fi:=⟨21,[],[],none,[]⟩) tab mixed (by decide) ?_
 repeat' (first|refine st_seq_reg rfl (by first|(simp only[go_sem];rfl)|rfl) (by first|(simp only[go_sem];rfl)|rfl) ?_|refine st_op ?_|refine st_det rfl (by simp (disch:=omega) only[go_sem,wr_i64];rfl) ?_|(refine st_callf rfl rfl (c34 hB0 (s:=word) (by omega)) ?_;rintro v' h1 ⟨rfl,hB1,ha1,hk1,hg1⟩)|refine st_nil ?_|refine st_seq ?_|refine st_block ?_)
 have hgl1:h1.gl=gT:=hg1.trans hgl
 repeat' (first|refine st_seq_reg rfl (by first|(simp only[go_sem,Lm];rfl)|rfl) (by first|(simp only[go_sem,Lm];rfl)|rfl) ?_)
 refine st_loopH (α:=Nat × AH) tab mixed [] [] (by repeat (first|exact trivial|refine ⟨rfl,?_⟩)) [] [] (by repeat (first|exact trivial|refine ⟨rfl,?_⟩)) (fun a=>[(11,.int .i64 (a.1:Nat))]) [(0,_),(1,_),(2,_),(9,_),(10,_)] (fun _=>[]) [] (fun a=>a.2) (fun a=>a.1≤l.length∧BdZ h0 a.2 lb (bs ++ word ++ numsT (l.take a.1))∧a.2.at_=h.at_∧h.clk≤a.2.clk∧a.2.gl=gT) (fun a=>l.length - a.1) (by decide) (0,_) (by exact ⟨Nat.zero_le _,by show BdZ h0 h1 lb _;simpa [numsT] using hB1,ha1,by simp only[go_sem] at hk1 ⊢;omega,hgl1⟩) (by (try simp only[go_sem]);repeat' (first|exact trivial|refine And.intro ?_ ?_|rfl|(simp (disch:=omega) only[go_sem,if_yes,if_no,if_no];rfl)|(simp (disch:=omega) only[go_sem,if_yes,if_no,if_no]))) (by (try simp only[go_sem]);repeat' (first|exact trivial|refine And.intro ?_ ?_|rfl|(simp (disch:=omega) only[go_sem,if_yes,if_no,if_no];rfl)|(simp (disch:=omega) only[go_sem,if_yes,if_no,if_no]))) (HOld.refl _) ?_
 rintro ⟨i,g2⟩ c2 ⟨hi,hB2,ha2,hk2,hg2⟩ hc2
 dsimp only at hi hB2 ha2 hk2 hg2 hc2
 simp only[go_sem]
 by_cases hil:i < l.length
 case neg =>
  obtain rfl:i=l.length:=by omega
  have hB3:BdZ h0 (g2.tick (c2+1+1)) lb (bs ++ word ++ numsT l):=by rw [List.take_length] at hB2;exact hB2
  have hlt:=hlen l.length
  rw [List.take_length] at hlt
  repeat' (first|refine st_seq_reg rfl (by first|(simp only[go_sem,Lm];rfl)|rfl) (by first|(simp only[go_sem,Lm];rfl)|rfl) ?_|refine st_reg rfl (by first|(simp only[go_sem,Lm];rfl)|rfl) (by first|(simp only[go_sem,Lm];rfl)|rfl) ?_|refine st_op ?_|refine st_det rfl (by simp (disch:=omega) only[go_sem,wr_i64,Lm];rfl) ?_|(refine st_callf rfl rfl (c36 10 hB3 (by simp only[List.length_append];omega)) ?_;rintro v' h2 ⟨rfl,hB4,ha4,hk4,hg4⟩)|(refine st_condS rfl ?_ ?_ <;> intro hg <;> (try simp only[dcT,dcF,bnT,bnF] at hg))|refine st_nil ?_|refine st_tN ?_|refine st_seq ?_|refine st_block ?_|refine st_skip ?_|refine st_exit ?_|refine st_tE ?_|refine st_bH ?_)
  all_goals try (exfalso;omega)
  simp (disch:=omega) only[AEnd,Tryz.results33,aresK,fin,go_sem,implies_true,true_and,and_true,List.reverse_cons,List.reverse_nil]
  refine ⟨?_,ha4.trans ha2,?_,hg4.trans (hg2.trans hgl.symm)⟩
  ·show BdZ h0 h2 lb _
   have e:bs ++ rowT word l=bs ++ word ++ numsT l ++ [10]:=by unfold rowT;simp [List.append_assoc]
   rw [e];exact hB4
  ·show h.clk≤h2.clk
   have:h2.clk=c2+1+1:=hk4
   omega
 have hx:=hn2 _ (int_mem hil)
 have hit:=itoa_length_le _ hx.1 hx.2
 have hB3:∀ n,BdZ h0 (g2.tick n) lb (bs ++ word ++ numsT (l.take i)):=fun _=>hB2
 have hlt:=hlen i
 repeat' (first|refine st_seq_reg rfl (by first|(simp only[go_sem,Lm,iv_getD hil];rfl)|rfl) (by first|(simp only[go_sem,Lm,iv_getD hil];rfl)|rfl) ?_|refine st_reg rfl (by first|(simp only[go_sem,Lm,iv_getD hil];rfl)|rfl) (by first|(simp only[go_sem,Lm,iv_getD hil];rfl)|rfl) ?_|refine st_op ?_|refine st_det rfl (by simp (disch:=omega) only[go_sem,wr_i64,Lm,iv_getD hil];rfl) ?_|(refine st_pureGE rfl rfl (c35 (l.getD i 0) hx.1 hx.2) (by exact hg2) (by rfl) (by intro n;rfl) ?_;intro n hn)|(refine st_callf rfl rfl (c34 (hB3 _) (s:=32 :: itoa (l.getD i 0)) (by simp only[List.length_append,List.length_cons];omega)) ?_;rintro v' h2 ⟨rfl,hB4,ha4,hk4,hg4⟩)|(refine st_condS rfl ?_ ?_ <;> intro hg <;> (try simp only[dcT,dcF,bnT,bnF] at hg))|refine st_nil ?_|refine st_tN ?_|refine st_seq ?_|refine st_block ?_|refine st_skip ?_|refine st_exit ?_|refine st_tE ?_|refine st_bN ?_|refine st_bH ?_)
 all_goals try (exfalso;omega)
 have hB5:BdZ h0 h2 lb (bs ++ word ++ numsT (l.take (i+1))):=by rw [numsT_take hil,← List.append_assoc];exact hB4
 refine ⟨(i+1,_),(by exact ⟨by show i+1≤l.length;omega,hB5,ha4.trans ha2,by (have e4:h2.clk=n:=hk4;have e5:c2≤n:=Nat.le_trans (Nat.le_add_right _ 3) hn;try simp only[go_sem];omega),hg4.trans hg2⟩),(by show l.length - (i+1) < l.length - i;omega),(by repeat' (first|exact trivial|refine And.intro ?_ ?_|rfl|(simp (disch:=omega) only[go_sem,if_yes,if_no,if_no];rfl)|(simp (disch:=omega) only[go_sem,if_yes,if_no,if_no]))),(by repeat' (first|exact trivial|refine And.intro ?_ ?_|rfl|(simp (disch:=omega) only[go_sem,if_yes,if_no,if_no];rfl)|(simp (disch:=omega) only[go_sem,if_yes,if_no,if_no]))),rfl,HOld.refl _⟩
end Go.Proofs.YtoafigpikgigaaaGreatDoor

namespace Go.Av
theorem VLes.mid {pre post:List AV} {v v':AV} (h:VLe v v'):VLes (pre ++ v :: post) (pre ++ v' :: post):=by
 induction pre with
 | nil=>simp only[List.nil_append,VLes];exact ⟨_,_,rfl,h,VLes.refl _⟩
 | cons x pre ih=>simp only[List.cons_append,VLes];exact ⟨_,_,rfl,VLe.refl _,ih⟩
theorem frzs_app (b:Bid) (k:Blk):∀ (l r:List AV),frzs b k (l ++ r)=frzs b k l ++ frzs b k r
 | [],r=>by simp only[List.nil_append,frzs]
 | x :: l,r=>by simp only[List.cons_append,frzs,frzs_app b k l r]
theorem SlA.ansT {h g:AH} {v:AV} {z:Nat} {l:List (List AV)} {R:AV→Prop} (pre post:List AV) (hp:∀ b k,frzs b k pre=pre) (hq:∀ b k,frzs b k post=post) (hS:SlA h.clk g v z l) (hR:R (.tup (pre ++ .lst z l :: post))) :
  (∃ v',VLe (.tup (pre ++ v :: post)) v'∧R v') ∨ ∃ b2 k',h.clk≤b2.1∧g.at_ b2=some k'∧R (frz b2 k' (.tup (pre ++ v :: post))):=by
 rcases hS with ⟨rfl,rfl⟩|⟨b1,rfl,h2,h3,h4⟩
 ·exact .inl ⟨_,VLe.tup (VLes.mid (VLe.nils z)),hR⟩
 ·refine .inr ⟨b1,_,h3,h2,?_⟩
  have e:=frz_lst (b:=b1) (z:=z) (l:=l)
  simp only[frz,frzs_app,frzs,hp,hq] at e ⊢
  rw [e];exact hR
end Go.Av
namespace Go.Av
variable {P:Program}
theorem ASem.cutWg {r:Option Nat} {n:Nat} {code:Code} {Q:Exit→AS→Prop} {T:Nat→AV} {B:Bid→Option (List AV)} {M:List Nat} {H:AH} (id:Bid) (pre post:List AV) (v:AV) (z:Nat) (l:List (List AV)) {h0:Nat} (hB:B id=some (pre ++ v :: post)) (hS:SlA h0 H v z l)
  (hst:∀ b m,v=.slc b z 0 m→frzs b ⟨z,l⟩ pre=pre∧frzs b ⟨z,l⟩ post=post)
  (h:∀ H',(∀ b',(∀ m,v ≠ .slc b' z 0 m)→H'.at_ b'=H.at_ b')→H'.clk=H.clk→H'.lp=H.lp→H'.gl=H.gl→ASem P r n code Q ⟨T,upd B id (some (pre ++ .lst z l :: post)),M,H'⟩):ASem P r n code Q ⟨T,B,M,H⟩:=by
 refine ASem.cutXg id (fun b=>∃ m,v=.slc b z 0 m) (cs':=pre ++ .lst z l :: post) hB ?_ fun H' h1 h2 h3 h4=>h H' (fun b' hb'=>h1 b' fun ⟨m,e⟩=>hb' m e) h2 h3 h4
 rcases hS with ⟨rfl,rfl⟩|⟨b1,rfl,h2,h3,h4⟩
 ·exact .inl ⟨VLes.pre (VLe.nils z),fun hall=>by simpa [AV.cell] using hall⟩
 ·obtain ⟨e1,e2⟩:=hst b1 _ rfl
  refine .inr ⟨b1,_,h2,?_,_,rfl⟩
  rw [frzs_app,e1]
  simp only[frzs,e2]
  rw [frz_lst]
def Dis (z z':Nat) (v v':AV):Prop:=∀ b m m',v=.slc b z 0 m→v'=.slc b z' 0 m'→False
theorem Dis.frz {z z':Nat} {v v':AV} {h0:Nat} {g:AH} {l':List (List AV)} (hd:Dis z z' v v') (hS:SlA h0 g v' z' l'):∀ b m k,v=.slc b z 0 m→frz b k v'=v':=by
 intro b m k e
 rcases hS with ⟨rfl,_⟩|⟨b2,rfl,_⟩
 ·rfl
 ·have hne:¬ b2=b:=fun q=>hd b m _ e (by rw [q])
  simp only[Av.frz,if_neg (fun q:b2=b∧_=>hne q.1)]
end Go.Av
namespace Go.Txt
open Go.Lib
def numsP (k:Nat):List (List UInt8)→Option (List Int)
 | []=>some []
 | x :: l=>match numP k x,numsP k l with
  | some n,some r=>some ((n:Int) :: r)
  | _,_=>none
theorem numsP_snoc {k:Nat} {x:List UInt8}:∀ {l:List (List UInt8)},numsP k (l ++ [x])=match numsP k l,numP k x with
  | some r,some n=>some (r ++ [(n:Int)])
  | _,_=>none
 | []=>by
  simp only[List.nil_append,numsP]
  cases numP k x <;> rfl
 | y :: l=>by
  simp only[List.cons_append,numsP,numsP_snoc (l:=l)]
  cases numP k y <;> cases numsP k l <;> cases numP k x <;> rfl
theorem numsP_bad {k:Nat}:∀ {l r:List (List UInt8)},numsP k l=none→numsP k (l ++ r)=none
 | [],r,h=>by simp [numsP] at h
 | y :: l,r,h=>by
  simp only[List.cons_append,numsP] at h ⊢
  cases hy:numP k y with
  | none=>rfl
  | some n =>
   rw [hy] at h
   cases hl:numsP k l with
   | none=>rw [numsP_bad hl]
   | some q=>rw [hl] at h;cases h
def rowP (k:Nat) (s:List UInt8):Option (List UInt8 × List Int):=match splitL 32 s with
 | []=>none
 | w :: ws=>(numsP k ws).map fun l=>(w,l)
theorem splitL_len (c:UInt8):∀ s,(splitL c s).length≤s.length+1
 | []=>by simp [splitL]
 | b :: s=>by
  obtain ⟨q,qs,h1,h2⟩:=splitL_cons c b s
  have:=splitL_len c s
  rw [h1] at this
  rw [h2]
  split <;> simp at this ⊢ <;> omega
theorem splitL_sub {c:UInt8}:∀ {s r:List UInt8},r ∈ splitL c s→r.length≤s.length
 | [],r,h=>by simp [splitL] at h;subst h;simp
 | b :: s,r,h=>by
  obtain ⟨q,qs,h1,h2⟩:=splitL_cons c b s
  have ih:=fun {x} hx=>splitL_sub (c:=c) (s:=s) (r:=x) (by rw [h1];exact hx)
  rw [h2] at h
  split at h
  ·simp at h
   rcases h with rfl|h
   ·simp
   ·have:=ih (x:=r) (by simpa using h);simp;omega
  ·simp at h
   rcases h with rfl|h
   ·have:=ih (x:=q) (by simp);simp;omega
   ·have:=ih (x:=r) (by simp [h]);simp;omega
theorem atoi_bd {l:List UInt8} {v:Int} (h:atoiAll l=.ok v):-9223372036854775808≤v∧v≤9223372036854775807:=by
 unfold atoiAll at h
 split at h
 ·cases h
 ·dsimp only at h
  split at h
  ·cases h
  ·cases h
  ·split at h
   ·cases h
   ·split at h
    ·cases h
    ·rename_i h1 h2
     injection h with h
     split at h <;> omega
end Go.Txt

namespace Go.Proofs.YtoafigpikgigaaaGreatDoor
open Go.Av Go.Txt Go.Lib
theorem itoa_nat (n:Nat):itoa (n:Int)=decDigits n:=by
 unfold itoa
 rw [if_neg (by omega)]
 simp
theorem itoa_nn {x:Int} (h:0≤x):itoa x=decDigits x.toNat:=by
 have:=itoa_nat x.toNat
 rwa [Int.toNat_of_nonneg h] at this
theorem join_nums (w:List UInt8):∀ l:List Int,joinL 32 (w :: l.map itoa)=w ++ numsT l
 | []=>by simp [joinL,numsT]
 | x :: l=>by
  rw [List.map_cons,joinL_cons 32 w (by simp),join_nums (itoa x) l]
  simp [numsT]
theorem numsP_inv {k:Nat}:∀ {ws:List (List UInt8)} {l:List Int},numsP k ws=some l→ws=l.map itoa
 | [],l,h=>by simp [numsP] at h;subst h;rfl
 | x :: ws,l,h=>by
  simp only[numsP] at h
  split at h
  ·rename_i n q h1 h2
   cases h
   rw [List.map_cons,itoa_nat,← (numP_some h1).1,← numsP_inv h2]
  ·cases h
theorem row_of {k:Nat} {row w:List UInt8} {l:List Int} (h:rowP k row=some (w,l)):row=w ++ numsT l:=by
 unfold rowP at h
 split at h
 ·cases h
 ·rename_i w' ws hw
  cases hn:numsP k ws with
  | none=>rw [hn] at h;cases h
  | some r =>
   rw [hn] at h
   injection h with h
   injection h with h1 h2
   subst h1;subst h2
   rw [← join_nums,← numsP_inv hn,← hw,join_split]
theorem join_rows:∀ rs:List (List UInt8),joinL 10 (rs ++ [[]])=rs.flatMap (· ++ [10])
 | []=>rfl
 | r :: rs=>by
  rw [List.cons_append,joinL_cons 10 r (by simp),join_rows rs]
  simp
theorem dec_len:∀ (k u:Nat),u < 10 ^ (k+1)→(decDigits u).length≤k+1
 | 0,u,h=>by rw [dS (by simpa using h)];simp
 | k+1,u,h=>by
  by_cases h1:u < 10
  ·rw [dS h1];simp
  ·rw [dB h1,List.length_append,List.length_singleton]
   have:=dec_len k (u / 10) (by rw [Nat.pow_succ] at h;omega)
   omega
theorem numsP_len {k:Nat}:∀ {l:List (List UInt8)} {r:List Int},numsP k l=some r→r.length=l.length
 | [],r,h=>by simp [numsP] at h;subst h;rfl
 | y :: l,r,h=>by
  simp only[numsP] at h
  split at h
  ·rename_i n q h1 h2
   cases h
   rw [List.length_cons,List.length_cons,numsP_len h2]
  ·cases h
end Go.Proofs.YtoafigpikgigaaaGreatDoor

namespace Go.Proofs.YtoafigpikgigaaaGreatDoor
open Go.Av
set_option maxRecDepth 20000
def catN {α:Type} (g:Nat→List α):Nat→List α
 | 0=>[]
 | k+1=>catN g k ++ g k
def catK (g:Nat→List (List Int)) (a:Nat):Nat→List (List Int)
 | 0=>[]
 | k+1=>catK g a k ++ g (a+k)
def chs (n:Nat):Nat→Nat→List (List Int)
 | 0,_=>[[]]
 | m+1,a=>catK (fun i=>(chs n m (i+1)).map (((i:Nat):Int) :: ·)) a (n - a)
def cls (l:List Int) (i:Nat):Int:=if l.contains ((i:Nat):Int) then 2 else 1
structure Cr where
 step:Int
 sq:Int
 most:Int
def Cr.row (x:Cr):List AV:=[.int .i64 x.step,.int .i64 x.sq,.int .i64 x.most]
@[go_sem] theorem Cr.row_eq (x:Cr):x.row=[.int .i64 x.step,.int .i64 x.sq,.int .i64 x.most]:=rfl
def crF (t:Tw) (s:Nat→Int) (st q:Nat):List Cr:=if elt t.rooms q < ldHi t s (q:Nat) (st:Nat) then [⟨(st:Nat),(q:Nat),ldHi t s (q:Nat) (st:Nat)⟩] else []
def crS (t:Tw) (s:Nat→Int) (st:Nat):List Cr:=catN (crF t s st) t.rooms.length
def crL (t:Tw) (s:Nat→Int):List Cr:=catN (crS t s) (t.steps+1).toNat
def chsAll (n most:Nat):List (List Int):=catN (fun m=>chs n m 0) (min most n+1)
def clo (t:Tw) (most:Nat):Option (List Int):=(chsAll t.sts.length most).find? fun l=>(crL t (cls l)).isEmpty
structure Rn where
 kind:Int
 st:Int
 sq:Int
 step:Int
 deriving DecidableEq
def Rn.row (x:Rn):List AV:=[.int .i64 x.kind,.int .i64 x.st,.int .i64 x.sq,.int .i64 x.step]
@[go_sem] theorem Rn.row_eq (x:Rn):x.row=[.int .i64 x.kind,.int .i64 x.st,.int .i64 x.sq,.int .i64 x.step]:=rfl
def shN (s:List Int):Int:=sumF (fun i=>if elt s i=2 then 1 else 0) s.length
def pvd (t:Tw) (most:Int):Nat→List Int→List Rn→Option (List Rn)
  | 0,_,_=>none
  | _+1,_,[]=>none
  | k+1,s,r :: rest =>
    if r=⟨3,0,0,0⟩ then (if most < shN s then some rest else none)
    else if r.kind=2∧r.st=0 then (if 0≤r.sq∧r.sq < t.rooms.length∧0≤r.step∧r.step≤t.steps∧elt t.rooms r.sq.toNat < ldHi t (elt s) r.sq r.step then some rest else none)
    else if r.kind=1∧r.sq=0∧r.step=0 then
      (if 0≤r.st∧r.st < t.sts.length∧elt s r.st.toNat=0 then match pvd t most k (s.set r.st.toNat 1) rest with
        | none=>none
        | some r2=>pvd t most k (s.set r.st.toNat 2) r2
       else none)
    else none
theorem wayN_congr {t u:Tw} (h:t.sts=u.sts) (p:List Int) (q:Int):∀ i,wayN t p q i=wayN u p q i
 | 0=>rfl
 | i+1=>by show oth (sx t.sts _) (wayN t p q i)=_;rw [wayN_congr h p q i,h];rfl
theorem GpOk.congr {t u:Tw} {g:Gp} (h:GpOk t g) (h1:t.rooms=u.rooms) (h2:t.sts=u.sts):GpOk u g :=
 ⟨h.size,h.at_,h.stay,by rw [← h1];exact h.first,h.many,by rw [← h2];exact h.st,fun i hi=>by rw [← wayN_congr h2];exact h.way i hi⟩
theorem elt_app {l:List Int} {r:Int} {i:Nat} (h:i < l.length):elt (l ++ [r]) i=elt l i:=by
 unfold elt;simp only[List.getD_eq_getElem?_getD];rw [List.getElem?_append_left h]
theorem elt_last {l:List Int} {r:Int}:elt (l ++ [r]) l.length=r:=by
 unfold elt;simp only[List.getD_eq_getElem?_getD];simp
theorem wayN_app {t:Tw} {p:List Int} {q r:Int}:∀ i,i≤p.length→wayN t (p ++ [r]) q i=wayN t p q i
 | 0,_=>rfl
 | i+1,h=>by
  show oth (sx t.sts (elt (p ++ [r]) i).toNat) (wayN t (p ++ [r]) q i)=oth (sx t.sts (elt p i).toNat) (wayN t p q i)
  rw [elt_app (by omega),wayN_app i (by omega)]
structure PtOk (t:Tw) (q:Int) (p:List Int):Prop where
 st:∀ i,i < p.length→0≤elt p i∧elt p i < t.sts.length
 way:∀ i,i≤p.length→0≤wayN t p q i
theorem PtOk.add {t:Tw} {q:Int} {p:List Int} {r:Int} (h:PtOk t q p) (hr:0≤r∧r < t.sts.length) (hw:0≤oth (sx t.sts r.toNat) (wayN t p q p.length)):PtOk t q (p ++ [r])∧wayN t (p ++ [r]) q (p ++ [r]).length=oth (sx t.sts r.toNat) (wayN t p q p.length):=by
 have hl:(p ++ [r]).length=p.length+1:=by simp
 have e:wayN t (p ++ [r]) q (p.length+1)=oth (sx t.sts r.toNat) (wayN t p q p.length):=by
  show oth (sx t.sts (elt (p ++ [r]) p.length).toNat) (wayN t (p ++ [r]) q p.length)=_
  rw [elt_last,wayN_app _ (Nat.le_refl _)]
 refine ⟨⟨fun i hi=>?_,fun i hi=>?_⟩,by rw [hl];exact e⟩
 ·by_cases c:i < p.length
  ·rw [elt_app c];exact h.st i c
  ·obtain rfl:i=p.length:=by omega
   rw [elt_last];exact hr
 ·by_cases c:i≤p.length
  ·rw [wayN_app i c];exact h.way i c
  ·obtain rfl:i=p.length+1:=by omega
   rw [e];exact hw
structure GpGood (t:Tw) (g:Gp):Prop where
 size:0≤g.lo∧g.lo≤g.hi∧g.hi≤90
 at_:0≤g.alo∧g.alo≤g.ahi∧g.ahi≤4
 stay:1≤g.stay∧g.stay≤4
 first:0≤g.first∧g.first < t.rooms.length
 many:g.path.length≤4
 pt:PtOk t g.first g.path
structure TwGood (t:Tw) (SQ ST GR:Int):Prop where
 r0:0 < t.rooms.length
 rn:(t.rooms.length:Int)≤SQ
 room:∀ x ∈ t.rooms,0≤x∧x≤500
 sn:(t.sts.length:Int)≤ST
 st:∀ x ∈ t.sts,0≤x.a∧x.a < t.rooms.length∧0≤x.b∧x.b < t.rooms.length∧x.a ≠ x.b
 steps:0≤t.steps∧t.steps≤10
 gn:(t.gs.length:Int)≤GR
 g:∀ x ∈ t.gs,GpGood t x
theorem TwGood.ok {t:Tw} {SQ ST GR:Int} (h:TwGood t SQ ST GR) (h1:SQ≤12) (h2:ST≤12) (h3:GR≤12):TwOk t:=by
 have a:=h.rn;have b:=h.sn;have c:=h.gn;have d:=h.steps
 refine ⟨h.r0,by omega,fun i hi=>?_,by omega,fun i hi=>h.st _ (sx_mem hi),by omega,by omega,fun i hi=>?_⟩
 ·have:=h.room _ (elt_mem hi);omega
 ·have k:=h.g _ (gp_mem hi)
  have k1:=k.size;have k2:=k.at_;have k3:=k.stay;have k4:=k.many
  exact ⟨by omega,by omega,by omega,k.first,by omega,k.pt.st,k.pt.way⟩
structure ClOk (t:Tw) (c:List Int) (j:Nat):Prop where
 len:c.length≤j
 bd:∀ i,i < c.length→0≤elt c i∧elt c i < j
 up:∀ i,0 < i→i < c.length→elt c (i - 1) < elt c i
theorem ClOk.mono {t:Tw} {c:List Int} {j k:Nat} (h:ClOk t c j) (hk:j≤k):ClOk t c k:=⟨by have:=h.len;omega,fun i hi=>by have:=h.bd i hi;omega,h.up⟩
theorem ClOk.add {t:Tw} {c:List Int} {j:Nat} (h:ClOk t c j):ClOk t (c ++ [((j:Nat):Int)]) (j+1):=by
 have hl:=h.len
 have hl1:(c ++ [((j:Nat):Int)]).length=c.length+1:=by simp
 refine ⟨by omega,fun i hi=>?_,fun i h0 hi=>?_⟩
 ·by_cases q:i < c.length
  ·rw [elt_app q];have:=h.bd i q;omega
  ·obtain rfl:i=c.length:=by omega
   rw [elt_last];omega
 ·by_cases q:i < c.length
  ·rw [elt_app q,elt_app (by omega)];exact h.up i h0 q
  ·obtain rfl:i=c.length:=by omega
   rw [elt_last,elt_app (by omega)];exact (h.bd _ (by omega)).2
theorem ClOk.cloE {t:Tw} {c:List Int} (h:ClOk t c t.sts.length) (hT:chkE t=0):cloE t c=0:=by
 unfold Go.Proofs.YtoafigpikgigaaaGreatDoor.cloE
 rw [if_neg (fun e=>e hT)]
 refine errN_all fun i hi=>?_
 have a:=h.bd i hi
 unfold cloF
 rw [if_neg (by omega),if_neg]
 rintro ⟨h0,h1⟩
 have:=h.up i h0 hi
 omega
end Go.Proofs.YtoafigpikgigaaaGreatDoor
