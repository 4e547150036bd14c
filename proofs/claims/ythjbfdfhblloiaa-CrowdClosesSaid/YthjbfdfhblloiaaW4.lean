/- Contracts of functions that the claim reaches: what each call gives, told in our own logic. Conditions: those of each theorem. -/
import Derived.Test.YthjbfdfhblloiaaQ33
import Derived.Test.YthjbfdfhblloiaaW6a
import Derived.Test.YthjbfdfhblloiaaW10
import Derived.Test.YthjbfdfhblloiaaQ56
import Derived.Test.YthjbfdfhblloiaaQ22
import Derived.Test.YthjbfdfhblloiaaQ14
import Derived.Test.YthjbfdfhblloiaaQ24
import Derived.Test.YthjbfdfhblloiaaW3
open Nat (reduceAdd reduceMul reduceEqDiff reduceLeDiff)
open List (length_map)
set_option linter.all false
set_option linter.unusedSimpArgs false
set_option linter.unusedVariables false
namespace Go.Proofs.Ythjbfdfhblloiaa
open Go.Av
set_option maxRecDepth 20000
structure GpLe (a b : Gp) : Prop where
  stay : a.stay = b.stay
  first : a.first = b.first
  path : a.path = b.path
  lo : b.lo ≤ a.lo
  lh : a.lo ≤ a.hi
  hi : a.hi ≤ b.hi
  alo : b.alo ≤ a.alo
  mid : a.alo ≤ a.ahi
  ahi : a.ahi ≤ b.ahi
structure TwLe (u t : Tw) : Prop where
  sts : u.sts = t.sts
  steps : u.steps = t.steps
  rl : u.rooms.length = t.rooms.length
  room : ∀ i,i < t.rooms.length → elt t.rooms i ≤ elt u.rooms i
  gl : u.gs.length = t.gs.length
  g : ∀ i,i < t.gs.length → GpLe (gp u.gs i) (gp t.gs i)
theorem wlk_congr {u t : Tw} (h : u.sts = t.sts) (s : Nat → Int) : ∀ (p : List Int) (k : Nat) (q : Int),wlk u s p k q = wlk t s p k q
  | [],_,_ => rfl
  | _ :: _,0,_ => rfl
  | p :: ps,k + 1,q => by
    show (if s p.toNat = 0 then -2 else if s p.toNat = 2 then q else wlk u s ps k (oth (sx u.sts p.toNat) q)) = (if s p.toNat = 0 then -2 else if s p.toNat = 2 then q else wlk t s ps k (oth (sx t.sts p.toNat) q))
    rw [wlk_congr h s ps k,h]
theorem plc_congr {u t : Tw} (h : u.sts = t.sts) (s : Nat → Int) {a b : Gp} (k : GpLe a b) (c st : Int) : plc u s a c st = plc t s b c st:=by
  unfold plc;rw [wlk_congr h,k.stay,k.first,k.path]
theorem TwLe.ldHi {u t : Tw} (h : TwLe u t) (h0 : ∀ i,i < t.gs.length → 0 ≤ (gp t.gs i).hi) (s : Nat → Int) (q st : Int) : Go.Proofs.Ythjbfdfhblloiaa.ldHi u s q st ≤ Go.Proofs.Ythjbfdfhblloiaa.ldHi t s q st:=by
  unfold Go.Proofs.Ythjbfdfhblloiaa.ldHi
  rw [h.gl]
  refine sumF_le fun i hi => ?_
  have k:=h.g i hi
  unfold hiF
  by_cases e : someB u s (gp u.gs i) q st = true
  · obtain ⟨c,h1,h2,h3⟩:=someB_iff.1 e
    have e2 : someB t s (gp t.gs i) q st = true:=someB_iff.2 ⟨c,by have:=k.alo;omega,by have:=k.ahi;omega,by rw [← plc_congr h.sts s k];exact h3⟩
    rw [if_pos e,if_pos e2];exact k.hi
  · rw [if_neg e]
    split
    · exact h0 i hi
    · exact Int.le_refl _
theorem TwLe.ldLo {u t : Tw} (h : TwLe u t) (h0 : ∀ i,i < t.gs.length → 0 ≤ (gp t.gs i).lo) (s : Nat → Int) (q st : Int) : Go.Proofs.Ythjbfdfhblloiaa.ldLo t s q st ≤ Go.Proofs.Ythjbfdfhblloiaa.ldLo u s q st:=by
  unfold Go.Proofs.Ythjbfdfhblloiaa.ldLo
  rw [h.gl]
  refine sumF_le fun i hi => ?_
  have k:=h.g i hi
  have h00:=h0 i hi
  have hl:=k.lo
  unfold loF
  by_cases e : allB t s (gp t.gs i) q st = true
  · have e2 : allB u s (gp u.gs i) q st = true:=allB_iff.2 fun c h1 h2 => by
      rw [plc_congr h.sts s k]
      exact allB_iff.1 e c (by have:=k.alo;omega) (by have:=k.ahi;omega)
    rw [if_pos e,if_pos e2];exact k.lo
  · rw [if_neg e]
    split <;> omega
theorem catN_nil {α : Type} {g : Nat → List α} : ∀ {n : Nat},catN g n = [] ↔ ∀ i,i < n → g i = []
  | 0 => ⟨fun _ i hi => absurd hi (Nat.not_lt_zero _),fun _ => rfl⟩
  | n + 1 => by
    show catN g n ++ g n = [] ↔ _
    rw [List.append_eq_nil_iff,catN_nil]
    constructor
    · rintro ⟨h1,h2⟩ i hi
      by_cases e : i = n
      · rw [e];exact h2
      · exact h1 i (by omega)
    · intro h
      exact ⟨fun i hi => h i (by omega),h n (by omega)⟩
theorem mem_catN {α : Type} {g : Nat → List α} {x : α} : ∀ {n : Nat},x ∈ catN g n ↔ ∃ i,i < n ∧ x ∈ g i
  | 0 => ⟨fun h => (by cases h),fun ⟨i,hi,_⟩ => absurd hi (Nat.not_lt_zero _)⟩
  | n + 1 => by
    show x ∈ catN g n ++ g n ↔ _
    rw [List.mem_append,mem_catN]
    constructor
    · rintro (⟨i,h1,h2⟩ | h)
      · exact ⟨i,by omega,h2⟩
      · exact ⟨n,by omega,h⟩
    · rintro ⟨i,h1,h2⟩
      by_cases e : i = n
      · rw [e] at h2;exact .inr h2
      · exact .inl ⟨i,by omega,h2⟩
theorem okB_iff {t : Tw} {l : List Int} : okB t l = true ↔ ∀ st q : Nat,st < (t.steps + 1).toNat → q < t.rooms.length → Go.Proofs.Ythjbfdfhblloiaa.ldHi t (cls l) (q : Nat) (st : Nat) ≤ elt t.rooms q:=by
  unfold okB
  rw [List.isEmpty_iff]
  unfold crL
  rw [catN_nil]
  constructor
  · intro h st q h1 h2
    have:=catN_nil.1 (h st h1) q h2
    unfold crF at this
    by_cases e : elt t.rooms q < Go.Proofs.Ythjbfdfhblloiaa.ldHi t (cls l) (q : Nat) (st : Nat)
    · rw [if_pos e] at this;cases this
    · omega
  · intro h st h1
    refine catN_nil.2 fun q h2 => ?_
    unfold crF
    rw [if_neg (by have:=h st q h1 h2;omega)]
theorem TwLe.okB {u t : Tw} (h : TwLe u t) (h0 : ∀ i,i < t.gs.length → 0 ≤ (gp t.gs i).hi) {l : List Int} (k : Go.Proofs.Ythjbfdfhblloiaa.okB t l = true) : Go.Proofs.Ythjbfdfhblloiaa.okB u l = true:=by
  rw [okB_iff] at k ⊢
  intro st q h1 h2
  rw [h.steps] at h1;rw [h.rl] at h2
  have e1:=k st q h1 h2
  have e2:=h.ldHi h0 (cls l) (q : Nat) (st : Nat)
  have e3:=h.room q h2
  omega
theorem TwLe.clo {u t : Tw} (h : TwLe u t) (h0 : ∀ i,i < t.gs.length → 0 ≤ (gp t.gs i).hi) {A : List Int} (k : Go.Proofs.Ythjbfdfhblloiaa.clo t t.sts.length = some A) : ∃ B,Go.Proofs.Ythjbfdfhblloiaa.clo u u.sts.length = some B ∧ B.length ≤ A.length:=by
  rw [h.sts]
  unfold Go.Proofs.Ythjbfdfhblloiaa.clo chsAll at *
  rw [h.sts,Nat.min_self]
  rw [Nat.min_self] at k
  obtain ⟨m,hm,hA⟩:=mem_catN.1 (List.mem_of_find?_eq_some k)
  have hAl:=(chs_ok (t:=t) m 0 A hA).1
  have hp : (crL u (cls A)).isEmpty = true:=h.okB h0 (l:=A) (List.find?_some k)
  have hin : A ∈ catN (fun m => chs t.sts.length m 0) (m + 1):=mem_catN.2 ⟨m,by omega,hA⟩
  cases e : (catN (fun m => chs t.sts.length m 0) (m + 1)).find? fun l => (crL u (cls l)).isEmpty with
  | none => exact absurd hp (by rw [List.find?_eq_none] at e;exact e A hin)
  | some B =>
    refine ⟨B,catN_fpre e (by omega),?_⟩
    obtain ⟨j,hj,hB⟩:=mem_catN.1 (List.mem_of_find?_eq_some e)
    have:=(chs_ok (t:=t) j 0 B hB).1
    omega
theorem TwLe.ok {u t : Tw} (h : TwLe u t) (hT : TwOk t) (hr : ∀ i,i < t.rooms.length → elt u.rooms i ≤ 1000000) : TwOk u:=by
  have e1:=h.rl
  refine ⟨by rw [e1];exact hT.r0,by rw [e1];exact hT.rn,fun i hi => ?_,by rw [h.sts];exact hT.sn,fun i hi => ?_,by rw [h.steps];exact hT.steps,by rw [h.gl];exact hT.gn,fun i hi => ?_⟩
  · rw [e1] at hi
    have a:=hT.room i hi;have b:=h.room i hi;have c:=hr i hi
    omega
  · rw [h.sts] at hi
    have:=hT.st i hi
    rw [h.sts,e1];exact this
  · rw [h.gl] at hi
    have k:=h.g i hi
    have a:=hT.g i hi
    have a1:=a.size;have a2:=a.at_;have k1:=k.lo;have k2:=k.hi;have k3:=k.alo;have k4:=k.ahi;have k5:=k.lh;have k6:=k.mid
    refine ⟨by omega,by omega,by rw [k.stay];exact a.stay,by rw [k.first,e1];exact a.first,by rw [k.path];exact a.many,fun j hj => ?_,fun j hj => ?_⟩
    · rw [k.path] at hj ⊢;rw [h.sts];exact a.st j hj
    · rw [k.path] at hj ⊢;rw [k.first,wayN_congr h.sts];exact a.way j hj
theorem TwLe.refl {t : Tw} (hT : TwOk t) : TwLe t t :=
  ⟨rfl,rfl,rfl,fun _ _ => Int.le_refl _,rfl,fun i hi => by
    have a:=hT.g i hi
    have a1:=a.size;have a2:=a.at_
    exact ⟨rfl,rfl,rfl,Int.le_refl _,a1.2.1,Int.le_refl _,Int.le_refl _,a2.2.1,Int.le_refl _⟩⟩
theorem catK_mem {g : Nat → List (List Int)} {a : Nat} {x : List Int} : ∀ {n j : Nat},j < n → x ∈ g (a + j) → x ∈ catK g a n
  | 0,_,h,_ => absurd h (Nat.not_lt_zero _)
  | n + 1,j,h,hx => by
    show x ∈ catK g a n ++ g (a + n)
    rw [List.mem_append]
    by_cases e : j = n
    · rw [← e];exact .inr hx
    · exact .inl (catK_mem (by omega) hx)
theorem chs_in (n : Nat) : ∀ (m a : Nat) (x : List Int),x.length = m → x.Pairwise (· < ·) → (∀ y,y ∈ x → (a : Int) ≤ y ∧ y < n) → x ∈ chs n m a
  | 0,a,x,h,_,_ => by
    have : x = []:=List.eq_nil_of_length_eq_zero h
    subst this
    show [] ∈ [[]];simp
  | m + 1,a,[],h,_,_ => by cases h
  | m + 1,a,y :: r,h,hp,hb => by
    obtain ⟨hp1,hp2⟩:=List.pairwise_cons.1 hp
    have hy:=hb y (by simp)
    obtain ⟨j,rfl⟩ : ∃ j : Nat,y = j:=⟨y.toNat,by omega⟩
    have ih:=chs_in n m (j + 1) r (by simpa using h) hp2 (fun z hz => ⟨by have:=hp1 z hz;omega,(hb z (by simp [hz])).2⟩)
    show _ ∈ catK (fun i => (chs n m (i + 1)).map (((i : Nat) : Int) :: ·)) a (n - a)
    refine catK_mem (j:=j - a) (by omega) ?_
    rw [show a + (j - a) = j by omega]
    exact List.mem_map.2 ⟨r,ih,rfl⟩
def shutL (s : List Int) (n : Nat) : List Int:=((List.range n).filter fun i => decide (elt s i = 2)).map fun i => ((i : Nat) : Int)
theorem shutL_len (s : List Int) : ∀ n,((shutL s n).length : Int) = sumF (fun i => if elt s i = 2 then 1 else 0) n
  | 0 => rfl
  | n + 1 => by
    have ih:=shutL_len s n
    unfold shutL at *
    rw [List.range_succ,List.filter_append,List.map_append,List.length_append]
    show _ = sumF _ n + (if elt s n = 2 then 1 else 0)
    rw [← ih]
    by_cases e : elt s n = 2
    · rw [if_pos e];simp [e]
    · rw [if_neg e];simp [e]
theorem shutL_mem {s : List Int} {n : Nat} {x : Int} : x ∈ shutL s n ↔ ∃ i : Nat,i < n ∧ elt s i = 2 ∧ x = (i : Nat):=by
  unfold shutL
  rw [List.mem_map]
  constructor
  · rintro ⟨i,h,rfl⟩
    rw [List.mem_filter,List.mem_range,decide_eq_true_eq] at h
    exact ⟨i,h.1,h.2,rfl⟩
  · rintro ⟨i,h1,h2,rfl⟩
    exact ⟨i,by rw [List.mem_filter,List.mem_range,decide_eq_true_eq];exact ⟨h1,h2⟩,rfl⟩
theorem shutL_pw (s : List Int) (n : Nat) : (shutL s n).Pairwise (· < ·):=by
  unfold shutL
  rw [List.pairwise_map]
  exact (List.Pairwise.filter _ List.pairwise_lt_range).imp fun h => Int.ofNat_lt.2 h
theorem shutL_cls {s : List Int} {n i : Nat} (hi : i < n) (hv : elt s i = 1 ∨ elt s i = 2) : cls (shutL s n) i = elt s i:=by
  unfold cls
  rcases hv with e | e
  · rw [if_neg,e]
    rw [List.contains_iff_mem,shutL_mem]
    rintro ⟨j,_,h2,h3⟩
    have : j = i:=by omega
    rw [this,e] at h2;exact absurd h2 (by decide)
  · rw [if_pos,e]
    rw [List.contains_iff_mem,shutL_mem]
    exact ⟨i,hi,e,rfl⟩
theorem sumF_ext {F G : Nat → Int} : ∀ {n : Nat},(∀ i,i < n → F i = G i) → sumF F n = sumF G n
  | 0,_ => rfl
  | n + 1,h => by
    show sumF F n + F n = sumF G n + G n
    rw [sumF_ext (n:=n) fun i hi => h i (by omega),h n (by omega)]
theorem catN_ext {α : Type} {f g : Nat → List α} : ∀ {n : Nat},(∀ i,i < n → f i = g i) → catN f n = catN g n
  | 0,_ => rfl
  | n + 1,h => by
    show catN f n ++ f n = catN g n ++ g n
    rw [catN_ext (n:=n) fun i hi => h i (by omega),h n (by omega)]
theorem ldHi_ext {t : Tw} (hT : TwOk t) {f g : Nat → Int} (h : ∀ j,j < t.sts.length → f j = g j) (q st : Int) : ldHi t f q st = ldHi t g q st:=by
  unfold ldHi
  refine sumF_ext fun i hi => ?_
  unfold hiF someB
  simp only [plc_ext h (hT.g i hi)]
theorem crL_ext {t : Tw} (hT : TwOk t) {f g : Nat → Int} (h : ∀ j,j < t.sts.length → f j = g j) : crL t f = crL t g:=by
  unfold crL
  refine catN_ext fun st _ => ?_
  unfold crS
  refine catN_ext fun q _ => ?_
  unfold crF
  rw [ldHi_ext hT h]
theorem clo_none {t : Tw} (hT : TwOk t) {M : Nat} (hc : clo t M = none) {s : List Int} (hl : s.length = t.sts.length) (hv : ∀ i,i < t.sts.length → elt s i = 1 ∨ elt s i = 2) (hm : ¬ (M : Int) < shN s) : crL t (elt s) ≠ []:=by
  intro he
  rw [← crL_ext hT (f:=cls (shutL s t.sts.length)) fun j hj => shutL_cls hj (hv j hj)] at he
  have hlen:=shutL_len s t.sts.length
  have hsh : shN s = sumF (fun i => if elt s i = 2 then 1 else 0) t.sts.length:=by unfold shN;rw [hl]
  rw [← hsh] at hlen
  have hle : (shutL s t.sts.length).length ≤ t.sts.length:=by
    unfold shutL
    rw [length_map]
    exact Nat.le_trans (List.length_filter_le _ _) (by rw [List.length_range];exact Nat.le_refl _)
  have hin:=chs_in t.sts.length _ 0 (shutL s t.sts.length) rfl (shutL_pw _ _) (fun y hy => by
    obtain ⟨i,h1,_,rfl⟩:=shutL_mem.1 hy
    omega)
  unfold clo at hc
  rw [List.find?_eq_none] at hc
  refine hc _ (mem_catN.2 ⟨_,?_,hin⟩) (by rw [he];rfl)
  omega
end Go.Proofs.Ythjbfdfhblloiaa

namespace Go.Proofs.Ythjbfdfhblloiaa
open Go.Av
attribute [local irreducible] thenA blockA awp awpOps awpD awp1
set_option maxHeartbeats 8000000
set_option maxRecDepth 20000
def prvV (t : Tw) (M : Nat) : AV:=match clo t M with
  | some _ => .tup [.lst 4 [],.int .i64 7]
  | none => .tup [.lst 4 ((prv t (M : Nat) (t.sts.length + 1) (List.replicate t.sts.length 0)).map Rn.row),.int .i64 0]
def proveV (t : Tw) (most : Int) : AV:=if chkE t ≠ 0 then .tup [.lst 4 [],.int .i64 (chkE t)] else if ¬ (0 ≤ most ∧ most ≤ 12) then .tup [.lst 4 [],.int .i64 2] else prvV t most.toNat
theorem ok94_zero (t : Tw) (most : Int) : Ok94 t most (List.replicate t.sts.length 0):=⟨by simp,fun i hi => .inl (by unfold elt;rw [List.getD_eq_getElem?_getD,List.getElem?_replicate];split <;> rfl)⟩
theorem c58 (t : Tw) (most : Int) (h6 : chkE t = 0 → t.sts.length ≤ 6) : Pure Try.prog 58 [t.av,.int .i64 most] (fun v => v = proveV t most):=by
  have k51:=c51 t
  have k68:=c68a 0 12 most
  refine Pure.give Try.call58 fun h hall => ?_
  by_cases h0 : chkE t = 0
  case neg =>
    refine ACalls.of tab mixed Try.call58 Try.func58 rfl (fi:=⟨33,[],[2,3,17],none,[]⟩) rfl rfl (Nat.le_of_ble_eq_true rfl) (by decide) ?_
    unfold startA
    simp only [go_sem]
    repeat' (first | refine st_seq_reg rfl (by first | (simp only [go_sem];rfl) | rfl) (by first | (simp only [go_sem];rfl) | rfl) ?_ | refine st_op ?_ | refine st_det rfl (by simp (disch:=omega) only [go_sem,wr_i64,if_yes,if_no,↓reduceIte,reduceAdd,reduceMul,reduceEqDiff,Nat.reduceBEq,reduceLeDiff];rfl) ?_ | (refine st_pureE (by first | (simp (disch:=omega) only [go_sem];rfl) | rfl) rfl (k51) (by first | (simp only [go_sem];rfl) | rfl) (by intro n;first | (simp (disch:=omega) only [go_sem];rfl) | rfl) ?_;intro n hn) | (refine st_condS rfl ?_ ?_ <;> intro hg <;> (try simp only [decide_eq_true_eq,decide_eq_false_iff_not,Bool.not_eq_true',Bool.not_eq_false'] at hg)) | refine st_nil ?_ | refine st_tN ?_ | refine st_seq ?_ | refine st_skip ?_ | refine st_ret ?_ | refine st_tR ?_)
    all_goals try (exfalso;omega)
    simp (disch:=omega) only [AEnd,Try.results58,aresK,fin,go_sem,↓reduceIte,reduceEqDiff,reduceAdd,reduceLeDiff,if_yes,if_no,implies_true,true_and,and_true,List.reverse_cons,List.reverse_nil]
    exact .inl ⟨_,le_nil2 _ 4,by unfold proveV;rw [if_pos h0]⟩
  rw [h0] at k51
  have hT:=townOk h0
  have hsn:=hT.sn
  have hs6:=h6 h0
  by_cases h1 : 0 ≤ most ∧ most ≤ 12
  case neg =>
    rw [decide_eq_false h1] at k68
    refine ACalls.of tab mixed Try.call58 Try.func58 rfl (fi:=⟨33,[],[2,3,17],none,[]⟩) rfl rfl (Nat.le_of_ble_eq_true rfl) (by decide) ?_
    unfold startA
    simp only [go_sem]
    repeat' (first | refine st_seq_reg rfl (by first | (simp only [go_sem];rfl) | rfl) (by first | (simp only [go_sem];rfl) | rfl) ?_ | refine st_op ?_ | refine st_det rfl (by simp (disch:=omega) only [go_sem,wr_i64,if_yes,if_no,↓reduceIte,reduceAdd,reduceMul,reduceEqDiff,Nat.reduceBEq,reduceLeDiff];rfl) ?_ | (refine st_pureE (by first | (simp (disch:=omega) only [go_sem];rfl) | rfl) rfl (k51) (by first | (simp only [go_sem];rfl) | rfl) (by intro n;first | (simp (disch:=omega) only [go_sem];rfl) | rfl) ?_;intro n hn) | (refine st_pureE (by first | (simp (disch:=omega) only [go_sem];rfl) | rfl) rfl (k68) (by first | (simp only [go_sem];rfl) | rfl) (by intro n;first | (simp (disch:=omega) only [go_sem];rfl) | rfl) ?_;intro n hn) | refine st_condT rfl ?_ | refine st_condF rfl ?_ | refine st_nil ?_ | refine st_tN ?_ | refine st_seq ?_ | refine st_skip ?_ | refine st_ret ?_ | refine st_tR ?_)
    all_goals try (exfalso;omega)
    simp (disch:=omega) only [AEnd,Try.results58,aresK,fin,go_sem,↓reduceIte,reduceEqDiff,reduceAdd,reduceLeDiff,if_yes,if_no,implies_true,true_and,and_true,List.reverse_cons,List.reverse_nil]
    exact .inl ⟨_,le_nil2 _ 4,by unfold proveV;rw [if_neg (fun e => e h0),if_pos h1]⟩
  rw [decide_eq_true h1] at k68
  obtain ⟨M,rfl⟩ : ∃ m : Nat,most = m:=⟨most.toNat,by omega⟩
  have hE : proveV t (M : Nat) = prvV t M:=by
    unfold proveV;rw [if_neg (fun e => e h0),if_neg (fun e => e h1)];rfl
  rw [hE]
  have k85:=c85 t M (by omega) hT
  cases hcl : clo t M with
  | some L =>
    have hV : cloV t M = .tup [.lst 1 (L.map iv),.bool true]:=by unfold cloV;rw [hcl]
    rw [hV] at k85
    refine ACalls.of tab mixed Try.call58 Try.func58 rfl (fi:=⟨33,[],[2,3,17],none,[]⟩) rfl rfl (Nat.le_of_ble_eq_true rfl) (by decide) ?_
    unfold startA
    simp only [go_sem]
    repeat' (first | refine st_seq_reg rfl (by first | (simp only [go_sem];rfl) | rfl) (by first | (simp only [go_sem];rfl) | rfl) ?_ | refine st_op ?_ | refine st_det rfl (by simp (disch:=omega) only [go_sem,wr_i64,if_yes,if_no,↓reduceIte,reduceAdd,reduceMul,reduceEqDiff,Nat.reduceBEq,reduceLeDiff];rfl) ?_ | (refine st_pureE (by first | (simp (disch:=omega) only [go_sem];rfl) | rfl) rfl (k51) (by first | (simp only [go_sem];rfl) | rfl) (by intro n;first | (simp (disch:=omega) only [go_sem];rfl) | rfl) ?_;intro n hn) | (refine st_pureE (by first | (simp (disch:=omega) only [go_sem];rfl) | rfl) rfl (k68) (by first | (simp only [go_sem];rfl) | rfl) (by intro n;first | (simp (disch:=omega) only [go_sem];rfl) | rfl) ?_;intro n hn) | (refine st_pureE (by first | (simp (disch:=omega) only [go_sem];rfl) | rfl) rfl (k85) (by first | (simp only [go_sem];rfl) | rfl) (by intro n;first | (simp (disch:=omega) only [go_sem];rfl) | rfl) ?_;intro n hn) | refine st_condT rfl ?_ | refine st_condF rfl ?_ | refine st_nil ?_ | refine st_tN ?_ | refine st_seq ?_ | refine st_skip ?_ | refine st_ret ?_ | refine st_tR ?_)
    all_goals try (exfalso;omega)
    simp (disch:=omega) only [AEnd,Try.results58,aresK,fin,go_sem,↓reduceIte,reduceEqDiff,reduceAdd,reduceLeDiff,if_yes,if_no,implies_true,true_and,and_true,List.reverse_cons,List.reverse_nil]
    exact .inl ⟨_,le_nil2 _ 4,by unfold prvV;rw [hcl]⟩
  | none =>
    have hV : cloV t M = .tup [.nils,.bool false]:=by unfold cloV;rw [hcl]
    rw [hV] at k85
    have hz:=stR_zero t.sts.length
    have hP : prvV t M = .tup [.lst 4 ((prv t (M : Nat) (t.sts.length + 1) (List.replicate t.sts.length 0)).map Rn.row),.int .i64 0]:=by unfold prvV;rw [hcl]
    rw [hP]
    obtain ⟨d,hd⟩ : ∃ d,13 ≤ d:=⟨13,Nat.le_refl _⟩
    refine ACalls.ofS tab Try.call58 Try.func58 rfl (fi:=⟨33,[],[2,3,17],none,[]⟩) rfl rfl (Nat.le_of_ble_eq_true rfl) ?_
    unfold startA
    refine asem_seq (fi:=⟨33,[],[2,3,17],none,[]⟩) tab mixed (by decide) ?_
    repeat' (first | refine st_reg rfl (by first | (simp only [go_sem];rfl) | rfl) (by first | (simp only [go_sem];rfl) | rfl) ?_ | refine st_op ?_ | refine st_det rfl (by simp (disch:=omega) only [go_sem,wr_i64,if_yes,if_no,↓reduceIte,reduceAdd,reduceMul,reduceEqDiff,Nat.reduceBEq,reduceLeDiff];rfl) ?_ | refine st_nil ?_ | refine st_tN ?_)
    refine asem_seq (fi:=⟨33,[],[2,3,17],none,[]⟩) tab mixed (by decide) ?_
    repeat' (first | refine st_seq_reg rfl (by first | (simp only [go_sem];rfl) | rfl) (by first | (simp only [go_sem];rfl) | rfl) ?_ | refine st_op ?_ | refine st_det rfl (by simp (disch:=omega) only [go_sem,wr_i64,if_yes,if_no,↓reduceIte,reduceAdd,reduceMul,reduceEqDiff,Nat.reduceBEq,reduceLeDiff];rfl) ?_ | (refine st_pureE (by first | (simp (disch:=omega) only [go_sem];rfl) | rfl) rfl (k51) (by first | (simp only [go_sem];rfl) | rfl) (by intro n;first | (simp (disch:=omega) only [go_sem];rfl) | rfl) ?_;intro n hn) | refine st_condF rfl ?_ | refine st_nil ?_ | refine st_tN ?_ | refine st_skip ?_)
    all_goals try (exfalso;omega)
    simp only [go_sem]
    refine asem_seq (fi:=⟨33,[],[2,3,17],none,[]⟩) tab mixed (by decide) ?_
    repeat' (first | refine st_seq_reg rfl (by first | (simp only [go_sem];rfl) | rfl) (by first | (simp only [go_sem];rfl) | rfl) ?_ | refine st_op ?_ | refine st_det rfl (by simp (disch:=omega) only [go_sem,wr_i64,if_yes,if_no,↓reduceIte,reduceAdd,reduceMul,reduceEqDiff,Nat.reduceBEq,reduceLeDiff];rfl) ?_ | (refine st_pureE (by first | (simp (disch:=omega) only [go_sem];rfl) | rfl) rfl (k68) (by first | (simp only [go_sem];rfl) | rfl) (by intro n;first | (simp (disch:=omega) only [go_sem];rfl) | rfl) ?_;intro n hn) | refine st_condF rfl ?_ | refine st_nil ?_ | refine st_tN ?_ | refine st_skip ?_)
    simp only [go_sem]
    refine asem_seq (fi:=⟨33,[],[2,3,17],none,[]⟩) tab mixed (by decide) ?_
    repeat' (first | refine st_seq_reg rfl (by first | (simp only [go_sem];rfl) | rfl) (by first | (simp only [go_sem];rfl) | rfl) ?_ | refine st_op ?_ | refine st_det rfl (by simp (disch:=omega) only [go_sem,wr_i64,if_yes,if_no,↓reduceIte,reduceAdd,reduceMul,reduceEqDiff,Nat.reduceBEq,reduceLeDiff];rfl) ?_ | (refine st_pureE (by first | (simp (disch:=omega) only [go_sem];rfl) | rfl) rfl (k85) (by first | (simp only [go_sem];rfl) | rfl) (by intro n;first | (simp (disch:=omega) only [go_sem];rfl) | rfl) ?_;intro n hn) | refine st_condF rfl ?_ | refine st_nil ?_ | refine st_tN ?_ | refine st_skip ?_)
    refine asem_seq (fi:=⟨33,[],[2,3,17],none,[]⟩) tab mixed (by decide) ?_
    repeat' (first | refine st_reg rfl (by first | (simp only [go_sem];rfl) | rfl) (by first | (simp only [go_sem];rfl) | rfl) ?_ | refine st_op ?_ | refine st_heap rfl (by simp (disch:=omega) only [go_sem,wr_i64,if_yes,if_no,↓reduceIte,reduceAdd,reduceMul,reduceEqDiff,Nat.reduceBEq,reduceLeDiff];rfl) ?_ | refine st_nil ?_ | refine st_tN ?_)
    refine asem_seq (fi:=⟨33,[],[2,3,17],none,[]⟩) tab mixed (by decide) ?_
    repeat' (first | refine st_reg rfl (by first | (simp only [go_sem];rfl) | rfl) (by first | (simp only [go_sem];rfl) | rfl) ?_ | refine st_op ?_ | refine st_heap rfl (by simp (disch:=omega) only [go_sem,wr_i64,if_yes,if_no,↓reduceIte,reduceAdd,reduceMul,reduceEqDiff,Nat.reduceBEq,reduceLeDiff];rfl) ?_ | refine st_nil ?_ | refine st_tN ?_)
    refine asem_seq (fi:=⟨33,[],[2,3,17],none,[]⟩) tab mixed (by decide) ?_
    repeat' (first | refine st_reg rfl (by first | (simp only [go_sem];rfl) | rfl) (by first | (simp only [go_sem];rfl) | rfl) ?_ | refine st_op ?_ | refine st_det rfl (by simp (disch:=omega) only [go_sem,wr_i64,if_yes,if_no,↓reduceIte,reduceAdd,reduceMul,reduceEqDiff,Nat.reduceBEq,reduceLeDiff];rfl) ?_ | refine st_store (by simp (disch:=omega) only [go_sem,wr_i64,if_yes,if_no,↓reduceIte,reduceAdd,reduceMul,reduceEqDiff,Nat.reduceBEq,reduceLeDiff];rfl) ?_ | refine st_nil ?_ | refine st_tN ?_)
    refine ASem.knot (g:=.func 94) (cap:=pcap2 (n + 1,9) t (M : Nat)) 10 (d + 1) rfl (by simp only [go_sem,↓reduceIte];rfl) ?_
    refine asem_awp (fi:=⟨33,[],[2,3,17],none,[]⟩) tab mixed (by decide) ?_
    simp only [go_sem]
    have h2 : (2 : Nat) ^ (t.sts.length + 1) ≤ 2 ^ 7:=Nat.pow_le_pow_right (by decide) (by omega)
    have hc:=c94 t (M : Nat) (n + 1,9) (n + 2) hT (Nat.lt_succ_self _) (fun s a b c => clo_none hT hcl a b c) (t.sts.length + 1) d (by omega) (List.replicate t.sts.length 0) [] .nils (((h.tick (n + 1 + 1 + 1 + 1 + 1)).put (n + 1,9) (some ⟨1,[[.nils]]⟩)).put (n + 1 + 1,10) none) (ok94_zero t _) (by rw [cntZ_rep];omega) (by show 0 + 2 ^ (t.sts.length + 1) < 4999;omega) (by simp only [go_sem];omega) (by simp only [go_sem,reduceEqDiff,and_false,↓reduceIte] <;> rfl) (.inl ⟨rfl,rfl⟩)
    unfold W94 at hc
    rw [List.nil_append] at hc
    generalize prv t (M : Nat) (t.sts.length + 1) (List.replicate t.sts.length 0) = p at *
    repeat' (first | refine st_seq_reg rfl (by first | (simp only [go_sem,hz,length_map];rfl) | rfl) (by first | (simp only [go_sem,hz,length_map];rfl) | rfl) ?_ | refine st_op ?_ | refine st_det rfl (by simp (disch:=omega) only [go_sem,wr_i64,if_yes,if_no,↓reduceIte,reduceAdd,reduceMul,reduceEqDiff,Nat.reduceBEq,reduceLeDiff,hz,length_map];rfl) ?_ | (refine st_call (args:=[.agg (stR (elt (List.replicate t.sts.length 0)))]) rfl (by first | (simp (disch:=omega) only [go_sem,hz];rfl) | (simp (disch:=omega) only [go_sem,hz])) rfl hc ?_;rintro v g1 ⟨rfl,q1,q2,q3,v1,q4,q5⟩) | refine st_condF rfl ?_ | refine st_nil ?_ | refine st_tN ?_ | refine st_seq ?_ | refine st_skip ?_)
    simp only [go_sem] at q1 q2 q3
    repeat' (first | refine st_op ?_ | refine st_det rfl (by simp (disch:=omega) only [go_sem,wr_i64,if_yes,if_no,↓reduceIte,reduceAdd,reduceMul,reduceEqDiff,Nat.reduceBEq,reduceLeDiff,q4];rfl) ?_ | refine st_nil ?_ | refine st_ret ?_)
    all_goals try (exfalso;omega)
    simp (disch:=omega) only [AEnd,Try.results58,aresK,fin,go_sem,↓reduceIte,reduceEqDiff,reduceAdd,reduceLeDiff,if_yes,if_no,implies_true,true_and,and_true,List.reverse_cons,List.reverse_nil]
    have e9 : ∀ b' : Bid,b'.1 < h.clk → ¬ b' = (n + 1,9):=fun b' hb' => ne_fst hb' (by show h.clk ≤ n + 1;omega)
    have e10 : ∀ b' : Bid,b'.1 < h.clk → ¬ b' = (n + 1 + 1,10):=fun b' hb' => ne_fst hb' (by show h.clk ≤ n + 1 + 1;omega)
    refine ⟨q5.noL,fun b' hb' => by rw [q3 b' (e9 b' hb') (by omega),if_neg (e10 b' hb'),if_neg (e9 b' hb')],q2,SlA.ans2 (h:=h) (g:=g1) (R:=fun v => v = .tup [.lst 4 (p.map Rn.row),.int .i64 0]) (q5.weak (by omega)) rfl⟩
theorem und_first {t : Tw} {s : List Int} {i : Nat} (h : und t s = some i) : ∀ j,j < i → ¬ elt s j = 0:=by
  unfold und at h
  rw [List.find?_eq_some_iff_getElem] at h
  obtain ⟨_,k,hk,e,h2⟩:=h
  rw [List.getElem_range] at e
  subst e
  intro j hj
  have:=h2 j hj
  rw [List.getElem_range] at this
  simpa using this
theorem c97 (s : List Int) (hl : s.length ≤ 1000) : Pure Try.prog 97 [.lst 1 (s.map iv)] (fun v => v = .int .i64 (shN s)):=by
  intro h
  have hb:=fun i => shF_bd (elt s) i
  refine ACalls.forget (ACalls.of tab mixed Try.call97 Try.func97 rfl (fi:=⟨19,[],[],none,[]⟩) rfl rfl (Nat.le_of_ble_eq_true rfl) (by decide) ?_)
  unfold startA
  repeat' (first | refine st_seq_reg rfl (by first | (simp only [go_sem];rfl) | rfl) (by first | (simp only [go_sem];rfl) | rfl) ?_ | refine st_op ?_ | refine st_det rfl (by simp (disch:=omega) only [go_sem,wr_i64,if_yes,if_no,↓reduceIte,reduceAdd,reduceMul,reduceEqDiff,Nat.reduceBEq,reduceLeDiff];rfl) ?_ | refine st_nil ?_ | refine st_seq ?_ | refine st_block ?_)
  refine st_loopC (α:=Nat) tab mixed [] [] (by repeat (first | exact trivial | refine ⟨rfl,?_⟩)) [] [] (by repeat (first | exact trivial | refine ⟨rfl,?_⟩)) (fun i => [(4,.int .i64 (i : Nat)),(3,.int .i64 (shF (elt s) i))]) [(0,_)] (fun _ => []) [] (fun i => i ≤ s.length) (fun i => s.length - i) (by decide) 0 (Nat.zero_le _) (by (try simp only [go_sem]);repeat' (first | exact trivial | refine And.intro ?_ ?_ | rfl | (simp (disch:=omega) only [go_sem,if_yes,if_no,↓reduceIte,reduceAdd,reduceMul,reduceEqDiff,Nat.reduceBEq,reduceLeDiff];rfl) | (simp (disch:=omega) only [go_sem,if_yes,if_no,↓reduceIte,reduceAdd,reduceMul,reduceEqDiff,Nat.reduceBEq,reduceLeDiff]))) (by (try simp only [go_sem]);repeat' (first | exact trivial | refine And.intro ?_ ?_ | rfl | (simp (disch:=omega) only [go_sem,if_yes,if_no,↓reduceIte,reduceAdd,reduceMul,reduceEqDiff,Nat.reduceBEq,reduceLeDiff];rfl) | (simp (disch:=omega) only [go_sem,if_yes,if_no,↓reduceIte,reduceAdd,reduceMul,reduceEqDiff,Nat.reduceBEq,reduceLeDiff]))) (by first | (simp only [go_sem];rfl) | rfl) (by intro n;simp only [go_sem];rfl) ?_
  rintro i c hi1 hc
  simp only [go_sem]
  have hbi:=hb i
  have hnx : shF (elt s) (i + 1) = shF (elt s) i + (if elt s i = 2 then 1 else 0):=rfl
  by_cases hi : i < s.length
  case pos =>
    by_cases h2 : elt s i = 2
    · rw [if_pos h2] at hnx
      repeat' (first | refine st_seq_reg rfl (by first | (simp only [go_sem,length_map,h2];rfl) | rfl) (by first | (simp only [go_sem,length_map,h2];rfl) | rfl) ?_ | refine st_reg rfl (by first | (simp only [go_sem,length_map,h2];rfl) | rfl) (by first | (simp only [go_sem,length_map,h2];rfl) | rfl) ?_ | refine st_op ?_ | refine st_det rfl (by simp (disch:=omega) only [go_sem,wr_i64,if_yes,if_no,↓reduceIte,reduceAdd,reduceMul,reduceEqDiff,Nat.reduceBEq,reduceLeDiff,length_map,h2];rfl) ?_ | refine st_condT rfl ?_ | (refine st_condS rfl ?_ ?_ <;> intro hg <;> (try simp only [decide_eq_true_eq,decide_eq_false_iff_not,Bool.not_eq_true',Bool.not_eq_false'] at hg)) | refine st_nil ?_ | refine st_tN ?_ | refine st_seq ?_ | refine st_block ?_ | refine st_skip ?_ | refine st_exit ?_ | refine st_ret ?_ | refine st_tE ?_ | refine st_bN ?_ | refine st_bH ?_)
      all_goals try (exfalso;omega)
      refine ⟨i + 1,by show i + 1 ≤ _;omega,by show s.length - (i + 1) < s.length - i;omega,(by (try (try simp only [hnx]));repeat' (first | exact trivial | refine And.intro ?_ ?_ | rfl | (simp (disch:=omega) only [go_sem,if_yes,if_no,↓reduceIte,reduceAdd,reduceMul,reduceEqDiff,Nat.reduceBEq,reduceLeDiff];rfl) | (simp (disch:=omega) only [go_sem,if_yes,if_no,↓reduceIte,reduceAdd,reduceMul,reduceEqDiff,Nat.reduceBEq,reduceLeDiff]))),(by (try (try simp only [hnx]));repeat' (first | exact trivial | refine And.intro ?_ ?_ | rfl | (simp (disch:=omega) only [go_sem,if_yes,if_no,↓reduceIte,reduceAdd,reduceMul,reduceEqDiff,Nat.reduceBEq,reduceLeDiff];rfl) | (simp (disch:=omega) only [go_sem,if_yes,if_no,↓reduceIte,reduceAdd,reduceMul,reduceEqDiff,Nat.reduceBEq,reduceLeDiff]))),rfl,(by first | exact HOld.of _ (by omega) | exact HOld.put _ _ _ (by omega))⟩
    · rw [if_neg h2,Int.add_zero] at hnx
      repeat' (first | refine st_seq_reg rfl (by first | (simp only [go_sem,length_map];rfl) | rfl) (by first | (simp only [go_sem,length_map];rfl) | rfl) ?_ | refine st_reg rfl (by first | (simp only [go_sem,length_map];rfl) | rfl) (by first | (simp only [go_sem,length_map];rfl) | rfl) ?_ | refine st_op ?_ | refine st_det rfl (by simp (disch:=omega) only [go_sem,wr_i64,if_yes,if_no,↓reduceIte,reduceAdd,reduceMul,reduceEqDiff,Nat.reduceBEq,reduceLeDiff,length_map];rfl) ?_ | (refine st_condS rfl ?_ ?_ <;> intro hg <;> (try simp only [decide_eq_true_eq,decide_eq_false_iff_not,Bool.not_eq_true',Bool.not_eq_false'] at hg)) | refine st_nil ?_ | refine st_tN ?_ | refine st_seq ?_ | refine st_block ?_ | refine st_skip ?_ | refine st_exit ?_ | refine st_ret ?_ | refine st_tE ?_ | refine st_bN ?_ | refine st_bH ?_)
      all_goals try (exfalso;omega)
      refine ⟨i + 1,by show i + 1 ≤ _;omega,by show s.length - (i + 1) < s.length - i;omega,(by (try (try simp only [hnx]));repeat' (first | exact trivial | refine And.intro ?_ ?_ | rfl | (simp (disch:=omega) only [go_sem,if_yes,if_no,↓reduceIte,reduceAdd,reduceMul,reduceEqDiff,Nat.reduceBEq,reduceLeDiff];rfl) | (simp (disch:=omega) only [go_sem,if_yes,if_no,↓reduceIte,reduceAdd,reduceMul,reduceEqDiff,Nat.reduceBEq,reduceLeDiff]))),(by (try (try simp only [hnx]));repeat' (first | exact trivial | refine And.intro ?_ ?_ | rfl | (simp (disch:=omega) only [go_sem,if_yes,if_no,↓reduceIte,reduceAdd,reduceMul,reduceEqDiff,Nat.reduceBEq,reduceLeDiff];rfl) | (simp (disch:=omega) only [go_sem,if_yes,if_no,↓reduceIte,reduceAdd,reduceMul,reduceEqDiff,Nat.reduceBEq,reduceLeDiff]))),rfl,(by first | exact HOld.of _ (by omega) | exact HOld.put _ _ _ (by omega))⟩
  obtain rfl : i = s.length:=by omega
  repeat' (first | refine st_seq_reg rfl (by first | (simp only [go_sem,length_map];rfl) | rfl) (by first | (simp only [go_sem,length_map];rfl) | rfl) ?_ | refine st_reg rfl (by first | (simp only [go_sem,length_map];rfl) | rfl) (by first | (simp only [go_sem,length_map];rfl) | rfl) ?_ | refine st_op ?_ | refine st_det rfl (by simp (disch:=omega) only [go_sem,wr_i64,if_yes,if_no,↓reduceIte,reduceAdd,reduceMul,reduceEqDiff,Nat.reduceBEq,reduceLeDiff,length_map];rfl) ?_ | (refine st_condS rfl ?_ ?_ <;> intro hg <;> (try simp only [decide_eq_true_eq,decide_eq_false_iff_not,Bool.not_eq_true',Bool.not_eq_false'] at hg)) | refine st_nil ?_ | refine st_tN ?_ | refine st_seq ?_ | refine st_block ?_ | refine st_skip ?_ | refine st_exit ?_ | refine st_ret ?_ | refine st_tE ?_ | refine st_bN ?_ | refine st_bH ?_)
  all_goals try (exfalso;omega)
  simp (disch:=omega) only [AEnd,Try.results97,aresK,fin,go_sem,↓reduceIte,reduceEqDiff,reduceAdd,reduceLeDiff,if_yes,if_no,implies_true,true_and,and_true,List.reverse_cons,List.reverse_nil]
  rfl
theorem c98 (s : List Int) (i : Nat) (w : Int) (hl : s.length ≤ 1000) (hi : i < s.length) : Pure Try.prog 98 [.lst 1 (s.map iv),.int .i64 (i : Nat),.int .i64 w] (fun v => v = .lst 1 ((s.set i w).map iv)):=by
  refine Pure.give Try.call98 fun h hall => ?_
  have hset : (s.map iv).set i [.int .i64 w] = (s.set i w).map iv:=by rw [List.map_set];rfl
  refine ACalls.of tab mixed Try.call98 Try.func98 rfl (fi:=⟨16,[],[],none,[]⟩) rfl rfl (Nat.le_of_ble_eq_true rfl) (by decide) ?_
  unfold startA
  repeat' (first | refine st_seq_reg rfl (by first | (simp only [go_sem,length_map,big,Nat.zero_add,hset];rfl) | rfl) (by first | (simp only [go_sem,length_map,big,Nat.zero_add,hset];rfl) | rfl) ?_ | refine st_op ?_ | refine st_det rfl (by simp (disch:=omega) only [go_sem,wr_i64,if_yes,if_no,↓reduceIte,reduceAdd,reduceMul,reduceEqDiff,Nat.reduceBEq,reduceLeDiff,length_map,big,Nat.zero_add,hset];rfl) ?_ | refine st_heap rfl (by simp (disch:=omega) only [go_sem,wr_i64,if_yes,if_no,↓reduceIte,reduceAdd,reduceMul,reduceEqDiff,Nat.reduceBEq,reduceLeDiff,length_map,big,Nat.zero_add,hset];rfl) ?_ | refine st_store (by simp (disch:=omega) only [go_sem,wr_i64,if_yes,if_no,↓reduceIte,reduceAdd,reduceMul,reduceEqDiff,Nat.reduceBEq,reduceLeDiff,length_map,big,Nat.zero_add,hset];rfl) ?_ | refine st_append (by simp (disch:=omega) only [go_sem,wr_i64,if_yes,if_no,↓reduceIte,reduceAdd,reduceMul,reduceEqDiff,Nat.reduceBEq,reduceLeDiff,length_map,big,Nat.zero_add,hset];rfl) ?_ | refine st_nil ?_ | refine st_ret ?_)
  all_goals try (exfalso;omega)
  simp (disch:=omega) only [AEnd,Try.results98,aresK,fin,go_sem,↓reduceIte,reduceEqDiff,reduceAdd,reduceLeDiff,if_yes,if_no,implies_true,true_and,and_true,List.reverse_cons,List.reverse_nil]
  have nb3 : ∀ b' : Bid,b'.1 < h.clk → ¬ b' = (h.clk + 1,8):=fun b' hb' => ne_fst hb' (by show h.clk ≤ h.clk + 1;omega)
  have nb10 : ∀ b' : Bid,b'.1 < h.clk → ¬ b' = (h.clk + 1,10):=fun b' hb' => ne_fst hb' (by show h.clk ≤ h.clk + 1;omega)
  refine ⟨fun b' hb' => by simp only [nb3 b' hb',nb10 b' hb',↓reduceIte],.inr ⟨(h.clk + 1,10),_,by show h.clk ≤ h.clk + 1;omega,by simp only [go_sem,↓reduceIte] <;> rfl,?_⟩⟩
  simp only [frz]
  rw [if_pos ⟨trivial,by simp⟩,List.drop_zero,List.take_of_length_le (by simp)]
theorem c26s (a : List Rn) (ha : a.length ≤ 1000000) : Pure Try.prog 26 [.lst 4 (a.map Rn.row),.lst 4 (a.map Rn.row)] (fun v => v = .bool true):=by
  intro h
  refine ACalls.forget (ACalls.of tab mixed Try.call26 Try.func26 rfl (fi:=⟨31,[],[],none,[(5,[0,0,3,7,0,0,48,112,255,511],[(0,false),(1,false),(2,false),(3,true),(4,false),(5,false),(6,false),(7,true),(8,false),(9,false)])]⟩) rfl rfl (Nat.le_of_ble_eq_true rfl) (by decide) ?_)
  unfold startA
  repeat' (first | refine st_seq_reg rfl (by first | (simp only [go_sem,length_map,decide_true];rfl) | rfl) (by first | (simp only [go_sem,length_map,decide_true];rfl) | rfl) ?_ | refine st_op ?_ | refine st_det rfl (by simp (disch:=omega) only [go_sem,wr_i64,if_yes,if_no,↓reduceIte,reduceAdd,reduceMul,reduceEqDiff,Nat.reduceBEq,reduceLeDiff,length_map,decide_true];rfl) ?_ | refine st_nil ?_ | refine st_seq ?_ | refine st_block ?_)
  all_goals try (exfalso;omega)
  refine st_loopC (α:=Nat) tab mixed [] [] (by repeat (first | exact trivial | refine ⟨rfl,?_⟩)) [] [] (by repeat (first | exact trivial | refine ⟨rfl,?_⟩)) (fun i => [(6,.int .i64 (i : Nat)),(5,.bool true)]) [(0,_),(1,_)] (fun _ => []) [] (fun i => i ≤ a.length) (fun i => a.length - i) (by decide) 0 (Nat.zero_le _) (by (try simp only [go_sem]);repeat' (first | exact trivial | refine And.intro ?_ ?_ | rfl | (simp (disch:=omega) only [go_sem,if_yes,if_no,↓reduceIte,reduceAdd,reduceMul,reduceEqDiff,Nat.reduceBEq,reduceLeDiff];rfl) | (simp (disch:=omega) only [go_sem,if_yes,if_no,↓reduceIte,reduceAdd,reduceMul,reduceEqDiff,Nat.reduceBEq,reduceLeDiff]))) (by (try simp only [go_sem]);repeat' (first | exact trivial | refine And.intro ?_ ?_ | rfl | (simp (disch:=omega) only [go_sem,if_yes,if_no,↓reduceIte,reduceAdd,reduceMul,reduceEqDiff,Nat.reduceBEq,reduceLeDiff];rfl) | (simp (disch:=omega) only [go_sem,if_yes,if_no,↓reduceIte,reduceAdd,reduceMul,reduceEqDiff,Nat.reduceBEq,reduceLeDiff]))) (by first | (simp only [go_sem];rfl) | rfl) (by intro n;simp only [go_sem];rfl) ?_
  rintro i c hi1 hc
  simp only [go_sem]
  by_cases hi : i < a.length
  case pos =>
    repeat' (first | refine st_seq_reg rfl (by first | (simp only [go_sem,length_map,decide_true];rfl) | rfl) (by first | (simp only [go_sem,length_map,decide_true];rfl) | rfl) ?_ | refine st_reg rfl (by first | (simp only [go_sem,length_map,decide_true];rfl) | rfl) (by first | (simp only [go_sem,length_map,decide_true];rfl) | rfl) ?_ | refine st_draw rfl (by first | (simp only [go_sem,length_map,decide_true];rfl) | rfl) (by first | (simp only [go_sem,length_map,decide_true];rfl) | rfl) ?_ | refine st_op ?_ | refine st_det rfl (by simp (disch:=omega) only [go_sem,wr_i64,if_yes,if_no,↓reduceIte,reduceAdd,reduceMul,reduceEqDiff,Nat.reduceBEq,reduceLeDiff,length_map,decide_true];rfl) ?_ | refine st_dop rfl ?_ | refine st_gT rfl rfl rfl ?_ | (refine st_condS rfl ?_ ?_ <;> intro hg <;> (try simp only [decide_eq_true_eq,decide_eq_false_iff_not,Bool.not_eq_true',Bool.not_eq_false'] at hg)) | refine st_nil ?_ | refine st_dnil ?_ | refine st_tN ?_ | refine st_seq ?_ | refine st_block ?_ | refine st_skip ?_ | refine st_exit ?_ | refine st_ret ?_ | refine st_tE ?_ | refine st_bN ?_ | refine st_bH ?_)
    all_goals try (exfalso;omega)
    refine ⟨i + 1,by show i + 1 ≤ _;omega,by show a.length - (i + 1) < a.length - i;omega,(by repeat' (first | exact trivial | refine And.intro ?_ ?_ | rfl | (simp (disch:=omega) only [go_sem,if_yes,if_no,↓reduceIte,reduceAdd,reduceMul,reduceEqDiff,Nat.reduceBEq,reduceLeDiff];rfl) | (simp (disch:=omega) only [go_sem,if_yes,if_no,↓reduceIte,reduceAdd,reduceMul,reduceEqDiff,Nat.reduceBEq,reduceLeDiff]))),(by repeat' (first | exact trivial | refine And.intro ?_ ?_ | rfl | (simp (disch:=omega) only [go_sem,if_yes,if_no,↓reduceIte,reduceAdd,reduceMul,reduceEqDiff,Nat.reduceBEq,reduceLeDiff];rfl) | (simp (disch:=omega) only [go_sem,if_yes,if_no,↓reduceIte,reduceAdd,reduceMul,reduceEqDiff,Nat.reduceBEq,reduceLeDiff]))),rfl,(by first | exact HOld.of _ (by omega) | exact HOld.put _ _ _ (by omega))⟩
  obtain rfl : i = a.length:=by omega
  repeat' (first | refine st_seq_reg rfl (by first | (simp only [go_sem,length_map];rfl) | rfl) (by first | (simp only [go_sem,length_map];rfl) | rfl) ?_ | refine st_reg rfl (by first | (simp only [go_sem,length_map];rfl) | rfl) (by first | (simp only [go_sem,length_map];rfl) | rfl) ?_ | refine st_draw rfl (by first | (simp only [go_sem,length_map];rfl) | rfl) (by first | (simp only [go_sem,length_map];rfl) | rfl) ?_ | refine st_op ?_ | refine st_det rfl (by simp (disch:=omega) only [go_sem,wr_i64,if_yes,if_no,↓reduceIte,reduceAdd,reduceMul,reduceEqDiff,Nat.reduceBEq,reduceLeDiff,length_map];rfl) ?_ | refine st_dop rfl ?_ | refine st_gT rfl rfl rfl ?_ | (refine st_condS rfl ?_ ?_ <;> intro hg <;> (try simp only [decide_eq_true_eq,decide_eq_false_iff_not,Bool.not_eq_true',Bool.not_eq_false'] at hg)) | refine st_nil ?_ | refine st_dnil ?_ | refine st_tN ?_ | refine st_seq ?_ | refine st_block ?_ | refine st_skip ?_ | refine st_exit ?_ | refine st_ret ?_ | refine st_tE ?_ | refine st_bN ?_ | refine st_bH ?_)
  all_goals try (exfalso;omega)
  simp (disch:=omega) only [AEnd,Try.results26,aresK,fin,go_sem,↓reduceIte,reduceEqDiff,reduceAdd,reduceLeDiff,if_yes,if_no,implies_true,true_and,and_true,List.reverse_cons,List.reverse_nil]
end Go.Proofs.Ythjbfdfhblloiaa

namespace Go.Proofs.Ythjbfdfhblloiaa
open Go.Av
set_option maxRecDepth 20000
end Go.Proofs.Ythjbfdfhblloiaa
