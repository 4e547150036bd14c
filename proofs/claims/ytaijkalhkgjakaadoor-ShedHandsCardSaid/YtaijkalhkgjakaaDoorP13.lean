/- No valid plan takes fewer days than the bound; one worker who can do all. Plainly. -/
import Derived.Test.YtaijkalhkgjakaaDoorG2
import Derived.Test.YtaijkalhkgjakaaDoorG37
set_option linter.all false
set_option linter.unusedSimpArgs false
set_option linter.unusedVariables false
namespace Go.Proofs.YtaijkalhkgjakaaDoor
open Go.Av
def sm (f:Nat→Int):Nat→Int
  | 0=>0
  | n+1=>sm f n+f n
theorem sm_le {f g:Nat→Int}:∀ {n:Nat},(∀ i,i < n→f i≤g i)→sm f n≤sm g n:=by
  intro n
  induction n with
  | zero=>intro _;exact Int.le_refl _
  | succ n ih =>
    intro h
    have:=ih fun i hi=>h i (by omega)
    have:=h n (by omega)
    simp only[sm];omega
theorem sm_congr {f g:Nat→Int} {n:Nat} (h:∀ i,i < n→f i=g i):sm f n=sm g n :=
  Int.le_antisymm (sm_le fun i hi=>Int.le_of_eq (h i hi)) (sm_le fun i hi=>Int.le_of_eq (h i hi).symm)
theorem sm_add (f g:Nat→Int):∀ n,sm (fun i=>f i+g i) n=sm f n+sm g n:=by
  intro n
  induction n with
  | zero=>rfl
  | succ n ih=>simp only[sm,ih];omega
theorem sm_const (c:Int):∀ n:Nat,sm (fun _=>c) n=n * c:=by
  intro n
  induction n with
  | zero=>simp [sm]
  | succ n ih =>
    simp only[sm,ih]
    have:((n+1:Nat):Int) * c=n * c+c:=by rw [show ((n+1:Nat):Int)=(n:Int)+1 by omega,Int.add_mul,Int.one_mul]
    omega
theorem sm_zero (n:Nat):sm (fun _=>0) n=0:=by rw [sm_const];simp
theorem sm_swap (F:Nat→Nat→Int) (m:Nat):∀ n,sm (fun i=>sm (F i) m) n=sm (fun j=>sm (fun i=>F i j) n) m:=by
  intro n
  induction n with
  | zero=>simp only[sm];rw [sm_zero]
  | succ n ih=>simp only[sm];rw [ih,sm_add]
theorem sm_at {w:Nat} (c:Int):∀ {n:Nat},w < n→sm (fun j=>if w=j then c else 0) n=c:=by
  intro n
  induction n with
  | zero=>intro h;omega
  | succ n ih =>
    intro h
    simp only[sm]
    by_cases e:w=n
    · subst e
      rw [sm_congr (g:=fun _=>0) fun i hi=>if_neg (by omega),sm_zero,if_pos rfl];omega
    · rw [ih (by omega),if_neg e];omega
theorem sm_one {y:Nat→Int}:∀ {n:Nat},(∀ i,i < n→y i=0 ∨ y i=1)→(∀ k i,k < i→i < n→y k=1→y i=1→False)→sm y n≤1:=by
  intro n
  induction n with
  | zero=>intro _ _;simp [sm]
  | succ n ih =>
    intro h1 h2
    simp only[sm]
    rcases h1 n (by omega) with e|e
    · have:=ih (fun i hi=>h1 i (by omega)) (fun k i hk hi=>h2 k i hk (by omega));omega
    · rw [sm_congr (g:=fun _=>0) fun i hi=>(h1 i (by omega)).resolve_right fun e2=>h2 i n hi (by omega) e2 e,sm_zero];omega
theorem sm_span {a b:Int} (h0:0≤a) (hab:a≤b):∀ n:Nat,sm (fun t=>if a≤(t:Int)∧(t:Int) < b then 1 else 0) n=if (n:Int)≤a then 0 else if (n:Int)≤b then n - a else b - a:=by
  intro n
  induction n with
  | zero=>simp only[sm];rw [if_pos (by omega)]
  | succ n ih =>
    simp only[sm,ih]
    by_cases h1:(n:Int)+1≤a
    · rw [if_pos (by omega),if_neg (by omega),if_pos (by omega)];omega
    · by_cases h2:(n:Int)+1≤b
      · rw [if_pos (c:=a≤(n:Int)∧(n:Int) < b) (by omega),if_neg (c:=((n+1:Nat):Int)≤a) (by omega),if_pos (c:=((n+1:Nat):Int)≤b) (by omega)]
        split
        · omega
        · rw [if_pos (by omega)];omega
      · rw [if_neg (c:=a≤(n:Int)∧(n:Int) < b) (by omega),if_neg (c:=((n+1:Nat):Int)≤a) (by omega),if_neg (c:=((n+1:Nat):Int)≤b) (by omega)]
        split
        · omega
        · split <;> omega
theorem wsum_sm (js:List Jb) (set:Nat):∀ n,wsum js set n=sm (fun i=>if inSet (jOf js i).s set then (jOf js i).d else 0) n:=by
  intro n
  induction n with
  | zero=>rfl
  | succ n ih=>simp only[wsum,sm,ih]
theorem hcnt_sm (ws:List Wk) (set:Nat):∀ n,hcnt ws set n=sm (fun w=>if (wOf ws w).has set then 1 else 0) n:=by
  intro n
  induction n with
  | zero=>rfl
  | succ n ih=>simp only[hcnt,sm,ih]
def act (S:Sp) (p:List Sf) (i:Nat) (t:Nat):Int:=if (pAt p i).d≤(t:Int)∧(t:Int) < (pAt p i).d+(S.j i).d then 1 else 0
theorem VP.manned {S:Sp} {p:List Sf} (h:VP S p):Manned S:=fun i hi=>by
  obtain ⟨a,b,c,_⟩:=h.w i hi
  exact ⟨(pAt p i).w.toNat,by omega,c⟩
theorem VP.act_sum {S:Sp} (hS:S.Ok) {p:List Sf} (h:VP S p) {i:Nat} (hi:i < S.js.length):sm (act S p i) (takesP S p).toNat=(S.j i).d:=by
  have hd:=hS.d i hi
  have e:S.sch.d i=(S.j i).d:=rfl
  obtain ⟨_,_,_,h0,_⟩:=h.w i hi
  have h1:=takesTo_ge (js:=S.js) (p:=p) hi
  have h2:takesTo S.js p S.js.length=takesP S p:=rfl
  have e3:jOf S.js i=S.j i:=rfl
  rw [e3,h2] at h1
  have:=sm_span (a:=(pAt p i).d) (b:=(pAt p i).d+(S.j i).d) h0 (by omega) (takesP S p).toNat
  unfold act
  rw [this,if_neg (by omega)]
  split <;> omega
theorem VP.act_le {S:Sp} (hS:S.Ok) {p:List Sf} (h:VP S p) (set t:Nat):sm (fun i=>if inSet (S.j i).s set then act S p i t else 0) S.js.length≤hcnt S.ws set S.ws.length:=by
  have e1:sm (fun i=>if inSet (S.j i).s set then act S p i t else 0) S.js.length=sm (fun i=>sm (fun w=>if (pAt p i).w.toNat=w then (if inSet (S.j i).s set then act S p i t else 0) else 0) S.ws.length) S.js.length :=
    sm_congr fun i hi=>by
      obtain ⟨a,b,_⟩:=h.w i hi
      rw [sm_at _ (by omega)]
  rw [e1,sm_swap,hcnt_sm]
  refine sm_le fun w hw=>?_
  have h01:∀ i,act S p i t=0 ∨ act S p i t=1:=fun i=>by unfold act;split <;> simp
  cases hh:(wOf S.ws w).has set with
  | false =>
    rw [sm_congr (g:=fun _=>0),sm_zero]
    · simp
    · intro i hi
      split
      · rename_i e
        split
        · rename_i hs
          obtain ⟨a,b,c,_⟩:=h.w i hi
          have hj:=hS.j hi
          have:=inSet_has ⟨hj.2.2.1,hj.2.2.2.1⟩ hs c
          have e3:S.wk (pAt p i).w.toNat=wOf S.ws w:=by rw [e];rfl
          rw [e3,hh] at this;cases this
        · rfl
      · rfl
  | true =>
    rw [if_pos rfl]
    refine sm_one (fun i hi=>?_) (fun k i hk hi e1 e2=>?_)
    · split
      · split
        · exact h01 i
        · exact .inl rfl
      · exact .inl rfl
    · split at e1
      · split at e1
        · split at e2
          · split at e2
            · rename_i w1 _ w2 _
              have hkl:=Nat.lt_trans hk hi
              have a1:=(h.w i hi).1
              have a2:=(h.w k hkl).1
              have:=h.clash k i hk hi (by omega)
              unfold act at e1 e2
              split at e1
              · split at e2
                · omega
                · omega
              · omega
            · omega
          · omega
        · omega
      · omega
theorem VP.wsum_le {S:Sp} (hS:S.Ok) {p:List Sf} (h:VP S p) (set:Nat):wsum S.js set S.js.length≤(takesP S p).toNat * hcnt S.ws set S.ws.length:=by
  rw [wsum_sm]
  have e1:sm (fun i=>if inSet (jOf S.js i).s set then (jOf S.js i).d else 0) S.js.length=sm (fun i=>sm (fun t=>if inSet (S.j i).s set then act S p i t else 0) (takesP S p).toNat) S.js.length :=
    sm_congr fun i hi=>by
      have e:jOf S.js i=S.j i:=rfl
      rw [e]
      split
      · rw [h.act_sum hS hi]
      · rw [sm_zero]
  rw [e1,sm_swap,← sm_const]
  exact sm_le fun t _=>h.act_le hS set t
theorem ceilD_le {n m:Int} {M:Nat} (hn:0≤n) (hm:1≤m) (h:n≤M * m):ceilD n m≤M:=by
  unfold ceilD
  rw [Int.tdiv_eq_ediv_of_nonneg (by omega)]
  have:(n+m - 1) / m < (M:Int)+1:=Int.ediv_lt_of_lt_mul (by omega) (by rw [Int.add_mul,Int.one_mul];omega)
  omega
theorem VP.fsum_le {S:Sp} {p:List Sf} (h:VP S p) (f:Int):∀ n,n≤S.js.length→fsum S.js f n=0 ∨ ∃ i,i < n∧(S.j i).f=f∧fsum S.js f n≤(pAt p i).d+(S.j i).d:=by
  intro n
  induction n with
  | zero=>intro _;exact .inl rfl
  | succ n ih =>
    intro hn
    simp only[fsum]
    by_cases e:(jOf S.js n).f=f
    · rw [if_pos e]
      right
      refine ⟨n,by omega,e,?_⟩
      have e3:jOf S.js n=S.j n:=rfl
      rw [e3]
      obtain ⟨_,_,_,h0,_⟩:=h.w n (by omega)
      rcases ih (by omega) with e2|⟨i,hi,hf,hle⟩
      · omega
      · have:=h.ord i n hi (by omega) (by rw [hf];exact e.symm)
        omega
    · rw [if_neg e,Int.add_zero]
      rcases ih (by omega) with e2|⟨i,hi,hf,hle⟩
      · exact .inl e2
      · exact .inr ⟨i,by omega,hf,hle⟩
theorem VP.bound {S:Sp} (hS:S.Ok) {p:List Sf} (h:VP S p):boundD S≤takesP S p:=by
  have h0:0≤takesP S p:=takesTo_nonneg _
  have hM:=h.manned
  have hb:∀ b,b≤takesP S p→∀ k,bndD S b k≤takesP S p:=by
    intro b hb k
    induction k with
    | zero=>exact hb
    | succ k ih =>
      rw [bndD]
      split
      · rename_i hw
        have h1:=hM.hands hS hw
        have:=ceilD_le (by omega) h1 (h.wsum_le hS k)
        omega
      · exact ih
  refine hb _ ?_ 8
  have hmem:=maxL_mem (l:=(List.range 7).map fun f=>fsum S.js (f:Nat) S.js.length) (by simp [List.range,List.range.loop])
  rw [List.mem_map] at hmem
  obtain ⟨f,_,hf⟩:=hmem
  rw [← hf]
  rcases h.fsum_le (f:Nat) S.js.length (Nat.le_refl _) with e|⟨i,hi,_,hle⟩
  · omega
  · have:=takesTo_ge (js:=S.js) (p:=p) hi
    have e3:jOf S.js i=S.j i:=rfl
    have h2:takesTo S.js p S.js.length=takesP S p:=rfl
    rw [e3,h2] at this
    omega
theorem less_hand (S:Sp) (x:Wk):Less S ⟨S.ws ++ [x],S.js⟩ id:=by
  refine ⟨fun _ h=>h,fun _ _ h _=>h,fun _ _=>rfl,fun _ _=>rfl,fun _ _=>Int.le_refl _,fun w hw=>⟨by simp;omega,fun s h=>?_⟩⟩
  have e:Sp.wk ⟨S.ws ++ [x],S.js⟩ w=S.wk w:=by
    simp only[Sp.wk,List.getD_eq_getElem?_getD]
    rw [List.getElem?_append_left hw]
  rw [e];exact h
theorem less_skill (S:Sp) {k:Nat} (hk:k < S.ws.length) (r:Bool):Less S ⟨S.ws.set k ⟨true,(S.wk k).b,(S.wk k).c || r⟩,S.js⟩ id:=by
  refine ⟨fun _ h=>h,fun _ _ h _=>h,fun _ _=>rfl,fun _ _=>rfl,fun _ _=>Int.le_refl _,fun w hw=>⟨by simp;omega,fun s h=>?_⟩⟩
  have e:Sp.wk ⟨S.ws.set k ⟨true,(S.wk k).b,(S.wk k).c || r⟩,S.js⟩ w=if w=k then ⟨true,(S.wk k).b,(S.wk k).c || r⟩ else S.wk w:=getD_set _ _ _ _ _ hk
  rw [e]
  split
  · rename_i e2
    subst e2
    unfold Wk.can at h ⊢
    split
    · rfl
    · rename_i h1
      rw [if_neg h1] at h
      split
      · rename_i h2;rw [if_pos h2] at h;exact h
      · rename_i h2;rw [if_neg h2] at h;rw [h];rfl
  · exact h
theorem jOf_set (js:List Jb) (k:Nat) (x:Jb) (hk:k < js.length) (i:Nat):jOf (js.set k x) i=if i=k then x else jOf js i:=getD_set _ _ _ _ _ hk
theorem less_short (S:Sp) {k:Nat} (hk:k < S.js.length) {d:Int} (hd:d≤(S.j k).d):Less S ⟨S.ws,S.js.set k ⟨(S.j k).f,(S.j k).s,d⟩⟩ id:=by
  have e:∀ i,Sp.j ⟨S.ws,S.js.set k ⟨(S.j k).f,(S.j k).s,d⟩⟩ i=if i=k then ⟨(S.j k).f,(S.j k).s,d⟩ else S.j i:=fun i=>jOf_set _ _ _ hk i
  refine ⟨fun _ h=>by simpa using h,fun _ _ h _=>h,fun i _=>?_,fun i _=>?_,fun i _=>?_,fun w hw=>⟨hw,fun s h=>h⟩⟩
  all_goals
    rw [e]
    split
    · rename_i e2;subst e2;first|rfl|exact hd
    · first|rfl|exact Int.le_refl _
theorem jOf_cut (js:List Jb) (k:Nat) (hk:k < js.length) (i:Nat):jOf (js.take k ++ js.drop (k+1)) i=jOf js (if i < k then i else i+1):=by
  simp only[jOf,List.getD_eq_getElem?_getD]
  congr 1
  split
  · rename_i h
    rw [List.getElem?_append_left (by rw [List.length_take];omega),List.getElem?_take,if_pos h]
  · rename_i h
    rw [List.getElem?_append_right (by rw [List.length_take];omega),List.getElem?_drop,List.length_take]
    congr 1;omega
theorem less_cut (S:Sp) {k:Nat} (hk:k < S.js.length):Less S ⟨S.ws,S.js.take k ++ S.js.drop (k+1)⟩ (fun i=>if i < k then i else i+1):=by
  have e:∀ i,Sp.j ⟨S.ws,S.js.take k ++ S.js.drop (k+1)⟩ i=S.j (if i < k then i else i+1):=fun i=>jOf_cut _ _ hk i
  have hl:(S.js.take k ++ S.js.drop (k+1)).length+1=S.js.length:=by simp;omega
  refine ⟨fun i h=>?_,fun i j h _=>?_,fun i _=>by rw [e],fun i _=>by rw [e],fun i _=>by rw [e];exact Int.le_refl _,fun w hw=>⟨hw,fun s h=>h⟩⟩
  · have h:i < (S.js.take k ++ S.js.drop (k+1)).length:=h
    show (if i < k then i else i+1) < _
    split <;> omega
  · show (if i < k then i else i+1) < (if j < k then j else j+1)
    split <;> split <;> omega
theorem Less.days {S S':Sp} {φ:Nat→Nat} (L:Less S S' φ) (hS:S.Ok) (hS':S'.Ok) (hM:Manned S):lackD S'=false∧(bestD S').2≤(bestD S).2 :=
  have hM':=L.manned hM
  ⟨(lack_iff hS').2 hM',L.best (bestD_ok hS hM) (bestD_ok hS' hM')⟩
end Go.Proofs.YtaijkalhkgjakaaDoor
