/- Contracts of functions that the claim reaches: what each call gives, told in our own logic. Conditions: those of each theorem. -/
import Derived.Test.YtoafigpikgigaaaGreatDoorV3
import Derived.Test.YtoafigpikgigaaaGreatDoorY5a
open List (length_map)
set_option linter.all false
set_option linter.unusedSimpArgs false
set_option linter.unusedVariables false
namespace Go.Proofs.YtoafigpikgigaaaGreatDoor
open Go.Av
set_option maxRecDepth 20000
def clB (c:List Int) (i:Nat):Bool:=c.contains ((i:Nat):Int)
def adjB (t:Tw) (c:List Int) (p q:Int):Bool:=(List.range t.sts.length).any fun i=>!clB c i && decide (oth (sx t.sts i) p=q)
def lvl (t:Tw) (c:List Int) (to:Int):Nat→Int→Bool
 | 0,q=>decide (q=to)
 | n+1,q=>lvl t c to n q || (List.range t.rooms.length).any fun p=>lvl t c to n (p:Nat) && adjB t c (p:Nat) q
def isD (t:Tw) (c:List Int) (to:Int) (n:Nat) (q:Int):Prop:=lvl t c to n q=true∧∀ m,m < n→lvl t c to m q=false
def dst (t:Tw) (c:List Int) (to q:Int):Option Nat:=(List.range t.rooms.length).find? fun n=>lvl t c to n q
def nxN (t:Tw) (c:List Int) (to:Int) (d:Nat) (q:Int):Nat→Int
 | 0=>t.rooms.length
 | i+1=>if clB c i=false∧0≤oth (sx t.sts i) q∧dst t c to (oth (sx t.sts i) q)=some d then min (nxN t c to d q i) (oth (sx t.sts i) q) else nxN t c to d q i
def wayL (t:Tw) (c:List Int) (to:Int):Nat→Int→List Int
 | 0,q=>[q]
 | d+1,q=>q :: wayL t c to d (nxN t c to d q t.sts.length)
theorem adjB_iff {t:Tw} {c:List Int} {p q:Int}:adjB t c p q=true ↔ ∃ i,i < t.sts.length∧clB c i=false∧oth (sx t.sts i) p=q:=by
 unfold adjB
 rw [List.any_eq_true]
 constructor
 ·rintro ⟨i,hi,h⟩
  simp only[Bool.and_eq_true,Bool.not_eq_true',decide_eq_true_eq] at h
  exact ⟨i,List.mem_range.1 hi,h.1,h.2⟩
 ·rintro ⟨i,hi,h1,h2⟩
  exact ⟨i,List.mem_range.2 hi,by simp [h1,h2]⟩
theorem oth_iff {s:Sx} (h:s.a ≠ s.b) {p q:Int} (hq:0≤q):oth s p=q ↔ (p=s.a∧q=s.b) ∨ (p=s.b∧q=s.a):=by
 unfold oth
 by_cases e1:p=s.a
 ·rw [if_pos e1]
  constructor
  ·intro e;exact .inl ⟨e1,e.symm⟩
  ·rintro (⟨_,e⟩|⟨e,e'⟩)
   ·exact e.symm
   ·exact absurd (e1.symm.trans e) h
 ·rw [if_neg e1]
  by_cases e2:p=s.b
  ·rw [if_pos e2]
   constructor
   ·intro e;exact .inr ⟨e2,e.symm⟩
   ·rintro (⟨e,_⟩|⟨_,e⟩)
    ·exact absurd e e1
    ·exact e.symm
  ·rw [if_neg e2]
   constructor
   ·intro e;omega
   ·rintro (⟨e,_⟩|⟨e,_⟩)
    ·exact absurd e e1
    ·exact absurd e e2
theorem oth_bd {t:Tw} (hT:TwOk t) {i:Nat} (hi:i < t.sts.length) {p:Int} (h:0≤oth (sx t.sts i) p):oth (sx t.sts i) p < t.rooms.length:=by
 have hs:=hT.st i hi
 rcases (oth_iff hs.2.2.2.2 h).1 rfl with ⟨_,e⟩|⟨_,e⟩ <;> rw [e] <;> omega
theorem adj_sym {t:Tw} (hT:TwOk t) {c:List Int} {p q:Int} (hp:0≤p) (hq:0≤q) (h:adjB t c p q=true):adjB t c q p=true:=by
 obtain ⟨i,hi,h1,h2⟩:=adjB_iff.1 h
 refine adjB_iff.2 ⟨i,hi,h1,?_⟩
 have hs:=hT.st i hi
 rw [oth_iff hs.2.2.2.2 hp]
 rw [oth_iff hs.2.2.2.2 hq] at h2
 rcases h2 with ⟨a,b⟩|⟨a,b⟩
 ·exact .inr ⟨b,a⟩
 ·exact .inl ⟨b,a⟩
theorem adj_bd {t:Tw} (hT:TwOk t) {c:List Int} {p q:Int} (hq:0≤q) (h:adjB t c p q=true):q < t.rooms.length:=by
 obtain ⟨i,hi,h1,h2⟩:=adjB_iff.1 h
 have:=oth_bd hT hi (p:=p) (by omega)
 omega
theorem lvl_succ {t:Tw} {c:List Int} {to:Int} {n:Nat} {q:Int} (h:lvl t c to n q=true):lvl t c to (n+1) q=true:=by
 show (lvl t c to n q || _)=true
 rw [h];rfl
theorem lvl_le {t:Tw} {c:List Int} {to:Int} {n m:Nat} {q:Int} (h:lvl t c to n q=true) (hm:n≤m):lvl t c to m q=true:=by
 induction m with
 | zero =>
  obtain rfl:n=0:=by omega
  exact h
 | succ m ih =>
  by_cases e:n=m+1
  ·rw [← e];exact h
  ·exact lvl_succ (ih (by omega))
theorem lvl_step {t:Tw} {c:List Int} {to:Int} {n:Nat} {p q:Int} (hp:0≤p∧p < t.rooms.length) (h:lvl t c to n p=true) (ha:adjB t c p q=true):lvl t c to (n+1) q=true:=by
 show (lvl t c to n q || (List.range t.rooms.length).any fun p=>lvl t c to n (p:Nat) && adjB t c (p:Nat) q)=true
 rw [Bool.or_eq_true,List.any_eq_true]
 refine .inr ⟨p.toNat,List.mem_range.2 (by omega),?_⟩
 have e:((p.toNat:Nat):Int)=p:=by omega
 rw [e,h,ha];rfl
theorem lvl_pre {t:Tw} {c:List Int} {to:Int} {n:Nat} {q:Int} (h:lvl t c to (n+1) q=true) (h0:lvl t c to n q=false):∃ p:Nat,p < t.rooms.length∧lvl t c to n (p:Nat)=true∧adjB t c (p:Nat) q=true:=by
 have h':(lvl t c to n q || (List.range t.rooms.length).any fun p=>lvl t c to n (p:Nat) && adjB t c (p:Nat) q)=true:=h
 rw [h0,Bool.false_or,List.any_eq_true] at h'
 obtain ⟨p,hp,h2⟩:=h'
 rw [Bool.and_eq_true] at h2
 exact ⟨p,List.mem_range.1 hp,h2.1,h2.2⟩
theorem lvl_bd {t:Tw} (hT:TwOk t) {c:List Int} {to:Int} (hto:0≤to∧to < t.rooms.length) {q:Int} (hq:0≤q):∀ {n:Nat},lvl t c to n q=true→q < t.rooms.length
 | 0,h=>by
  have:q=to:=of_decide_eq_true h
  omega
 | n+1,h=>by
  cases e:lvl t c to n q
  ·obtain ⟨p,hp,h1,h2⟩:=lvl_pre h e
   exact adj_bd hT hq h2
  ·exact lvl_bd hT hto hq e
theorem isD_one {t:Tw} {c:List Int} {to:Int} {n m:Nat} {q:Int} (h:isD t c to n q) (k:isD t c to m q):n=m:=by
 rcases Nat.lt_trichotomy n m with e|e|e
 ·have:=k.2 n e;rw [h.1] at this;cases this
 ·exact e
 ·have:=h.2 m e;rw [k.1] at this;cases this
theorem isD_least {t:Tw} {c:List Int} {to:Int} {q:Int}:∀ {n:Nat},lvl t c to n q=true→∃ m,m≤n∧isD t c to m q
 | 0,h=>⟨0,Nat.le_refl _,h,fun m hm=>absurd hm (Nat.not_lt_zero _)⟩
 | n+1,h=>by
  cases e:lvl t c to n q
  ·refine ⟨n+1,Nat.le_refl _,h,fun m hm=>?_⟩
   cases e2:lvl t c to m q
   ·rfl
   ·have:=lvl_le e2 (by omega:m≤n)
    rw [e] at this;cases this
  ·obtain ⟨m,hm,h2⟩:=isD_least e
   exact ⟨m,by omega,h2⟩
theorem isD_pre {t:Tw} {c:List Int} {to:Int} {n:Nat} {q:Int} (h:isD t c to (n+1) q):∃ p:Nat,p < t.rooms.length∧isD t c to n (p:Nat)∧adjB t c (p:Nat) q=true:=by
 obtain ⟨p,hp,h1,h2⟩:=lvl_pre h.1 (h.2 n (Nat.lt_succ_self _))
 refine ⟨p,hp,⟨h1,fun m hm=>?_⟩,h2⟩
 cases e:lvl t c to m ((p:Nat):Int)
 ·rfl
 ·have:=lvl_step (t:=t) (c:=c) (q:=q) ⟨by omega,by omega⟩ e h2
  rw [h.2 (m+1) (by omega)] at this;cases this
theorem nodup_le:∀ (R:Nat) (l:List Int),l.Nodup→(∀ x,x ∈ l→0≤x∧x < R)→l.length≤R
 | 0,[],_,_=>Nat.le_refl _
 | 0,x :: l,_,h=>by have:=h x (by simp);omega
 | R+1,l,hn,h=>by
  have h1:(l.erase (R:Nat)).length≤R:=nodup_le R _ (hn.erase _) fun x hx=>by
   have h2:=(List.Nodup.mem_erase_iff hn).1 hx
   have h3:=h x h2.2
   have h4:x ≠ (R:Nat):=h2.1
   omega
  have h5:=List.length_erase (a:=((R:Nat):Int)) (l:=l)
  split at h5 <;> omega
theorem dist_lt {t:Tw} (hT:TwOk t) {c:List Int} {to:Int} (hto:0≤to∧to < t.rooms.length) {n:Nat} {q:Int} (hq:0≤q) (h:isD t c to n q):n < t.rooms.length:=by
 have key:∀ (n:Nat) (q:Int),0≤q→isD t c to n q→∃ l:List Int,l.length=n+1∧l.Nodup∧∀ x,x ∈ l→(0≤x∧x < t.rooms.length)∧∃ m,m≤n∧isD t c to m x:=by
  intro n
  induction n with
  | zero =>
   intro q hq h
   exact ⟨[q],rfl,by simp,fun x hx=>by
    obtain rfl:x=q:=by simpa using hx
    exact ⟨⟨hq,lvl_bd hT hto hq h.1⟩,0,Nat.le_refl _,h⟩⟩
  | succ n ih =>
   intro q hq h
   obtain ⟨p,hp,h1,h2⟩:=isD_pre h
   obtain ⟨l,e1,e2,e3⟩:=ih (p:Nat) (by omega) h1
   refine ⟨q :: l,by simp [e1],List.nodup_cons.2 ⟨fun hm=>?_,e2⟩,fun x hx=>?_⟩
   ·obtain ⟨_,m,hm1,hm2⟩:=e3 q hm
    have:=isD_one h hm2
    omega
   ·rcases List.mem_cons.1 hx with rfl|hx
    ·exact ⟨⟨hq,lvl_bd hT hto hq h.1⟩,n+1,Nat.le_refl _,h⟩
    ·obtain ⟨a,m,b,d⟩:=e3 x hx
     exact ⟨a,m,by omega,d⟩
 obtain ⟨l,e1,e2,e3⟩:=key n q hq h
 have:=nodup_le t.rooms.length l e2 fun x hx=>(e3 x hx).1
 omega
theorem dst_iff {t:Tw} (hT:TwOk t) {c:List Int} {to:Int} (hto:0≤to∧to < t.rooms.length) {n:Nat} {q:Int} (hq:0≤q):dst t c to q=some n ↔ isD t c to n q:=by
 unfold dst
 constructor
 ·intro h
  have h1:=List.find?_some h
  refine ⟨h1,fun m hm=>?_⟩
  obtain ⟨_,i,hi,e,h3⟩:=List.find?_eq_some_iff_getElem.1 h
  rw [List.getElem_range] at e
  subst e
  have:=h3 m hm
  rw [List.getElem_range] at this
  simpa using this
 ·intro h
  have hb:=dist_lt hT hto hq h
  refine List.find?_eq_some_iff_getElem.2 ⟨h.1,n,by simpa using hb,List.getElem_range _,fun j hj=>?_⟩
  rw [List.getElem_range]
  rw [h.2 j hj];rfl
theorem dst_none {t:Tw} (hT:TwOk t) {c:List Int} {to:Int} (hto:0≤to∧to < t.rooms.length) {q:Int} (hq:0≤q):dst t c to q=none ↔ ∀ n,lvl t c to n q=false:=by
 constructor
 ·intro h n
  cases e:lvl t c to n q
  ·rfl
  ·obtain ⟨m,_,hm⟩:=isD_least e
   rw [(dst_iff hT hto hq).2 hm] at h;cases h
 ·intro h
  cases e:dst t c to q
  ·rfl
  ·have:=((dst_iff hT hto hq).1 e).1
   rw [h] at this;cases this
def keysM (M:List (Int × Int)):List Int:=M.map (·.1)
def fndM (M:List (Int × Int)) (q:Int):Option Int:=(M.find? fun p=>decide (p.1=q)).map (·.2)
def ky (M:List (Int × Int)) (i:Nat):Int:=(M.getD i (0,0)).1
def vl (M:List (Int × Int)) (i:Nat):Int:=(M.getD i (0,0)).2
structure Bfs (t:Tw) (c:List Int) (to:Int) (M:List (Int × Int)) (k:Nat):Prop where
 nd:(keysM M).Nodup
 ok:∀ i,i < M.length→(0≤ky M i∧ky M i < t.rooms.length)∧∃ n:Nat,vl M i=n∧isD t c to n (ky M i)
 to_:to ∈ keysM M
 kl:k≤M.length
 up:∀ i j,i≤j→j < M.length→vl M i≤vl M j
 near:k < M.length→∀ j,j < M.length→vl M j≤vl M k+1
 full:k < M.length→∀ q,0≤q→∀ n:Nat,(n:Int)≤vl M k→lvl t c to n q=true→q ∈ keysM M
 done:∀ j,j < k→∀ q,0≤q→adjB t c (ky M j) q=true→q ∈ keysM M
theorem ky_mem {M:List (Int × Int)} {i:Nat} (h:i < M.length):ky M i ∈ keysM M:=by
 unfold ky keysM
 rw [List.getD_eq_getElem?_getD,List.getElem?_eq_getElem h]
 exact List.mem_map_of_mem (List.getElem_mem h)
theorem mem_ky {M:List (Int × Int)} {q:Int} (h:q ∈ keysM M):∃ i,i < M.length∧ky M i=q:=by
 unfold keysM at h
 obtain ⟨p,hp,e⟩:=List.mem_map.1 h
 obtain ⟨i,hi,e2⟩:=List.mem_iff_getElem.1 hp
 refine ⟨i,hi,?_⟩
 unfold ky
 rw [List.getD_eq_getElem?_getD,List.getElem?_eq_getElem hi,← e,← e2];rfl
theorem ky_inj {M:List (Int × Int)} (hn:(keysM M).Nodup) {i j:Nat} (hi:i < M.length) (hj:j < M.length) (h:ky M i=ky M j):i=j:=by
 have h1:(keysM M)[i]'(by simpa [keysM] using hi)=ky M i:=by simp [keysM,ky,hi,List.getD_eq_getElem?_getD]
 have h2:(keysM M)[j]'(by simpa [keysM] using hj)=ky M j:=by simp [keysM,ky,hj,List.getD_eq_getElem?_getD]
 exact (List.getElem_inj hn).1 (h1.trans (h.trans h2.symm))
theorem fndM_none {M:List (Int × Int)} {q:Int}:fndM M q=none ↔ q ∉ keysM M:=by
 unfold fndM keysM
 rw [Option.map_eq_none_iff,List.find?_eq_none]
 constructor
 ·intro h hm
  obtain ⟨p,hp,e⟩:=List.mem_map.1 hm
  exact h p hp (by simp [e])
 ·intro h p hp e
  exact h (List.mem_map.2 ⟨p,hp,by simpa using e⟩)
theorem fndM_some {M:List (Int × Int)} {q v:Int} (h:fndM M q=some v):∃ i,i < M.length∧ky M i=q∧vl M i=v:=by
 unfold fndM at h
 rw [Option.map_eq_some_iff] at h
 obtain ⟨p,hp,e⟩:=h
 have h1:=List.find?_some hp
 obtain ⟨i,hi,e2⟩:=List.mem_iff_getElem.1 (List.mem_of_find?_eq_some hp)
 refine ⟨i,hi,?_,?_⟩
 ·unfold ky;rw [List.getD_eq_getElem?_getD,List.getElem?_eq_getElem hi,e2];simpa using h1
 ·unfold vl;rw [List.getD_eq_getElem?_getD,List.getElem?_eq_getElem hi,e2];exact e
theorem fndM_at {M:List (Int × Int)} (hn:(keysM M).Nodup) {i:Nat} (hi:i < M.length):fndM M (ky M i)=some (vl M i):=by
 cases e:fndM M (ky M i) with
 | none=>exact absurd (ky_mem hi) (fndM_none.1 e)
 | some v =>
  obtain ⟨j,hj,e1,e2⟩:=fndM_some e
  have:=ky_inj hn hj hi e1
  subst this
  rw [e2]
theorem Bfs.get {t:Tw} {c:List Int} {to:Int} {M:List (Int × Int)} {k:Nat} (B:Bfs t c to M k) {q:Int} {v:Int} (h:fndM M q=some v):∃ n:Nat,v=n∧isD t c to n q:=by
 obtain ⟨i,hi,e1,e2⟩:=fndM_some h
 obtain ⟨_,n,e3,h4⟩:=B.ok i hi
 exact ⟨n,by rw [← e2,e3],by rw [← e1];exact h4⟩
theorem bfs_init {t:Tw} {c:List Int} {to:Int} (hto:0≤to∧to < t.rooms.length):Bfs t c to [(to,0)] 0:=by
 refine ⟨by simp [keysM],fun i hi=>?_,by simp [keysM],Nat.zero_le _,fun i j hij hj=>?_,fun _ j hj=>?_,fun _ q hq n hn hl=>?_,fun j hj=>absurd hj (Nat.not_lt_zero _)⟩
 ·obtain rfl:i=0:=by simpa using hi
  exact ⟨hto,0,rfl,by simp [ky,lvl],fun m hm=>absurd hm (Nat.not_lt_zero _)⟩
 ·obtain rfl:j=0:=by simpa using hj
  obtain rfl:i=0:=by omega
  exact Int.le_refl _
 ·obtain rfl:j=0:=by simpa using hj
  show (0:Int)≤0+1;omega
 ·have h0:(n:Int)≤0:=hn
  obtain rfl:n=0:=by omega
  have:q=to:=of_decide_eq_true hl
  simp [keysM,this]
theorem Bfs.len {t:Tw} {c:List Int} {to:Int} {M:List (Int × Int)} {k:Nat} (B:Bfs t c to M k):M.length≤t.rooms.length:=by
 have:=nodup_le t.rooms.length (keysM M) B.nd fun x hx=>by
  obtain ⟨i,hi,e⟩:=mem_ky hx
  rw [← e];exact (B.ok i hi).1
 simpa [keysM] using this
theorem Bfs.push {t:Tw} (hT:TwOk t) {c:List Int} {to:Int} (hto:0≤to∧to < t.rooms.length) {M:List (Int × Int)} {k:Nat} (B:Bfs t c to M k) (hk:k < M.length) {q:Int} (hq:0≤q) (ha:adjB t c (ky M k) q=true) (hn:q ∉ keysM M):Bfs t c to (M ++ [(q,vl M k+1)]) k:=by
 have old:∀ i,i < M.length→ky (M ++ [(q,vl M k+1)]) i=ky M i∧vl (M ++ [(q,vl M k+1)]) i=vl M i:=fun i hi=>by
  unfold ky vl
  rw [List.getD_eq_getElem?_getD,List.getElem?_append_left hi,← List.getD_eq_getElem?_getD]
  exact ⟨rfl,rfl⟩
 have new:ky (M ++ [(q,vl M k+1)]) M.length=q∧vl (M ++ [(q,vl M k+1)]) M.length=vl M k+1:=by
  unfold ky vl
  rw [List.getD_eq_getElem?_getD]
  simp
 have hkeys:keysM (M ++ [(q,vl M k+1)])=keysM M ++ [q]:=by simp [keysM]
 obtain ⟨hb,n,hv,hD⟩:=B.ok k hk
 have hqb:=adj_bd hT hq ha
 have hDq:isD t c to (n+1) q:=by
  refine ⟨lvl_step hb hD.1 ha,fun m hm=>?_⟩
  cases e:lvl t c to m q
  ·rfl
  ·exact absurd (B.full hk q hq m (by omega) e) hn
 refine ⟨?_,fun i hi=>?_,by rw [hkeys];exact List.mem_append_left _ B.to_,by simp;have:=B.kl;omega,fun i j hij hj=>?_,fun _ j hj=>?_,fun _ q' hq' m hm hl=>?_,fun j hj q' hq' ha'=>?_⟩
 ·rw [hkeys,List.nodup_append]
  refine ⟨B.nd,by simp,fun a ha' b hb' e=>?_⟩
  have e2:b=q:=by simpa using hb'
  exact hn (by rw [← e2,← e];exact ha')
 ·by_cases e:i=M.length
  ·subst e
   rw [new.1,new.2]
   exact ⟨⟨hq,hqb⟩,n+1,by omega,hDq⟩
  ·have hi':i < M.length:=by simp at hi;omega
   rw [(old i hi').1,(old i hi').2]
   exact B.ok i hi'
 ·have hj':j≤M.length:=by simp at hj;omega
  by_cases e:j=M.length
  ·subst e
   rw [new.2]
   by_cases e2:i=M.length
   ·rw [e2,new.2];exact Int.le_refl _
   ·rw [(old i (by omega)).2]
    have:=B.near hk i (by omega)
    omega
  ·rw [(old i (by omega)).2,(old j (by omega)).2]
   exact B.up i j hij (by omega)
 ·rw [(old k hk).2]
  by_cases e:j=M.length
  ·subst e;rw [new.2];exact Int.le_refl _
  ·have hj':j < M.length:=by simp at hj;omega
   rw [(old j hj').2]
   exact B.near hk j hj'
 ·rw [(old k hk).2] at hm
  rw [hkeys]
  exact List.mem_append_left _ (B.full hk q' hq' m hm hl)
 ·rw [(old j (by omega)).1] at ha'
  rw [hkeys]
  exact List.mem_append_left _ (B.done j hj q' hq' ha')
theorem Bfs.next {t:Tw} (hT:TwOk t) {c:List Int} {to:Int} (hto:0≤to∧to < t.rooms.length) {M:List (Int × Int)} {k:Nat} (B:Bfs t c to M k) (hk:k < M.length) (hd:∀ q,0≤q→adjB t c (ky M k) q=true→q ∈ keysM M):Bfs t c to M (k+1):=by
 have hdone:∀ j,j < k+1→∀ q,0≤q→adjB t c (ky M j) q=true→q ∈ keysM M:=fun j hj q hq ha=>by
  by_cases e:j=k
  ·subst e;exact hd q hq ha
  ·exact B.done j (by omega) q hq ha
 refine ⟨B.nd,B.ok,B.to_,hk,B.up,fun hk1 j hj=>?_,fun hk1 q hq n hn hl=>?_,hdone⟩
 ·have h1:=B.near hk j hj
  have h2:=B.up k (k+1) (by omega) hk1
  omega
 ·by_cases e:(n:Int)≤vl M k
  ·exact B.full hk q hq n e hl
  ·obtain ⟨m,hm,hD⟩:=isD_least hl
   by_cases e2:(m:Int)≤vl M k
   ·exact B.full hk q hq m e2 hD.1
   ·have h3:=B.near hk (k+1) hk1
    obtain ⟨m,rfl⟩:∃ m',m=m'+1:=⟨m - 1,by
     obtain ⟨_,n0,e0,_⟩:=B.ok k hk
     omega⟩
    obtain ⟨p,hp,h4,h5⟩:=isD_pre hD
    have h6:=B.full hk (p:Nat) (by omega) m (by omega) h4.1
    obtain ⟨j,hj,e7⟩:=mem_ky h6
    obtain ⟨_,n1,e8,h9⟩:=B.ok j hj
    rw [e7] at h9
    have e10:=isD_one h9 h4
    have hjk:j < k+1:=by
     rcases Nat.lt_or_ge j (k+1) with h|h
     ·exact h
     ·have h11:=B.up (k+1) j h hj
      omega
    exact hdone j hjk q hq (by rw [e7];exact h5)
theorem Bfs.all {t:Tw} (hT:TwOk t) {c:List Int} {to:Int} {M:List (Int × Int)} (B:Bfs t c to M M.length):∀ (n:Nat) (q:Int),0≤q→lvl t c to n q=true→q ∈ keysM M
 | 0,q,hq,h=>by
  have:q=to:=of_decide_eq_true h
  rw [this];exact B.to_
 | n+1,q,hq,h=>by
  cases e:lvl t c to n q
  ·obtain ⟨p,hp,h1,h2⟩:=lvl_pre h e
   have h3:=Bfs.all hT B n (p:Nat) (by omega) h1
   obtain ⟨j,hj,e7⟩:=mem_ky h3
   exact B.done j hj q hq (by rw [e7];exact h2)
  ·exact Bfs.all hT B n q hq e
theorem nxN_bd {t:Tw} (hT:TwOk t) {c:List Int} {to:Int} {d:Nat} {q:Int}:∀ i,i≤t.sts.length→(nxN t c to d q i=t.rooms.length∧∀ j,j < i→¬ (clB c j=false∧0≤oth (sx t.sts j) q∧dst t c to (oth (sx t.sts j) q)=some d)) ∨ (0≤nxN t c to d q i∧nxN t c to d q i < t.rooms.length∧dst t c to (nxN t c to d q i)=some d∧adjB t c q (nxN t c to d q i)=true)
 | 0,_=>.inl ⟨rfl,fun j hj=>absurd hj (Nat.not_lt_zero _)⟩
 | i+1,hi=>by
  have ih:=nxN_bd hT (c:=c) (to:=to) (d:=d) (q:=q) i (by omega)
  show ((if _ then _ else _)=_∧_) ∨ _
  by_cases h:clB c i=false∧0≤oth (sx t.sts i) q∧dst t c to (oth (sx t.sts i) q)=some d
  ·have hb:=oth_bd hT (by omega:i < t.sts.length) h.2.1
   have ha:adjB t c q (oth (sx t.sts i) q)=true:=adjB_iff.2 ⟨i,by omega,h.1,rfl⟩
   have e:nxN t c to d q (i+1)=min (nxN t c to d q i) (oth (sx t.sts i) q):=by
    show (if _ then _ else _)=_;rw [if_pos h]
   right
   rw [e]
   rcases ih with ⟨e1,_⟩|⟨h1,h2,h3,h4⟩
   ·rw [e1,Int.min_eq_right (by omega)]
    exact ⟨h.2.1,hb,h.2.2,ha⟩
   ·rcases Int.le_total (nxN t c to d q i) (oth (sx t.sts i) q) with h5|h5
    ·rw [Int.min_eq_left h5];exact ⟨h1,h2,h3,h4⟩
    ·rw [Int.min_eq_right h5];exact ⟨h.2.1,hb,h.2.2,ha⟩
  ·have e:nxN t c to d q (i+1)=nxN t c to d q i:=by
    show (if _ then _ else _)=_;rw [if_neg h]
   rw [e]
   rcases ih with ⟨e1,h1⟩|h1
   ·left
    refine ⟨by rw [if_neg h];exact e1,fun j hj=>?_⟩
    by_cases e2:j=i
    ·rw [e2];exact h
    ·exact h1 j (by omega)
   ·exact .inr h1
theorem nx_ok {t:Tw} (hT:TwOk t) {c:List Int} {to:Int} (hto:0≤to∧to < t.rooms.length) {d:Nat} {q:Int} (hq:0≤q) (h:dst t c to q=some (d+1)):0≤nxN t c to d q t.sts.length∧nxN t c to d q t.sts.length < t.rooms.length∧dst t c to (nxN t c to d q t.sts.length)=some d∧adjB t c q (nxN t c to d q t.sts.length)=true:=by
 rcases nxN_bd hT (c:=c) (to:=to) (d:=d) (q:=q) t.sts.length (Nat.le_refl _) with ⟨_,h1⟩|h1
 ·exfalso
  obtain ⟨p,hp,h2,h3⟩:=isD_pre ((dst_iff hT hto hq).1 h)
  have h4:=adj_sym hT (by omega) hq h3
  obtain ⟨i,hi,h5,h6⟩:=adjB_iff.1 h4
  exact h1 i hi ⟨h5,by omega,by rw [h6];exact (dst_iff hT hto (by omega)).2 h2⟩
 ·exact h1
theorem dst_zero {t:Tw} (hT:TwOk t) {c:List Int} {to:Int} (hto:0≤to∧to < t.rooms.length) {q:Int} (hq:0≤q):dst t c to q=some 0 ↔ q=to:=by
 rw [dst_iff hT hto hq]
 constructor
 ·intro h;exact of_decide_eq_true h.1
 ·intro h;exact ⟨decide_eq_true h,fun m hm=>absurd hm (Nat.not_lt_zero _)⟩
structure SFin (t:Tw) (c:List Int) (to frm:Int) (M:List (Int × Int)):Prop where
 ok:∀ q v,fndM M q=some v→∃ n:Nat,v=n∧isD t c to n q
 none_:fndM M frm=none→dst t c to frm=none
 full:∀ D,isD t c to D frm→∀ q,0≤q→∀ n,n≤D→isD t c to n q→fndM M q=some (n:Int)
theorem Bfs.fin {t:Tw} (hT:TwOk t) {c:List Int} {to frm:Int} (hto:0≤to∧to < t.rooms.length) (hf:0≤frm) {M:List (Int × Int)} {k:Nat} (B:Bfs t c to M k) (h:k=M.length ∨ (k < M.length∧ky M k=frm)):SFin t c to frm M:=by
 have key:∀ q,q ∈ keysM M→∀ n,isD t c to n q→fndM M q=some (n:Int):=fun q hq n hn=>by
  obtain ⟨i,hi,e⟩:=mem_ky hq
  obtain ⟨_,n',e2,h2⟩:=B.ok i hi
  rw [← e,fndM_at B.nd hi,e2]
  rw [e] at h2
  rw [isD_one h2 hn]
 refine ⟨fun q v hv=>B.get hv,fun hn=>?_,fun D hD q hq n hnD hn=>key q ?_ n hn⟩
 ·rw [dst_none hT hto hf]
  intro n
  cases e:lvl t c to n frm
  ·rfl
  ·exfalso
   refine fndM_none.1 hn ?_
   rcases h with rfl|⟨hk,e2⟩
   ·exact B.all hT n frm hf e
   ·rw [← e2];exact ky_mem hk
 ·rcases h with rfl|⟨hk,e2⟩
  ·exact B.all hT n q hq hn.1
  ·obtain ⟨_,n',e3,h2⟩:=B.ok k hk
   rw [e2] at h2
   have:=isD_one h2 hD
   exact B.full hk q hq n (by omega) hn.1
theorem keysM_drop {M:List (Int × Int)} {k:Nat} (h:k < M.length):(keysM M).drop k=ky M k :: (keysM M).drop (k+1):=by
 have h':k < (keysM M).length:=by simpa [keysM] using h
 rw [List.drop_eq_getElem_cons h']
 congr 1
 simp [keysM,ky,List.getD_eq_getElem?_getD,h]
theorem wayL_drop (t:Tw) (c:List Int) (to:Int) (d:Nat) (q:Int):(wayL t c to (d+1) q).drop 1=nxN t c to d q t.sts.length :: (wayL t c to d (nxN t c to d q t.sts.length)).drop 1:=by
 show wayL t c to d _=_
 cases d <;> rfl
def wayO (t:Tw) (c:List Int) (frm to:Int):Option Nat→AV
 | none=>.tup [.lst 1 [],.int .i64 7]
 | some d=>.tup [.lst 1 ((wayL t c to d frm).map iv),.int .i64 0]
def wayV (t:Tw) (c:List Int) (frm to:Int):AV :=
 if cloE t c ≠ 0 then .tup [.lst 1 [],.int .i64 (cloE t c)] else if ¬ (0≤frm∧frm≤t.rooms.length - 1∧0≤to∧to≤t.rooms.length - 1) then .tup [.lst 1 [],.int .i64 7] else wayO t c frm to (dst t c to frm)
end Go.Proofs.YtoafigpikgigaaaGreatDoor

namespace Go.Proofs.YtoafigpikgigaaaGreatDoor
open Go.Av
attribute [local irreducible] thenA blockA awp awpOps awpD awp1
attribute [local go_sem_proc] Nat.reduceAdd Nat.reduceMul Nat.reduceEqDiff Nat.reduceBEq Nat.reduceLeDiff
attribute [local go_sem_proc ↓] reduceIte
attribute [local go_sem] if_yes if_no
set_option maxHeartbeats 8000000
set_option maxRecDepth 20000
@[go_sem] theorem toNat_pred (m:Nat):((((m+1:Nat)):Int) - 1).toNat=m:=by omega
theorem c45 (t:Tw) (c:List Int) (hc':c.length≤1000000):Pure Tryz.prog 45 [t.av,.lst 1 (c.map iv)] (fun v=>v=.int .i64 (cloE t c)):=by
 have k1:=c32 t
 intro h
 refine ACalls.forget (ACalls.of tab mixed Tryz.call45 Tryz.func45 rfl (fi:=⟨42,[],[2,26],none,[]⟩) rfl rfl (Nat.le_of_ble_eq_true rfl) (by decide) ?_)
 unfold startA
 simp only[go_sem]
 repeat' (first|refine st_seq_reg rfl (by first|(simp only[go_sem,Lm];rfl)|rfl) (by first|(simp only[go_sem,Lm];rfl)|rfl) ?_|refine st_reg rfl (by first|(simp only[go_sem,Lm];rfl)|rfl) (by first|(simp only[go_sem,Lm];rfl)|rfl) ?_|refine st_op ?_|refine st_det rfl (by simp (disch:=omega) only[go_sem,wr_i64,Lm];rfl) ?_|refine st_loc rfl (by simp (disch:=omega) only[go_sem,wr_i64,Lm];rfl) ?_|refine st_heap rfl (by simp (disch:=omega) only[go_sem,wr_i64,Lm];rfl) ?_|(refine st_pureE (by first|(simp (disch:=omega) only[go_sem,Lm];rfl)|rfl) rfl (k1) (by first|(simp only[go_sem,Lm];rfl)|rfl) (by intro n;first|(simp (disch:=omega) only[go_sem];rfl)|rfl) ?_;intro n hn)|refine st_gT rfl rfl rfl ?_|refine st_gF rfl rfl rfl ?_|(refine st_gS rfl rfl ?_ ?_ <;> intro hg <;> (try simp only[dcT,dcF,bnT,bnF] at hg))|refine st_condT rfl ?_|refine st_condF rfl ?_|(refine st_condS rfl ?_ ?_ <;> intro hg <;> (try simp only[dcT,dcF,bnT,bnF] at hg))|refine st_nil ?_|refine st_tN ?_|refine st_seq ?_|refine st_block ?_|refine st_skip ?_|refine st_exit ?_|refine st_ret ?_|refine st_tE ?_|refine st_tR ?_|refine st_bN ?_|refine st_bR ?_|refine st_bH ?_|refine st_bM rfl ?_)
 all_goals try (exfalso;omega)
 ·simp (disch:=omega) only[AEnd,Tryz.results45,aresK,fin,go_sem,implies_true,true_and,and_true,List.reverse_cons,List.reverse_nil]
  unfold cloE;rw [if_pos (by omega)]
 have hE:cloE t c=errN (cloF t c) c.length:=by unfold cloE;rw [if_neg (by omega)]
 have hT:=townOk (t:=t) (by omega)
 have hsn:=hT.sn
 refine st_loopC (α:=Nat) tab mixed [] [] (by repeat (first|exact trivial|refine ⟨rfl,?_⟩)) [] [] (by repeat (first|exact trivial|refine ⟨rfl,?_⟩)) (fun i=>[(15,.int .i64 (i:Nat))]) [(0,_),(1,_),(2,_),(3,_),(13,_),(14,_)] (fun _=>[]) [] (fun i=>i≤c.length∧errN (cloF t c) i=0) (fun i=>c.length - i) (by decide) 0 ⟨by omega,rfl⟩ (by (try simp only[go_sem]);repeat' (first|exact trivial|refine And.intro ?_ ?_|rfl|(simp (disch:=omega) only[go_sem,if_yes,if_no,if_no];rfl)|(simp (disch:=omega) only[go_sem,if_yes,if_no,if_no]))) (by (try simp only[go_sem]);repeat' (first|exact trivial|refine And.intro ?_ ?_|rfl|(simp (disch:=omega) only[go_sem,if_yes,if_no,if_no];rfl)|(simp (disch:=omega) only[go_sem,if_yes,if_no,if_no]))) (by first|(simp only[go_sem];rfl)|rfl) (by intro n;simp only[go_sem];rfl) ?_
 rintro i d ⟨hi',he⟩ hd
 simp only[go_sem]
 have q1:=c46a 0 (t.sts.length - 1:Int) (elt c i)
 have e1:errN (cloF t c) (i+1)=cloF t c i:=errN_next he
 have e2:cloF t c i=if ¬ (0≤elt c i∧elt c i < t.sts.length) then 7 else if 0 < i∧elt c i≤elt c (i - 1) then 9 else 0:=rfl
 by_cases h0:0 < i
 case pos =>
  obtain ⟨m,rfl⟩:∃ m,i=m+1:=⟨i - 1,by omega⟩
  simp only[Nat.add_sub_cancel] at e2
  repeat' (first|refine st_seq_reg rfl (by first|(simp only[go_sem,Lm];rfl)|rfl) (by first|(simp only[go_sem,Lm];rfl)|rfl) ?_|refine st_reg rfl (by first|(simp only[go_sem,Lm];rfl)|rfl) (by first|(simp only[go_sem,Lm];rfl)|rfl) ?_|refine st_op ?_|refine st_det rfl (by simp (disch:=omega) only[go_sem,wr_i64,Lm];rfl) ?_|refine st_loc rfl (by simp (disch:=omega) only[go_sem,wr_i64,Lm];rfl) ?_|refine st_heap rfl (by simp (disch:=omega) only[go_sem,wr_i64,Lm];rfl) ?_|(refine st_pureE (by first|(simp (disch:=omega) only[go_sem,Lm];rfl)|rfl) rfl (q1) (by first|(simp only[go_sem,Lm];rfl)|rfl) (by intro n;first|(simp (disch:=omega) only[go_sem];rfl)|rfl) ?_;intro n hn)|refine st_gT rfl rfl rfl ?_|refine st_gF rfl rfl rfl ?_|(refine st_gS rfl rfl ?_ ?_ <;> intro hg <;> (try simp only[dcT,dcF,bnT,bnF] at hg))|refine st_condT rfl ?_|refine st_condF rfl ?_|(refine st_condS rfl ?_ ?_ <;> intro hg <;> (try simp only[dcT,dcF,bnT,bnF] at hg))|refine st_nil ?_|refine st_tN ?_|refine st_seq ?_|refine st_block ?_|refine st_skip ?_|refine st_exit ?_|refine st_ret ?_|refine st_tE ?_|refine st_tR ?_|refine st_bN ?_|refine st_bR ?_|refine st_bH ?_|refine st_bM rfl ?_)
  all_goals try (exfalso;omega)
  ·have hv:cloF t c (m+1)=7:=by rw [e2,if_pos (by omega)]
   simp (disch:=omega) only[AEnd,Tryz.results45,aresK,fin,go_sem,implies_true,true_and,and_true,List.reverse_cons,List.reverse_nil]
   rw [hE,errN_stop he (by omega) (by omega),hv]
  ·have hv:cloF t c (m+1)=9:=by rw [e2,if_neg (by omega),if_pos (by omega)]
   simp (disch:=omega) only[AEnd,Tryz.results45,aresK,fin,go_sem,implies_true,true_and,and_true,List.reverse_cons,List.reverse_nil]
   rw [hE,errN_stop he (by omega) (by omega),hv]
  ·have hv:cloF t c (m+1)=0:=by rw [e2,if_neg (by omega),if_neg (by omega)]
   refine ⟨m+1+1,⟨by omega,by omega⟩,by omega,(by repeat' (first|exact trivial|refine And.intro ?_ ?_|rfl|(simp (disch:=omega) only[go_sem,if_yes,if_no,if_no];rfl)|(simp (disch:=omega) only[go_sem,if_yes,if_no,if_no]))),(by repeat' (first|exact trivial|refine And.intro ?_ ?_|rfl|(simp (disch:=omega) only[go_sem,if_yes,if_no,if_no];rfl)|(simp (disch:=omega) only[go_sem,if_yes,if_no,if_no]))),rfl,(by first|exact HOld.of _ (by omega)|exact HOld.put _ _ _ (by omega))⟩
  ·simp (disch:=omega) only[AEnd,Tryz.results45,aresK,fin,go_sem,implies_true,true_and,and_true,List.reverse_cons,List.reverse_nil]
   rw [hE,← (by omega:m+1=c.length),he]
 obtain rfl:i=0:=by omega
 case neg =>
  repeat' (first|refine st_seq_reg rfl (by first|(simp only[go_sem,Lm];rfl)|rfl) (by first|(simp only[go_sem,Lm];rfl)|rfl) ?_|refine st_reg rfl (by first|(simp only[go_sem,Lm];rfl)|rfl) (by first|(simp only[go_sem,Lm];rfl)|rfl) ?_|refine st_op ?_|refine st_det rfl (by simp (disch:=omega) only[go_sem,wr_i64,Lm];rfl) ?_|refine st_loc rfl (by simp (disch:=omega) only[go_sem,wr_i64,Lm];rfl) ?_|refine st_heap rfl (by simp (disch:=omega) only[go_sem,wr_i64,Lm];rfl) ?_|(refine st_pureE (by first|(simp (disch:=omega) only[go_sem,Lm];rfl)|rfl) rfl (q1) (by first|(simp only[go_sem,Lm];rfl)|rfl) (by intro n;first|(simp (disch:=omega) only[go_sem];rfl)|rfl) ?_;intro n hn)|refine st_gT rfl rfl rfl ?_|refine st_gF rfl rfl rfl ?_|(refine st_gS rfl rfl ?_ ?_ <;> intro hg <;> (try simp only[dcT,dcF,bnT,bnF] at hg))|refine st_condT rfl ?_|refine st_condF rfl ?_|(refine st_condS rfl ?_ ?_ <;> intro hg <;> (try simp only[dcT,dcF,bnT,bnF] at hg))|refine st_nil ?_|refine st_tN ?_|refine st_seq ?_|refine st_block ?_|refine st_skip ?_|refine st_exit ?_|refine st_ret ?_|refine st_tE ?_|refine st_tR ?_|refine st_bN ?_|refine st_bR ?_|refine st_bH ?_|refine st_bM rfl ?_)
  all_goals try (exfalso;omega)
  ·have hv:cloF t c (0)=7:=by rw [e2,if_pos (by omega)]
   simp (disch:=omega) only[AEnd,Tryz.results45,aresK,fin,go_sem,implies_true,true_and,and_true,List.reverse_cons,List.reverse_nil]
   rw [hE,errN_stop he (by omega) (by omega),hv]
  ·have hv:cloF t c (0)=0:=by rw [e2,if_neg (by omega),if_neg (by omega)]
   refine ⟨0+1,⟨by omega,by omega⟩,by omega,(by repeat' (first|exact trivial|refine And.intro ?_ ?_|rfl|(simp (disch:=omega) only[go_sem,if_yes,if_no,if_no];rfl)|(simp (disch:=omega) only[go_sem,if_yes,if_no,if_no]))),(by repeat' (first|exact trivial|refine And.intro ?_ ?_|rfl|(simp (disch:=omega) only[go_sem,if_yes,if_no,if_no];rfl)|(simp (disch:=omega) only[go_sem,if_yes,if_no,if_no]))),rfl,(by first|exact HOld.of _ (by omega)|exact HOld.put _ _ _ (by omega))⟩
  ·simp (disch:=omega) only[AEnd,Tryz.results45,aresK,fin,go_sem,implies_true,true_and,and_true,List.reverse_cons,List.reverse_nil]
   rw [hE,← (by omega:0=c.length),he]
end Go.Proofs.YtoafigpikgigaaaGreatDoor
