/- The search finds the first days of all plans that are come to. -/
import Derived.Test.YtaijkalhkgjakaaDoorP3
set_option linter.all false
set_option linter.unusedSimpArgs false
set_option linter.unusedVariables false
namespace Go.Proofs.YtaijkalhkgjakaaDoor
open Go.Av
def lexLt:List Int→List Int→Bool
  | [],[]=>false
  | [],_ :: _=>true
  | _ :: _,[]=>false
  | a :: l,b :: k=>if a=b then lexLt l k else decide (a < b)
theorem lex_irrefl:∀ a,lexLt a a=false
  | []=>rfl
  | a :: l=>by simp [lexLt,lex_irrefl l]
theorem lex_pw:∀ (a b:List Int),a.length=b.length→(∀ i,a.getD i 0≤b.getD i 0)→lexLt b a=false
  | [],[],_,_=>rfl
  | [],_ :: _,h,_=>by simp at h
  | _ :: _,[],h,_=>by simp at h
  | a :: l,b :: k,h,hp=>by
    simp only[lexLt]
    have h0:a≤b:=by simpa using hp 0
    split
    · exact lex_pw l k (by simpa using h) (fun i=>by simpa using hp (i+1))
    · simp;omega
theorem lex_trans:∀ (a b c:List Int),lexLt b a=false→lexLt c b=false→lexLt c a=false
  | [],[],[],_,_=>rfl
  | [],[],_ :: _,_,_=>rfl
  | [],_ :: _,[],h,k=>by simp [lexLt] at h k
  | [],_ :: _,_ :: _,_,_=>rfl
  | _ :: _,[],_,h,_=>by simp [lexLt] at h
  | _ :: _,_ :: _,[],_,k=>by simp [lexLt] at k
  | a :: l,b :: k,c :: m,h,g=>by
    simp only[lexLt] at h g ⊢
    split at h
    · rename_i e1
      split at g
      · rename_i e2
        subst e1;subst e2
        rw [if_pos rfl]
        exact lex_trans l k m h g
      · rename_i e2
        subst e1
        rw [if_neg e2];exact g
    · rename_i e1
      split at g
      · rename_i e2
        subst e2
        rw [if_neg e1];exact h
      · rename_i e2
        simp only[decide_eq_false_iff_not] at h g
        rw [if_neg (by omega)]
        simp;omega
theorem lex_antisymm:∀ (a b:List Int),lexLt b a=false→lexLt a b=false→a=b
  | [],[],_,_=>rfl
  | [],_ :: _,_,h=>by simp [lexLt] at h
  | _ :: _,[],h,_=>by simp [lexLt] at h
  | a :: l,b :: k,h,g=>by
    simp only[lexLt] at h g
    split at h
    · rename_i e
      subst e
      rw [if_pos rfl] at g
      rw [lex_antisymm l k h g]
    · rename_i e
      rw [if_neg (fun e2=>e e2.symm)] at g
      simp only[decide_eq_false_iff_not] at h g
      omega
theorem lex_total (a b:List Int) (h:lexLt a b=true):lexLt b a=false:=by
  cases hb:lexLt b a with
  | false=>rfl
  | true =>
    exfalso
    have:∀ (a b:List Int),lexLt a b=true→lexLt b a=true→False:=by
      intro a
      induction a with
      | nil=>intro b h g;cases b <;> simp [lexLt] at h g
      | cons a l ih =>
        intro b h g
        cases b with
        | nil=>simp [lexLt] at h
        | cons b k =>
          simp only[lexLt] at h g
          split at h
          · rename_i e;subst e;rw [if_pos rfl] at g;exact ih k h g
          · rename_i e
            rw [if_neg (fun e2=>e e2.symm)] at g
            simp only[decide_eq_true_eq] at h g
            omega
    exact this a b h hb
def BE (a b:Int × List Int):Prop:=a.1 < b.1 ∨ a.1=b.1∧lexLt b.2 a.2=false
theorem BE.refl (a:Int × List Int):BE a a:=.inr ⟨rfl,lex_irrefl _⟩
theorem BE.trans {a b c:Int × List Int} (h:BE a b) (k:BE b c):BE a c:=by
  rcases h with h|⟨h,h2⟩ <;> rcases k with k|⟨k,k2⟩
  · left;omega
  · left;omega
  · left;omega
  · right;exact ⟨by omega,lex_trans _ _ _ h2 k2⟩
theorem freeD_with {S:Sp} {x:Dr} (hl:x.hands.length=4) {job i:Nat} (hi:i < 4):∀ n,freeD (withD S.js x job i) n=freeD x n+if i < n then (withD S.js x job i).last+(S.j job).d - x.hands.getD i 0 else 0:=by
  have hd:∀ k,(withD S.js x job i).hands.getD k 0=if k=i then (withD S.js x job i).last+(S.j job).d else x.hands.getD k 0:=by
    intro k
    have:(withD S.js x job i).hands=x.hands.set i ((withD S.js x job i).last+(S.j job).d):=rfl
    rw [this,getD_set _ _ _ _ _ (by omega)]
  intro n
  induction n with
  | zero=>simp [freeD]
  | succ n ih =>
    simp only[freeD]
    rw [ih,hd]
    by_cases e:n=i
    · subst e;rw [if_neg (by omega),if_pos rfl,if_pos (by omega)];omega
    · rw [if_neg e]
      by_cases h:i < n
      · rw [if_pos h,if_pos (by omega)];omega
      · rw [if_neg h,if_neg (by omega)];omega
theorem freeD_le {x:Dr} {M:Int} (h:∀ w,x.hands.getD w 0≤M):∀ n:Nat,freeD x n≤n * M:=by
  intro n
  induction n with
  | zero=>simp [freeD]
  | succ n ih =>
    simp only[freeD]
    have:=h n
    have e:((n+1:Nat):Int) * M=n * M+M:=by rw [Int.natCast_succ,Int.add_mul,Int.one_mul]
    omega
theorem freeD_nonneg {x:Dr} (h:∀ w,0≤x.hands.getD w 0):∀ n:Nat,0≤freeD x n:=by
  intro n
  induction n with
  | zero=>simp [freeD]
  | succ n ih=>simp only[freeD];have:=h n;omega
theorem PAt.bound {S:Sp} (hS:S.Ok) {W:Nat→Nat} {x y:Dr} (P:PAt S W x) (h:y ∈ nextD S x):BE (leastD S x) (leastD S y):=by
  obtain ⟨job,i,hj,hi,hs⟩:=mem_nextD.1 h
  obtain ⟨hr,hc,hl,rfl⟩:=nextAt_some hs
  have L:=P.lle hS hj hi hr hl S.js.length (Nat.le_refl _)
  have P2:=P.next hS hj hi hr hc
  obtain ⟨_,n2,n3⟩:=P.nonneg hS
  obtain ⟨_,k2,k3⟩:=P2.nonneg hS
  have hm4:=hS.m4
  have hm0:=hS.m0
  have hdj:1≤(S.j job).d:=(hS.j hj).2.2.2.2.1
  have hfree:=freeD_with (S:=S) P.sz.hands (job:=job) (i:=i) (by omega) S.ws.length
  rw [if_pos hi] at hfree
  have hhi:x.hands.getD i 0≤(withD S.js x job i).last:=by show _≤max _ _;omega
  have hw:=L.w
  rw [if_pos hj] at hw
  have hdays:lexLt (leastD S (withD S.js x job i)).2 (leastD S x).2=false:=by
    refine lex_pw _ _ ?_ L.d
    show (lstep S.js x S.js.length).2.1.length=(lstep S.js (withD S.js x job i) S.js.length).2.1.length
    rw [(lstep_len _).2,(lstep_len _).2,P.sz.day,P2.sz.day]
  have lx:=lstep_len (js:=S.js) (x:=x) S.js.length
  have ly:=lstep_len (js:=S.js) (x:=withD S.js x job i) S.js.length
  rw [P.sz.fls,P.sz.day] at lx
  rw [P2.sz.fls,P2.sz.day] at ly
  have hhand:∀ w,x.hands.getD w 0≤(withD S.js x job i).hands.getD w 0:=by
    intro w
    have:(withD S.js x job i).hands=x.hands.set i ((withD S.js x job i).last+(S.j job).d):=rfl
    rw [this,getD_set _ _ _ _ _ (by rw [P.sz.hands];omega)]
    split
    · rename_i e;rw [e];omega
    · exact Int.le_refl _
  have hmax:maxL ((lstep S.js x S.js.length).1 ++ x.hands)≤maxL ((lstep S.js (withD S.js x job i) S.js.length).1 ++ (withD S.js x job i).hands):=by
    refine maxL_le (by simp [lx,ly,P.sz.hands,P2.sz.hands]) (fun k=>?_) (by intro e;have:=congrArg List.length e;simp [P.sz.hands] at this)
    rw [getD_append,getD_append,lx.1,ly.1]
    split
    · exact L.f k
    · exact hhand _
  have h1:(leastD S x).1≤(leastD S (withD S.js x job i)).1:=by
    have hM:∀ w,(withD S.js x job i).hands.getD w 0≤maxL ((lstep S.js (withD S.js x job i) S.js.length).1 ++ (withD S.js x job i).hands):=by
      intro w
      by_cases hw4:w < 4
      · exact maxL_ge (List.mem_append.2 (.inr (getD_mem (by rw [P2.sz.hands];exact hw4))))
      · rw [List.getD_eq_getElem?_getD,List.getElem?_eq_none (by rw [P2.sz.hands];omega)]
        refine Int.le_trans (k2 0) (maxL_ge (List.mem_append.2 (.inr (getD_mem (by rw [P2.sz.hands];omega)))))
    have hF:=freeD_le hM S.ws.length
    have f0:=freeD_nonneg n2 S.ws.length
    have f1:=freeD_nonneg k2 S.ws.length
    have w0:=L.w0
    simp only[leastD]
    generalize maxL ((lstep S.js x S.js.length).1 ++ x.hands)=a at *
    generalize maxL ((lstep S.js (withD S.js x job i) S.js.length).1 ++ (withD S.js x job i).hands)=b at *
    generalize (lstep S.js x S.js.length).2.2=u at *
    generalize (lstep S.js (withD S.js x job i) S.js.length).2.2=v at *
    generalize freeD x S.ws.length=p at *
    generalize freeD (withD S.js x job i) S.ws.length=q at *
    have hm:(1:Int)≤(S.ws.length:Int):=by omega
    generalize (S.ws.length:Int)=m at *
    rw [if_pos (show 0 < u by omega)]
    rw [Int.tdiv_eq_ediv_of_nonneg (show 0≤p+u+m - 1 by omega)]
    split
    · rename_i hv
      rw [Int.tdiv_eq_ediv_of_nonneg (show 0≤q+v+m - 1 by omega)]
      have:(p+u+m - 1) / m≤(q+v+m - 1) / m:=Int.ediv_le_ediv (by omega) (by omega)
      omega
    · rename_i hv
      have:(p+u+m - 1) / m≤b:=by
        have h5:(p+u+m - 1) / m < b+1:=Int.ediv_lt_of_lt_mul (by omega) (by
          have:(b+1) * m=m * b+m:=by rw [Int.add_mul,Int.one_mul,Int.mul_comm]
          omega)
        omega
      omega
  rcases Int.lt_or_le (leastD S x).1 (leastD S (withD S.js x job i)).1 with h2|h2
  · exact .inl h2
  · exact .inr ⟨by omega,hdays⟩
theorem PAt.bounds {S:Sp} (hS:S.Ok) {x z:Dr} (h:Rch S x z):∀ {W:Nat→Nat},PAt S W x→BE (leastD S x) (leastD S z):=by
  induction h with
  | refl x=>exact fun _=>BE.refl _
  | step hy _ ih =>
    intro W P
    obtain ⟨W',P'⟩:=P.of_next hS hy
    exact (P.bound hS hy).trans (ih P')
theorem leastD_done {S:Sp} {x:Dr} (h:x.Sz S) (hd:done S x=true):leastD S x=(maxL (x.fls ++ x.hands),x.day):=by
  have hall:=(done_iff h).1 hd
  have:∀ n,n≤S.js.length→lstep S.js x n=(x.fls,x.day,0):=by
    intro n
    induction n with
    | zero=>intro _;rfl
    | succ n ih=>intro hn;simp only[lstep,ih (by omega),hall n (by omega),if_true]
  simp only[leastD,this _ (Nat.le_refl _)]
  rw [if_neg (by omega)]
def cutD (S:Sp) (x:Dr) (st:List Int × Int):Bool :=
  decide (0≤st.2) && (decide (st.2 < (leastD S x).1) || decide ((leastD S x).1=st.2) && !lexLt (leastD S x).2 st.1)
def tryD (S:Sp):Nat→Dr→List Int × Int→List Int × Int
  | 0,_,st=>st
  | f+1,x,st =>
    if cutD S x st then st else
    if done S x then (x.day,(leastD S x).1) else
    (nextD S x).foldl (fun st y=>tryD S f y st) st
structure TryOk (S:Sp) (xs:Dr→Prop) (st st':List Int × Int):Prop where
  all:∀ z,xs z→done S z=true→0≤st'.2∧BE (st'.2,st'.1) (leastD S z)
  old:0≤st.2→0≤st'.2∧BE (st'.2,st'.1) (st.2,st.1)
  one:st'=st ∨ ∃ z,xs z∧done S z=true∧st'=(z.day,(leastD S z).1)
theorem PAt.least0 {S:Sp} (hS:S.Ok) {W:Nat→Nat} {x:Dr} (P:PAt S W x) (hd:done S x=true):0≤(leastD S x).1:=by
  rw [leastD_done P.sz hd]
  exact Int.le_trans ((P.nonneg hS).2.1 0) (maxL_ge (List.mem_append.2 (.inr (getD_mem (by rw [P.sz.hands];omega)))))
theorem open_le (x:Dr):∀ n,open_ x n≤n:=by
  intro n
  induction n with
  | zero=>exact Nat.le_refl _
  | succ n ih=>simp only[open_];split <;> omega
theorem open_next {S:Sp} {W:Nat→Nat} {x y:Dr} (P:PAt S W x) (h:y ∈ nextD S x):open_ y S.js.length+1=open_ x S.js.length:=by
  obtain ⟨job,i,hj,hi,hs⟩:=mem_nextD.1 h
  obtain ⟨hr,hc,hl,rfl⟩:=nextAt_some hs
  have:=open_with (js:=S.js) (w:=i) (P.ready hj hr).1 S.js.length
  rw [if_pos hj] at this
  exact this
theorem tryD_ok {S:Sp} (hS:S.Ok):∀ (f:Nat) (x:Dr) (W:Nat→Nat) (st:List Int × Int),PAt S W x→open_ x S.js.length < f→TryOk S (Rch S x) st (tryD S f x st):=by
  intro f
  induction f with
  | zero=>intro x W st _ h;omega
  | succ f ih =>
    intro x W st P hf
    simp only[tryD]
    split
    · rename_i hc
      simp only[cutD,Bool.and_eq_true,Bool.or_eq_true,decide_eq_true_eq,Bool.not_eq_true'] at hc
      have hb:BE (st.2,st.1) (leastD S x):=by
        rcases hc.2 with h|⟨h,h2⟩
        · exact .inl h
        · exact .inr ⟨h.symm,h2⟩
      exact ⟨fun z hz hd=>⟨hc.1,hb.trans (P.bounds hS hz)⟩,fun h=>⟨h,BE.refl _⟩,.inl rfl⟩
    · rename_i hc
      split
      · rename_i hd
        have h0:=P.least0 hS hd
        have e:((leastD S x).1,x.day)=leastD S x:=by rw [leastD_done P.sz hd]
        refine ⟨fun z hz _=>⟨h0,?_⟩,fun hst=>⟨h0,?_⟩,.inr ⟨x,.refl x,hd,rfl⟩⟩
        · dsimp only;rw [e];exact P.bounds hS hz
        · dsimp only;rw [e]
          simp only[cutD,Bool.not_eq_true,Bool.and_eq_false_iff,Bool.or_eq_false_iff,decide_eq_false_iff_not,Bool.not_eq_false'] at hc
          rcases hc with hc|⟨hc,hc2⟩
          · exact absurd hst hc
          · rcases Int.lt_or_le (leastD S x).1 st.2 with h|h
            · exact .inl h
            · have he:(leastD S x).1=st.2:=by omega
              rcases hc2 with hc2|hc2
              · exact absurd he hc2
              · exact .inr ⟨he,lex_total _ _ hc2⟩
      · rename_i hd
        have key:∀ (l:List Dr) (st:List Int × Int),(∀ y ∈ l,y ∈ nextD S x)→TryOk S (fun z=>∃ y ∈ l,Rch S y z) st (l.foldl (fun st y=>tryD S f y st) st):=by
          intro l
          induction l with
          | nil =>
            intro st _
            exact ⟨fun z hz _=>(by obtain ⟨_,h,_⟩:=hz;cases h),fun h=>⟨h,BE.refl _⟩,.inl rfl⟩
          | cons y l ihl =>
            intro st hy
            have hyn:=hy y (by simp)
            obtain ⟨W',P'⟩:=P.of_next hS hyn
            have h1:=ih y W' st P' (by have:=open_next P hyn;omega)
            have h2:=ihl (tryD S f y st) (fun y' hy'=>hy y' (by simp [hy']))
            simp only[List.foldl_cons]
            refine ⟨?_,?_,?_⟩
            · rintro z ⟨y',hy',hz⟩ hdz
              rcases List.mem_cons.1 hy' with rfl|hy'
              · obtain ⟨a,b⟩:=h1.all z hz hdz
                obtain ⟨c,d⟩:=h2.old a
                exact ⟨c,d.trans b⟩
              · exact h2.all z ⟨y',hy',hz⟩ hdz
            · intro h
              obtain ⟨a,b⟩:=h1.old h
              obtain ⟨c,d⟩:=h2.old a
              exact ⟨c,d.trans b⟩
            · rcases h2.one with h|⟨z,⟨y',hy',hz⟩,hdz,e⟩
              · rw [h]
                rcases h1.one with h|⟨z,hz,hdz,e⟩
                · exact .inl h
                · exact .inr ⟨z,⟨y,by simp,hz⟩,hdz,e⟩
              · exact .inr ⟨z,⟨y',by simp [hy'],hz⟩,hdz,e⟩
        have K:=key (nextD S x) st (fun y h=>h)
        refine ⟨fun z hz hdz=>?_,K.old,?_⟩
        · cases hz with
          | refl=>exact absurd hdz hd
          | step hy hz=>exact K.all z ⟨_,hy,hz⟩ hdz
        · rcases K.one with h|⟨z,⟨y,hy,hz⟩,hdz,e⟩
          · exact .inl h
          · exact .inr ⟨z,.step hy hz,hdz,e⟩
def pAt (p:List Sf) (i:Nat):Sf:=p.getD i ⟨0,0⟩
structure VP (S:Sp) (p:List Sf):Prop where
  len:p.length=S.js.length
  w:∀ i,i < S.js.length→0≤(pAt p i).w∧(pAt p i).w < S.ws.length∧(S.wk (pAt p i).w.toNat).can (S.j i).s=true∧0≤(pAt p i).d∧(pAt p i).d≤400
  ord:∀ k i,k < i→i < S.js.length→(S.j k).f=(S.j i).f→(pAt p k).d+(S.j k).d≤(pAt p i).d
  clash:∀ k i,k < i→i < S.js.length→(pAt p k).w=(pAt p i).w→(pAt p k).d+(S.j k).d≤(pAt p i).d ∨ (pAt p i).d+(S.j i).d≤(pAt p k).d
theorem VP.val {S:Sp} (hS:S.Ok) {p:List Sf} (h:VP S p):S.sch.Val (fun i=>(pAt p i).w.toNat) (fun i=>(pAt p i).d):=by
  refine ⟨fun i hi=>?_,fun k i hki hi hf=>?_,fun k i hki hi hw=>?_⟩
  · obtain ⟨a,b,c,d,_⟩:=h.w i hi
    refine ⟨?_,c,d⟩
    show (pAt p i).w.toNat < S.ws.length
    omega
  · have hf':(S.j k).f.toNat=(S.j i).f.toNat:=hf
    have h1:=(hS.j (show i < S.js.length from hi)).1
    have h2:=(hS.j (Nat.lt_trans hki (show i < S.js.length from hi))).1
    exact h.ord k i hki hi (by omega)
  · have hw':(pAt p k).w.toNat=(pAt p i).w.toNat:=hw
    have h1:=(h.w i hi).1
    have h2:=(h.w k (Nat.lt_trans hki hi)).1
    exact h.clash k i hki hi (by omega)
def takesTo (js:List Jb) (p:List Sf):Nat→Int
  | 0=>0
  | i+1=>max (takesTo js p i) ((pAt p i).d+(jOf js i).d)
def takesP (S:Sp) (p:List Sf):Int:=takesTo S.js p S.js.length
theorem takesTo_ge {js:List Jb} {p:List Sf}:∀ {n i:Nat},i < n→(pAt p i).d+(jOf js i).d≤takesTo js p n:=by
  intro n
  induction n with
  | zero=>intro i h;omega
  | succ n ih =>
    intro i h
    simp only[takesTo]
    by_cases e:i=n
    · subst e;omega
    · have:=ih (i:=i) (by omega);omega
theorem takesTo_nonneg {js:List Jb} {p:List Sf}:∀ n,0≤takesTo js p n:=by
  intro n
  induction n with
  | zero=>exact Int.le_refl _
  | succ n ih=>simp only[takesTo];omega
theorem takesTo_cases {js:List Jb} {p:List Sf}:∀ n,takesTo js p n=0 ∨ ∃ i,i < n∧takesTo js p n=(pAt p i).d+(jOf js i).d:=by
  intro n
  induction n with
  | zero=>exact .inl rfl
  | succ n ih =>
    simp only[takesTo]
    rcases Int.le_total (takesTo js p n) ((pAt p n).d+(jOf js n).d) with h|h
    · right;exact ⟨n,by omega,Int.max_eq_right h⟩
    · rw [Int.max_eq_left h]
      rcases ih with e|⟨i,hi,e⟩
      · exact .inl e
      · exact .inr ⟨i,by omega,e⟩
def clashD (js:List Jb) (p:List Sf) (day:Int) (i:Nat):Bool :=
  (List.range p.length).any fun k=>decide ((pAt p k).w=i) && decide (day < (pAt p k).d+(jOf js k).d) && decide ((pAt p k).d < day+(jOf js p.length).d)
def staffAt (S:Sp) (days:List Int) (p:List Sf) (i:Nat):Bool:=(S.wk i).can (S.j p.length).s && !clashD S.js p (days.getD p.length 0) i
def staffD (S:Sp) (days:List Int):Nat→List Sf→Option (List Sf)
  | 0,_=>none
  | f+1,p=>if p.length=S.js.length then some p else
      (List.range S.ws.length).findSome? fun i=>if staffAt S days p i then staffD S days f (p ++ [⟨i,days.getD p.length 0⟩]) else none
structure Stf (S:Sp) (days:List Int) (p:List Sf) (n:Nat):Prop where
  w:∀ i,i < n→0≤(pAt p i).w∧(pAt p i).w < S.ws.length∧(S.wk (pAt p i).w.toNat).can (S.j i).s=true∧(pAt p i).d=days.getD i 0
  clash:∀ k i,k < i→i < n→(pAt p k).w=(pAt p i).w→(pAt p k).d+(S.j k).d≤(pAt p i).d ∨ (pAt p i).d+(S.j i).d≤(pAt p k).d
theorem pAt_append {p:List Sf} {x:Sf} {k:Nat} (h:k < p.length):pAt (p ++ [x]) k=pAt p k:=by
  simp only[pAt,List.getD_eq_getElem?_getD,List.getElem?_append_left h]
theorem pAt_last {p:List Sf} {x:Sf}:pAt (p ++ [x]) p.length=x:=by
  simp [pAt,List.getD_eq_getElem?_getD]
theorem Stf.snoc {S:Sp} {days:List Int} {p:List Sf} (h:Stf S days p p.length) {i:Nat} (hi:i < S.ws.length) (ha:staffAt S days p i=true):Stf S days (p ++ [⟨i,days.getD p.length 0⟩]) (p.length+1):=by
  simp only[staffAt,Bool.and_eq_true,Bool.not_eq_true',clashD,List.any_eq_false,List.mem_range,Bool.and_eq_true,decide_eq_true_eq] at ha
  obtain ⟨h1,h2⟩:=ha
  refine ⟨fun k hk=>?_,fun k j hkj hj hw=>?_⟩
  · by_cases e:k=p.length
    · subst e
      rw [pAt_last]
      exact ⟨by simp,by simpa using hi,by simpa using h1,rfl⟩
    · rw [pAt_append (by omega)];exact h.w k (by omega)
  · by_cases e:j=p.length
    · subst e
      rw [pAt_append (by omega)] at hw ⊢
      rw [pAt_last] at hw ⊢
      have:=h2 k (by omega)
      have e1:(S.j p.length).d=(jOf S.js p.length).d:=rfl
      have e2:(S.j k).d=(jOf S.js k).d:=rfl
      dsimp only at hw ⊢
      rw [e1,e2]
      apply Classical.byContradiction
      intro hc
      exact this ⟨⟨hw,by omega⟩,by omega⟩
    · rw [pAt_append (by omega),pAt_append (by omega)] at *
      exact h.clash k j hkj (by omega) hw
theorem Stf.at_ {S:Sp} {days:List Int} {q:List Sf} {n:Nat} (h:Stf S days q n) {p:List Sf} (hp:∀ k,k < p.length→pAt p k=pAt q k) (hn:p.length < n):staffAt S days p (pAt q p.length).w.toNat=true:=by
  obtain ⟨a,b,c,d⟩:=h.w p.length hn
  simp only[staffAt,Bool.and_eq_true,Bool.not_eq_true',clashD,List.any_eq_false,List.mem_range,Bool.and_eq_true,decide_eq_true_eq]
  refine ⟨c,fun k hk=>?_⟩
  rintro ⟨⟨h1,h2⟩,h3⟩
  rw [hp k hk] at h1 h2 h3
  have:=h.clash k p.length hk hn (by omega)
  rw [d] at this
  have e1:(S.j p.length).d=(jOf S.js p.length).d:=rfl
  have e2:(S.j k).d=(jOf S.js k).d:=rfl
  omega
def WLe (n:Nat) (p q:List Sf):Prop:=(∀ i,i < n→(pAt p i).w=(pAt q i).w) ∨ ∃ i,i < n∧(pAt p i).w < (pAt q i).w∧∀ k,k < i→(pAt p k).w=(pAt q k).w
theorem staffD_ok {S:Sp} {days:List Int}:∀ (f:Nat) (p:List Sf),S.js.length < p.length+f→p.length≤S.js.length→Stf S days p p.length →
    (∀ r,staffD S days f p=some r→r.length=S.js.length∧Stf S days r S.js.length∧∀ k,k < p.length→pAt r k=pAt p k) ∧
    (∀ q,Stf S days q S.js.length→(∀ k,k < p.length→pAt p k=pAt q k)→∃ r,staffD S days f p=some r∧WLe S.js.length r q):=by
  intro f
  induction f with
  | zero=>intro p h1 h2 _;omega
  | succ f ih =>
    intro p h1 h2 hs
    by_cases hn:p.length=S.js.length
    · have e:staffD S days (f+1) p=some p:=by simp only[staffD,hn,if_true]
      refine ⟨fun r hr=>?_,fun q hq hpq=>⟨p,e,.inl fun i hi=>by rw [hpq i (by omega)]⟩⟩
      rw [e] at hr;cases hr
      exact ⟨hn,hn ▸ hs,fun _ _=>rfl⟩
    · have e:staffD S days (f+1) p=(List.range S.ws.length).findSome? fun i=>if staffAt S days p i then staffD S days f (p ++ [⟨i,days.getD p.length 0⟩]) else none:=by
        simp only[staffD,if_neg hn]
      have sub:∀ i,i < S.ws.length→staffAt S days p i=true→_:=fun i hi ha=>ih (p ++ [⟨i,days.getD p.length 0⟩]) (by simp;omega) (by simp;omega) (by simpa using hs.snoc hi ha)
      refine ⟨fun r hr=>?_,fun q hq hpq=>?_⟩
      · rw [e] at hr
        obtain ⟨i,hi,h⟩:=List.exists_of_findSome?_eq_some hr
        rw [List.mem_range] at hi
        split at h
        · rename_i ha
          obtain ⟨a,b,c⟩:=(sub i hi ha).1 r h
          refine ⟨a,b,fun k hk=>?_⟩
          rw [c k (by simp;omega),pAt_append hk]
        · cases h
      · have hlt:p.length < S.js.length:=by omega
        obtain ⟨a,b,c,d⟩:=hq.w p.length hlt
        have ha:=hq.at_ hpq hlt
        have hw:(pAt q p.length).w.toNat < S.ws.length:=by omega
        obtain ⟨r0,hr0,hle0⟩:=(sub _ hw ha).2 q hq (fun k hk=>by
          simp at hk
          by_cases ek:k=p.length
          · subst ek;rw [pAt_last]
            have:pAt q p.length=⟨(pAt q p.length).w,(pAt q p.length).d⟩:=rfl
            rw [this,d];congr 1;dsimp only;omega
          · rw [pAt_append (by omega)];exact hpq k (by omega))
        have hsome:((List.range S.ws.length).findSome? fun i=>if staffAt S days p i then staffD S days f (p ++ [⟨i,days.getD p.length 0⟩]) else none).isSome=true:=by
          rw [List.findSome?_isSome_iff]
          exact ⟨_,List.mem_range.2 hw,by rw [if_pos ha,hr0];rfl⟩
        obtain ⟨r,hr⟩:=Option.isSome_iff_exists.1 hsome
        refine ⟨r,by rw [e];exact hr,?_⟩
        obtain ⟨l1,i,l2,hl,hfi,hbefore⟩:=List.findSome?_eq_some_iff.1 hr
        have hlen:l1.length=i∧i < S.ws.length:=by
          have h3:(List.range S.ws.length)[l1.length]?=some i:=by rw [hl];simp
          rw [List.getElem?_eq_some_iff] at h3
          obtain ⟨h4,h5⟩:=h3
          simp at h4 h5
          omega
        have hmem:∀ j,j < i→j ∈ l1:=by
          intro j hj
          have h3:(List.range S.ws.length)[j]?=some j:=List.getElem?_range (by omega)
          rw [hl,List.getElem?_append_left (by omega)] at h3
          exact List.mem_of_getElem? h3
        have hile:i≤(pAt q p.length).w.toNat:=by
          apply Nat.le_of_not_lt
          intro hlt2
          have:=hbefore _ (hmem _ hlt2)
          rw [if_pos ha,hr0] at this
          cases this
        split at hfi
        · rename_i hai
          obtain ⟨ra,rb,rc⟩:=(sub i hlen.2 hai).1 r hfi
          by_cases ei:i=(pAt q p.length).w.toNat
          · rw [ei,hr0] at hfi
            cases hfi
            exact hle0
          · right
            refine ⟨p.length,hlt,?_,fun k hk=>?_⟩
            · rw [rc p.length (by simp),pAt_last];dsimp only;omega
            · rw [rc k (by simp;omega),pAt_append hk,hpq k hk]
        · cases hfi
def dsP (p:List Sf):List Int:=p.map Sf.d
def wsP (p:List Sf):List Int:=p.map Sf.w
def bef (a b:List Sf):Bool:=if dsP a=dsP b then lexLt (wsP a) (wsP b) else lexLt (dsP a) (dsP b)
structure BestOk (S:Sp) (p:List Sf) (t:Int):Prop where
  vp:VP S p
  takes:t=takesP S p
  best:∀ q,VP S q→t < takesP S q ∨ t=takesP S q∧bef q p=false
theorem bef_antisymm {p q:List Sf} (hl:p.length=q.length) (h:bef p q=false) (k:bef q p=false):p=q:=by
  unfold bef at h k
  by_cases e:dsP p=dsP q
  · rw [if_pos e] at h
    rw [if_pos e.symm] at k
    have e2:=lex_antisymm _ _ k h
    apply List.ext_getElem? 
    intro i
    have h1:=congrArg (fun l=>l[i]?) e
    have h2:=congrArg (fun l=>l[i]?) e2
    simp only[dsP,wsP,List.getElem?_map] at h1 h2
    cases hp:p[i]? with
    | none=>rw [hp] at h1;cases hq:q[i]? with
      | none=>rfl
      | some b=>rw [hq] at h1;simp at h1
    | some a=>rw [hp] at h1 h2;cases hq:q[i]? with
      | none=>rw [hq] at h1;simp at h1
      | some b =>
        rw [hq] at h1 h2
        simp only[Option.map_some,Option.some.injEq] at h1 h2
        congr 1
        cases a;cases b;simp_all
  · rw [if_neg e] at h
    rw [if_neg (fun e2=>e e2.symm)] at k
    exact absurd (lex_antisymm _ _ k h) e
theorem BestOk.uniq {S:Sp} {p q:List Sf} {t u:Int} (h:BestOk S p t) (k:BestOk S q u):p=q∧t=u:=by
  have h1:=h.best q k.vp
  have h2:=k.best p h.vp
  rw [← k.takes] at h1
  rw [← h.takes] at h2
  have e:t=u:=by omega
  refine ⟨bef_antisymm (by rw [h.vp.len,k.vp.len]) ?_ ?_,e⟩
  · rcases h2 with h2|h2
    · omega
    · exact h2.2
  · rcases h1 with h1|h1
    · omega
    · exact h1.2
def Manned (S:Sp):Prop:=∀ i,i < S.js.length→∃ w,w < S.ws.length∧(S.wk w).can (S.j i).s=true
def seqT (S:Sp):Nat→Int
  | 0=>0
  | i+1=>seqT S i+(S.j i).d
theorem seqT_mono {S:Sp} (hS:S.Ok) {i:Nat}:∀ {k:Nat},k≤S.js.length→i < k→seqT S i+(S.j i).d≤seqT S k:=by
  intro k
  induction k with
  | zero=>intro _ h;omega
  | succ k ih =>
    intro hk h
    simp only[seqT]
    by_cases e:i=k
    · subst e;omega
    · have:=ih (by omega) (by omega)
      have:=hS.d k (show k < S.js.length by omega)
      have e2:S.sch.d k=(S.j k).d:=rfl
      omega
theorem seqT_nonneg {S:Sp} (hS:S.Ok):∀ {k:Nat},k≤S.js.length→0≤seqT S k:=by
  intro k
  induction k with
  | zero=>intro _;exact Int.le_refl _
  | succ k ih =>
    intro hk
    simp only[seqT]
    have:=ih (by omega)
    have:=hS.d k (show k < S.js.length by omega)
    have e2:S.sch.d k=(S.j k).d:=rfl
    omega
theorem Manned.val {S:Sp} (hS:S.Ok) (h:Manned S):∃ W T,S.sch.Val W T:=by
  classical
  have hM:∀ i,i < S.js.length→∃ w,w < S.ws.length∧(S.wk w).can (S.j i).s=true:=h
  let W:Nat→Nat:=fun i=>if hi:i < S.js.length then (hM i hi).choose else 0
  have hW:∀ i,i < S.js.length→W i < S.ws.length∧(S.wk (W i)).can (S.j i).s=true:=by
    intro i hi
    simp only[W,dif_pos hi]
    exact (hM i hi).choose_spec
  exact ⟨W,seqT S,fun i hi=>⟨(hW i hi).1,(hW i hi).2,seqT_nonneg hS (Nat.le_of_lt hi)⟩,fun k i hki hi _=>seqT_mono hS (Nat.le_of_lt hi) hki,fun k i hki hi _=>.inl (seqT_mono hS (Nat.le_of_lt hi) hki)⟩
structure Low (S:Sp) (x:Dr):Prop where
  h:∀ w,x.hands.getD w 0+30 * open_ x S.js.length≤30 * S.js.length
  f:∀ g,x.fls.getD g 0+30 * open_ x S.js.length≤30 * S.js.length
theorem Low.next {S:Sp} (hS:S.Ok) {W:Nat→Nat} {x:Dr} (P:PAt S W x) (L:Low S x) {job i:Nat} (hj:job < S.js.length) (hi:i < S.ws.length) (hp:x.pl.testBit job=false):Low S (withD S.js x job i):=by
  have h1:=open_with (js:=S.js) (w:=i) hp S.js.length
  rw [if_pos hj] at h1
  have hm4:=hS.m4
  have hjk:=hS.j hj
  have hf7:(S.j job).f.toNat < 7:=by unfold Jb.Ok at hjk;omega
  have hd30:(S.j job).d≤30:=hjk.2.2.2.2.2
  have hl:(withD S.js x job i).last=max (x.hands.getD i 0) (x.fls.getD (S.j job).f.toNat 0):=rfl
  have a:=L.h i
  have b:=L.f (S.j job).f.toNat
  refine ⟨fun w=>?_,fun g=>?_⟩
  · have:(withD S.js x job i).hands=x.hands.set i ((withD S.js x job i).last+(S.j job).d):=rfl
    rw [this,getD_set _ _ _ _ _ (by rw [P.sz.hands];omega),hl]
    have:=L.h w
    split <;> omega
  · have:(withD S.js x job i).fls=x.fls.set (S.j job).f.toNat ((withD S.js x job i).last+(S.j job).d):=rfl
    rw [this,getD_set _ _ _ _ _ (by rw [P.sz.fls];omega),hl]
    have:=L.f g
    split <;> omega
theorem open_dr0:∀ n,open_ dr0 n=n:=by
  intro n
  induction n with
  | zero=>rfl
  | succ n ih =>
    have e:dr0.pl.testBit n=false:=by simp [dr0]
    simp only[open_,ih,e,Bool.false_eq_true,if_false]
theorem Low.start (S:Sp):Low S dr0:=by
  have h:=open_dr0 S.js.length
  refine ⟨fun w=>?_,fun w=>?_⟩
  · rw [h,show dr0.hands=List.replicate 4 0 from rfl,getD_rep];omega
  · rw [h,show dr0.fls=List.replicate 7 0 from rfl,getD_rep];omega
theorem Low.of_rch {S:Sp} (hS:S.Ok) {x z:Dr} (h:Rch S x z):∀ {W:Nat→Nat},PAt S W x→Low S x→Low S z:=by
  induction h with
  | refl x=>exact fun _ L=>L
  | step hy _ ih =>
    intro W P L
    obtain ⟨W',P'⟩:=P.of_next hS hy
    obtain ⟨job,i,hj,hi,hs⟩:=mem_nextD.1 hy
    obtain ⟨a,b,_,rfl⟩:=nextAt_some hs
    exact ih P' (L.next hS P hj hi (P.ready hj a).1)
def planOf (W:Nat→Nat) (x:Dr) (n:Nat):List Sf:=(List.range n).map fun i=>⟨W i,x.day.getD i 0⟩
theorem pAt_planOf {W:Nat→Nat} {x:Dr} {n i:Nat} (h:i < n):pAt (planOf W x n) i=⟨W i,x.day.getD i 0⟩:=by
  simp [pAt,planOf,List.getD_eq_getElem?_getD,h]
theorem PAt.d400 {S:Sp} (hS:S.Ok) {W:Nat→Nat} {x:Dr} (P:PAt S W x) (L:Low S x) {i:Nat} (hi:i < S.js.length) (hb:x.pl.testBit i=true):x.day.getD i 0≤400:=by
  have h1:=P.h1 i hi hb
  have h2:=L.h (W i)
  have h3:=hS.n7
  have h4:=hS.d i hi
  have e2:S.sch.d i=(S.j i).d:=rfl
  omega
theorem PAt.vp {S:Sp} (hS:S.Ok) {W:Nat→Nat} {x:Dr} (P:PAt S W x) (L:Low S x) (hd:done S x=true):VP S (planOf W x S.js.length):=by
  have hall:=(done_iff P.sz).1 hd
  refine ⟨by simp [planOf],fun i hi=>?_,fun k i hki hi hf=>?_,fun k i hki hi hw=>?_⟩
  · rw [pAt_planOf hi]
    obtain ⟨a,b,c⟩:=P.v i hi (hall i hi)
    exact ⟨by simp,by simpa using a,by simpa using b,c,P.d400 hS L hi (hall i hi)⟩
  · rw [pAt_planOf hi,pAt_planOf (Nat.lt_trans hki hi)]
    exact (P.ord k i hki hi (hall i hi) hf).2
  · rw [pAt_planOf hi,pAt_planOf (Nat.lt_trans hki hi)] at *
    exact P.clash k i hki hi (hall k (Nat.lt_trans hki hi)) (hall i hi) (by dsimp only at hw;omega)
theorem PAt.takes {S:Sp} (hS:S.Ok) {W:Nat→Nat} {x:Dr} (P:PAt S W x) (hd:done S x=true) {p:List Sf} (hp:∀ i,i < S.js.length→(pAt p i).d=x.day.getD i 0):takesP S p=maxL (x.fls ++ x.hands):=by
  have hall:=(done_iff P.sz).1 hd
  have hm4:=hS.m4
  apply Int.le_antisymm
  · rcases takesTo_cases (js:=S.js) (p:=p) S.js.length with e|⟨i,hi,e⟩
    · unfold takesP;rw [e]
      exact Int.le_trans ((P.nonneg hS).2.1 0) (maxL_ge (List.mem_append.2 (.inr (getD_mem (by rw [P.sz.hands];omega)))))
    · unfold takesP;rw [e,hp i hi]
      have h1:=P.h1 i hi (hall i hi)
      have h2:=(P.v i hi (hall i hi)).1
      exact Int.le_trans h1 (maxL_ge (List.mem_append.2 (.inr (getD_mem (by rw [P.sz.hands];omega)))))
  · have hne:x.fls ++ x.hands ≠ []:=by intro e;have:=congrArg List.length e;simp [P.sz.hands] at this
    have hk:∀ k,k < S.js.length→x.day.getD k 0+(S.j k).d≤takesP S p:=fun k hk=>by rw [← hp k hk];exact takesTo_ge hk
    have h0:0≤takesP S p:=takesTo_nonneg _
    rcases List.mem_append.1 (maxL_mem hne) with h|h
    · obtain ⟨g,_,e⟩:=mem_getD h
      rw [← e]
      rcases P.f2 g with e2|⟨k,hk1,_,_,e2⟩
      · omega
      · rw [← e2];exact hk k hk1
    · obtain ⟨g,_,e⟩:=mem_getD h
      rw [← e]
      rcases P.h2 g with e2|⟨k,hk1,_,_,e2⟩
      · omega
      · rw [← e2];exact hk k hk1
def bestD (S:Sp):List Sf × Int :=
  let r:=tryD S (S.js.length+1) dr0 (List.replicate 7 0,-1)
  ((staffD S r.1 (S.js.length+1) []).getD [],r.2)
theorem lex_app:∀ (a b c:List Int),a.length=b.length→lexLt (a ++ c) (b ++ c)=lexLt a b
  | [],[],c,_=>by simp only[List.nil_append];rw [lex_irrefl];rfl
  | [],_ :: _,_,h=>by simp at h
  | _ :: _,[],_,h=>by simp at h
  | a :: l,b :: k,c,h=>by
    simp only[List.cons_append,lexLt]
    rw [lex_app l k c (by simpa using h)]
theorem days_pad {S:Sp} (hS:S.Ok) {x:Dr} (h:x.Sz S) {p:List Sf} (hl:p.length=S.js.length) (hp:∀ i,i < S.js.length→(pAt p i).d=x.day.getD i 0):x.day=dsP p ++ List.replicate (7 - S.js.length) 0:=by
  have hn7:=hS.n7
  apply List.ext_getElem?
  intro i
  rw [List.getElem?_append]
  simp only[dsP,List.length_map,hl]
  split
  · rename_i hi
    have h1:=hp i hi
    rw [List.getElem?_map]
    simp only[pAt,List.getD_eq_getElem?_getD] at h1
    have hx:i < x.day.length:=by rw [h.day];omega
    have hy:i < p.length:=by omega
    rw [List.getElem?_eq_getElem hx,List.getElem?_eq_getElem hy] at h1
    rw [List.getElem?_eq_getElem hx,List.getElem?_eq_getElem hy]
    simpa using h1.symm
  · rename_i hi
    rw [List.getElem?_replicate]
    split
    · have h1:=h.pad i (by omega)
      rw [List.getD_eq_getElem?_getD,List.getElem?_eq_getElem (by rw [h.day];omega)] at h1
      rw [List.getElem?_eq_getElem (by rw [h.day];omega)]
      simpa using h1
    · rw [List.getElem?_eq_none (by rw [h.day];omega)]
theorem WLe.lex {p q:List Sf} {n:Nat} (hp:p.length=n) (hq:q.length=n) (h:WLe n p q):lexLt (wsP q) (wsP p)=false:=by
  induction p generalizing q n with
  | nil =>
    cases q with
    | nil=>rfl
    | cons b q=>simp at hp hq;omega
  | cons a p ih =>
    cases q with
    | nil=>simp at hp hq;omega
    | cons b q =>
      cases n with
      | zero=>simp at hp
      | succ n =>
        simp only[wsP,List.map_cons,lexLt]
        rcases h with h|⟨i,hi,hlt,hb⟩
        · have h0:a.w=b.w:=h 0 (by omega)
          rw [if_pos h0.symm]
          exact ih (by simpa using hp) (by simpa using hq) (.inl fun i hi=>h (i+1) (by omega))
        · cases i with
          | zero =>
            have h0:a.w < b.w:=hlt
            rw [if_neg (by omega)]
            simp;omega
          | succ i =>
            have h0:a.w=b.w:=hb 0 (by omega)
            rw [if_pos h0.symm]
            exact ih (by simpa using hp) (by simpa using hq) (.inr ⟨i,by omega,hlt,fun k hk=>hb (k+1) (by omega)⟩)
theorem bestD_ok {S:Sp} (hS:S.Ok) (hM:Manned S):BestOk S (bestD S).1 (bestD S).2:=by
  have P0:PAt S (fun _=>0) dr0:=PAt.start S _
  have K:=tryD_ok hS (S.js.length+1) dr0 _ (List.replicate 7 0,-1) P0 (by have:=open_le dr0 S.js.length;omega)
  generalize hr:tryD S (S.js.length+1) dr0 (List.replicate 7 0,-1)=r at K
  have hcome:∀ W T,S.sch.Val W T→∃ z W' T',Rch S dr0 z∧done S z=true∧DAt S W' T' z∧∀ i,i < S.js.length→T' i≤T i:=by
    intro W T hv
    obtain ⟨T',a,b,c⟩:=Sch.Val.tight hS.d (tot T S.sch.n) T (Nat.le_refl _) hv
    obtain ⟨z,W',d,e,f⟩:=DAt.reach hS _ dr0 W rfl (DAt.start a b)
    exact ⟨z,W',T',d,e,f,c⟩
  obtain ⟨W0,T0,hv0⟩:=hM.val hS
  obtain ⟨z1,_,_,hz1,hd1,_,_⟩:=hcome W0 T0 hv0
  have hr0:=(K.all z1 hz1 hd1).1
  obtain ⟨z0,hz0,hd0,hr1⟩:∃ z,Rch S dr0 z∧done S z=true∧r=(z.day,(leastD S z).1):=by
    rcases K.one with h|h
    · rw [h] at hr0;simp at hr0
    · exact h
  obtain ⟨W1,P1⟩:=PAt.of_rch hS hz0 P0
  have L1:=Low.of_rch hS hz0 P0 (Low.start S)
  have hall0:=(done_iff P1.sz).1 hd0
  have hq0:Stf S r.1 (planOf W1 z0 S.js.length) S.js.length:=by
    rw [hr1]
    refine ⟨fun i hi=>?_,fun k i hki hi hw=>?_⟩
    · rw [pAt_planOf hi]
      obtain ⟨a,b,c⟩:=P1.v i hi (hall0 i hi)
      exact ⟨by simp,by simpa using a,by simpa using b,rfl⟩
    · rw [pAt_planOf hi,pAt_planOf (Nat.lt_trans hki hi)] at *
      exact P1.clash k i hki hi (hall0 k (Nat.lt_trans hki hi)) (hall0 i hi) (by dsimp only at hw;omega)
  have hst:=staffD_ok (S:=S) (days:=r.1) (S.js.length+1) [] (by simp) (by simp) ⟨fun i hi=>by simp at hi,fun k i _ hi=>by simp at hi⟩
  obtain ⟨p,hp,_⟩:=hst.2 _ hq0 (fun k hk=>by simp at hk)
  obtain ⟨hpl,hpS,_⟩:=hst.1 p hp
  have hb:bestD S=(p,r.2):=by unfold bestD;simp only[hr,hp];rfl
  rw [hb]
  have hpd:∀ i,i < S.js.length→(pAt p i).d=z0.day.getD i 0:=fun i hi=>by rw [(hpS.w i hi).2.2.2,hr1]
  have hvp:VP S p:=by
    refine ⟨hpl,fun i hi=>?_,fun k i hki hi hf=>?_,hpS.clash⟩
    · obtain ⟨a,b,c,d⟩:=hpS.w i hi
      refine ⟨a,b,c,?_,?_⟩
      · rw [hpd i hi];exact (P1.nonneg hS).1 i
      · rw [hpd i hi];exact P1.d400 hS L1 hi (hall0 i hi)
    · rw [hpd i hi,hpd k (Nat.lt_trans hki hi)]
      exact (P1.ord k i hki hi (hall0 i hi) hf).2
  have htk:r.2=takesP S p:=by
    rw [P1.takes hS hd0 hpd,hr1]
    dsimp only
    rw [leastD_done P1.sz hd0]
  refine ⟨hvp,htk,fun q hq=>?_⟩
  obtain ⟨z,W',T',hz,hd,D,hle⟩:=hcome _ _ (hq.val hS)
  obtain ⟨W2,P2⟩:=PAt.of_rch hS hz P0
  have hallz:=(done_iff P2.sz).1 hd
  have hbe:=(K.all z hz hd).2
  have hzd:∀ i,i < S.js.length→z.day.getD i 0≤(pAt q i).d:=fun i hi=>by rw [D.day i hi (hallz i hi)];exact hle i hi
  have htz:=P2.takes hS hd (p:=planOf W2 z S.js.length) (fun i hi=>by rw [pAt_planOf hi])
  have hzq:takesP S (planOf W2 z S.js.length)≤takesP S q:=by
    rcases takesTo_cases (js:=S.js) (p:=planOf W2 z S.js.length) S.js.length with e|⟨i,hi,e⟩
    · unfold takesP;rw [e];exact takesTo_nonneg _
    · unfold takesP;rw [e,pAt_planOf hi]
      have h1:=hzd i hi
      have h2:=takesTo_ge (js:=S.js) (p:=q) hi
      dsimp only
      omega
  rw [leastD_done P2.sz hd,← htz] at hbe
  rcases hbe with h|⟨h,h2⟩
  · left;dsimp only at h;omega
  · dsimp only at h h2
    rcases Int.lt_or_le r.2 (takesP S q) with h3|h3
    · exact .inl h3
    · right
      refine ⟨by omega,?_⟩
      have hx:lexLt (dsP q) (dsP p)=false:=by
        have e1:=days_pad hS P1.sz hpl hpd
        have hpz:(planOf W2 z S.js.length).length=S.js.length:=by simp [planOf]
        have e2:=days_pad hS P2.sz hpz (fun i hi=>by rw [pAt_planOf hi])
        rw [hr1] at h2
        dsimp only at h2
        rw [e1,e2,lex_app _ _ _ (by simp [dsP,hpz,hpl])] at h2
        refine lex_trans _ _ _ h2 (lex_pw _ _ (by simp [dsP,hpz,hq.len]) fun i=>?_)
        by_cases hi:i < S.js.length
        · have h5:=hzd i hi
          have h6:(dsP (planOf W2 z S.js.length)).getD i 0=z.day.getD i 0:=by
            simp [dsP,planOf,List.getD_eq_getElem?_getD,hi]
          have h7:(dsP q).getD i 0=(pAt q i).d:=by
            simp only[dsP,pAt,List.getD_eq_getElem?_getD,List.getElem?_map]
            cases q[i]? <;> rfl
          rw [h6,h7];exact h5
        · rw [List.getD_eq_getElem?_getD,List.getElem?_eq_none (by simp [dsP,planOf];omega)]
          rw [List.getD_eq_getElem?_getD,List.getElem?_eq_none (by simp [dsP,hq.len];omega)]
          exact Int.le_refl _
      unfold bef
      split
      · rename_i e
        have hqd:∀ i,i < S.js.length→(pAt q i).d=r.1.getD i 0:=by
          intro i hi
          rw [hr1];dsimp only
          rw [← hpd i hi]
          have h7:∀ l:List Sf,(dsP l).getD i 0=(pAt l i).d:=fun l=>by
            simp only[dsP,pAt,List.getD_eq_getElem?_getD,List.getElem?_map]
            cases l[i]? <;> rfl
          rw [← h7,← h7,e]
        obtain ⟨r2,hr2,hle2⟩:=hst.2 q ⟨fun i hi=>⟨(hq.w i hi).1,(hq.w i hi).2.1,(hq.w i hi).2.2.1,hqd i hi⟩,hq.clash⟩ (fun k hk=>by simp at hk)
        rw [hp] at hr2;cases hr2
        exact hle2.lex hpl hq.len
      · exact hx
end Go.Proofs.YtaijkalhkgjakaaDoor
