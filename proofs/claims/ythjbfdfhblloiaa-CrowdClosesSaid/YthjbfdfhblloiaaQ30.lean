/- Contracts of functions that the claim reaches: what each call gives, told in our own logic. Conditions: those of each theorem. -/
import Derived.Test.YthjbfdfhblloiaaBaseD
import Derived.Test.YthjbfdfhblloiaaQ18
import Derived.Test.YthjbfdfhblloiaaQ11
import Derived.Test.YthjbfdfhblloiaaQ3
open Nat (reduceAdd reduceMul reduceEqDiff reduceLeDiff)
open List (length_map)
set_option linter.all false
set_option linter.unusedSimpArgs false
set_option linter.unusedVariables false
namespace Go.Proofs.Ythjbfdfhblloiaa
open Go.Av
attribute [local irreducible] thenA blockA awp awpOps awpD awp1
set_option maxHeartbeats 8000000
set_option maxRecDepth 20000
def rowA (r : List Int) : List AV:=[.lst 1 (r.map iv)]
def lel (l : List (List Int)) (i : Nat) : List Int:=l.getD i []
@[go_sem] theorem rowA_getD {l : List (List Int)} {i : Nat} (h : i < l.length) : (l.map rowA).getD i [] = [.lst 1 ((lel l i).map iv)]:=by
  simp [lel,rowA,List.getD_eq_getElem?_getD,h]
theorem lel_mem {l : List (List Int)} {i : Nat} (h : i < l.length) : lel l i ∈ l:=by
  unfold lel;rw [List.getD_eq_getElem?_getD,List.getElem?_eq_getElem h];exact List.getElem_mem h
def rowsN (bs : Nat → Nat × Nat) (t : List (List Int)) : List (List AV):=(List.range t.length).map fun j => nrow (bs j) ((lel t j).map iv)
theorem rowsN_len (bs : Nat → Nat × Nat) (t : List (List Int)) : (rowsN bs t).length = t.length:=by simp [rowsN]
theorem lel_app {t : List (List Int)} {r : List Int} {j : Nat} (h : j < t.length) : lel (t ++ [r]) j = lel t j:=by
  unfold lel;simp only [List.getD_eq_getElem?_getD];rw [List.getElem?_append_left h]
theorem lel_last {t : List (List Int)} {r : List Int} : lel (t ++ [r]) t.length = r:=by
  unfold lel;simp only [List.getD_eq_getElem?_getD];simp
theorem rowsN_next {bs bs' : Nat → Nat × Nat} {t : List (List Int)} {r : List Int} (h : ∀ j,j < t.length → bs' j = bs j) : rowsN bs' (t ++ [r]) = rowsN bs t ++ [[.slc (bs' t.length) 1 0 r.length]]:=by
  unfold rowsN
  rw [List.length_append,List.length_cons,List.length_nil,Nat.zero_add,List.range_succ,List.map_append]
  congr 1
  · exact List.map_congr_left fun j hj => by rw [h j (List.mem_range.1 hj),lel_app (List.mem_range.1 hj)]
  · simp [nrow,lel_last]
structure RowsN (n0 : Nat) (g : AH) (v : AV) (bs : Nat → Nat × Nat) (t : List (List Int)) : Prop where
  at_ : ∀ j,j < t.length → g.at_ (bs j) = some ⟨1,(lel t j).map iv⟩
  ge : ∀ j,j < t.length → n0 ≤ (bs j).1
  lt : ∀ j,j < t.length → (bs j).1 < g.clk
  ne : ∀ j,j < t.length → ∀ m,v ≠ .slc (bs j) 1 0 m
  inj : ∀ j k,j < t.length → k < t.length → bs j = bs k → j = k
theorem RowsN.add {n0 k0 d N nn : Nat} {g H G : AH} {v v' : AV} {bs : Nat → Nat × Nat} {t : List (List Int)} {row : List Int} {bb : Nat × Nat} {l : List (List AV)} (hA : AppA n0 k0 d H v 1 nn l v' G) (hR : RowsN n0 g v bs t) (hS : SlA n0 g v 1 (rowsN bs t)) (hH : ∀ b : Bid,b.1 < g.clk → H.at_ b = g.at_ b) (hbb : H.at_ bb = some ⟨1,row.map iv⟩) (hb1 : g.clk ≤ bb.1) (hbN : bb.1 < N) (hbd : bb ≠ (k0,d)) (hk0 : g.clk ≤ k0) (hn0 : n0 ≤ g.clk) : RowsN n0 (G.tick N) v' (fun j => if j = t.length then bb else bs j) (t ++ [row]):=by
  have hlen : (t ++ [row]).length = t.length + 1:=by simp
  have hnew : ∀ b' : Nat × Nat,(∀ m,v' = .slc b' 1 0 m → b' = (k0,d)):=fun b' m e => by
    rcases hA.new with e' | e'
    · rw [e'] at e;cases e
    · rw [e'] at e;injection e with e1;exact e1.symm
  refine ⟨fun j hj => ?_,fun j hj => ?_,fun j hj => ?_,fun j hj m e => ?_,fun j k hj hk e => ?_⟩
  · show G.at_ (if j = t.length then bb else bs j) = _
    by_cases q : j = t.length
    · rw [if_pos q,q,lel_last,hA.keep bb (fun m e => by have:=(hS.lt e).2.1;omega) hbd];exact hbb
    · have hj' : j < t.length:=by omega
      have q2:=hR.lt j hj'
      rw [if_neg q,lel_app hj',hA.keep (bs j) (hR.ne j hj') (fun e => by rw [e] at q2;dsimp only at q2;omega),hH _ q2]
      exact hR.at_ j hj'
  · show _ ≤ (if j = t.length then bb else bs j).1
    by_cases q : j = t.length
    · rw [if_pos q];omega
    · rw [if_neg q];exact hR.ge j (by omega)
  · show (if j = t.length then bb else bs j).1 < N
    by_cases q : j = t.length
    · rw [if_pos q];exact hbN
    · rw [if_neg q];have:=hR.lt j (by omega);omega
  · have q1:=hnew _ m e
    by_cases q : j = t.length
    · rw [if_pos q] at q1;exact hbd q1
    · rw [if_neg q] at q1;have:=hR.lt j (by omega);rw [q1] at this;dsimp only at this;omega
  · have e : (if j = t.length then bb else bs j) = (if k = t.length then bb else bs k):=e
    by_cases q : j = t.length
    · by_cases q2 : k = t.length
      · omega
      · rw [if_pos q,if_neg q2] at e;have:=hR.lt k (by omega);rw [← e] at this;omega
    · by_cases q2 : k = t.length
      · rw [if_neg q,if_pos q2] at e;have:=hR.lt j (by omega);rw [e] at this;omega
      · rw [if_neg q,if_neg q2] at e;exact hR.inj j k (by omega) (by omega) e
theorem RowsN.tick {n0 : Nat} {g : AH} {v : AV} {bs : Nat → Nat × Nat} {t : List (List Int)} (hR : RowsN n0 g v bs t) {n : Nat} (hn : g.clk ≤ n) : RowsN n0 (g.tick n) v bs t :=
  ⟨hR.at_,hR.ge,fun j hj => Nat.lt_of_lt_of_le (hR.lt j hj) hn,hR.ne,hR.inj⟩
def chG (n m : Nat) (i : Nat) : List (List Int):=(chs n m (i + 1)).map (((i : Nat) : Int) :: ·)
theorem chs_len (n : Nat) : ∀ (m a : Nat),a ≤ n → (chs n m a).length ≤ 2 ^ (n - a) ∧ ∀ x ∈ chs n m a,x.length = m
  | 0,a,_ => ⟨by simp [chs];exact Nat.one_le_two_pow,fun x hx => by simp [chs] at hx;rw [hx];rfl⟩
  | m + 1,a,ha => by
    have key : ∀ k,a + k ≤ n → (catK (chG n m) a k).length + 2 ^ (n - a - k) ≤ 2 ^ (n - a) ∧ ∀ x ∈ catK (chG n m) a k,x.length = m + 1:=by
      intro k
      induction k with
      | zero => intro _;exact ⟨by simp [catK],fun x hx => by cases hx⟩
      | succ k ih =>
        intro hk
        obtain ⟨h1,h2⟩:=ih (by omega)
        have h3:=chs_len n m (a + k + 1) (by omega)
        have e : catK (chG n m) a (k + 1) = catK (chG n m) a k ++ chG n m (a + k):=rfl
        have e2 : (chG n m (a + k)).length = (chs n m (a + k + 1)).length:=by simp [chG]
        have e3 : 2 ^ (n - a - k) = 2 ^ (n - a - (k + 1)) + 2 ^ (n - a - (k + 1)):=by
          rw [show n - a - k = (n - a - (k + 1)) + 1 by omega,Nat.pow_succ];omega
        have e4 : n - (a + k + 1) = n - a - (k + 1):=by omega
        rw [e4] at h3
        refine ⟨by rw [e,List.length_append,e2];omega,fun x hx => ?_⟩
        rw [e] at hx
        rcases List.mem_append.1 hx with hx | hx
        · exact h2 x hx
        · unfold chG at hx
          obtain ⟨y,hy,rfl⟩:=List.mem_map.1 hx
          rw [List.length_cons,h3.2 y hy]
    have h:=key (n - a) (by omega)
    have e : chs n (m + 1) a = catK (chG n m) a (n - a):=rfl
    rw [e]
    exact ⟨Nat.le_trans (Nat.le_add_right _ _) h.1,h.2⟩
theorem VLe.lst {e : Nat} {es es' : List (List AV)} (hl : es'.length = es.length) (hr : ∀ c xs,VRss c es xs → VRss c es' xs) (hc : ∀ r ∈ es',r.length = e ∧ r.all AV.cell = true) : VLe (.lst e es) (.lst e es'):=by
  intro c x h
  simp only [VR] at h ⊢
  obtain ⟨a,cap,vs,h1,h2,h3,h4,h5,h6⟩:=h
  refine ⟨a,cap,vs,by rw [hl];exact h1,by rw [hl];exact h2,fun ea => ?_,hc,h5,hr c vs h6⟩
  have:=h3 ea
  subst this
  exact List.length_eq_zero_iff.1 hl
theorem le_none : VLe (.lst 1 [[.nils]]) (.lst 1 [[.lst 1 []]]):=VLe.lst rfl (fun c xs h => by
  simp only [VRss] at h ⊢
  obtain ⟨x,xs',h1,h2,h3⟩:=h
  have e : VLes [.nils] [.lst 1 []]:=by simp only [VLes];exact ⟨_,_,rfl,VLe.nils 1,rfl⟩
  exact ⟨x, xs', h1, e.rel h2, h3⟩) (fun r hr => by obtain rfl : r = [.lst 1 []] := by simpa using hr
                                                    exact ⟨rfl,rfl⟩)
theorem addc3 (a b : Nat) : ((a + (b + 1) : Nat) : Int) = ((a + b : Nat) : Int) + 1:=by omega
structure LnS where
  k : Nat
  v : AV
  g : AH
  bs : Nat → Nat × Nat
theorem c37 (n : Nat) (hn : n ≤ 12) : ∀ (m a : Nat),a ≤ n → m ≤ 12 → Pure Try.prog 37 [.int .i64 (a : Nat),.int .i64 (n : Nat),.int .i64 (m : Nat)] (fun v => v = .lst 1 ((chs n m a).map rowA)):=by
  intro m
  induction m with
  | zero =>
    intro a ha _
    refine Pure.give Try.call37 fun h hall => ?_
    refine ACalls.of tab mixed Try.call37 Try.func37 rfl (fi:=⟨43,[],[13,40],none,[]⟩) rfl rfl (Nat.le_of_ble_eq_true rfl) (by decide) ?_
    unfold startA
    repeat' (first | refine st_seq_reg rfl (by first | (simp only [go_sem];rfl) | rfl) (by first | (simp only [go_sem];rfl) | rfl) ?_ | refine st_op ?_ | refine st_det rfl (by simp (disch:=omega) only [go_sem,wr_i64,if_yes,if_no,↓reduceIte,reduceAdd,reduceMul,reduceEqDiff,Nat.reduceBEq,reduceLeDiff];rfl) ?_ | refine st_condT rfl ?_ | refine st_nil ?_ | refine st_seq ?_ | refine st_ret ?_ | refine st_tR ?_)
    all_goals try (exfalso;omega)
    simp (disch:=omega) only [AEnd,Try.results37,aresK,fin,go_sem,↓reduceIte,reduceEqDiff,reduceAdd,reduceLeDiff,if_yes,if_no,implies_true,true_and,and_true,List.reverse_cons,List.reverse_nil]
    exact .inl ⟨_,le_none,rfl⟩
  | succ m ih =>
    intro a ha hm
    have hcl:=(chs_len n (m + 1) a ha).1
    have hE : chs n (m + 1) a = catK (chG n m) a (n - a):=rfl
    have h2n : 2 ^ (n - a) ≤ 4096:=Nat.le_trans (Nat.pow_le_pow_right (by decide) (by omega : n - a ≤ 12)) (by decide)
    have hpre : ∀ j,a + j ≤ n → (catK (chG n m) a j).length ≤ 4096:=fun j hj => by
      have : ∀ k,(catK (chG n m) a j).length ≤ (catK (chG n m) a (j + k)).length:=by
        intro k
        induction k with
        | zero => exact Nat.le_refl _
        | succ k ih => exact Nat.le_trans ih (by show _ ≤ (catK (chG n m) a (j + k) ++ _).length;rw [List.length_append];omega)
      have h1:=this (n - a - j)
      rw [show j + (n - a - j) = n - a by omega,← hE] at h1
      omega
    refine Pure.give Try.call37 fun h hall => ?_
    refine ACalls.ofS tab Try.call37 Try.func37 rfl (fi:=⟨43,[],[13,40],none,[]⟩) rfl rfl (Nat.le_of_ble_eq_true rfl) ?_
    unfold startA
    refine asem_seq (fi:=⟨43,[],[13,40],none,[]⟩) tab mixed (by decide) ?_
    repeat' (first | refine st_reg rfl (by first | (simp only [go_sem];rfl) | rfl) (by first | (simp only [go_sem];rfl) | rfl) ?_ | refine st_op ?_ | refine st_det rfl (by simp (disch:=omega) only [go_sem,wr_i64,if_yes,if_no,↓reduceIte,reduceAdd,reduceMul,reduceEqDiff,Nat.reduceBEq,reduceLeDiff];rfl) ?_ | refine st_nil ?_ | refine st_tN ?_)
    refine asem_seq (fi:=⟨43,[],[13,40],none,[]⟩) tab mixed (by decide) ?_
    repeat' (first | refine st_seq_reg rfl (by first | (simp only [go_sem];rfl) | rfl) (by first | (simp only [go_sem];rfl) | rfl) ?_ | refine st_op ?_ | refine st_det rfl (by simp (disch:=omega) only [go_sem,wr_i64,if_yes,if_no,↓reduceIte,reduceAdd,reduceMul,reduceEqDiff,Nat.reduceBEq,reduceLeDiff];rfl) ?_ | refine st_condF rfl ?_ | refine st_nil ?_ | refine st_tN ?_ | refine st_skip ?_)
    all_goals try (exfalso;omega)
    refine asem_seq (fi:=⟨43,[],[13,40],none,[]⟩) tab mixed (by decide) ?_
    repeat' (first | refine st_reg rfl (by first | (simp only [go_sem];rfl) | rfl) (by first | (simp only [go_sem];rfl) | rfl) ?_ | refine st_op ?_ | refine st_det rfl (by simp (disch:=omega) only [go_sem,wr_i64,if_yes,if_no,↓reduceIte,reduceAdd,reduceMul,reduceEqDiff,Nat.reduceBEq,reduceLeDiff];rfl) ?_ | refine st_nil ?_ | refine st_tN ?_)
    refine asem_seq (fi:=⟨43,[],[13,40],none,[]⟩) tab mixed (by decide) ?_
    repeat' (first | refine st_seq_reg rfl (by first | (simp only [go_sem];rfl) | rfl) (by first | (simp only [go_sem];rfl) | rfl) ?_ | refine st_op ?_ | refine st_det rfl (by simp (disch:=omega) only [go_sem,wr_i64,if_yes,if_no,↓reduceIte,reduceAdd,reduceMul,reduceEqDiff,Nat.reduceBEq,reduceLeDiff];rfl) ?_ | refine st_nil ?_ | refine st_block ?_)
    let I : List (List Int) → AV → AH → (Nat → Nat × Nat) → Prop:=fun t v g bs => (∀ b' : Nat × Nat,b'.1 < h.clk → g.at_ b' = h.at_ b') ∧ g.lp = h.lp ∧ h.clk ≤ g.clk ∧ SlA h.clk g v 1 (rowsN bs t) ∧ RowsN h.clk g v bs t
    refine st_loopH (α:=LnS) tab mixed [] [] (by repeat (first | exact trivial | refine ⟨rfl,?_⟩)) [] [] (by repeat (first | exact trivial | refine ⟨rfl,?_⟩)) (fun x => [(8,.int .i64 ((a + x.k : Nat) : Int)),(7,x.v)]) [(1,_),(2,_)] (fun _ => []) [] (fun x => x.g) (fun x => a + x.k ≤ n ∧ I (catK (chG n m) a x.k) x.v x.g x.bs) (fun x => n - (a + x.k)) (by decide) ⟨0,.nils,h,fun _ => (0,0)⟩ ⟨ha,fun _ _ => rfl,rfl,Nat.le_refl _,.inl ⟨rfl,rfl⟩,⟨fun j hj => absurd hj (Nat.not_lt_zero _),fun j hj => absurd hj (Nat.not_lt_zero _),fun j hj => absurd hj (Nat.not_lt_zero _),fun j hj => absurd hj (Nat.not_lt_zero _),fun j k hj => absurd hj (Nat.not_lt_zero _)⟩⟩ (by (try simp only [go_sem]);repeat' (first | exact trivial | refine And.intro ?_ ?_ | rfl | (simp (disch:=omega) only [go_sem,if_yes,if_no,↓reduceIte,reduceAdd,reduceMul,reduceEqDiff,Nat.reduceBEq,reduceLeDiff];rfl) | (simp (disch:=omega) only [go_sem,if_yes,if_no,↓reduceIte,reduceAdd,reduceMul,reduceEqDiff,Nat.reduceBEq,reduceLeDiff]))) (by (try simp only [go_sem]);repeat' (first | exact trivial | refine And.intro ?_ ?_ | rfl | (simp (disch:=omega) only [go_sem,if_yes,if_no,↓reduceIte,reduceAdd,reduceMul,reduceEqDiff,Nat.reduceBEq,reduceLeDiff];rfl) | (simp (disch:=omega) only [go_sem,if_yes,if_no,↓reduceIte,reduceAdd,reduceMul,reduceEqDiff,Nat.reduceBEq,reduceLeDiff]))) (HOld.tick (by simp only [go_sem];omega)) ?_
    rintro ⟨j,v,g,bs⟩ c ⟨i1,i2,i3,i4,hS,hR⟩ hc
    dsimp only at i1 i2 i3 i4 hS hR hc
    simp only [go_sem]
    by_cases hj : a + j < n
    case neg =>
      have hj2 : j = n - a:=by omega
      subst hj2
      rw [← hE] at hS hR
      repeat' (first | refine st_seq_reg rfl (by first | (simp only [go_sem];rfl) | rfl) (by first | (simp only [go_sem];rfl) | rfl) ?_ | refine st_op ?_ | refine st_det rfl (by simp (disch:=omega) only [go_sem,wr_i64,if_yes,if_no,↓reduceIte,reduceAdd,reduceMul,reduceEqDiff,Nat.reduceBEq,reduceLeDiff];rfl) ?_ | (refine st_condS rfl ?_ ?_ <;> intro hg <;> (try simp only [decide_eq_true_eq,decide_eq_false_iff_not,Bool.not_eq_true',Bool.not_eq_false'] at hg)) | refine st_nil ?_ | refine st_tN ?_ | refine st_seq ?_ | refine st_block ?_ | refine st_skip ?_ | refine st_exit ?_ | refine st_tE ?_ | refine st_bH ?_)
      all_goals try (exfalso;omega)
      rcases hS with ⟨rfl,e⟩ | ⟨b1,rfl,q2,q3,q4⟩
      · have e2 : chs n (m + 1) a = []:=by
          have:=congrArg List.length e
          rw [rowsN_len] at this
          exact List.length_eq_zero_iff.1 this
        refine asem_awp (fi:=⟨43,[],[13,40],none,[]⟩) tab mixed (by decide) ?_
        repeat' (first | refine st_seq_reg rfl (by first | (simp only [go_sem];rfl) | rfl) (by first | (simp only [go_sem];rfl) | rfl) ?_ | refine st_op ?_ | refine st_det rfl (by simp (disch:=omega) only [go_sem,wr_i64,if_yes,if_no,↓reduceIte,reduceAdd,reduceMul,reduceEqDiff,Nat.reduceBEq,reduceLeDiff];rfl) ?_ | refine st_nil ?_ | refine st_ret ?_)
        simp (disch:=omega) only [AEnd,Try.results37,aresK,fin,go_sem,↓reduceIte,reduceEqDiff,reduceAdd,reduceLeDiff,if_yes,if_no,implies_true,true_and,and_true,List.reverse_cons,List.reverse_nil]
        exact ⟨i2,i3,.inl ⟨_,VLe.nils 1,by rw [e2];rfl⟩⟩
      have htop : (g.tick (c + 1)).at_ b1 = some ⟨1,mixR 0 bs ((chs n (m + 1) a).map fun r => r.map iv)⟩:=by
        show g.at_ b1 = _
        rw [q2]
        congr 2
        unfold rowsN mixR
        rw [length_map]
        refine List.map_congr_left fun j hj => ?_
        rw [if_neg (Nat.not_lt_zero _)]
        congr 1
        unfold lel
        simp [List.getD_eq_getElem?_getD,List.mem_range.1 hj]
      have hSl : SlN (g.tick (c + 1)) b1 bs ((chs n (m + 1) a).map fun r => r.map iv) 0:=by
        refine ⟨htop,fun i _ hi => ?_,fun i hi e => ?_,fun i k hi hk e => hR.inj i k (by simpa using hi) (by simpa using hk) e⟩
        · rw [length_map] at hi
          show g.at_ (bs i) = _
          rw [hR.at_ i hi]
          congr 2
          unfold lel
          simp [List.getD_eq_getElem?_getD,hi]
        · rw [length_map] at hi
          exact hR.ne i hi _ (by rw [e])
      refine ASem.frzRows (b1:=b1) (bs:=bs) (t:=(chs n (m + 1) a).map fun r => r.map iv) (fun i hi b k => ?_) _ 0 _ rfl hSl fun H' w1 w2 w3 w4 => ?_
      · refine frzss_fix _ fun r hr x hx => ?_
        rw [length_map] at hi
        simp only [List.getD_eq_getElem?_getD,List.getElem?_map,List.getElem?_eq_getElem hi,Option.map_some,Option.getD_some] at hr
        obtain ⟨y,_,rfl⟩:=List.mem_map.1 hr
        rw [List.mem_singleton.1 hx];rfl
      have hrows : ((chs n (m + 1) a).map fun r => r.map iv).map lrow = (chs n (m + 1) a).map rowA:=by rw [List.map_map];rfl
      rw [hrows] at w1
      have hold2 : ∀ b' : Bid,b'.1 < h.clk → H'.at_ b' = h.at_ b':=fun b' hb' => by
        rw [w2 b' (fun e => by rw [e] at hb';omega) (fun i _ hi e => by rw [length_map] at hi;have:=hR.ge i hi;rw [← e] at this;omega)]
        exact i2 b' hb'
      refine asem_awp (fi:=⟨43,[],[13,40],none,[]⟩) tab mixed (by decide) ?_
      repeat' (first | refine st_seq_reg rfl (by first | (simp only [go_sem];rfl) | rfl) (by first | (simp only [go_sem];rfl) | rfl) ?_ | refine st_op ?_ | refine st_det rfl (by simp (disch:=omega) only [go_sem,wr_i64,if_yes,if_no,↓reduceIte,reduceAdd,reduceMul,reduceEqDiff,Nat.reduceBEq,reduceLeDiff];rfl) ?_ | refine st_nil ?_ | refine st_ret ?_)
      simp (disch:=omega) only [AEnd,Try.results37,aresK,fin,go_sem,↓reduceIte,reduceEqDiff,reduceAdd,reduceLeDiff,if_yes,if_no,implies_true,true_and,and_true,List.reverse_cons,List.reverse_nil]
      refine ⟨hold2,by rw [w4];exact i3,.inr ⟨b1,_,q3,w1,?_⟩⟩
      rw [rowsN_len,show (chs n (m + 1) a).length = ((chs n (m + 1) a).map rowA).length by simp]
      exact frz_lst
    have ihp : Pure Try.prog 37 [.int .i64 (((a + j : Nat) : Int) + 1),.int .i64 (n : Nat),.int .i64 (((m + 1 : Nat) : Int) - 1)] (fun v => v = .lst 1 ((chs n m (a + j + 1)).map rowA)):=by
      have k:=ih (a + j + 1) (by omega) (by omega)
      rw [show (((a + j + 1 : Nat)) : Int) = ((a + j : Nat) : Int) + 1 by omega,show ((m : Nat) : Int) = ((m + 1 : Nat) : Int) - 1 by omega] at k
      exact k
    have hrl:=chs_len n m (a + j + 1) (by omega)
    have hrl2 : 2 ^ (n - (a + j + 1)) ≤ 4096:=Nat.le_trans (Nat.pow_le_pow_right (by decide) (by omega : n - (a + j + 1) ≤ 12)) (by decide)
    have hpj:=hpre (j + 1) (by omega)
    have hcat : catK (chG n m) a (j + 1) = catK (chG n m) a j ++ (chs n m (a + j + 1)).map (((a + j : Nat) : Int) :: ·):=rfl
    repeat' (first | refine st_seq_reg rfl (by first | (simp only [go_sem];rfl) | rfl) (by first | (simp only [go_sem];rfl) | rfl) ?_ | refine st_op ?_ | refine st_det rfl (by simp (disch:=omega) only [go_sem,wr_i64,if_yes,if_no,↓reduceIte,reduceAdd,reduceMul,reduceEqDiff,Nat.reduceBEq,reduceLeDiff];rfl) ?_ | (refine st_pureE (by first | (simp (disch:=omega) only [go_sem];rfl) | rfl) rfl (ihp) (by first | (simp only [go_sem];rfl) | rfl) (by intro n;first | (simp (disch:=omega) only [go_sem];rfl) | rfl) ?_;intro n hn) | (refine st_condS rfl ?_ ?_ <;> intro hg <;> (try simp only [decide_eq_true_eq,decide_eq_false_iff_not,Bool.not_eq_true',Bool.not_eq_false'] at hg)) | refine st_nil ?_ | refine st_tN ?_ | refine st_seq ?_ | refine st_block ?_ | refine st_skip ?_ | refine st_exit ?_ | refine st_tE ?_ | refine st_bH ?_)
    all_goals try (exfalso;omega)
    rename_i N hN
    generalize hrest : chs N m (a + j + 1) = rest at *
    refine st_loopH (α:=LnS) tab mixed [] [] (by repeat (first | exact trivial | refine ⟨rfl,?_⟩)) [] [] (by repeat (first | exact trivial | refine ⟨rfl,?_⟩)) (fun x => [(10,.int .i64 (x.k : Nat)),(7,x.v)]) [(1,_),(2,_),(8,_),(9,_)] (fun _ => []) [] (fun x => x.g) (fun x => x.k ≤ rest.length ∧ I (catK (chG N m) a j ++ (rest.take x.k).map (((a + j : Nat) : Int) :: ·)) x.v x.g x.bs) (fun x => rest.length - x.k) (by decide) ⟨0,v,g,bs⟩ ⟨Nat.zero_le _,by show I (_ ++ []) _ _ _;rw [List.append_nil];exact ⟨i2,i3,i4,hS,hR⟩⟩ (by (try simp only [go_sem]);repeat' (first | exact trivial | refine And.intro ?_ ?_ | rfl | (simp (disch:=omega) only [go_sem,if_yes,if_no,↓reduceIte,reduceAdd,reduceMul,reduceEqDiff,Nat.reduceBEq,reduceLeDiff];rfl) | (simp (disch:=omega) only [go_sem,if_yes,if_no,↓reduceIte,reduceAdd,reduceMul,reduceEqDiff,Nat.reduceBEq,reduceLeDiff]))) (by (try simp only [go_sem]);repeat' (first | exact trivial | refine And.intro ?_ ?_ | rfl | (simp (disch:=omega) only [go_sem,if_yes,if_no,↓reduceIte,reduceAdd,reduceMul,reduceEqDiff,Nat.reduceBEq,reduceLeDiff];rfl) | (simp (disch:=omega) only [go_sem,if_yes,if_no,↓reduceIte,reduceAdd,reduceMul,reduceEqDiff,Nat.reduceBEq,reduceLeDiff]))) (HOld.tick (by simp only [go_sem];omega)) ?_
    rintro ⟨k,w,g2,bs2⟩ c2 ⟨l1,l2,l3,l4,hS2,hR2⟩ hc2
    dsimp only at l1 l2 l3 l4 hS2 hR2 hc2
    simp only [go_sem]
    by_cases hk : k < rest.length
    case neg =>
      obtain rfl : k = rest.length:=by omega
      rw [List.take_length,← hcat] at hS2 hR2
      repeat' (first | refine st_seq_reg rfl (by first | (simp only [go_sem,length_map];rfl) | rfl) (by first | (simp only [go_sem,length_map];rfl) | rfl) ?_ | refine st_reg rfl (by first | (simp only [go_sem,length_map];rfl) | rfl) (by first | (simp only [go_sem,length_map];rfl) | rfl) ?_ | refine st_op ?_ | refine st_det rfl (by simp (disch:=omega) only [go_sem,wr_i64,if_yes,if_no,↓reduceIte,reduceAdd,reduceMul,reduceEqDiff,Nat.reduceBEq,reduceLeDiff,length_map];rfl) ?_ | refine st_heap rfl (by simp (disch:=omega) only [go_sem,wr_i64,if_yes,if_no,↓reduceIte,reduceAdd,reduceMul,reduceEqDiff,Nat.reduceBEq,reduceLeDiff,length_map];rfl) ?_ | refine st_append (by simp (disch:=omega) only [go_sem,wr_i64,if_yes,if_no,↓reduceIte,reduceAdd,reduceMul,reduceEqDiff,Nat.reduceBEq,reduceLeDiff,length_map];rfl) ?_ | (refine st_condS rfl ?_ ?_ <;> intro hg <;> (try simp only [decide_eq_true_eq,decide_eq_false_iff_not,Bool.not_eq_true',Bool.not_eq_false'] at hg)) | refine st_nil ?_ | refine st_tN ?_ | refine st_seq ?_ | refine st_block ?_ | refine st_skip ?_ | refine st_exit ?_ | refine st_tE ?_ | refine st_bN ?_ | refine st_bH ?_)
      all_goals try (exfalso;omega)
      refine ⟨⟨j + 1,w,g2,bs2⟩,⟨by show a + (j + 1) ≤ N;omega,l2,l3,l4,hS2,hR2⟩,by show N - (a + (j + 1)) < N - (a + j);omega,(by (try (try simp only [go_sem,addc3]));repeat' (first | exact trivial | refine And.intro ?_ ?_ | rfl | (simp (disch:=omega) only [go_sem,if_yes,if_no,↓reduceIte,reduceAdd,reduceMul,reduceEqDiff,Nat.reduceBEq,reduceLeDiff];rfl) | (simp (disch:=omega) only [go_sem,if_yes,if_no,↓reduceIte,reduceAdd,reduceMul,reduceEqDiff,Nat.reduceBEq,reduceLeDiff]))),(by (try (try simp only [go_sem,addc3]));repeat' (first | exact trivial | refine And.intro ?_ ?_ | rfl | (simp (disch:=omega) only [go_sem,if_yes,if_no,↓reduceIte,reduceAdd,reduceMul,reduceEqDiff,Nat.reduceBEq,reduceLeDiff];rfl) | (simp (disch:=omega) only [go_sem,if_yes,if_no,↓reduceIte,reduceAdd,reduceMul,reduceEqDiff,Nat.reduceBEq,reduceLeDiff]))),rfl,HOld.tick (by simp only [go_sem];omega)⟩
    have hwn:=hS2.noL
    have hrk:=hrl.2 _ (lel_mem hk)
    have hpl : (catK (chG N m) a j).length + rest.length ≤ 4096:=by
      have q:=hpj;rw [hcat,List.length_append,length_map] at q;exact q
    have htk : (rest.take (k + 1)).map (((a + j : Nat) : Int) :: ·) = (rest.take k).map (((a + j : Nat) : Int) :: ·) ++ [((a + j : Nat) : Int) :: lel rest k]:=by
      rw [List.take_succ_eq_append_getElem hk,List.map_append]
      simp [lel,List.getD_eq_getElem?_getD,hk]
    have hdl : (catK (chG N m) a j ++ (rest.take k).map (((a + j : Nat) : Int) :: ·)).length ≤ 4096:=by
      rw [List.length_append,length_map,List.length_take];omega
    generalize hdn : catK (chG N m) a j ++ (rest.take k).map (((a + j : Nat) : Int) :: ·) = dn at *
    repeat' (first | refine st_seq_reg rfl (by first | (simp only [go_sem,length_map,Nat.zero_add,big,rowsN_len];rfl) | rfl) (by first | (simp only [go_sem,length_map,Nat.zero_add,big,rowsN_len];rfl) | rfl) ?_ | refine st_reg rfl (by first | (simp only [go_sem,length_map,Nat.zero_add,big,rowsN_len];rfl) | rfl) (by first | (simp only [go_sem,length_map,Nat.zero_add,big,rowsN_len];rfl) | rfl) ?_ | refine st_op ?_ | refine st_det rfl (by simp (disch:=omega) only [go_sem,wr_i64,if_yes,if_no,↓reduceIte,reduceAdd,reduceMul,reduceEqDiff,Nat.reduceBEq,reduceLeDiff,length_map,Nat.zero_add,big,rowsN_len];rfl) ?_ | refine st_heap rfl (by simp (disch:=omega) only [go_sem,wr_i64,if_yes,if_no,↓reduceIte,reduceAdd,reduceMul,reduceEqDiff,Nat.reduceBEq,reduceLeDiff,length_map,Nat.zero_add,big,rowsN_len];rfl) ?_ | refine st_append (by simp (disch:=omega) only [go_sem,wr_i64,if_yes,if_no,↓reduceIte,reduceAdd,reduceMul,reduceEqDiff,Nat.reduceBEq,reduceLeDiff,length_map,Nat.zero_add,big,rowsN_len];rfl) ?_ | (refine st_appS (by intro h id x y;simp only [go_sem];rfl) rfl (by simp only [go_sem,length_map,Nat.zero_add,big,rowsN_len];rfl) (by simp only [go_sem,length_map,Nat.zero_add,big,rowsN_len];rfl) (by decide) hS2 (fun b1 m e => (by have q:=(hS2.lt e).2.1;exact (put_ne _ _ (ne_fst (n:=c2 + 1) (by omega) (Nat.le_refl _))).trans (put_ne _ _ (ne_fst (n:=c2 + 1) (by omega) (Nat.le_refl _))))) (by omega) (by simp only [length_map,List.length_cons,List.length_nil,big,length_map,Nat.zero_add,big,rowsN_len];omega) (by omega) (by omega) ?_;intro v' g' hA) | (refine st_condS rfl ?_ ?_ <;> intro hg <;> (try simp only [decide_eq_true_eq,decide_eq_false_iff_not,Bool.not_eq_true',Bool.not_eq_false'] at hg)) | refine st_nil ?_ | refine st_tN ?_ | refine st_seq ?_ | refine st_block ?_ | refine st_skip ?_ | refine st_exit ?_ | refine st_tE ?_ | refine st_bN ?_ | refine st_bH ?_)
    all_goals try (exfalso;omega)
    have hRN:=fun (M : Nat) (hM : c2 + 2 ≤ M) => RowsN.add (N:=M) (bb:=(c2 + 1,39)) (row:=((a + j : Nat) : Int) :: lel rest k) hA hR2 hS2 (fun b hb => (put_ne _ _ (ne_fst (n:=c2 + 1) (by omega) (Nat.le_refl _))).trans (put_ne _ _ (ne_fst (n:=c2 + 1) (by omega) (Nat.le_refl _)))) (put_same _ _ _) (by show g2.clk ≤ c2 + 1;omega) (by show c2 + 1 < M;omega) (ne_snd (by decide)) (by omega) l4
    have hl1 : (((a + j : Nat) : Int) :: lel rest k).length = 1 + (lel rest k).length:=by rw [List.length_cons];omega
    have hnx:=rowsN_next (bs:=bs2) (bs':=fun q => if q = dn.length then ((c2 + 1,39) : Nat × Nat) else bs2 q) (t:=dn) (r:=((a + j : Nat) : Int) :: lel rest k) (fun q hq => if_neg (by omega))
    refine ⟨⟨k + 1,v',_,fun q => if q = dn.length then (c2 + 1,39) else bs2 q⟩,⟨by show k + 1 ≤ rest.length;omega,(by show I _ _ _ _;rw [htk,← List.append_assoc,hdn];exact ⟨fun b' hb' => ((hA.old b' hb').trans ((put_ne _ _ (ne_fst hb' (by show h.clk ≤ c2 + 1;omega))).trans (put_ne _ _ (ne_fst hb' (by show h.clk ≤ c2 + 1;omega))))).trans (l2 b' hb'),hA.lp.trans l3,by simp only [go_sem];omega,by rw [hnx,if_pos rfl,hl1];exact hA.sl.to (fun _ _ _ _ _ => rfl) (by simp only [go_sem];omega),hRN _ (by omega)⟩)⟩,by show rest.length - (k + 1) < rest.length - k;omega,(by repeat' (first | exact trivial | refine And.intro ?_ ?_ | rfl | (simp (disch:=omega) only [go_sem,if_yes,if_no,↓reduceIte,reduceAdd,reduceMul,reduceEqDiff,Nat.reduceBEq,reduceLeDiff];rfl) | (simp (disch:=omega) only [go_sem,if_yes,if_no,↓reduceIte,reduceAdd,reduceMul,reduceEqDiff,Nat.reduceBEq,reduceLeDiff]))),(by repeat' (first | exact trivial | refine And.intro ?_ ?_ | rfl | (simp (disch:=omega) only [go_sem,if_yes,if_no,↓reduceIte,reduceAdd,reduceMul,reduceEqDiff,Nat.reduceBEq,reduceLeDiff];rfl) | (simp (disch:=omega) only [go_sem,if_yes,if_no,↓reduceIte,reduceAdd,reduceMul,reduceEqDiff,Nat.reduceBEq,reduceLeDiff]))),rfl,HOld.refl _⟩
def fitV (x n : Int) : Int:=if n < 2 then 0 else if x.tmod n < 0 then x.tmod n + n else x.tmod n
theorem fitV_bd {x n : Int} (h : 1 ≤ n) : 0 ≤ fitV x n ∧ fitV x n < n:=by
  unfold fitV
  by_cases h2 : n < 2
  · rw [if_pos h2];omega
  · rw [if_neg h2]
    have h3 : x.tmod n < n:=Int.tmod_lt_of_pos _ (by omega)
    have h4 : -n < x.tmod n:=Int.lt_tmod_of_pos _ (by omega)
    split <;> omega
theorem fitV_ne {a m n : Int} (ha : 0 ≤ a ∧ a < n) (hm : 1 ≤ m ∧ m ≤ n - 1) : fitV (a + m) n ≠ a:=by
  unfold fitV
  rw [if_neg (by omega)]
  have h0 : (a + m).tmod n = (a + m) % n:=Int.tmod_eq_emod_of_nonneg (by omega)
  rw [h0]
  have h1:=Int.emod_nonneg (a + m) (by omega : n ≠ 0)
  rw [if_neg (by omega)]
  by_cases h2 : a + m < n
  · rw [Int.emod_eq_of_lt (by omega) h2];omega
  · have : (a + m) % n = a + m - n:=by
      rw [← Int.sub_emod_right,Int.emod_eq_of_lt (by omega) (by omega)]
    rw [this];omega
theorem c21 (x n : Int) (hn : -1000000000 ≤ n ∧ n ≤ 1000000000) (hx : -9223372036854775808 ≤ x ∧ x ≤ 9223372036854775807) : Pure Try.prog 21 [.int .i64 x,.int .i64 n] (fun v => v = .int .i64 (fitV x n)):=by
  intro h
  by_cases h2 : n < 2
  · refine ACalls.forget (ACalls.of tab mixed Try.call21 Try.func21 rfl (fi:=⟨16,[],[],none,[]⟩) rfl rfl (Nat.le_of_ble_eq_true rfl) (by decide) ?_)
    unfold startA
    repeat' (first | refine st_seq_reg rfl (by first | (simp only [go_sem];rfl) | rfl) (by first | (simp only [go_sem];rfl) | rfl) ?_ | refine st_op ?_ | refine st_det rfl (by simp (disch:=omega) only [go_sem,wr_i64,if_yes,if_no,↓reduceIte,reduceAdd,reduceMul,reduceEqDiff,Nat.reduceBEq,reduceLeDiff];rfl) ?_ | (refine st_condS rfl ?_ ?_ <;> intro hg <;> (try simp only [decide_eq_true_eq,decide_eq_false_iff_not,Bool.not_eq_true',Bool.not_eq_false'] at hg)) | refine st_nil ?_ | refine st_tN ?_ | refine st_seq ?_ | refine st_skip ?_ | refine st_ret ?_ | refine st_tR ?_)
    all_goals try (exfalso;omega)
    simp (disch:=omega) only [AEnd,Try.results21,aresK,fin,go_sem,↓reduceIte,reduceEqDiff,reduceAdd,reduceLeDiff,if_yes,if_no,implies_true,true_and,and_true,List.reverse_cons,List.reverse_nil]
    unfold fitV;rw [if_pos h2]
  have h3 : x.tmod n < n:=Int.tmod_lt_of_pos _ (by omega)
  have h4 : -n < x.tmod n:=Int.lt_tmod_of_pos _ (by omega)
  have e : fitV x n = if x.tmod n < 0 then x.tmod n + n else x.tmod n:=by unfold fitV;rw [if_neg h2]
  refine ACalls.forget (ACalls.of tab mixed Try.call21 Try.func21 rfl (fi:=⟨16,[],[],none,[]⟩) rfl rfl (Nat.le_of_ble_eq_true rfl) (by decide) ?_)
  unfold startA
  repeat' (first | refine st_seq_reg rfl (by first | (simp only [go_sem];rfl) | rfl) (by first | (simp only [go_sem];rfl) | rfl) ?_ | refine st_reg rfl (by first | (simp only [go_sem];rfl) | rfl) (by first | (simp only [go_sem];rfl) | rfl) ?_ | refine st_op ?_ | refine st_det rfl (by simp (disch:=omega) only [go_sem,wr_i64,if_yes,if_no,↓reduceIte,reduceAdd,reduceMul,reduceEqDiff,Nat.reduceBEq,reduceLeDiff];rfl) ?_ | (refine st_condS rfl ?_ ?_ <;> intro hg <;> (try simp only [decide_eq_true_eq,decide_eq_false_iff_not,Bool.not_eq_true',Bool.not_eq_false'] at hg)) | refine st_nil ?_ | refine st_tN ?_ | refine st_seq ?_ | refine st_skip ?_ | refine st_ret ?_ | refine st_tR ?_)
  all_goals try (exfalso;omega)
  all_goals
    simp (disch:=omega) only [AEnd,Try.results21,aresK,fin,go_sem,↓reduceIte,reduceEqDiff,reduceAdd,reduceLeDiff,if_yes,if_no,implies_true,true_and,and_true,List.reverse_cons,List.reverse_nil]
    first | (rw [e,if_pos (by omega)];done) | (rw [e,if_neg (by omega)];done)
theorem c63 (b : Nat × Nat) (lo hi : Int) (h1 : -100000000 ≤ lo) (h2 : lo ≤ hi ∧ hi ≤ 100000000) : Drum Try.prog 63 [.ptr b 0 0,.int .i64 lo,.int .i64 hi] b (fun v => ∃ r s,v = .agg [.int .i64 r,.int .i64 s] ∧ lo ≤ r ∧ r ≤ s ∧ s ≤ hi):=by
  refine Drum.of Try.call63 fun h x hx hu hold => ?_
  refine ACalls.of tab mixed Try.call63 Try.func63 rfl (fi:=⟨36,[6],[],none,[]⟩) rfl rfl (Nat.le_of_ble_eq_true rfl) (by decide) ?_
  unfold startA
  repeat' (first | refine st_seq_reg rfl (by first | (simp only [go_sem,hx];rfl) | rfl) (by first | (simp only [go_sem,hx];rfl) | rfl) ?_ | refine st_op ?_ | refine st_det rfl (by simp (disch:=omega) only [go_sem,wr_i64,if_yes,if_no,↓reduceIte,reduceAdd,reduceMul,reduceEqDiff,Nat.reduceBEq,reduceLeDiff,hx];rfl) ?_ | refine st_loc rfl (by simp (disch:=omega) only [go_sem,wr_i64,if_yes,if_no,↓reduceIte,reduceAdd,reduceMul,reduceEqDiff,Nat.reduceBEq,reduceLeDiff,hx];rfl) ?_ | refine st_store (by simp (disch:=omega) only [go_sem,wr_i64,if_yes,if_no,↓reduceIte,reduceAdd,reduceMul,reduceEqDiff,Nat.reduceBEq,reduceLeDiff,hx];rfl) ?_ | (refine st_drum (by first | (simp (disch:=omega) only [go_sem,hx];rfl) | rfl) rfl (c62' b lo hi (by omega) (by omega)) (by first | (simp (disch:=omega) only [go_sem,hx];rfl) | rfl) (by assumption) (by first | (simp only [go_sem,hx];rfl) | rfl) (by intro x' n;first | (simp (disch:=omega) only [go_sem];rfl) | rfl) ?_;rintro v x' n hu' ⟨r,rfl,hr⟩ hn) | (refine st_drum (by first | (simp (disch:=omega) only [go_sem,hx];rfl) | rfl) rfl (c18' b 3 (by omega)) (by first | (simp (disch:=omega) only [go_sem,hx];rfl) | rfl) (by assumption) (by first | (simp only [go_sem,hx];rfl) | rfl) (by intro x' n;first | (simp (disch:=omega) only [go_sem];rfl) | rfl) ?_;rintro v x' n hu' ⟨s,rfl,hs⟩ hn) | (refine st_condS rfl ?_ ?_ <;> intro hg <;> (try simp only [decide_eq_true_eq,decide_eq_false_iff_not,Bool.not_eq_true',Bool.not_eq_false'] at hg)) | refine st_nil ?_ | refine st_tN ?_ | refine st_seq ?_ | refine st_block ?_ | refine st_skip ?_ | refine st_ret ?_ | refine st_tR ?_ | refine st_bN ?_ | refine st_bR ?_)
  · simp (disch:=omega) only [AEnd,Try.results63,aresK,fin,go_sem,↓reduceIte,reduceEqDiff,reduceAdd,reduceLeDiff,if_yes,if_no,implies_true,true_and,and_true,List.reverse_cons,List.reverse_nil]
    exact ⟨fun b' _ h2 => if_neg h2,⟨_,rfl,by assumption⟩,⟨_,_,rfl,by omega,by omega,by omega⟩⟩
  · repeat' (first | refine st_op ?_ | refine st_det rfl (by simp (disch:=omega) only [go_sem,wr_i64,if_yes,if_no,↓reduceIte,reduceAdd,reduceMul,reduceEqDiff,Nat.reduceBEq,reduceLeDiff];rfl) ?_ | refine st_store (by simp (disch:=omega) only [go_sem,wr_i64,if_yes,if_no,↓reduceIte,reduceAdd,reduceMul,reduceEqDiff,Nat.reduceBEq,reduceLeDiff];rfl) ?_ | (refine st_drum (by first | (simp (disch:=omega) only [go_sem];rfl) | rfl) rfl (c62' b r (min hi (r + 3)) (by omega) (by omega)) (by first | (simp (disch:=omega) only [go_sem];rfl) | rfl) (by assumption) (by first | (simp only [go_sem];rfl) | rfl) (by intro x' n;first | (simp (disch:=omega) only [go_sem];rfl) | rfl) ?_;rintro v x' n hu' ⟨r2,rfl,hr2⟩ hn) | refine st_nil ?_ | refine st_ret ?_ | refine st_tR ?_ | refine st_bR ?_)
    simp (disch:=omega) only [AEnd,Try.results63,aresK,fin,go_sem,↓reduceIte,reduceEqDiff,reduceAdd,reduceLeDiff,if_yes,if_no,implies_true,true_and,and_true,List.reverse_cons,List.reverse_nil]
    exact ⟨fun b' _ h2 => if_neg h2,⟨_,rfl,by assumption⟩,⟨_,_,rfl,by omega,by omega,by omega⟩⟩
  · repeat' (first | refine st_op ?_ | refine st_det rfl (by simp (disch:=omega) only [go_sem,wr_i64,if_yes,if_no,↓reduceIte,reduceAdd,reduceMul,reduceEqDiff,Nat.reduceBEq,reduceLeDiff];rfl) ?_ | refine st_store (by simp (disch:=omega) only [go_sem,wr_i64,if_yes,if_no,↓reduceIte,reduceAdd,reduceMul,reduceEqDiff,Nat.reduceBEq,reduceLeDiff];rfl) ?_ | (refine st_drum (by first | (simp (disch:=omega) only [go_sem];rfl) | rfl) rfl (c62' b r hi (by omega) (by omega)) (by first | (simp (disch:=omega) only [go_sem];rfl) | rfl) (by assumption) (by first | (simp only [go_sem];rfl) | rfl) (by intro x' n;first | (simp (disch:=omega) only [go_sem];rfl) | rfl) ?_;rintro v x' n hu' ⟨r2,rfl,hr2⟩ hn) | refine st_nil ?_ | refine st_ret ?_)
    simp (disch:=omega) only [AEnd,Try.results63,aresK,fin,go_sem,↓reduceIte,reduceEqDiff,reduceAdd,reduceLeDiff,if_yes,if_no,implies_true,true_and,and_true,List.reverse_cons,List.reverse_nil]
    exact ⟨fun b' _ h2 => if_neg h2,⟨_,rfl,by assumption⟩,⟨_,_,rfl,by omega,by omega,by omega⟩⟩
end Go.Proofs.Ythjbfdfhblloiaa
