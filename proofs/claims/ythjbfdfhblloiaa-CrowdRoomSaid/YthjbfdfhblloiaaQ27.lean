/- Contracts of functions that the claim reaches: what each call gives, told in our own logic. Conditions: those of each theorem. -/
import Derived.Test.YthjbfdfhblloiaaW2
import Derived.Test.YthjbfdfhblloiaaQ26
set_option linter.all false
set_option linter.unusedSimpArgs false
set_option linter.unusedVariables false
namespace Go.Proofs.Ythjbfdfhblloiaa
open Go.Av
attribute [local irreducible] thenA blockA awp awpOps awpD awp1
set_option maxHeartbeats 8000000
set_option maxRecDepth 20000
/-! ### The first square of the queue is looked at -/
theorem Sch.old {n0 l : Nat} {b11 b12 : Bid} {M : List (Int × Int)} {qs : List Int} {g g' : AH} {N : Nat} (h : Sch n0 l b11 b12 M qs g) (h1 : b11.1 < N) (h2 : b12.1 < N) (h3 : g.clk ≤ N) (hat : ∀ b : Bid, b.1 < N → g'.at_ b = g.at_ b) (hlp : g'.lp l = g.lp l) (hc : g.clk ≤ g'.clk) : Sch n0 l b11 b12 M qs g' := by
  obtain ⟨v, q1, q2⟩ := h.q
  exact ⟨by rw [hat _ h1]; exact h.m, by rw [hlp]; exact h.lp, v, by rw [hat _ h2]; exact q1, q2.same (fun b _ hb => hat b (by omega)) hc⟩
/-- All neighbours of a square are met. -/
theorem c75a (t : Tw) (c : List Int) (to : Int) (hT : TwOk t) (hcl : c.length ≤ 1000000) (hto : 0 ≤ to ∧ to < t.rooms.length) (n0 l : Nat) (b11 b12 b14 : Bid) (M : List (Int × Int)) (k : Nat) (hB : Bfs t c to M k) (hk : k < M.length) (h : AH) (hS : Sch n0 l b11 b12 M ((keysM M).drop (k + 1)) h) (hat : h.at_ b14 = some ⟨1, [[.int .i64 (ky M k)]]⟩)
    (e11 : b11.2 = 11) (e12 : b12.2 = 12) (e14 : b14.2 = 14) (h12 : n0 ≤ b12.1) (hn0 : n0 ≤ h.clk) :
    ACalls Try.prog 75 [.int .i64 (ky M k), .fn (.func 78) [] [.ptr b11 0 0, .ptr b14 0 0, .ptr b12 0 0], .iptr t.cells 0, .iptr [.lst 1 (c.map iv)] 0] h
      (fun _ h' => Old n0 l h h' ∧ ∃ M', Bfs t c to M' (k + 1) ∧ Sch n0 l b11 b12 M' ((keysM M').drop (k + 1)) h') := by
  have hkb := (hB.ok k hk).1
  let I : Nat → AH → Prop := fun i g => Old n0 l h g ∧ g.at_ b14 = some ⟨1, [[.int .i64 (ky M k)]]⟩ ∧ ∃ M', Bfs t c to M' k ∧ k < M'.length ∧ ky M' k = ky M k ∧ Sch n0 l b11 b12 M' ((keysM M').drop (k + 1)) g ∧ ∀ j, j < i → 0 ≤ oth (sx t.sts j) (ky M k) → clB c j = false → oth (sx t.sts j) (ky M k) ∈ keysM M'
  refine (c75 t c (ky M k) 78 [.ptr b11 0 0, .ptr b14 0 0, .ptr b12 0 0] hT hcl rfl I ?_ ?_ ?_ h ?_).mono ?_
  · rintro i g n ⟨o1, o2, M', m1, m2, m3, m4, m5⟩ hn
    exact ⟨o1.trans (Old.tick hn), o2, M', m1, m2, m3, m4.tick hn, m5⟩
  · rintro i g hi hno ⟨o1, o2, M', m1, m2, m3, m4, m5⟩
    refine ⟨o1, o2, M', m1, m2, m3, m4, fun j hj q1 q2 => ?_⟩
    by_cases e : j = i
    · subst e; exact absurd ⟨q1, q2⟩ hno
    · exact m5 j (by omega) q1 q2
  · rintro i g hi ho hcb ⟨o1, o2, M', m1, m2, m3, m4, m5⟩
    obtain ⟨_, d, hv, hD⟩ := m1.ok k m2
    have hdR := dist_lt hT hto (by rw [m3]; exact hkb.1) hD
    have hrn := hT.rn
    have hfd : fndM M' (ky M k) = some (d : Int) := by rw [← m3, fndM_at m1.nd m2, hv]
    cases hf : fndM M' (oth (sx t.sts i) (ky M k)) with
    | some v =>
      refine (c78old n0 l b11 b12 b14 _ (ky M k) d M' _ g m4 o2 hf).mono ?_
      rintro _ g' ⟨p1, p2, p3⟩
      refine ⟨o1.trans p1, by rw [p2]; exact o2, M', m1, m2, m3, p3, fun j hj q1 q2 => ?_⟩
      by_cases e : j = i
      · subst e
        obtain ⟨x, hx, e1, _⟩ := fndM_some hf
        rw [← e1]; exact ky_mem hx
      · exact m5 j (by omega) q1 q2
    | none =>
      have hlen := m1.len
      have hql : ((keysM M').drop (k + 1)).length ≤ 1000 := by rw [List.length_drop]; simp [keysM]; omega
      refine (c78new n0 l b11 b12 b14 _ (ky M k) d M' _ g m4 o2 hf hfd ⟨by omega, by omega⟩ hql e11 e12 e14 h12 (by have := o1.clk; omega)).mono ?_
      rintro _ g' ⟨p1, p2, p3⟩
      have hadj : adjB t c (ky M' k) (oth (sx t.sts i) (ky M k)) = true := adjB_iff.2 ⟨i, hi, hcb, by rw [m3]⟩
      have hB' := m1.push hT hto m2 ho hadj (fndM_none.1 hf)
      rw [hv] at hB'
      have hky : ky (M' ++ [(oth (sx t.sts i) (ky M k), (d : Int) + 1)]) k = ky M' k := by
        unfold ky; rw [List.getD_eq_getElem?_getD, List.getElem?_append_left m2, ← List.getD_eq_getElem?_getD]
      have hkeys : keysM (M' ++ [(oth (sx t.sts i) (ky M k), (d : Int) + 1)]) = keysM M' ++ [oth (sx t.sts i) (ky M k)] := by simp [keysM]
      refine ⟨o1.trans p1, by rw [p2]; exact o2, _, hB', by simp; omega, hky.trans m3, ?_, fun j hj q1 q2 => ?_⟩
      · rw [hkeys, List.drop_append_of_le_length (by simp [keysM]; omega)]; exact p3
      · rw [hkeys]
        by_cases e : j = i
        · subst e; simp
        · exact List.mem_append_left _ (m5 j (by omega) q1 q2)
  · exact ⟨Old.refl _ _ _, hat, M, hB, hk, rfl, hS, fun j hj => absurd hj (Nat.not_lt_zero _)⟩
  · rintro _ g ⟨o1, o2, M', m1, m2, m3, m4, m5⟩
    refine ⟨o1, M', m1.next hT hto m2 fun q hq ha => ?_, m4⟩
    obtain ⟨i, hi, h1, h2⟩ := adjB_iff.1 ha
    rw [m3] at h2
    have := m5 i hi (by omega) h1
    rw [h2] at this; exact this
/-- The next square of a way. -/
theorem c75b (t : Tw) (c : List Int) (to frm at_ : Int) (hT : TwOk t) (hcl : c.length ≤ 1000000) (hto : 0 ≤ to ∧ to < t.rooms.length) (n0 l : Nat) (b11 b12 b18 b19 : Bid) (M : List (Int × Int)) (qs : List Int) (D d : Nat) (hF : SFin t c to frm M) (hD : isD t c to D frm) (hdD : d + 1 ≤ D) (hD12 : D ≤ 12) (hd : fndM M at_ = some ((d + 1 : Nat) : Int)) (h : AH) (hS : Sch n0 l b11 b12 M qs h)
    (hat : h.at_ b18 = some ⟨1, [[.int .i64 at_]]⟩) (hbs : h.at_ b19 = some ⟨1, [[.int .i64 (t.rooms.length : Nat)]]⟩) (e11 : b11.2 = 11) (e12 : b12.2 = 12) (e18 : b18.2 = 18) (e19 : b19.2 = 19) :
    ACalls Try.prog 75 [.int .i64 at_, .fn (.func 79) [] [.ptr b11 0 0, .ptr b18 0 0, .ptr b19 0 0], .iptr t.cells 0, .iptr [.lst 1 (c.map iv)] 0] h
      (fun _ h' => ∃ n, h.clk ≤ n ∧ h' = (h.tick n).put b19 (some ⟨1, [[.int .i64 (nxN t c to d at_ t.sts.length)]]⟩)) := by
  have n1 : ¬ b11 = b19 := fun e => by rw [e, e19] at e11; cases e11
  have n2 : ¬ b12 = b19 := fun e => by rw [e, e19] at e12; cases e12
  have n3 : ¬ b18 = b19 := fun e => by rw [e, e19] at e18; cases e18
  have hSch : ∀ (n : Nat) x, h.clk ≤ n → Sch n0 l b11 b12 M qs ((h.tick n).put b19 x) := fun n x hn => by
    obtain ⟨v, q1, q2⟩ := hS.q
    exact ⟨by rw [put_ne _ _ n1]; exact hS.m, hS.lp, v, by rw [put_ne _ _ n2]; exact q1, q2.same (fun b hb _ => by rw [put_ne _ _ (fun e => by rw [e, e19] at hb; omega)]; rfl) hn⟩
  let I : Nat → AH → Prop := fun i g => ∃ n, h.clk ≤ n ∧ g = (h.tick n).put b19 (some ⟨1, [[.int .i64 (nxN t c to d at_ i)]]⟩)
  refine c75 t c at_ 79 [.ptr b11 0 0, .ptr b18 0 0, .ptr b19 0 0] hT hcl rfl I ?_ ?_ ?_ h ?_
  · rintro i g m ⟨n, hn, rfl⟩ hm
    exact ⟨m, Nat.le_trans hn hm, rfl⟩
  · rintro i g hi hno ⟨n, hn, rfl⟩
    refine ⟨n, hn, ?_⟩
    have : nxN t c to d at_ (i + 1) = nxN t c to d at_ i := by
      show (if _ then _ else _) = _; rw [if_neg (fun e => hno ⟨e.2.1, e.1⟩)]
    rw [this]
  · rintro i g hi ho hcb ⟨n, hn, rfl⟩
    refine (c79 n0 l b11 b12 b18 b19 _ at_ ((d + 1 : Nat) : Int) (nxN t c to d at_ i) M qs _ (hSch n _ hn) (by rw [put_ne _ _ n3]; exact hat) (by simp only [go_sem]) hd (by omega)).mono ?_
    rintro _ g' ⟨m, hm, rfl⟩
    refine ⟨m, Nat.le_trans hn hm, ?_⟩
    have e1 : (((d + 1 : Nat) : Int) - 1) = (d : Int) := by omega
    have e2 : nxN t c to d at_ (i + 1) = if fndM M (oth (sx t.sts i) at_) = some (d : Int) then min (nxN t c to d at_ i) (oth (sx t.sts i) at_) else nxN t c to d at_ i := by
      show (if _ then _ else _) = _
      by_cases hh : fndM M (oth (sx t.sts i) at_) = some (d : Int)
      · rw [if_pos hh, if_pos]
        obtain ⟨n', e3, h4⟩ := hF.ok _ _ hh
        have : n' = d := by omega
        subst this
        exact ⟨hcb, ho, (dst_iff hT hto ho).2 h4⟩
      · rw [if_neg hh, if_neg]
        rintro ⟨_, _, h5⟩
        exact hh (hF.full D hD _ ho d (by omega) ((dst_iff hT hto ho).1 h5))
    rw [e1, ← e2]
    simp only [go_sem]
  · refine ⟨h.clk, Nat.le_refl _, ?_⟩
    show h = (h.tick h.clk).put b19 (some ⟨1, [[.int .i64 (t.rooms.length : Nat)]]⟩)
    unfold AH.put
    rw [show (h.tick h.clk).at_ = h.at_ from rfl, upd_self hbs]
    rfl
end Go.Proofs.Ythjbfdfhblloiaa
