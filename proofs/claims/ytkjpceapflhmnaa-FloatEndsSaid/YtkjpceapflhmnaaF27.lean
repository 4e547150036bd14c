/- Contracts of functions that the claim reaches: what each call gives, told in our own logic. Conditions: those of each theorem. -/
import Derived.Test.YtkjpceapflhmnaaF14
import Derived.Test.YtkjpceapflhmnaaF24
import Derived.Test.YtkjpceapflhmnaaF25
import Derived.Test.YtkjpceapflhmnaaF26
set_option linter.all false
set_option linter.unusedSimpArgs false
set_option linter.unusedVariables false
namespace Go.Proofs.Ytkjpceapflhmnaa
open Go.Av
section
variable {P : Program} {tt : Nat → TI} {fi : FI}
theorem ASem.le1 {r : Option Nat} {n : Nat} {code : Code} {Q : Exit → AS → Prop} {T : Nat → AV} {B : Bid → Option (List AV)} {M : List Nat} {H : AH} (d : Nat) {v v' : AV} (hd : T d = v) (hn : noL v = true) (hl : VLe v v')
    (h : ASem P r n code Q ⟨upd T d v', B, M, H⟩) : ASem P r n code Q ⟨T, B, M, H⟩ := by
  intro c0 h0 c lb a S
  refine h c0 h0 c lb a ⟨S.hr, ⟨S.fr.size, fun t => ?_, S.fr.defers, S.fr.marks, S.fr.box, S.fr.lbclk, S.fr.lbinj, S.fr.lbsize⟩, S.evo, S.new, S.dn, S.mnew⟩
  by_cases e : t = d
  · subst e; dsimp only; rw [upd_same]
    have := S.fr.tmps t
    dsimp only at this
    rw [hd] at this
    exact (hl _ _ (this.vr hn)).vl lb
  · dsimp only; rw [upd_ne _ _ e]; exact S.fr.tmps t
theorem ASem.frzS {r : Option Nat} {n : Nat} {code : Code} {Q : Exit → AS → Prop} {T : Nat → AV} {B : Bid → Option (List AV)} {M : List Nat} {H : AH} {b : Bid} {k : Blk} (d : Nat) {z m : Nat} (hd : T d = .slc b z 0 m) (hb : H.at_ b = some k) (hi : m = k.es.length)
    (h : ASem P r n code Q ⟨upd T d (.lst z k.es), B, M, H.put b none⟩) : ASem P r n code Q ⟨T, B, M, H⟩ := by
  refine ASem.frz hb (fun t => ?_) h
  by_cases e : t = d
  · subst e
    rw [upd_same, hd]
    right
    subst hi
    simp [Av.frz]
  · exact .inl (upd_ne _ _ e)
theorem ASem.cutS {r : Option Nat} {n : Nat} {code : Code} {Q : Exit → AS → Prop} {T : Nat → AV} {B : Bid → Option (List AV)} {M : List Nat} {H : AH} (d z : Nat) (l : List (List AV))
    (hd : (T d = .nils ∧ l = []) ∨ ∃ b, T d = .slc b z 0 l.length ∧ H.at_ b = some ⟨z, l⟩)
    (h : ∀ H', ASem P r n code Q ⟨upd T d (.lst z l), B, M, H'⟩) : ASem P r n code Q ⟨T, B, M, H⟩ := by
  rcases hd with ⟨h1, rfl⟩ | ⟨b, h1, h2⟩
  · exact ASem.le1 d h1 rfl (VLe.nils z) (h H)
  · exact ASem.frzS d h1 h2 rfl (h _)
theorem asem_seqK (T : Tab P tt) (hm : P.follows .mixedOrders = true) {a b : Code} {Q : Exit → AS → Prop} {s : AS} (K : AS → Prop) (hk : codeOk fi a = true) (h : awp P tt fi a (thenA K (fun _ _ => False)) s) (h2 : ∀ s', K s' → ASem P fi.rnd fi.n b Q s') : ASem P fi.rnd fi.n (.seq a b) Q s := by
  refine ASem.seq ((asem_awp T hm hk h).mono fun e s' => ?_)
  cases e with
  | normal => exact h2 s'
  | _ => exact False.elim
end
attribute [local irreducible] thenA blockA awp awpOps awpD awp1
set_option maxHeartbeats 8000000
set_option maxRecDepth 20000
theorem pvs_getD {f : Fl} {r : List Hu} {i : Nat} (h : i < r.length) : ((pVs f 0 0 r).map iv).getD i [] = [.int .i64 (pV f 0 0 (hu r i))] := by
  simp [pVs, iv, hu, List.getD_eq_getElem?_getD, h]
theorem bothGood {f : Fl} {n : Int} {r : List Hu} (hf : FlGood f n) (hn : n ≤ 20) (hl : r.length ≤ 40) (hr : ∀ x ∈ r, hurdleE x = 0) : bothE f r = 0 := by
  have aux : ∀ l : List Hu, (∀ x ∈ l, hurdleE x = 0) → hurdlesE l = 0 := by
    intro l
    induction l with
    | nil => intro _; rfl
    | cons x l ih =>
      intro h
      unfold hurdlesE
      rw [if_neg (by rw [h x (List.mem_cons_self ..)]; decide)]
      exact ih fun y hy => h y (List.mem_cons_of_mem _ hy)
  unfold bothE
  rw [chkGood hf hn, if_neg (by decide)]
  unfold routeE
  rw [if_neg (by omega)]
  exact aux r hr
theorem c19g (f : Fl) (n : Int) (r : List Hu) (hf : FlGood f n) (hn : n ≤ 20) (hl : r.length ≤ 40) (hr : ∀ x ∈ r, hurdleE x = 0) : Pure Try.prog 19 [f.av, .lst 3 (r.map Hu.row)] (fun v => v = .tup [.lst 1 ((pVs f 0 0 r).map iv), .int .i64 0]) := by
  have h := c19 f r
  unfold passV at h
  rw [if_neg (by rw [bothGood hf hn hl hr]; decide)] at h; exact h
theorem c26g (f : Fl) (n : Int) (r : List Hu) (hf : FlGood f n) (hn : n ≤ 20) (hl : r.length ≤ 40) (hr : ∀ x ∈ r, hurdleE x = 0) : Pure Try.prog 26 [f.av, .lst 3 (r.map Hu.row)] (fun v => ∃ k : Int, v = .tup [.int .i64 k, .int .i64 0] ∧
    -1 ≤ k ∧ k < r.length ∧ (k < 0 → ∀ j, j < r.length → pV f 0 0 (hu r j) = 1) ∧ (0 ≤ k → pV f 0 0 (hu r k.toNat) ≠ 1 ∧ ∀ j : Nat, j < k → pV f 0 0 (hu r j) = 1)) := by
  intro h
  refine (c26 f r h).mono ?_
  rintro v h' ⟨q0, q1⟩
  unfold stopR at q1
  rw [if_neg (by rw [bothGood hf hn hl hr]; decide)] at q1
  obtain ⟨k, rfl, ⟨rfl, hk⟩ | ⟨j, hj, rfl, hk, hi⟩⟩ := q1
  · exact ⟨q0, -1, rfl, by omega, by omega, fun _ => hk, fun h => by omega⟩
  · exact ⟨q0, j, rfl, by omega, by omega, fun h => by omega, fun _ => ⟨by simpa using hk, fun i hij => hi i (by omega)⟩⟩
/-- The route in another order. -/
def oth (r : List Hu) (o : List Int) : List Hu := o.map fun k => hu r k.toNat
theorem oth_len (r : List Hu) (o : List Int) : (oth r o).length = o.length := by simp [oth]
theorem oth_hu {r : List Hu} {o : List Int} {i : Nat} (h : i < o.length) : hu (oth r o) i = hu r (o.getD i 0).toNat := by
  have h2 : i < (oth r o).length := by rw [oth_len]; exact h
  conv => lhs; unfold hu
  rw [List.getD_eq_getElem?_getD, List.getElem?_eq_getElem h2, List.getD_eq_getElem?_getD, List.getElem?_eq_getElem h]
  simp [oth]
theorem oth_mem {r : List Hu} {o : List Int} (ho : ∀ x ∈ o, 0 ≤ x ∧ x < (r.length : Int)) : ∀ y ∈ oth r o, y ∈ r := by
  intro y hy
  obtain ⟨k, hk, rfl⟩ := List.mem_map.1 hy
  have := ho k hk
  exact hu_mem (by omega)
theorem oth_take {r : List Hu} {o : List Int} {i : Nat} (h : i < o.length) : (oth r o).take (i + 1) = (oth r o).take i ++ [hu r (o.getD i 0).toNat] := by
  have h2 : i < (oth r o).length := by rw [oth_len]; exact h
  rw [List.take_succ_eq_append_getElem h2]
  congr 1
  rw [← oth_hu h]
  unfold hu
  rw [List.getD_eq_getElem?_getD, List.getElem?_eq_getElem h2]; rfl
theorem ord_get {o : List Int} {N : Int} (ho : ∀ x ∈ o, 0 ≤ x ∧ x < N) {i : Nat} (h : i < o.length) : 0 ≤ o.getD i 0 ∧ o.getD i 0 < N := by
  rw [List.getD_eq_getElem?_getD, List.getElem?_eq_getElem h]
  exact ho _ (List.getElem_mem h)
def flc (f : Fl) : List AV := [.int .i64 f.len, .int .i64 f.wid, .int .i64 f.front, .int .i64 f.rear, .int .i64 f.turn, .int .i64 f.kilos, .int .i64 f.mid, .int .i64 f.high, .lst 7 (f.loads.map Ld.row)]
end Go.Proofs.Ytkjpceapflhmnaa
