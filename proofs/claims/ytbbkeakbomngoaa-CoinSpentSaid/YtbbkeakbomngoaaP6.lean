/- Contracts of functions that the claim reaches: what each call gives, told in our own logic. Conditions: those of each theorem. -/
import Derived.Test.YtbbkeakbomngoaaP3
import Derived.Test.YtbbkeakbomngoaaGR
import Derived.Test.YtbbkeakbomngoaaG17
set_option linter.all false
set_option linter.unusedSimpArgs false
set_option linter.unusedVariables false
namespace Go.Proofs.Ytbbkeakbomngoaa
open Go.Av
set_option maxRecDepth 20000
/-! ### What is left of the funds, as funds -/
def restF (l : Lg) (rs : List Int) : List Fd := (List.range l.fs.length).map fun k => ⟨(fd l.fs k).day, (fd l.fs k).till, rs.getD k 0, (fd l.fs k).uses⟩
theorem restF_len (l : Lg) (rs : List Int) : (restF l rs).length = l.fs.length := by simp [restF]
theorem fd_restF {l : Lg} {rs : List Int} {k : Nat} (h : k < l.fs.length) : fd (restF l rs) k = ⟨(fd l.fs k).day, (fd l.fs k).till, rs.getD k 0, (fd l.fs k).uses⟩ := by
  have e : (restF l rs)[k]? = some ⟨(fd l.fs k).day, (fd l.fs k).till, rs.getD k 0, (fd l.fs k).uses⟩ := by
    unfold restF; rw [List.getElem?_map, List.getElem?_range h]; rfl
  show (restF l rs).getD k _ = _
  rw [List.getD_eq_getElem?_getD, e]; rfl
theorem restOk {l : Lg} {rs : List Int} (hl : LgOk l) (hr : RsOk rs) : LgOk ⟨restF l rs, l.bs⟩ := by
  have hn := hl.fn
  refine ⟨by show (restF l rs).length ≤ 8; rw [restF_len]; exact hl.fn, hl.bn, fun x hx => ?_, hl.b⟩
  obtain ⟨k, hk, rfl⟩ := List.mem_iff_getElem.1 hx
  have hk' : k < l.fs.length := by rw [restF_len] at hk; exact hk
  have e : (restF l rs)[k] = fd (restF l rs) k := by unfold fd; rw [List.getD_eq_getElem?_getD, List.getElem?_eq_getElem hk]; rfl
  rw [e, fd_restF hk']
  have h := hl.f _ (fd_mem hk')
  exact ⟨h.day, h.ord, hr.2 k (by omega), h.many, h.uses⟩
theorem pay_rest {l : Lg} {rs : List Int} {k : Nat} (hk : k < l.fs.length) (s : Int) : payerB ⟨restF l rs, l.bs⟩ k s = payerB l k s := by
  unfold payerB
  show (List.range l.bs.length).any (fun i => hasB s i && payB (fd (restF l rs) k) (bl l.bs i)) = _
  rw [fd_restF hk]
  rfl
theorem slack_rest {l : Lg} {rs : List Int} (hn : l.fs.length ≤ 8) (s : Int) : slackB ⟨restF l rs, l.bs⟩ (amts (restF l rs)) s = slackB l rs s := by
  have h1 : sumF (givF ⟨restF l rs, l.bs⟩ (amts (restF l rs)) s) (restF l rs).length = sumF (givF l rs s) l.fs.length := by
    rw [restF_len]
    refine sumF_congr fun k hk => ?_
    unfold givF
    rw [pay_rest hk, amts_get (by omega), fd_restF hk]
  show sumF (givF ⟨restF l rs, l.bs⟩ (amts (restF l rs)) s) (restF l rs).length - dueB l s = _
  rw [h1]; rfl
/-! ### The least of what later bills can do without, over multiples alone -/
end Go.Proofs.Ytbbkeakbomngoaa
