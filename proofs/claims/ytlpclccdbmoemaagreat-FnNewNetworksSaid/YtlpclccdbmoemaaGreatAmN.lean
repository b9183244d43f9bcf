/-
  The abstract machine, part N: small steps of control.
-/
import Derived.Test.YtlpclccdbmoemaaGreatAmM
set_option linter.unusedVariables false
namespace Go.AM
section
variable {P : Program} {N : Nat} {K : St → Prop} {AQ : Exit → St → Prop} {s : St} {n id : Nat}
theorem tn (h : K s) : thenN K AQ .normal s := h
theorem tr (h : AQ .ret s) : thenN K AQ .ret s := h
theorem te (h : AQ (.exit n) s) : thenN K AQ (.exit n) s := h
theorem bn (h : AQ .normal s) : blockQ id AQ .normal s := h
theorem br (h : AQ .ret s) : blockQ id AQ .ret s := h
theorem bx (hb : Nat.beq n id = true) (h : AQ .normal s) : blockQ id AQ (.exit n) s := by simp only [blockQ, hb]; exact h
theorem bo (hb : Nat.beq n id = false) (h : AQ (.exit n) s) : blockQ id AQ (.exit n) s := by simp only [blockQ, hb]; exact h
theorem fin_ret {rs : List ResultVar} {res res' : List RV} {vs : List V} {ls : List Nat} (h : ResVs P s rs vs) (he : expVs s.ob vs = some (res', ls)) (hn : nodupO ls = true) (hr : res' = res) : Post N P rs res .ret s := by
  subst hr; exact post_ret ⟨vs, ls, h, he, hn⟩
end
end Go.AM
