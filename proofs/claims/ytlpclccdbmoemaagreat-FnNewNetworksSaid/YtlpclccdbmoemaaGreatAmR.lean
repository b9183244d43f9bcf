/-
  The abstract machine, part R: bools compared; parts of slices.
-/
import Derived.Test.YtlpclccdbmoemaaGreatAmQ
import Derived.Laws.Slices
import Derived.Laws.Small
set_option linter.unusedVariables false
namespace Go.AM
open Go.RowKit
section
variable {P : Program} {d : Option Tmp} {ty : TypeId} {ps : String} {af : Array Edge} {gd : Option (Nat × Bool)} {x y z : Operand}
@[irreducible] def booB (a b : Bool) : Bool := a == b
@[simp] theorem booB_t {a b : Bool} : booB a b = true ↔ a = b := by simp [booB]
@[simp] theorem booB_f {a b : Bool} : booB a b = false ↔ a ≠ b := by simp [booB]
theorem n_boo_eq {t t' : TypeId} {g g' : Bool} {a b : Bool} [ht : TyU P t .bool] :
    AWN P ⟨d, .binOp .eql t x y t', ty, ps, af, gd⟩ [(x, .v (.c (.d g (.b a)))), (y, .v (.c (.d g' (.b b))))] [] (.v (.c (.d false (.b (booB a b))))) [] :=
  awn_pure fun E ac w hn _ => by
    have h1 := cv_bool (hn x _ (.head _))
    have h2 := cv_bool (hn y _ (.tail _ (.head _)))
    exact ⟨.bool (a == b), by simp [execOp, h1, h2, eqGuard, binOp, run_equal_bool w t a b ht.h], by simp [cvT, cvV, cvC, rdD, booB]⟩
theorem n_boo_ne {t t' : TypeId} {g g' : Bool} {a b : Bool} [ht : TyU P t .bool] :
    AWN P ⟨d, .binOp .neq t x y t', ty, ps, af, gd⟩ [(x, .v (.c (.d g (.b a)))), (y, .v (.c (.d g' (.b b))))] [] (.v (.c (.d false (.b (!booB a b))))) [] :=
  awn_pure fun E ac w hn _ => by
    have h1 := cv_bool (hn x _ (.head _))
    have h2 := cv_bool (hn y _ (.tail _ (.head _)))
    exact ⟨.bool (!(a == b)), by simp [execOp, h1, h2, eqGuard, binOp, run_equal_bool w t a b ht.h], by simp [cvT, cvV, cvC, rdD, booB]⟩
theorem elem_of {t e : TypeId} (h : P.underlying t = some (.slice e)) : P.elem t = e ∧ P.underlying t = some (.slice (P.elem t)) := by
  have : P.elem t = e := by simp [Program.elem, h]
  exact ⟨this, by rw [this]; exact h⟩
theorem rd_sliced {w : World} {F : Nat → Prop} {xs : List (List D)} {A : Option Addr} {c l h sz : Nat} (hs : ∀ e ∈ xs, e.length = sz) (h1 : l ≤ h) (h2 : h ≤ xs.length) (hlc : xs.length ≤ c)
    (hr : xs = [] ∨ ∃ b off, A = some ⟨b, off, none⟩ ∧ F b ∧ rdLL w F xs b off) : rdD w F (.l ((xs.take h).drop l)) (sliced A l h c sz) := by
  have hl : ((xs.take h).drop l).length = h - l := by simp; omega
  rw [rdD, hl]
  refine ⟨_, _, rfl, by omega, ?_⟩
  by_cases hlh : h = l
  · left; exact List.eq_nil_of_length_eq_zero (by rw [hl]; omega)
  · right
    rcases hr with rfl | ⟨b, off, rfl, hb, hr⟩
    · simp at h2; omega
    · rw [if_neg (by omega)]
      exact ⟨b, off + l * sz, by simp [Addr.add], hb, rdLL_drop (rdLL_take h hr) (fun e he => hs e (List.mem_of_mem_take he)) l⟩
theorem n_slice_dh {t e sz by_ : Nat} {g g2 : Bool} {xs : List (List D)} {h : Int} {hi : Operand} [ht : TySl P t e sz by_] (hs : ∀ e ∈ xs, e.length = sz) (h0 : 0 ≤ h) (h2 : h ≤ xs.length) :
    AWN P ⟨d, .slice t x none (some hi) none, ty, ps, af, gd⟩ [(x, .v (.c (.d g (.l xs)))), (hi, .v (.c (.d g2 (.i .i64 h))))] [] (.v (.c (.d g (.l (xs.take h.toNat))))) [] :=
  awn_pure fun E ac w hn _ => by
    have k1 := hn x _ (.head _)
    have k3 := cv_int (hn hi _ (.tail _ (.head _)))
    simp only [cvT, cvV, cvC, rdD] at k1
    obtain ⟨A, c, hu, hlc, hr⟩ := k1
    obtain ⟨i, z, hi1, hi2, _⟩ := ht.i
    obtain ⟨he, hu'⟩ := elem_of ht.u
    refine ⟨sliced A 0 h.toNat c sz, ?_, by have := rd_sliced (l := 0) (h := h.toNat) hs (by omega) (by omega) hlc hr; rw [List.drop_zero] at this; exact this⟩
    simp [execOp, hu, k3, run_sliceAt_slice w t _ _ _ _ hu', run_slice_h w t A xs.length c hu' .i64 h h0 (by omega), he, sizeOf_run hi1, hi2]
end
section
variable {P : Program} {N : Nat} {d : Tmp} {ty : TypeId} {ps : String} {af : Array Edge} {gd : Option (Nat × Bool)} {x y z : Operand} {sl : List (Nat × T)} {ob : List (Nat × Ob)} {nx : Nat}
theorem bq {t t' : TypeId} {g g' : Bool} {a b : Bool} [TyU P t .bool] (hx : opT sl x = .v (.c (.d g (.b a)))) (hy : opT sl y = .v (.c (.d g' (.b b)))) (hN : nlt d N = true) :
    NS0 P N ⟨some d, .binOp .eql t x y t', ty, ps, af, gd⟩ sl ob nx d (tB (booB a b)) ⟨d, [(x, .v (.c (.d g (.b a)))), (y, .v (.c (.d g' (.b b))))], [], tB (booB a b), []⟩ := ns_mk (st := ⟨sl, ob, nx⟩) n_boo_eq rfl hN ⟨hx, hy, trivial⟩ trivial rfl
theorem bne {t t' : TypeId} {g g' : Bool} {a b : Bool} [TyU P t .bool] (hx : opT sl x = .v (.c (.d g (.b a)))) (hy : opT sl y = .v (.c (.d g' (.b b)))) (hN : nlt d N = true) :
    NS0 P N ⟨some d, .binOp .neq t x y t', ty, ps, af, gd⟩ sl ob nx d (tB (!booB a b)) ⟨d, [(x, .v (.c (.d g (.b a)))), (y, .v (.c (.d g' (.b b))))], [], tB (!booB a b), []⟩ := ns_mk (st := ⟨sl, ob, nx⟩) n_boo_ne rfl hN ⟨hx, hy, trivial⟩ trivial rfl
theorem cdh {t e sz by_ : Nat} {g g2 : Bool} {xs : List (List D)} {h : Int} {hi : Operand} [ht : TySl P t e sz by_] (hx : opT sl x = .v (.c (.d g (.l xs)))) (hh : opT sl hi = .v (.c (.d g2 (.i .i64 h)))) (hN : nlt d N = true)
    (hs : ∀ e ∈ xs, e.length = sz) (h0 : 0 ≤ h) (h2 : h ≤ xs.length) :
    NS0 P N ⟨some d, .slice t x none (some hi) none, ty, ps, af, gd⟩ sl ob nx d (.v (.c (.d g (.l (xs.take h.toNat))))) ⟨d, [(x, .v (.c (.d g (.l xs)))), (hi, .v (.c (.d g2 (.i .i64 h))))], [], .v (.c (.d g (.l (xs.take h.toNat)))), []⟩ :=
  ns_mk (st := ⟨sl, ob, nx⟩) (n_slice_dh hs h0 h2) rfl hN ⟨hx, hh, trivial⟩ trivial rfl
end
end Go.AM
