/-
  The abstract machine, part U: models by value: partial results, rounds of a loop, joins; the steps on rows and data of a known kind of element.
-/
import Derived.Test.YtlpclccdbmoemaaGreatAmT
set_option linter.unusedVariables false
namespace Go.AM
open Go.RowKit

inductive Step (σ ρ : Type) where
  | next (x : σ)
  | done (r : ρ)
/-- The rounds of a loop, at most n of them. -/
def iter {σ ρ : Type} (step : σ → Option (Step σ ρ)) : Nat → σ → Option ρ
  | 0, _ => none
  | n + 1, x => match step x with
    | some (.next x') => iter step n x'
    | some (.done r) => some r
    | none => none
def dn {σ ρ : Type} (o : Option ρ) : Option (Step σ ρ) := match o with | some r => some (.done r) | none => none
/-- More rounds than any run of a loop has. -/
@[irreducible] def FU : Nat := 18446744073709551616
/-- The element at a place, if there is one. -/
def ix {α : Type} (xs : List α) (i : Int) : Option α := bif leB 0 i then xs[i.toNat]? else none

theorem bt {α : Type} {b : Bool} {x y : Option α} {r : Option α} (h : b = true) (H : (bif b then x else y) = r) : x = r := by subst h; exact H
theorem bf {α : Type} {b : Bool} {x y : Option α} {r : Option α} (h : b = false) (H : (bif b then x else y) = r) : y = r := by subst h; exact H
theorem ob {α β : Type} {o : Option α} {k : α → Option β} {r : β} (H : Option.bind o k = some r) : ∃ a, o = some a ∧ k a = some r := Option.bind_eq_some_iff.1 H
theorem rq {α : Type} {b : Bool} {x : Option α} {r : α} (H : (bif b then x else none) = some r) : b = true ∧ x = some r := by
  cases b
  · cases H
  · exact ⟨rfl, H⟩
theorem dnE {σ ρ : Type} {m : Option ρ} {o : Step σ ρ} (H : dn m = some o) : ∃ r, m = some r ∧ o = .done r := by
  cases m with
  | none => cases H
  | some r => exact ⟨r, rfl, (Option.some.inj H).symm⟩
theorem ixE {α : Type} {xs : List α} {i : Int} {x : α} (H : ix xs i = some x) : 0 ≤ i ∧ xs[i.toNat]? = some x := by
  unfold ix at H
  obtain ⟨h, H⟩ := rq H
  exact ⟨by simpa [leB] using h, H⟩
theorem ix_lt {α : Type} {xs : List α} {i : Int} {x : α} (H : ix xs i = some x) : i < xs.length := by
  obtain ⟨h0, h1⟩ := ixE H
  have := (List.getElem?_eq_some_iff.1 h1).1
  omega
theorem ix_map {α β : Type} {xs : List α} {i : Int} {x : α} (f : α → β) (H : ix xs i = some x) : (xs.map f)[i.toNat]? = some (f x) := by
  rw [List.getElem?_map, (ixE H).2]; rfl

section
variable {P : Program} {N : Nat} {st : St} {AQ : Exit → St → Prop}
theorem weak_trans {a b c : St} (h : Weak N a b) (k : Weak N b c) : Weak N a c := fun cx E ac w hR => let ⟨E', h'⟩ := h cx E ac w hR; k cx E' ac w h'
theorem weak_refl (a : St) : Weak N a a := fun _ E _ _ h => ⟨E, h⟩
/-- Posts that hold of a state that says more if they hold of one that says less. -/
class Clo (N : Nat) (AQ : Exit → St → Prop) : Prop where
  h : ∀ e s m, Weak N s m → AQ e m → AQ e s
instance {rs : List ResultVar} {res : List RV} : Clo N (Post N P rs res) := ⟨fun e s m hw h => by
  cases e <;> simp only [Post] at h ⊢ <;> first | exact h | (obtain ⟨s', h1, h2⟩ := h; exact ⟨s', weak_trans hw h1, h2⟩)⟩
instance {y : Code} [c : Clo N AQ] : Clo N (thenN (fun s => AWC P N y s AQ) AQ) := ⟨fun e s m hw h => by
  cases e <;> first | exact awc_weak hw h | exact c.h _ _ _ hw h⟩
instance {id : Nat} [c : Clo N AQ] : Clo N (blockQ id AQ) := ⟨fun e s m hw h => by
  cases e with
  | exit n =>
    simp only [blockQ] at h ⊢
    cases hb : Nat.beq n id <;> rw [hb] at h <;> exact c.h _ _ _ hw h
  | _ => exact c.h _ _ _ hw h⟩
instance {M : St} [c : Clo N AQ] : Clo N (thenN (fun s => Weak N s M) AQ) := ⟨fun e s m hw h => by
  cases e <;> first | exact weak_trans hw h | exact c.h _ _ _ hw h⟩
/-- What a round of a loop ends with. -/
def iterQ {σ ρ : Type} (N : Nat) (S : σ → St) (r : ρ) (o : Step σ ρ) (AQ : Exit → St → Prop) : Exit → St → Prop :=
  thenN (fun s => ∃ x', o = .next x' ∧ Weak N s (S x')) (fun e s => ∃ r', o = .done r' ∧ (r' = r → AQ e s))
instance {σ ρ : Type} {S : σ → St} {r : ρ} {o : Step σ ρ} [c : Clo N AQ] : Clo N (iterQ N S r o AQ) := ⟨fun e s m hw h => by
  cases e <;> first
    | (obtain ⟨x', h1, h2⟩ := h; exact ⟨x', h1, weak_trans hw h2⟩)
    | (obtain ⟨r', h1, h2⟩ := h; exact ⟨r', h1, fun hq => c.h _ _ _ hw (h2 hq)⟩)⟩
theorem iq_n {σ ρ : Type} {S : σ → St} {r : ρ} {x' : σ} {s : St} (h : Weak N s (S x')) : iterQ (ρ := ρ) N S r (.next x') AQ .normal s := ⟨x', rfl, h⟩
theorem iq_e {σ ρ : Type} {S : σ → St} {r r' : ρ} {n : Nat} {s : St} (h : r' = r → AQ (.exit n) s) : iterQ N S r (Step.done r') AQ (.exit n) s := ⟨r', rfl, h⟩
theorem iq_r {σ ρ : Type} {S : σ → St} {r r' : ρ} {s : St} (h : r' = r → AQ .ret s) : iterQ N S r (Step.done r') AQ .ret s := ⟨r', rfl, h⟩
theorem awc_join {x : Code} (M : St) [c : Clo N AQ] (h1 : AWC P N x st (thenN (fun s => Weak N s M) AQ)) (h2 : AQ .normal M) : AWC P N x st AQ :=
  awc_mono h1 fun e s h => by
    cases e <;> first | exact c.h _ _ _ h h2 | exact h
theorem awc_jblk {x : Code} {id : Nat} (M : St) [c : Clo N AQ] (h1 : AWC P N x st (blockQ id (thenN (fun s => Weak N s M) AQ))) (h2 : AQ .normal M) : AWC P N x st (blockQ id AQ) :=
  awc_mono h1 fun e s h => by
    cases e with
    | exit n =>
      simp only [blockQ] at h ⊢
      cases hb : Nat.beq n id <;> rw [hb] at h
      · exact h
      · exact c.h _ _ _ h h2
    | normal => exact c.h _ _ _ h h2
    | _ => exact h
class CloK (N : Nat) (K : St → Prop) : Prop where
  h : ∀ s m, Weak N s m → K m → K s
instance {y : Code} : CloK N (fun s => AWC P N y s AQ) := ⟨fun s m hw h => awc_weak hw h⟩
instance [c : Clo N AQ] : CloK N (fun s => AQ .normal s) := ⟨fun s m hw h => c.h _ _ _ hw h⟩
instance {M : St} : CloK N (fun s => Weak N s M) := ⟨fun s m hw h => weak_trans hw h⟩
theorem awr_join {ops : Array Oper} {l : List Oper} {K : St → Prop} (M : St) [c : CloK N K] (h1 : AWR P N ops l st (fun s => Weak N s M)) (h2 : K M) : AWR P N ops l st K :=
  awr_mono (fun s h => c.h _ _ h h2) h1
theorem dr_mono {ops : Array Oper} {K K' : List Inf → St → Prop} (hk : ∀ is s, K is s → K' is s) : ∀ {l : List Oper} {is : List Inf} {st : St}, DR P N ops l is st K → DR P N ops l is st K'
  | [], is, st, h => hk _ _ h
  | o :: l, is, st, h => by
    obtain ⟨x, s1, s2, h1, h2, h3⟩ := h
    exact ⟨x, s1, s2, h1, h2, dr_mono hk h3⟩
theorem dr_join {ops ops' : Array Oper} {l : List Oper} {is : List Inf} {nx : Nat} {K : St → Prop} (M : St) [c : CloK N K] (h1 : DR P N ops l is st (fun is t => drawOK ops' is nx = true ∧ Weak N t M)) (h2 : K M) : DR P N ops l is st (fun is t => drawOK ops' is nx = true ∧ K t) :=
  dr_mono (fun is s h => ⟨h.1, c.h _ _ h.2 h2⟩) h1
theorem awc_iter {c : Code} {σ ρ : Type} {step : σ → Option (Step σ ρ)} {n : Nat} {x0 : σ} {r : ρ} (S : σ → St) (H : iter step n x0 = some r) (h0 : Weak N st (S x0))
    (round : ∀ x o, step x = some o → AWC P N c (S x) (iterQ N S r o AQ)) : AWC P N (.loop c) st AQ := by
  refine awc_loop (σ := Nat × σ) (fun p => iter step p.1 p.2 = some r) (fun p => S p.2) (fun p => p.1) (n, x0) H h0 ?_
  rintro ⟨m, x⟩ hI
  cases m with
  | zero => cases hI
  | succ m =>
    simp only [iter] at hI
    cases hs : step x with
    | none => rw [hs] at hI; cases hI
    | some o =>
      rw [hs] at hI
      refine awc_mono (round x o hs) fun e s h => ?_
      cases o with
      | next x' =>
        cases e with
        | normal =>
          obtain ⟨x'', hx, hw⟩ := h
          cases hx
          exact ⟨(m, x'), hI, hw, Nat.lt_succ_self _⟩
        | _ => obtain ⟨r', hx, _⟩ := h; cases hx
      | done r' =>
        cases hI
        cases e with
        | normal => obtain ⟨x'', hx, hw⟩ := h; cases hx
        | _ => obtain ⟨r'', hx, h⟩ := h; cases hx; exact h rfl
end
end Go.AM
