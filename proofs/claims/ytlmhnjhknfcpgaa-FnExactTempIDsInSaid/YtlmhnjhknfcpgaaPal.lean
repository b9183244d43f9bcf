/-
  Own text: a part of the abstract machine for this seat (Pal). No statement is proved here.
-/
import Derived.Test.YtlmhnjhknfcpgaaGal
import Derived.Test.YtlmhnjhknfcpgaaPam
set_option linter.unusedVariables false
set_option linter.unusedSimpArgs false
namespace Go.AM
open Go.Proofs
attribute [local simp] ltB_self eqB_refl ix_nat
/-- The temporary identities of a network's registrations. -/
def tempsB (net : Int) (acc : List TTempID) (x : TRegistration) : Option (Step (List TTempID) (List TTempID)) :=
  bif eqB x.Network net then (bif apOk 16 (acc ++ [x.TempID]).length then some (.next (acc ++ [x.TempID])) else none) else some (.next acc)
theorem iTempIDsIn_eq {xs : List TRegistration} (h : xs.length ≤ 1048576) (net : Int) : iTempIDsIn xs net = forL (tempsB net) some xs [] := by
  have := iter_for (step := iTempIDsIn_L1 xs net) xs (fun k (s : List TTempID) => ((k : Int), s)) (tempsB net) some (by omega)
    (fun k x s hx hk => by
      simp only [iTempIDsIn_L1, ltB_lt hk, ix_nat, hx, WR_succ (show k < 9223372036854775807 by omega), tempsB, Option.bind_some, cond_true]
      cases eqB x.Network net <;> cases apOk 16 (s ++ [x.TempID]).length <;> rfl) (fun s => by simp [iTempIDsIn_L1]) []
  simpa [iTempIDsIn] using this
theorem sTempIDsIn_eq {xs : List TRegistration} (h : xs.length ≤ 1048576) (net : Int) : sTempIDsIn xs net = forL (tempsB net) some xs [] := by
  have := iter_for (step := sTempIDsIn_L1 xs net) xs (fun k (s : List TTempID) => ((k : Int), s)) (tempsB net) some (by omega)
    (fun k x s hx hk => by
      simp only [sTempIDsIn_L1, ltB_lt hk, ix_nat, hx, WR_succ (show k < 9223372036854775807 by omega), tempsB, Option.bind_some, cond_true]
      cases eqB x.Network net <;> cases apOk 16 (s ++ [x.TempID]).length <;> rfl) (fun s => by simp [sTempIDsIn_L1]) []
  simpa [sTempIDsIn] using this
theorem temps_some (net : Int) : ∀ (xs : List TRegistration) (acc : List TTempID), acc.length + xs.length ≤ 1048576 → ∃ r, forL (tempsB net) some xs acc = some r ∧ r.length ≤ acc.length + xs.length
  | [], acc, h => ⟨acc, rfl, by simp⟩
  | x :: xs, acc, h => by
    simp only [List.length_cons] at h
    rw [forL]
    cases hb : eqB x.Network net with
    | false =>
      obtain ⟨r, h1, h2⟩ := temps_some net xs acc (by omega)
      exact ⟨r, by simpa [tempsB, hb] using h1, by simp; omega⟩
    | true =>
      have ha : apOk 16 (acc ++ [x.TempID]).length = true := by simp [apOk]; omega
      obtain ⟨r, h1, h2⟩ := temps_some net xs (acc ++ [x.TempID]) (by simp; omega)
      refine ⟨r, ?_, by simp at h2 ⊢; omega⟩
      simp only [tempsB, hb, ha, cond_true]
      exact h1
theorem lFnExactTempIDsIn_ok {xs : List TRegistration} (hp : preL (fun _ => True) xs) (net : Int) : lFnExactTempIDsIn xs net = some true := by
  unfold lFnExactTempIDsIn
  obtain ⟨r1, a1, b1, c1⟩ := psz_RegistrationS xs 1048576 hp (by omega) (by omega)
  rcases c1 with ⟨c1, rfl⟩ | ⟨c1, d1, e1⟩
  · simp [a1, c1]
  have hl := e1.1
  obtain ⟨r, h1, h2⟩ := temps_some net xs [] (by simpa using hl)
  simp only [List.length_nil, Nat.zero_add] at h2
  have hr : okL (fun _ => True) r := ⟨by omega, fun _ _ => trivial⟩
  have hm1 : ltB (1 + (6 : Int) * (xs.length : Int)) 0 = false := lt0_f (by omega)
  have hm2 : ltB (1 + (2 : Int) * (r.length : Int)) 0 = false := lt0_f (by omega)
  simp [a1, c1, pto_RegistrationS xs e1, sTempIDsIn_eq hl, iTempIDsIn_eq hl, h1, peq_TempIDS r hr, peq_RegistrationS xs e1, pmark_RegistrationS xs hl, pmark_TempIDS r (by omega), pheld_TempIDS r.length (by omega), lenEq, marks_len, hm1, hm2]
theorem fnExactTempIDsIn_fn (x0 : D) (h0 : WT (.l [.i .i64, .i .i64, .i .i64, .i .i64, .i .i64, .i .i64]) x0) (x1 : D) (h1 : WT (.i .i64) x1) : Fn Try.prog 3 [.c x0, .c x1] [rB true] := by
  obtain ⟨y0, rfl, l0, w0⟩ := h0.gl
  obtain ⟨n0, rfl, p0⟩ := WTL_map (f := eTRegistration) (p := fun _ => True) (fun _ h => wtTRegistration h) w0
  obtain ⟨n1, rfl, w1⟩ := h1.gi
  exact lFnExactTempIDsIn_c (lFnExactTempIDsIn_ok ⟨by simpa using l0, p0⟩ n1)
end Go.AM
