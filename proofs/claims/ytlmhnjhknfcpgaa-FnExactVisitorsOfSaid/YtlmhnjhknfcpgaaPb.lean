/-
  Own text: a part of the abstract machine for this seat (Pb). No statement is proved here.
-/
import Derived.Test.YtlmhnjhknfcpgaaGal
import Derived.Test.YtlmhnjhknfcpgaaPam
set_option linter.unusedVariables false
set_option linter.unusedSimpArgs false
namespace Go.AM
open Go.Proofs
attribute [local simp] ltB_self eqB_refl ix_nat
def visP (home : Int) (x : TRegistration) : Bool := eqB x.ID.Network home && !eqB x.Network home
theorem iVisitorsOf_eq {xs : List TRegistration} (h : xs.length ≤ 1048576) (n : Int) : iVisitorsOf xs n = some ((xs.filter (visP n)).map (·.ID)) := by
  have := iter_for (step := iVisitorsOf_L1 xs n) xs (fun k (s : List TSubscriberID) => ((k : Int), s)) (fappB 16 (visP n) (·.ID)) some (by omega)
    (fun k x s hx hk => by
      simp only [iVisitorsOf_L1, ltB_lt hk, ix_nat, hx, WR_succ (show k < 9223372036854775807 by omega), fappB, visP, Option.bind_some, cond_true]
      cases eqB x.ID.Network n <;> cases eqB x.Network n <;> cases apOk 16 (s ++ [x.ID]).length <;> rfl) (fun s => by simp [iVisitorsOf_L1]) []
  rw [iVisitorsOf, show iter (iVisitorsOf_L1 xs n) FU (0, []) = _ from this, fapp_eq (by decide) _ _ _ _ (by simpa using h)]
  simp
theorem sVisitorsOf_eq {xs : List TRegistration} (h : xs.length ≤ 1048576) (n : Int) : sVisitorsOf xs n = some ((xs.filter (visP n)).map (·.ID)) := by
  have := iter_for (step := sVisitorsOf_L1 xs n) xs (fun k (s : List TSubscriberID) => ((k : Int), s)) (fappB 16 (visP n) (·.ID)) some (by omega)
    (fun k x s hx hk => by
      simp only [sVisitorsOf_L1, ltB_lt hk, ix_nat, hx, WR_succ (show k < 9223372036854775807 by omega), fappB, visP, Option.bind_some, cond_true]
      cases eqB x.ID.Network n <;> cases eqB x.Network n <;> cases apOk 16 (s ++ [x.ID]).length <;> rfl) (fun s => by simp [sVisitorsOf_L1]) []
  rw [sVisitorsOf, show iter (sVisitorsOf_L1 xs n) FU (0, []) = _ from this, fapp_eq (by decide) _ _ _ _ (by simpa using h)]
  simp
theorem lFnExactVisitorsOf_ok (xs : List TRegistration) (hp : preL (fun _ => True) xs) (n : Int) (hn : (Lit.int .i64 n).wf = true) : lFnExactVisitorsOf xs n = some true := by
  unfold lFnExactVisitorsOf
  obtain ⟨r1, a1, b1, c1⟩ := psz_RegistrationS xs 1048576 hp (by omega) (by omega)
  rcases c1 with ⟨c1, rfl⟩ | ⟨c1, d1, e1⟩
  · simp [a1, c1]
  have hl := e1.1
  have h2 := filt_len (visP n) (·.ID) xs
  obtain ⟨r, hr⟩ : ∃ r, r = (xs.filter (visP n)).map (·.ID) := ⟨_, rfl⟩
  have hi := iVisitorsOf_eq hl n
  have hs := sVisitorsOf_eq hl n
  rw [← hr] at h2 hi hs
  have hr : okL (fun _ => True) r := ⟨by omega, fun _ _ => trivial⟩
  have hm1 : ltB (1 + (6 : Int) * (xs.length : Int)) 0 = false := lt0_f (by omega)
  have hm2 : ltB (1 + (2 : Int) * (r.length : Int)) 0 = false := lt0_f (by omega)
  simp [a1, c1, pto_RegistrationS xs e1, hi, hs, peq_SubscriberIDS r hr, peq_RegistrationS xs e1, pmark_RegistrationS xs hl, pmark_SubscriberIDS r (by omega), pheld_SubscriberIDS r.length (by omega), lenEq, marks_len, hm1, hm2]
theorem fnExactVisitorsOf_fn (x0 : D) (h0 : WT (.l [.i .i64, .i .i64, .i .i64, .i .i64, .i .i64, .i .i64]) x0) (x1 : D) (h1 : WT (.i .i64) x1) : Fn Try.prog 4 [.c x0, .c x1] [rB true] := by
  obtain ⟨y0, rfl, l0, w0⟩ := h0.gl
  obtain ⟨a0, rfl, p0⟩ := WTL_map (f := eTRegistration) (p := fun _ => True) (fun _ h => wtTRegistration h) w0
  obtain ⟨a1, rfl, w1⟩ := h1.gi
  exact lFnExactVisitorsOf_c (lFnExactVisitorsOf_ok a0 ⟨by simpa using l0, p0⟩ a1 w1)
end Go.AM
