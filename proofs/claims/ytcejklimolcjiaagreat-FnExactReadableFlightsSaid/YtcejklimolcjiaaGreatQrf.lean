/-
  Own text: a part of the abstract machine for this seat (Qrf). No statement is proved here.
-/
import Derived.Test.YtcejklimolcjiaaGreatHel
import Derived.Test.YtcejklimolcjiaaGreatQem
set_option linter.unusedVariables false
set_option linter.unusedSimpArgs false
namespace Go.AM
open Go.Proofs
attribute [local simp] ltB_self eqB_refl ix_nat
theorem zip_all : ∀ (a b : List Int), a.length ≤ b.length → ((a.zip b).all fun x => eqB x.1 x.2) = a.isPrefixOf b
  | [], b, _ => by simp [List.isPrefixOf]
  | x :: a, [], h => by simp at h
  | x :: a, y :: b, h => by
    rw [List.zip_cons_cons, List.all_cons, zip_all a b (by simpa using h), List.isPrefixOf]
    congr 1
    by_cases e : x = y
    · subst e; simp [eqB]
    · rw [show eqB x y = false from by simp [eqB, e]]; simp [e]
theorem geq_eq {a b : List Int} (h : a.length ≤ 1048576) (hl : a.length = b.length) : gslices_Equal_int_int a b = some (a.isPrefixOf b) := by
  unfold gslices_Equal_int_int
  rw [show eqB ((a.length : Nat) : Int) ((b.length : Nat) : Int) = true from by simp [eqB, hl], ← zip_all a b (by omega)]
  simp only [Bool.not_true, cond_false]
  have hz : (a.zip b).length = a.length := by simp; omega
  refine all_rule (a.zip b) _ (by omega) (fun k x hx hk => ?_) (by rw [hz]; simp [gslices_Equal_int_int_L1])
  have h1 : k < a.length := by omega
  have h2 : k < b.length := by omega
  have : x = (a[k], b[k]) := by rw [List.getElem?_eq_getElem hk] at hx; simpa using hx.symm
  subst this
  simp only [gslices_Equal_int_int_L1, ltB_lt h1, ix_nat, List.getElem?_eq_getElem h1, List.getElem?_eq_getElem h2, WR_succ (show k < 9223372036854775807 by omega), Option.bind_some, cond_true]
  cases eqB a[k] b[k] <;> rfl
theorem ipref_eq {p q : TKeyPath} (h : p.Steps.length ≤ 1048576) : iIsPrefixPath p q = some (p.Steps.isPrefixOf q.Steps) := by
  unfold iIsPrefixPath iEqualInts
  by_cases hl : p.Steps.length ≤ q.Steps.length
  · rw [show leB ((p.Steps.length : Nat) : Int) ((q.Steps.length : Nat) : Int) = true from by simp [leB, hl]]
    rw [show slOk q.Steps 0 ((p.Steps.length : Nat) : Int) = true from by simp [slOk, hl]]
    simp only [cond_true, Int.toNat_natCast]
    rw [geq_eq h (by simp; omega)]
    simp only [Option.bind_some]
    congr 1
    rw [Bool.eq_iff_iff]
    simp only [List.isPrefixOf_iff_prefix]
    constructor
    · intro hp; exact hp.trans (List.take_prefix _ _)
    · intro hp; rw [List.prefix_iff_eq_take] at hp; rw [← hp]; exact List.prefix_rfl
  · rw [show leB ((p.Steps.length : Nat) : Int) ((q.Steps.length : Nat) : Int) = false from by simp [leB]; omega]
    simp only [cond_false, Option.bind_some]
    congr 1
    symm
    rw [Bool.eq_false_iff]
    intro hp
    have := List.IsPrefix.length_le (List.isPrefixOf_iff_prefix.1 hp)
    omega
theorem spref_eq {p q : TKeyPath} (h : p.Steps.length ≤ 1048576) : sIsPrefixPath p q = some (p.Steps.isPrefixOf q.Steps) := by
  unfold sIsPrefixPath
  by_cases hl : p.Steps.length ≤ q.Steps.length
  · rw [show ltB ((q.Steps.length : Nat) : Int) ((p.Steps.length : Nat) : Int) = false from by simp [ltB]; omega, ← zip_all _ _ hl]
    simp only [cond_false]
    have hz : (p.Steps.zip q.Steps).length = p.Steps.length := by simp; omega
    refine all_rule (p.Steps.zip q.Steps) _ (by omega) (fun k x hx hk => ?_) (by rw [hz]; simp [sIsPrefixPath_L1])
    have h1 : k < p.Steps.length := by omega
    have h2 : k < q.Steps.length := by omega
    have : x = (p.Steps[k], q.Steps[k]) := by rw [List.getElem?_eq_getElem hk] at hx; simpa using hx.symm
    subst this
    simp only [sIsPrefixPath_L1, ltB_lt h1, ix_nat, List.getElem?_eq_getElem h1, List.getElem?_eq_getElem h2, WR_succ (show k < 9223372036854775807 by omega), Option.bind_some, cond_true]
    cases eqB p.Steps[k] q.Steps[k] <;> rfl
  · rw [show ltB ((q.Steps.length : Nat) : Int) ((p.Steps.length : Nat) : Int) = true from by simp [ltB]; omega]
    simp only [cond_true]
    congr 1
    symm
    rw [Bool.eq_false_iff]
    intro hp
    have := List.IsPrefix.length_le (List.isPrefixOf_iff_prefix.1 hp)
    omega
def expP (g : Int) (q : TKeyPath) (x : TLeakedKey) : Bool := eqB x.Generation g && x.Path.Steps.isPrefixOf q.Steps
theorem iExposes_eq {xs : List TLeakedKey} (h : okL okTLeakedKey xs) (g : Int) (q : TKeyPath) : iExposes xs g q = some (xs.any (expP g q)) :=
  any_rule xs (expP g q) (by have := h.1; omega) (fun k x hx hk => by
    have hq := (h.2 x (List.mem_of_getElem? hx)).1
    have := h.1
    simp only [iExposes_L1, ltB_lt hk, ix_nat, hx, WR_succ (show k < 9223372036854775807 by omega), expP, ipref_eq hq, Option.bind_some, cond_true]
    cases eqB x.Generation g <;> cases x.Path.Steps.isPrefixOf q.Steps <;> rfl) (by simp [iExposes_L1])
theorem sExposes_eq {xs : List TLeakedKey} (h : okL okTLeakedKey xs) (g : Int) (q : TKeyPath) : sExposes xs g q = some (xs.any (expP g q)) :=
  any_rule xs (expP g q) (by have := h.1; omega) (fun k x hx hk => by
    have hq := (h.2 x (List.mem_of_getElem? hx)).1
    have := h.1
    simp only [sExposes_L1, ltB_lt hk, ix_nat, hx, WR_succ (show k < 9223372036854775807 by omega), expP, spref_eq hq, Option.bind_some, cond_true]
    cases eqB x.Generation g <;> cases x.Path.Steps.isPrefixOf q.Steps <;> rfl) (by simp [sExposes_L1])

def rdP (l : List TLeakedKey) (d : Int) (f : TFlight) : Bool := eqB f.Device d && (f.IsRadio && l.any (expP f.Radio.Generation ⟨[1, 3, f.Radio.Epoch]⟩))
def rfB (l : List TLeakedKey) (d : Int) (s : List Int) (y : TFlight × Nat) : Option (Step (List Int) (List Int)) :=
  bif rdP l d y.1 then (bif apOk 8 (s ++ [(y.2 : Int)]).length then some (.next (s ++ [(y.2 : Int)])) else none) else some (.next s)
theorem irf_eq {n : TNetwork} (hn : n.Flights.length ≤ 1048576) {l : List TLeakedKey} (h : okL okTLeakedKey l) (d : Int) : iReadableFlights n l d = forL (rfB l d) some n.Flights.zipIdx [] := by
  have := iter_for (step := iReadableFlights_L1 n l d) n.Flights.zipIdx (fun k (s : List Int) => ((k : Int), s)) (rfB l d) some (by simpa using (show n.Flights.length ≤ 9223372036854775806 by omega))
    (fun k y s hy hk => by
      have hk' : k < n.Flights.length := by simpa using hk
      have : y = (n.Flights[k], k) := by rw [List.getElem?_eq_getElem hk] at hy; simpa using hy.symm
      subst this
      simp only [iReadableFlights_L1, iisReadable, iRadioKeyPath, ltB_lt hk', ix_nat, List.getElem?_eq_getElem hk', iExposes_eq h, WR_succ (show k < 9223372036854775807 by omega), rfB, rdP, Option.bind_some, cond_true]
      cases eqB n.Flights[k].Device d <;> cases n.Flights[k].IsRadio <;> cases l.any (expP n.Flights[k].Radio.Generation ⟨[1, 3, n.Flights[k].Radio.Epoch]⟩) <;> cases apOk 8 (s ++ [(k : Int)]).length <;> rfl)
    (fun s => by rw [List.length_zipIdx]; simp [iReadableFlights_L1]) []
  rw [iReadableFlights, show iter (iReadableFlights_L1 n l d) FU (0, []) = _ from this]
  cases forL (rfB l d) some n.Flights.zipIdx [] <;> rfl
theorem srf_eq {n : TNetwork} (hn : n.Flights.length ≤ 1048576) {l : List TLeakedKey} (h : okL okTLeakedKey l) (d : Int) : sReadableFlights n l d = forL (rfB l d) some n.Flights.zipIdx [] := by
  have := iter_for (step := sReadableFlights_L1 n l d) n.Flights.zipIdx (fun k (s : List Int) => ((k : Int), s)) (rfB l d) some (by simpa using (show n.Flights.length ≤ 9223372036854775806 by omega))
    (fun k y s hy hk => by
      have hk' : k < n.Flights.length := by simpa using hk
      have : y = (n.Flights[k], k) := by rw [List.getElem?_eq_getElem hk] at hy; simpa using hy.symm
      subst this
      simp only [sReadableFlights_L1, sl35Readable, sRadioKeyPath, ltB_lt hk', ix_nat, List.getElem?_eq_getElem hk', sExposes_eq h, WR_succ (show k < 9223372036854775807 by omega), rfB, rdP, Option.bind_some, cond_true]
      cases eqB n.Flights[k].Device d <;> cases n.Flights[k].IsRadio <;> cases l.any (expP n.Flights[k].Radio.Generation ⟨[1, 3, n.Flights[k].Radio.Epoch]⟩) <;> cases apOk 8 (s ++ [(k : Int)]).length <;> rfl)
    (fun s => by rw [List.length_zipIdx]; simp [sReadableFlights_L1]) []
  rw [sReadableFlights, show iter (sReadableFlights_L1 n l d) FU (0, []) = _ from this]
  cases forL (rfB l d) some n.Flights.zipIdx [] <;> rfl
theorem rf_some {n : TNetwork} (hn : n.Flights.length ≤ 1048576) (l : List TLeakedKey) (d : Int) : ∃ r, forL (rfB l d) some n.Flights.zipIdx [] = some r ∧ r.length ≤ 1048576 := by
  obtain ⟨r, h1, h2⟩ := forL_grow (m := 1048576) (body := rfB l d) (fun s y hs => by
    unfold rfB
    rw [apOk_small (by omega) (by simp; omega)]
    cases rdP l d y.1
    · exact ⟨s, rfl, by omega⟩
    · exact ⟨s ++ [(y.2 : Int)], rfl, by simp⟩) n.Flights.zipIdx [] (by simp; omega)
  exact ⟨r, h1, by simp at h2; omega⟩
theorem lFnExactReadableFlights_ok (n : TNetwork) (hp : preTNetwork n) (l : List TLeakedKey) (hq : preL preTLeakedKey l) (d : Int) (hd : (Lit.int .i64 d).wf = true) : lFnExactReadableFlights n l d = some true := by
  unfold lFnExactReadableFlights
  obtain ⟨r1, a1, b1, c1⟩ := psz_Network n 1048576 hp (by omega) (by omega)
  rcases c1 with ⟨c1, rfl⟩ | ⟨c1, d1, e1⟩
  · simp [a1, c1]
  obtain ⟨r2, a2, b2, c2⟩ := psz_LeakedKeyS l r1 hq (by omega) (by omega)
  rcases c2 with ⟨c2, rfl⟩ | ⟨c2, d2, e2⟩
  · simp [a1, c1, a2, c2]
  have hfl : n.Flights.length ≤ 1048576 := e1.2.2.2.2.1
  obtain ⟨r, h1, h3⟩ := rf_some hfl l d
  have hr : okL (fun _ => True) r := ⟨h3, fun _ _ => trivial⟩
  obtain ⟨k', z1, z2, z3⟩ := pz_Network n 1 e1 (by omega) (by omega)
  obtain ⟨k2, y1, y2, y3⟩ := pz_LeakedKeyS l k' e2 (by omega) (by omega)
  have hz : ltB k2 0 = false := lt0_f (by omega)
  have hm2 : ltB (1 + (1 : Int) * (r.length : Int)) 0 = false := lt0_f (by omega)
  have hle : lenEq (marks gIntS 1 r.length 1) r = true := by simp [lenEq, marks_len]
  simp only [a1, c1, a2, c2, pto_Network n e1, pto_LeakedKeyS l e2, irf_eq hfl e2, srf_eq hfl e2, h1, peq_IntS r hr, peq_Network n e1, peq_LeakedKeyS l e2, z1, y1, hz, pmark_IntS r (by omega), pheld_IntS r.length (by omega), hle, hm2, eqB_refl, Option.bind_some, cond_true, cond_false, Bool.not_true]
theorem fnExactReadableFlights_fn (x0 : List D) (h0 : WTs [.l [.i .i64, .l [.i .i64]], .l [.i .i64, .i .i64, .i .i64, .i .i64, .i .i64, .i .i64, .i .i64, .i .i64, .i .i64, .b, .i .i64, .i .i64, .l [.i .i64, .l [.i .u8]], .l [.l [.i .u8]]], .l [.i .i64, .i .i64, .i .i64, .i .i64, .i .i64, .i .i64, .i .i64, .l [.i .i64], .i .i64, .i .i64, .i .i64, .i .i64, .i .i64, .i .i64, .i .i64, .i .i64, .i .i64, .i .i64, .i .i64, .i .i64, .i .i64, .i .i64, .i .i64, .l [.l [.i .u8]], .i .i64, .l [.i .i64, .l [.i .u8]], .i .i64, .i .i64, .i .i64, .i .i64], .l [.i .i64, .i .i64, .i .i64, .l [.i .i64, .i .i64]], .l [.i .i64, .b, .b, .i .i64, .i .i64, .i .i64, .i .i64, .i .i64, .i .i64, .i .i64, .i .i64, .i .i64, .i .i64, .i .i64, .i .i64, .i .i64, .i .i64, .i .i64, .i .i64, .l [.i .u8], .i .i64], .i .i64, .i .i64, .i .i64, .i .i64, .i .i64] x0) (x1 : D) (h1 : WT (.l [.i .i64, .l [.i .i64]]) x1) (x2 : D) (h2 : WT (.i .i64) x2) : Fn Tryz.prog 3 [.agg x0, .c x1, .c x2] [rB true] := by
  obtain ⟨a0, rfl, p0⟩ := wtTNetwork h0
  obtain ⟨y1, rfl, l1, w1⟩ := h1.gl
  obtain ⟨a1, rfl, p1⟩ := WTL_map (f := eTLeakedKey) (p := preTLeakedKey) (fun _ h => wtTLeakedKey h) w1
  obtain ⟨a2, rfl, w2⟩ := h2.gi
  exact lFnExactReadableFlights_c (lFnExactReadableFlights_ok a0 p0 a1 ⟨by simpa using l1, p1⟩ a2 w2)
end Go.AM
