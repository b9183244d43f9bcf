/-
  The library's functions that this seat reaches, as contracts of the machine.
-/
import Derived.Test.YtmlpfnppnjfcaaaDoorR8D
import Derived.Test.YtmlpfnppnjfcaaaDoorTrydShelf
import Derived.Lib.AppendIntMem
set_option linter.unusedVariables false
namespace Go.AM
open Go.Proofs Go.RowKit
theorem past_of {w w' : World} (h : Below w.heap.size w w') : Past w w' (fun _ => False) := ⟨h.os, h.tape, h.output, h.size, fun b hb _ => h.block b hb⟩
theorem fn_lib {P : Program} {f : FuncId} {fn : Func} {c : Code} {args : List AV} {s : ByteArray} (hf : P.funcs[f]? = some fn) (hb : fn.body = some c) (hnm : (fn.name == "runtime.NumGoroutine") = false)
    (h : ∀ (F : Nat → Prop) (w : World) (vals : Array Value), (∀ b, F b → b < w.heap.size) → TabsIn w → AR w F args vals.toList → Calls P f vals w fun e w' => e = .returned (.string s) ∧ Below w.heap.size w w') : Fn P f args [.c (.d (.str s))] := by
  refine ⟨fun vs w => by simp [callFunc, hf, hb]; simpa using hnm, fun F w vals hF hT hA => (h F w vals hF hT hA).mono ?_⟩
  rintro e w' ⟨rfl, hw⟩
  exact ⟨.string s, fun _ => False, [], rfl, past_of hw, fun _ h => h.elim, ⟨rfl, by simp [rdD]⟩, by simp⟩
/-- strconv.Itoa. -/
def gItoa (n : Int) : Option ByteArray := bif leB (-9223372036854775808) n && leB n 9223372036854775807 then some ⟨(Lib.itoa n).toArray⟩ else none
theorem gItoa_c {n : Int} {r : ByteArray} (H : gItoa n = some r) : Fn Tryd.prog 39 [aI n] [.c (.d (.str r))] := by
  unfold gItoa at H
  cases hb : leB (-9223372036854775808) n && leB n 9223372036854775807 with
  | false => rw [hb] at H; cases H
  | true =>
    rw [hb] at H
    simp only [cond_true, Option.some.injEq] at H
    subst H
    simp only [Bool.and_eq_true, leB, decide_eq_true_eq] at hb
    refine fn_lib Tryd.func39 rfl (by kernel_rfl) fun F w vals hF hT hA => ?_
    obtain ⟨u, rfl, hu⟩ : ∃ u, vals = #[u] ∧ rdD w F (.i .i64 n) u := by
      obtain ⟨l⟩ := vals
      match l, hA with
      | [u], hA => exact ⟨u, rfl, hA.1⟩
      | [], hA => exact hA.elim
      | _ :: _ :: _, hA => exact hA.2.elim
    simp only [rdD] at hu
    subst hu
    refine (Tryd.strconv_Itoa n hb.1 hb.2 w ?_).mono ?_
    · obtain ⟨ty, fr, hh⟩ := hT
      unfold Lib.TabIs World.var?
      rw [show Program.globalNamed _ _ = some 1 from by kernel_rfl]
      simp only [Option.bind_some, hh]
      rfl
    · rintro e w' ⟨he, k, os, rfl⟩
      exact ⟨he, Lib.below_grow _ _ (Nat.le_refl _) _ _⟩
/-- strings.Join. -/
def joinB (xs : List ByteArray) (sep : ByteArray) : ByteArray := ⟨(Lib.join (xs.map (·.data.toList)) sep.data.toList).toArray⟩
def gJoin (xs : List ByteArray) (sep : ByteArray) : Option ByteArray := bif Nat.ble xs.length 140737488355328 && Nat.ble (joinB xs sep).size 140737488355328 then some (joinB xs sep) else none
theorem rd_strs {w : World} {F : Nat → Prop} {xs : List ByteArray} {b off : Nat} (h : rdLL w F (xs.map eS) b off) (j : Nat) (x : ByteArray) (hx : xs[j]? = some x) : w.cell? ⟨b, off + j, none⟩ = some (.string x) := by
  have := rdLL_at (sz := 1) (i := j) h (by simp [eS]) (by simp [hx]; rfl : (xs.map eS)[j]? = some [.str x])
  simp only [rdL, rdD, Nat.mul_one] at this
  obtain ⟨⟨u, h1, h2⟩, _⟩ := this
  rw [h1, h2]
theorem gJoin_c {xs : List ByteArray} {sep r : ByteArray} (H : gJoin xs sep = some r) : Fn Tryd.prog 24 [aL (xs.map eS), aS sep] [.c (.d (.str r))] := by
  unfold gJoin at H
  cases hb : Nat.ble xs.length 140737488355328 && Nat.ble (joinB xs sep).size 140737488355328 with
  | false => rw [hb] at H; cases H
  | true =>
    rw [hb] at H
    simp only [cond_true, Option.some.injEq] at H
    subst H
    simp only [Bool.and_eq_true, Nat.ble_eq] at hb
    refine fn_lib Tryd.func24 rfl (by kernel_rfl) fun F w vals hF hT hA => ?_
    obtain ⟨u, v, rfl, hu, hv⟩ : ∃ u v, vals = #[u, v] ∧ rdD w F (.l (xs.map eS)) u ∧ rdD w F (.str sep) v := by
      obtain ⟨l⟩ := vals
      match l, hA with
      | [u, v], hA => exact ⟨u, v, rfl, hA.1, hA.2.1⟩
      | [], hA => exact hA.elim
      | [_], hA => exact hA.2.elim
      | _ :: _ :: _ :: _, hA => exact hA.2.2.elim
    simp only [rdD] at hu hv
    subst hv
    obtain ⟨A, c, rfl, hlc, hr⟩ := hu
    rw [List.length_map] at hlc ⊢
    rcases hr with hr | ⟨b, off, rfl, hFb, hr⟩
    · have hx : xs = [] := by simpa using hr
      subst hx
      refine (Tryd.strings_Join_none A c sep w).mono ?_
      rintro e w' ⟨he, rfl⟩
      exact ⟨he, Below.refl _ _⟩
    · exact Tryd.strings_Join b off c xs sep w (fun j x hx => rd_strs hr j x hx) (hF b hFb) hb.1 hlc (by have := hb.2; simpa [joinB, ByteArray.size] using this)
end Go.AM
