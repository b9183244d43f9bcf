/-
  Own text: a part of the abstract machine for this seat (Ls). No statement is proved here.
-/
import Derived.Test.YtafgglkmebkeeaaGreatDoorLam
import Derived.Lib.ItoaLen
import Derived.Lib.Join
set_option linter.unusedVariables false
set_option linter.unusedSimpArgs false
namespace Go.AM
open Go.Proofs
attribute [local simp] ltB_self eqB_refl ix_nat
def mkB (l : List UInt8) : ByteArray := ⟨l.toArray⟩
theorem mkB_app (a b : List UInt8) : mkB a ++ mkB b = mkB (a ++ b) := by
  apply ByteArray.ext
  simp [mkB]
theorem mkB_inj {a b : List UInt8} (h : a = b) : mkB a = mkB b := by rw [h]
theorem mkB_of (a : ByteArray) : a = mkB a.data.toList := by simp [mkB]
theorem mkB_size (l : List UInt8) : (mkB l).size = l.length := by simp [mkB, ByteArray.size]
theorem lit_size (a : Array UInt8) : (ByteArray.mk a).size = a.size := rfl
/-- A number's decimal text. -/
def it (n : Int) : ByteArray := mkB (Lib.itoa n)
theorem it_size {n : Int} (h : rgI .i64 n) : (it n).size ≤ 21 := by
  have := rg64 h
  rw [it, mkB_size]; exact Lib.itoa_length_le n this.1 this.2
theorem fint_i {n : Int} (h : rgI .i64 n) : iFormatInt n = some (it n) := by
  have := rg64 h
  unfold iFormatInt gItoa
  rw [show (leB (-9223372036854775808) n && leB n 9223372036854775807) = true from by simp [this.1, this.2]]
  rfl
/-! the reference's digits -/
def dig (u : Nat) : List UInt8 := if u = 0 then [] else Lib.decDigits u
theorem dig_step {u : Nat} (h : u ≠ 0) : dig u = dig (u / 10) ++ [UInt8.ofNat (48 + u % 10)] := by
  unfold dig
  rw [if_neg h]
  by_cases h10 : u < 10
  · rw [Lib.decDigits, dif_pos h10, if_pos (by omega), Nat.mod_eq_of_lt h10]; rfl
  · rw [if_neg (by omega)]
    conv => lhs; rw [Lib.decDigits, dif_neg h10]
theorem bs_one (k : Nat) (h : k < 10) : bsOf [IntKind.u8.wrap (WR (48 + (k : Int)))] = mkB [UInt8.ofNat (48 + k)] := by
  have h1 : WR (48 + (k : Int)) = 48 + (k : Int) := WR_in (by omega)
  have h2 : IntKind.u8.wrap (48 + (k : Int)) = ((48 + k : Nat) : Int) := by
    rw [show (48 + (k : Int)) = ((48 + k : Nat) : Int) from by omega]
    simp only [IntKind.wrap, IntKind.bits, IntKind.signed, Bool.false_and, Bool.false_eq_true, if_false]
    omega
  rw [h1, h2]
  apply ByteArray.ext
  simp only [bsOf, mkB, List.foldl, Int.toNat_natCast]
  rfl
theorem dig_len : ∀ (k u : Nat), u < 10 ^ k → (dig u).length ≤ k := by
  intro k
  induction k with
  | zero => intro u h; have : u = 0 := by simpa using h
            subst this; simp [dig]
  | succ k ih =>
    intro u h
    by_cases h0 : u = 0
    · subst h0; simp [dig]
    · rw [dig_step h0, List.length_append]
      have := ih (u / 10) (by rw [Nat.pow_succ] at h; omega)
      simp; omega
theorem sfi_loop : ∀ (k m : Nat) (s : List UInt8) (x : Int), x.natAbs < 10 ^ k → k < m → s.length + k ≤ 1000 → x.natAbs ≤ 9223372036854775808 → iter sFormatInt_L1 m (mkB s, x) = some (mkB (dig x.natAbs ++ s)) := by
  intro k
  induction k with
  | zero =>
    intro m s x h hm hs hx
    have hx0 : x = 0 := by have : x.natAbs = 0 := by simpa using h
                           omega
    subst hx0
    cases m with
    | zero => omega
    | succ m => simp [iter, sFormatInt_L1, eqB, dig]
  | succ k ih =>
    intro m s x h hm hs hx
    cases m with
    | zero => omega
    | succ m =>
      by_cases hx0 : x = 0
      · subst hx0; simp [iter, sFormatInt_L1, eqB, dig]
      · have hu : x.natAbs ≠ 0 := by omega
        have ht : (Int.tmod x 10).natAbs = x.natAbs % 10 := by rw [Int.natAbs_tmod]; rfl
        have hq : (Int.tdiv x 10).natAbs = x.natAbs / 10 := by rw [Int.natAbs_tdiv]; rfl
        have hd : (bif ltB (Int.tmod x 10) 0 then some (WR (0 - Int.tmod x 10)) else some (Int.tmod x 10)) = some (((x.natAbs % 10 : Nat) : Int)) := by
          by_cases hn : Int.tmod x 10 < 0
          · rw [show ltB (Int.tmod x 10) 0 = true from by simp [ltB, hn], cond_true, WR_in (by omega)]; congr 1; omega
          · rw [show ltB (Int.tmod x 10) 0 = false from by simp [ltB]; omega, cond_false]; congr 1; omega
        have hw : WR (Int.tdiv x 10) = Int.tdiv x 10 := WR_in (by omega)
        have hk : x.natAbs % 10 < 10 := Nat.mod_lt _ (by omega)
        simp only [iter, sFormatInt_L1]
        rw [show eqB x 0 = false from by simp [eqB, hx0]]
        simp only [Bool.not_false, cond_true]
        rw [hd]
        simp only [Option.bind_some]
        rw [bs_one _ hk, show saOk (mkB [UInt8.ofNat (48 + x.natAbs % 10)]) (mkB s) = true from by simp [saOk, mkB_size]; omega, cond_true, hw, mkB_app]
        simp only []
        rw [ih m _ (Int.tdiv x 10) (by rw [hq]; rw [Nat.pow_succ] at h; omega) (by omega) (by simp; omega) (by omega)]
        rw [hq, dig_step hu]
        simp
theorem fint_s {n : Int} (h : rgI .i64 n) : sFormatInt n = some (it n) := by
  have hr := rg64 h
  unfold sFormatInt
  by_cases h0 : n = 0
  · subst h0
    rw [show eqB 0 0 = true from by simp, cond_true]
    congr 1
    unfold it Lib.itoa
    rw [if_neg (by omega), Lib.decDigits, dif_pos (by decide)]
    rfl
  · rw [show eqB n 0 = false from by simp [eqB, h0], cond_false]
    have hl := sfi_loop 19 FU [] n (by have : n.natAbs ≤ 9223372036854775808 := by omega
                                       have e : (10 : Nat) ^ 19 = 10000000000000000000 := by decide
                                       omega) (by have := FU_big; omega) (by simp) (by omega)
    rw [show (⟨#[]⟩ : ByteArray) = mkB [] from rfl, hl]
    simp only [Option.bind_some, List.append_nil]
    have hdl := dig_len 19 n.natAbs (by have : n.natAbs ≤ 9223372036854775808 := by omega
                                        have e : (10 : Nat) ^ 19 = 10000000000000000000 := by decide
                                        omega)
    by_cases hn : n < 0
    · rw [show ltB n 0 = true from by simp [ltB, hn], cond_true]
      rw [show (⟨#[45]⟩ : ByteArray) = mkB [45] from rfl, show saOk (mkB [45]) (mkB (dig n.natAbs)) = true from by simp [saOk, mkB_size]; omega, cond_true, mkB_app]
      congr 1
      unfold it Lib.itoa dig
      rw [if_pos hn, if_neg (by omega)]; rfl
    · rw [show ltB n 0 = false from by simp [ltB]; omega, cond_false]
      congr 1
      unfold it Lib.itoa dig
      rw [if_neg hn, if_neg (by omega), show n.toNat = n.natAbs from by omega]
attribute [irreducible] it
theorem joinB_eq (xs : List ByteArray) (sep : ByteArray) : joinB xs sep = mkB (Lib.join (xs.map (·.data.toList)) sep.data.toList) := rfl
theorem mkB_data (a : ByteArray) : mkB a.data.toList = a := (mkB_of a).symm
theorem app_data (a b : ByteArray) : (a ++ b).data.toList = a.data.toList ++ b.data.toList := by simp
theorem joinB_nil (sep : ByteArray) : joinB [] sep = ⟨#[]⟩ := rfl
theorem joinB_one (x sep : ByteArray) : joinB [x] sep = x := by
  rw [joinB_eq, List.map_cons, List.map_nil, Lib.join_one, mkB_data]
theorem joinB_snoc (xs : List ByteArray) (x y sep : ByteArray) : joinB (x :: xs ++ [y]) sep = joinB (x :: xs) sep ++ sep ++ y := by
  have e : ∀ a b c : ByteArray, a ++ b ++ c = mkB (a.data.toList ++ b.data.toList ++ c.data.toList) := fun a b c => by
    rw [← app_data, ← app_data, mkB_data]
  rw [joinB_eq, e, joinB_eq]
  congr 1
  rw [List.map_append, List.map_cons, List.map_cons, List.map_nil, List.cons_append, Lib.join_cons, Lib.join_cons]
  simp [Lib.joinTail, mkB]
theorem joinB_three (x y z sep : ByteArray) : joinB [x, y, z] sep = x ++ sep ++ y ++ sep ++ z := by
  rw [show [x, y, z] = x :: [y] ++ [z] from rfl, joinB_snoc, show x :: [y] = x :: [] ++ [y] from rfl, joinB_snoc, joinB_one]
theorem saOk_t {a b : ByteArray} (h : a.size + b.size ≤ 9223372036854775807) : saOk a b = true := by simp [saOk, h]
theorem strB_refl (a : ByteArray) : strB a a = true := by simp [strB]
theorem joins_i {xs : List Int} (hl : xs.length ≤ 2097152) (h : ∀ x ∈ xs, rgI .i64 x) (sep : ByteArray) : ijoinInts xs sep = gJoin (xs.map it) sep := by
  unfold ijoinInts
  rw [show mkOk 16 ((xs.length : Nat) : Int) ((xs.length : Nat) : Int) = true from by simp [mkOk]; omega, cond_true, Int.toNat_natCast]
  rw [iter_copy it (⟨#[]⟩ : ByteArray) xs (by omega) (fun k x v hx hv => by
    have hk := (List.getElem?_eq_some_iff.1 hx).1
    simp only [ijoinInts_L1, ltB_lt hk, ix_nat, hx, fint_i (h x (List.mem_of_getElem? hx)), List.getElem?_eq_getElem (show k < v.length by omega), WR_succ (show k < 9223372036854775807 by omega), Option.bind_some, cond_true, Int.toNat_natCast]) (fun v => by simp [ijoinInts_L1])]
  simp only [Option.bind_some]
  cases gJoin (xs.map it) sep <;> rfl
end Go.AM
