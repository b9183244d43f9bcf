/-
  Own text: a part of the abstract machine for this seat (KK). No statement is proved here.
-/
import Derived.Test.YtafgglkmebkeeaaDoorKam
import Derived.Lib.ItoaLen
import Derived.Lib.Join
set_option linter.unusedVariables false
set_option linter.unusedSimpArgs false
namespace Go.AM
open Go.Proofs
attribute [local simp] ltB_self eqB_refl ix_nat
def mkB (l : List UInt8) : ByteArray := ⟨l.toArray⟩
theorem mkB_app (a b : List UInt8) : mkB a ++ mkB b = mkB (a ++ b) := by
  apply ByteArray.ext
  simp [mkB]
theorem mkB_inj {a b : List UInt8} (h : a = b) : mkB a = mkB b := by rw [h]
theorem mkB_of (a : ByteArray) : a = mkB a.data.toList := by simp [mkB]
theorem mkB_size (l : List UInt8) : (mkB l).size = l.length := by simp [mkB, ByteArray.size]
theorem lit_size (a : Array UInt8) : (ByteArray.mk a).size = a.size := rfl
/-- A number's decimal text. -/
def it (n : Int) : ByteArray := mkB (Lib.itoa n)
theorem it_size {n : Int} (h : rgI .i64 n) : (it n).size ≤ 21 := by
  have := rg64 h
  rw [it, mkB_size]; exact Lib.itoa_length_le n this.1 this.2
theorem fint_i {n : Int} (h : rgI .i64 n) : iFormatInt n = some (it n) := by
  have := rg64 h
  unfold iFormatInt gItoa
  rw [show (leB (-9223372036854775808) n && leB n 9223372036854775807) = true from by simp [this.1, this.2]]
  rfl
/-! the reference's digits -/
def dig (u : Nat) : List UInt8 := if u = 0 then [] else Lib.decDigits u
theorem dig_step {u : Nat} (h : u ≠ 0) : dig u = dig (u / 10) ++ [UInt8.ofNat (48 + u % 10)] := by
  unfold dig
  rw [if_neg h]
  by_cases h10 : u < 10
  · rw [Lib.decDigits, dif_pos h10, if_pos (by omega), Nat.mod_eq_of_lt h10]; rfl
  · rw [if_neg (by omega)]
    conv => lhs; rw [Lib.decDigits, dif_neg h10]
theorem bs_one (k : Nat) (h : k < 10) : bsOf [IntKind.u8.wrap (WR (48 + (k : Int)))] = mkB [UInt8.ofNat (48 + k)] := by
  have h1 : WR (48 + (k : Int)) = 48 + (k : Int) := WR_in (by omega)
  have h2 : IntKind.u8.wrap (48 + (k : Int)) = ((48 + k : Nat) : Int) := by
    rw [show (48 + (k : Int)) = ((48 + k : Nat) : Int) from by omega]
    simp only [IntKind.wrap, IntKind.bits, IntKind.signed, Bool.false_and, Bool.false_eq_true, if_false]
    omega
  rw [h1, h2]
  apply ByteArray.ext
  simp only [bsOf, mkB, List.foldl, Int.toNat_natCast]
  rfl
theorem dig_len : ∀ (k u : Nat), u < 10 ^ k → (dig u).length ≤ k := by
  intro k
  induction k with
  | zero => intro u h; have : u = 0 := by simpa using h
            subst this; simp [dig]
  | succ k ih =>
    intro u h
    by_cases h0 : u = 0
    · subst h0; simp [dig]
    · rw [dig_step h0, List.length_append]
      have := ih (u / 10) (by rw [Nat.pow_succ] at h; omega)
      simp; omega
theorem sfi_loop : ∀ (k m : Nat) (s : List UInt8) (x : Int), x.natAbs < 10 ^ k → k < m → s.length + k ≤ 1000 → x.natAbs ≤ 9223372036854775808 → iter sFormatInt_L1 m (mkB s, x) = some (mkB (dig x.natAbs ++ s)) := by
  intro k
  induction k with
  | zero =>
    intro m s x h hm hs hx
    have hx0 : x = 0 := by have : x.natAbs = 0 := by simpa using h
                           omega
    subst hx0
    cases m with
    | zero => omega
    | succ m => simp [iter, sFormatInt_L1, eqB, dig]
  | succ k ih =>
    intro m s x h hm hs hx
    cases m with
    | zero => omega
    | succ m =>
      by_cases hx0 : x = 0
      · subst hx0; simp [iter, sFormatInt_L1, eqB, dig]
      · have hu : x.natAbs ≠ 0 := by omega
        have ht : (Int.tmod x 10).natAbs = x.natAbs % 10 := by rw [Int.natAbs_tmod]; rfl
        have hq : (Int.tdiv x 10).natAbs = x.natAbs / 10 := by rw [Int.natAbs_tdiv]; rfl
        have hd : (bif ltB (Int.tmod x 10) 0 then some (WR (0 - Int.tmod x 10)) else some (Int.tmod x 10)) = some (((x.natAbs % 10 : Nat) : Int)) := by
          by_cases hn : Int.tmod x 10 < 0
          · rw [show ltB (Int.tmod x 10) 0 = true from by simp [ltB, hn], cond_true, WR_in (by omega)]; congr 1; omega
          · rw [show ltB (Int.tmod x 10) 0 = false from by simp [ltB]; omega, cond_false]; congr 1; omega
        have hw : WR (Int.tdiv x 10) = Int.tdiv x 10 := WR_in (by omega)
        have hk : x.natAbs % 10 < 10 := Nat.mod_lt _ (by omega)
        simp only [iter, sFormatInt_L1]
        rw [show eqB x 0 = false from by simp [eqB, hx0]]
        simp only [Bool.not_false, cond_true]
        rw [hd]
        simp only [Option.bind_some]
        rw [bs_one _ hk, show saOk (mkB [UInt8.ofNat (48 + x.natAbs % 10)]) (mkB s) = true from by simp [saOk, mkB_size]; omega, cond_true, hw, mkB_app]
        simp only []
        rw [ih m _ (Int.tdiv x 10) (by rw [hq]; rw [Nat.pow_succ] at h; omega) (by omega) (by simp; omega) (by omega)]
        rw [hq, dig_step hu]
        simp
theorem fint_s {n : Int} (h : rgI .i64 n) : sFormatInt n = some (it n) := by
  have hr := rg64 h
  unfold sFormatInt
  by_cases h0 : n = 0
  · subst h0
    rw [show eqB 0 0 = true from by simp, cond_true]
    congr 1
    unfold it Lib.itoa
    rw [if_neg (by omega), Lib.decDigits, dif_pos (by decide)]
    rfl
  · rw [show eqB n 0 = false from by simp [eqB, h0], cond_false]
    have hl := sfi_loop 19 FU [] n (by have : n.natAbs ≤ 9223372036854775808 := by omega
                                       have e : (10 : Nat) ^ 19 = 10000000000000000000 := by decide
                                       omega) (by have := FU_big; omega) (by simp) (by omega)
    rw [show (⟨#[]⟩ : ByteArray) = mkB [] from rfl, hl]
    simp only [Option.bind_some, List.append_nil]
    have hdl := dig_len 19 n.natAbs (by have : n.natAbs ≤ 9223372036854775808 := by omega
                                        have e : (10 : Nat) ^ 19 = 10000000000000000000 := by decide
                                        omega)
    by_cases hn : n < 0
    · rw [show ltB n 0 = true from by simp [ltB, hn], cond_true]
      rw [show (⟨#[45]⟩ : ByteArray) = mkB [45] from rfl, show saOk (mkB [45]) (mkB (dig n.natAbs)) = true from by simp [saOk, mkB_size]; omega, cond_true, mkB_app]
      congr 1
      unfold it Lib.itoa dig
      rw [if_pos hn, if_neg (by omega)]; rfl
    · rw [show ltB n 0 = false from by simp [ltB]; omega, cond_false]
      congr 1
      unfold it Lib.itoa dig
      rw [if_neg hn, if_neg (by omega), show n.toNat = n.natAbs from by omega]
attribute [irreducible] it
theorem joinB_eq (xs : List ByteArray) (sep : ByteArray) : joinB xs sep = mkB (Lib.join (xs.map (·.data.toList)) sep.data.toList) := rfl
theorem mkB_data (a : ByteArray) : mkB a.data.toList = a := (mkB_of a).symm
theorem app_data (a b : ByteArray) : (a ++ b).data.toList = a.data.toList ++ b.data.toList := by simp
theorem joinB_nil (sep : ByteArray) : joinB [] sep = ⟨#[]⟩ := rfl
theorem joinB_one (x sep : ByteArray) : joinB [x] sep = x := by
  rw [joinB_eq, List.map_cons, List.map_nil, Lib.join_one, mkB_data]
theorem joinB_snoc (xs : List ByteArray) (x y sep : ByteArray) : joinB (x :: xs ++ [y]) sep = joinB (x :: xs) sep ++ sep ++ y := by
  have e : ∀ a b c : ByteArray, a ++ b ++ c = mkB (a.data.toList ++ b.data.toList ++ c.data.toList) := fun a b c => by
    rw [← app_data, ← app_data, mkB_data]
  rw [joinB_eq, e, joinB_eq]
  congr 1
  rw [List.map_append, List.map_cons, List.map_cons, List.map_nil, List.cons_append, Lib.join_cons, Lib.join_cons]
  simp [Lib.joinTail, mkB]
theorem joinB_three (x y z sep : ByteArray) : joinB [x, y, z] sep = x ++ sep ++ y ++ sep ++ z := by
  rw [show [x, y, z] = x :: [y] ++ [z] from rfl, joinB_snoc, show x :: [y] = x :: [] ++ [y] from rfl, joinB_snoc, joinB_one]
theorem saOk_t {a b : ByteArray} (h : a.size + b.size ≤ 9223372036854775807) : saOk a b = true := by simp [saOk, h]
theorem strB_refl (a : ByteArray) : strB a a = true := by simp [strB]
theorem joins_i {xs : List Int} (hl : xs.length ≤ 2097152) (h : ∀ x ∈ xs, rgI .i64 x) (sep : ByteArray) : ijoinInts xs sep = gJoin (xs.map it) sep := by
  unfold ijoinInts
  rw [show mkOk 16 ((xs.length : Nat) : Int) ((xs.length : Nat) : Int) = true from by simp [mkOk]; omega, cond_true, Int.toNat_natCast]
  rw [iter_copy it (⟨#[]⟩ : ByteArray) xs (by omega) (fun k x v hx hv => by
    have hk := (List.getElem?_eq_some_iff.1 hx).1
    simp only [ijoinInts_L1, ltB_lt hk, ix_nat, hx, fint_i (h x (List.mem_of_getElem? hx)), List.getElem?_eq_getElem (show k < v.length by omega), WR_succ (show k < 9223372036854775807 by omega), Option.bind_some, cond_true, Int.toNat_natCast]) (fun v => by simp [ijoinInts_L1])]
  simp only [Option.bind_some]
  cases gJoin (xs.map it) sep <;> rfl
end Go.AM
set_option linter.unusedVariables false
set_option linter.unusedSimpArgs false
namespace Go.AM
open Go.Proofs
attribute [local simp] ltB_self eqB_refl ix_nat
theorem rg_of {n : Int} (h : -9223372036854775808 ≤ n ∧ n ≤ 9223372036854775807) : rgI .i64 n := by
  simp [rgI, Lit.wf, IntKind.min, IntKind.max, IntKind.signed, IntKind.bits]; omega
theorem rg_WR (n : Int) : rgI .i64 (WR n) := by
  apply rg_of
  show -9223372036854775808 ≤ IntKind.i64.wrap n ∧ IntKind.i64.wrap n ≤ 9223372036854775807
  rw [IntKind.wrap_i64]; omega
theorem rg_len {n : Nat} (h : n ≤ 1048576) : rgI .i64 ((n : Nat) : Int) := rg_of (by omega)
theorem rg_fold {α : Type} (g : Int → α → Int) : ∀ (xs : List α) (a : Int), rgI .i64 a → rgI .i64 (xs.foldl (fun s x => WR (g s x)) a)
  | [], a, h => h
  | x :: xs, a, _ => by rw [List.foldl_cons]; exact rg_fold g xs _ (rg_WR _)
theorem fold_rule {α : Type} {step : Int × Int → Option (Step (Int × Int) Int)} (xs : List α) (f : Int → α → Int) (hl : xs.length ≤ 9223372036854775806)
    (hs : ∀ (k : Nat) (x : α) (a : Int), xs[k]? = some x → k < xs.length → step (a, (k : Int)) = some (.next (f a x, ((k + 1 : Nat) : Int)))) (he : ∀ a, step (a, ((xs.length : Nat) : Int)) = some (.done a)) (a0 : Int) :
    iter step FU (a0, 0) = some (xs.foldl f a0) := by
  have := iter_for (step := step) xs (fun k (v : Int) => (v, (k : Int))) (fun v x => some (.next (f v x))) some hl
    (fun k x s hx hk => by rw [hs k x s hx hk]; rfl) (fun s => by rw [he]; rfl) a0
  refine Eq.trans (show iter step FU (a0, 0) = _ from this) ?_
  clear this he hs
  induction xs generalizing a0 with
  | nil => rfl
  | cons x xs ih => rw [forL, List.foldl_cons]; exact ih (by simp at hl; omega) _
def totR (a : TAccount) : Int := a.Reservations.foldl (fun s x => WR (s + x.Amount)) 0
theorem totr_rg (a : TAccount) : rgI .i64 (totR a) := rg_fold (fun s (x : TReservation) => s + x.Amount) a.Reservations 0 (rg_of (by omega))
theorem totr_i {a : TAccount} (h : okTAccount a) : iTotalReserved a = some (totR a) := by
  have := h.1
  unfold iTotalReserved
  rw [fold_rule a.Reservations (fun s x => WR (s + x.Amount)) (by omega) (fun k x s hx hk => by
    simp only [iTotalReserved_L1, ltB_lt hk, ix_nat, hx, WR_succ (show k < 9223372036854775807 by omega), Option.bind_some, cond_true]) (fun s => by simp [iTotalReserved_L1])]
  rfl
theorem totr_s {a : TAccount} (h : okTAccount a) : sTotalReserved a = some (totR a) := by
  have := h.1
  unfold sTotalReserved
  rw [fold_rule a.Reservations (fun s x => WR (s + x.Amount)) (by omega) (fun k x s hx hk => by
    simp only [sTotalReserved_L1, ltB_lt hk, ix_nat, hx, WR_succ (show k < 9223372036854775807 by omega), Option.bind_some, cond_true]) (fun s => by simp [sTotalReserved_L1])]
  rfl
theorem joins3 {x y z : Int} (hx : rgI .i64 x) (hy : rgI .i64 y) (hz : rgI .i64 z) {sep : ByteArray} (hs : sep.size ≤ 10) : ijoinInts [x, y, z] sep = some (it x ++ sep ++ it y ++ sep ++ it z) := by
  have s1 := it_size hx; have s2 := it_size hy; have s3 := it_size hz
  rw [joins_i (by simp) (by simp [hx, hy, hz])]
  simp only [List.map_cons, List.map_nil]
  unfold gJoin
  rw [joinB_three, show (Nat.ble [it x, it y, it z].length 140737488355328 && Nat.ble (it x ++ sep ++ it y ++ sep ++ it z).size 140737488355328) = true from by
    simp only [Bool.and_eq_true, Nat.ble_eq, ByteArray.size_append, List.length_cons, List.length_nil]; omega]
  rfl
theorem acct_eq {a : TAccount} (h : okTAccount a) (r : rngTAccount a) : ∃ s, iFormatAccount a = some s ∧ sFormatAccount a = some s := by
  have s1 := it_size r.1; have s2 := it_size r.2.1; have s3 := it_size r.2.2.1; have s4 := it_size (totr_rg a)
  refine ⟨it a.Available ++ ⟨#[43]⟩ ++ it (totR a) ++ ⟨#[43]⟩ ++ it a.Spent ++ ⟨#[61]⟩ ++ it a.Total, ?_, ?_⟩
  · simp only [iFormatAccount, totr_i h, joins3 r.2.1 (totr_rg a) r.2.2.1 (sep := ⟨#[43]⟩) (by simp [lit_size]), fint_i r.1, Option.bind_some]
    simp (disch := ((try simp only [ByteArray.size_append, lit_size, List.size_toArray, List.length_cons, List.length_nil]); omega)) only [saOk_t, cond_true]
  · simp only [sFormatAccount, totr_s h, fint_s r.1, fint_s r.2.1, fint_s r.2.2.1, fint_s (totr_rg a), Option.bind_some]
    simp (disch := ((try simp only [ByteArray.size_append, lit_size, List.size_toArray, List.length_cons, List.length_nil]); omega)) only [saOk_t, cond_true]
theorem lFnExactFormatAccount_ok (a : TAccount) (hp : preTAccount a) (r : rngTAccount a) : lFnExactFormatAccount a = some true := by
  unfold lFnExactFormatAccount
  obtain ⟨r1, a1, b1, c1⟩ := psz_Account a 1048576 hp (by omega) (by omega)
  rcases c1 with ⟨c1, rfl⟩ | ⟨c1, d1, e1⟩
  · simp [a1, c1]
  obtain ⟨s, h1, h2⟩ := acct_eq e1 r
  simp only [a1, c1, pto_Account a e1, h1, h2, peq_Account a e1, strB_refl, Option.bind_some, cond_false, Bool.not_true]
/-! names -/
def sigN (k : Int) : ByteArray := bif eqB k 1 then ⟨#[97, 116, 116, 97, 99, 104]⟩ else (bif eqB k 2 then ⟨#[99, 104, 97, 108, 108, 101, 110, 103, 101]⟩ else (bif eqB k 3 then ⟨#[114, 101, 115, 112, 111, 110, 115, 101]⟩ else (bif eqB k 4 then ⟨#[97, 99, 99, 101, 112, 116]⟩ else (bif eqB k 5 then ⟨#[112, 97, 116, 104, 45, 117, 112, 100, 97, 116, 101]⟩ else (bif eqB k 6 then ⟨#[112, 97, 116, 104, 45, 97, 99, 107]⟩ else (bif eqB k 7 then ⟨#[112, 97, 103, 101]⟩ else (bif eqB k 8 then ⟨#[100, 97, 116, 97, 45, 97, 99, 107]⟩ else ⟨#[63]⟩)))))))
theorem sign_i (k : Int) : isignalName k = some (sigN k) := by
  unfold isignalName sigN
  cases eqB k 1 <;> cases eqB k 2 <;> cases eqB k 3 <;> cases eqB k 4 <;> cases eqB k 5 <;> cases eqB k 6 <;> cases eqB k 7 <;> cases eqB k 8 <;> rfl
theorem sign_size (k : Int) : (sigN k).size ≤ 11 := by
  unfold sigN
  cases eqB k 1 <;> cases eqB k 2 <;> cases eqB k 3 <;> cases eqB k 4 <;> cases eqB k 5 <;> cases eqB k 6 <;> cases eqB k 7 <;> cases eqB k 8 <;> decide
theorem inr_s (a b c : Int) : sl1In a b c = some (inR a b c) := by
  unfold sl1In inR
  cases leB b a <;> rfl
theorem inr_i (a b c : Int) : iInRange a b c = some (inR a b c) := by
  unfold iInRange inR
  cases leB b a <;> rfl
theorem inR_no {k a b : Int} (h : ¬ (a ≤ k ∧ k ≤ b)) : inR k a b = false := by
  rw [Bool.eq_false_iff, ne_eq, inR_iff]; exact h
theorem eq_no {k a : Int} (h : k ≠ a) : eqB k a = false := by simp [eqB, h]
theorem sig_s (k : Int) : (Option.bind (sl1In k 1 8) fun r1 => (bif r1 then (Option.bind (ix [⟨#[]⟩, ⟨#[97, 116, 116, 97, 99, 104]⟩, ⟨#[99, 104, 97, 108, 108, 101, 110, 103, 101]⟩, ⟨#[114, 101, 115, 112, 111, 110, 115, 101]⟩, ⟨#[97, 99, 99, 101, 112, 116]⟩, ⟨#[112, 97, 116, 104, 45, 117, 112, 100, 97, 116, 101]⟩, ⟨#[112, 97, 116, 104, 45, 97, 99, 107]⟩, ⟨#[112, 97, 103, 101]⟩, ⟨#[100, 97, 116, 97, 45, 97, 99, 107]⟩] k) fun x3 => some x3) else (some (⟨#[63]⟩ : ByteArray)))) = some (sigN k) := by
  by_cases h : 1 ≤ k ∧ k ≤ 8
  · have : k = 1 ∨ k = 2 ∨ k = 3 ∨ k = 4 ∨ k = 5 ∨ k = 6 ∨ k = 7 ∨ k = 8 := by omega
    rcases this with rfl | rfl | rfl | rfl | rfl | rfl | rfl | rfl <;> simp [inr_s, inR, leB, sigN, eqB, ix]
  · rw [inr_s, inR_no h]
    unfold sigN
    rw [eq_no (by omega), eq_no (by omega), eq_no (by omega), eq_no (by omega), eq_no (by omega), eq_no (by omega), eq_no (by omega), eq_no (by omega)]
    rfl
def devN (k : Int) : ByteArray := bif eqB k 0 then ⟨#[111, 102, 102]⟩ else (bif eqB k 1 then ⟨#[97, 116, 116, 97, 99, 104, 105, 110, 103]⟩ else (bif eqB k 2 then ⟨#[99, 111, 110, 110, 101, 99, 116, 101, 100]⟩ else (bif eqB k 3 then ⟨#[105, 100, 108, 101]⟩ else ⟨#[63]⟩)))
theorem devn_i (k : Int) : ideviceStateName k = some (devN k) := by
  unfold ideviceStateName devN
  cases eqB k 0 <;> cases eqB k 1 <;> cases eqB k 2 <;> cases eqB k 3 <;> rfl
theorem devn_size (k : Int) : (devN k).size ≤ 11 := by
  unfold devN
  cases eqB k 0 <;> cases eqB k 1 <;> cases eqB k 2 <;> cases eqB k 3 <;> decide
theorem devn_s (k : Int) : (Option.bind (sl1In k 0 3) fun r1 => (bif r1 then (Option.bind (ix [⟨#[111, 102, 102]⟩, ⟨#[97, 116, 116, 97, 99, 104, 105, 110, 103]⟩, ⟨#[99, 111, 110, 110, 101, 99, 116, 101, 100]⟩, ⟨#[105, 100, 108, 101]⟩] k) fun x3 => some x3) else (some (⟨#[63]⟩ : ByteArray)))) = some (devN k) := by
  by_cases h : 0 ≤ k ∧ k ≤ 3
  · have : k = 0 ∨ k = 1 ∨ k = 2 ∨ k = 3 := by omega
    rcases this with rfl | rfl | rfl | rfl <;> simp [inr_s, inR, leB, devN, eqB, ix]
  · rw [inr_s, inR_no h]
    unfold devN
    rw [eq_no (by omega), eq_no (by omega), eq_no (by omega), eq_no (by omega)]
    rfl
def sesN (k : Int) : ByteArray := bif eqB k 0 then ⟨#[100, 101, 116, 97, 99, 104, 101, 100]⟩ else (bif eqB k 1 then ⟨#[97, 99, 116, 105, 118, 101]⟩ else ⟨#[63]⟩)
theorem sesn_i (k : Int) : isessionStateName k = some (sesN k) := by
  unfold isessionStateName sesN
  cases eqB k 0 <;> cases eqB k 1 <;> rfl
theorem sesn_size (k : Int) : (sesN k).size ≤ 11 := by
  unfold sesN
  cases eqB k 0 <;> cases eqB k 1 <;> decide
theorem sesn_s (k : Int) : (Option.bind (sl1In k 0 1) fun r1 => (bif r1 then (Option.bind (ix [⟨#[100, 101, 116, 97, 99, 104, 101, 100]⟩, ⟨#[97, 99, 116, 105, 118, 101]⟩] k) fun x3 => some x3) else (some (⟨#[63]⟩ : ByteArray)))) = some (sesN k) := by
  by_cases h : 0 ≤ k ∧ k ≤ 1
  · have : k = 0 ∨ k = 1 := by omega
    rcases this with rfl | rfl <;> simp [inr_s, inR, leB, sesN, eqB, ix]
  · rw [inr_s, inR_no h]
    unfold sesN
    rw [eq_no (by omega), eq_no (by omega)]
    rfl
theorem bind_assoc' {α β γ : Type} (x : Option α) (f : α → Option β) (g : β → Option γ) : (Option.bind x fun a => Option.bind (f a) g) = Option.bind (Option.bind x f) g := by cases x <;> rfl
end Go.AM
set_option linter.unusedVariables false
set_option linter.unusedSimpArgs false
namespace Go.AM
open Go.Proofs
attribute [local simp] ltB_self eqB_refl ix_nat
def sigB (m : TSignal) : ByteArray := sigN m.Kind ++ ⟨#[64]⟩ ++ it m.Cell ++ ⟨#[58]⟩ ++ it m.Generation ++ ⟨#[46]⟩ ++ it m.Epoch
theorem sigf_i {m : TSignal} (h1 : rgI .i64 m.Cell) (h2 : rgI .i64 m.Generation) (h3 : rgI .i64 m.Epoch) : iFormatSignal m = some (sigB m) := by
  have s1 := it_size h1; have s2 := it_size h2; have s3 := it_size h3; have s4 := sign_size m.Kind
  simp only [iFormatSignal, sign_i, fint_i h1, fint_i h2, fint_i h3, Option.bind_some, sigB]
  simp (disch := ((try simp only [ByteArray.size_append, lit_size, List.size_toArray, List.length_cons, List.length_nil]); omega)) only [saOk_t, cond_true]
theorem sigf_s {m : TSignal} (h1 : rgI .i64 m.Cell) (h2 : rgI .i64 m.Generation) (h3 : rgI .i64 m.Epoch) : sFormatSignal m = some (sigB m) := by
  have s1 := it_size h1; have s2 := it_size h2; have s3 := it_size h3; have s4 := sign_size m.Kind
  unfold sFormatSignal
  rw [bind_assoc', sig_s]
  simp only [fint_s h1, fint_s h2, fint_s h3, Option.bind_some, sigB]
  simp (disch := ((try simp only [ByteArray.size_append, lit_size, List.size_toArray, List.length_cons, List.length_nil]); omega)) only [saOk_t, cond_true]
theorem sigB_size {m : TSignal} (h1 : rgI .i64 m.Cell) (h2 : rgI .i64 m.Generation) (h3 : rgI .i64 m.Epoch) : (sigB m).size ≤ 100 := by
  have s1 := it_size h1; have s2 := it_size h2; have s3 := it_size h3; have s4 := sign_size m.Kind
  simp only [sigB, ByteArray.size_append, lit_size, List.size_toArray, List.length_cons, List.length_nil]; omega
def flyB (f : TFlight) : ByteArray := bif f.IsRadio then it f.Device ++ (bif f.Uplink then ⟨#[94]⟩ else ⟨#[118]⟩) ++ ⟨#[100, 97, 116, 97, 64]⟩ ++ it f.Cell ++ ⟨#[58]⟩ ++ it f.Radio.Message.Count ++ ⟨#[46]⟩ ++ it f.Radio.Epoch
  else it f.Device ++ (bif f.Uplink then ⟨#[94]⟩ else ⟨#[118]⟩) ++ sigB f.Signal
structure RgF (f : TFlight) : Prop where
  dev : rgI .i64 f.Device
  cell : rgI .i64 f.Cell
  scell : rgI .i64 f.Signal.Cell
  gen : rgI .i64 f.Signal.Generation
  ep : rgI .i64 f.Signal.Epoch
  cnt : rgI .i64 f.Radio.Message.Count
  rep : rgI .i64 f.Radio.Epoch
theorem fly_i {f : TFlight} (r : RgF f) : iFormatFlight f = some (flyB f) := by
  have s1 := it_size r.dev; have s2 := it_size r.cell; have s3 := it_size r.cnt; have s4 := it_size r.rep; have s5 := sigB_size r.scell r.gen r.ep
  simp only [iFormatFlight, fint_i r.dev, fint_i r.cell, fint_i r.cnt, fint_i r.rep, sigf_i r.scell r.gen r.ep, Option.bind_some, flyB]
  cases f.Uplink <;> cases f.IsRadio <;> simp only [Bool.not_true, Bool.not_false, cond_true, cond_false]
  all_goals simp (disch := ((try simp only [ByteArray.size_append, lit_size, List.size_toArray, List.length_cons, List.length_nil]); omega)) only [saOk_t, cond_true, Option.bind_some]
theorem fly_s {f : TFlight} (r : RgF f) : sFormatFlight f = some (flyB f) := by
  have s1 := it_size r.dev; have s2 := it_size r.cell; have s3 := it_size r.cnt; have s4 := it_size r.rep; have s5 := sigB_size r.scell r.gen r.ep
  simp only [sFormatFlight, fint_s r.dev, fint_s r.cell, fint_s r.cnt, fint_s r.rep, sigf_s r.scell r.gen r.ep, Option.bind_some, flyB]
  cases f.Uplink <;> cases f.IsRadio <;> simp only [Bool.not_true, Bool.not_false, cond_true, cond_false]
  all_goals simp (disch := ((try simp only [ByteArray.size_append, lit_size, List.size_toArray, List.length_cons, List.length_nil]); omega)) only [saOk_t, cond_true, Option.bind_some]
theorem flyB_size {f : TFlight} (r : RgF f) : (flyB f).size ≤ 200 := by
  have s1 := it_size r.dev; have s2 := it_size r.cell; have s3 := it_size r.cnt; have s4 := it_size r.rep; have s5 := sigB_size r.scell r.gen r.ep
  unfold flyB
  cases f.Uplink <;> cases f.IsRadio <;> simp only [cond_true, cond_false, ByteArray.size_append, lit_size, List.size_toArray, List.length_cons, List.length_nil] <;> omega
theorem rgF_of {f : TFlight} (h : rngTFlight f) : RgF f := by
  unfold rngTFlight at h
  obtain ⟨h1, h2, h3, h4, h5, h6, h7, h8, h9, h10, h11, h12, h13, h14, h15, h16, h17, h18⟩ := h
  exact ⟨h1, h2, h4, h5, h6, h17, h15⟩
theorem lFnExactFormatFlight_ok (a : TFlight) (hp : preTFlight a) (r : rngTFlight a) : lFnExactFormatFlight a = some true := by
  unfold lFnExactFormatFlight
  obtain ⟨r1, a1, b1, c1⟩ := psz_Flight a 1048576 hp (by omega) (by omega)
  rcases c1 with ⟨c1, rfl⟩ | ⟨c1, d1, e1⟩
  · simp [a1, c1]
  have q := rgF_of r
  simp only [a1, c1, pto_Flight a e1, fly_i q, fly_s q, peq_Flight a e1, strB_refl, Option.bind_some, cond_false, Bool.not_true]
def idB (x : TSubscriberID) : ByteArray := bif inR x.Network 0 3 && inR x.Number 0 99 then it x.Network ++ ⟨#[45]⟩ ++ it x.Number else ⟨#[]⟩
theorem vsid_i (x : TSubscriberID) : iIsValidSubscriberID x = some (inR x.Network 0 3 && inR x.Number 0 99) := by
  simp only [iIsValidSubscriberID, inr_i, Option.bind_some]; cases inR x.Network 0 3 <;> rfl
theorem vsid_s (x : TSubscriberID) : sIsValidSubscriberID x = some (inR x.Network 0 3 && inR x.Number 0 99) := by
  simp only [sIsValidSubscriberID, inr_s, Option.bind_some]; cases inR x.Network 0 3 <;> rfl
theorem id_i {x : TSubscriberID} (h1 : rgI .i64 x.Network) (h2 : rgI .i64 x.Number) : iFormatSubscriberID x = some (idB x) := by
  have s1 := it_size h1; have s2 := it_size h2
  simp only [iFormatSubscriberID, vsid_i, fint_i h1, fint_i h2, Option.bind_some, idB]
  cases (inR x.Network 0 3 && inR x.Number 0 99)
  · rfl
  · simp (disch := ((try simp only [ByteArray.size_append, lit_size, List.size_toArray, List.length_cons, List.length_nil]); omega)) only [saOk_t, cond_true, cond_false, Bool.not_true]
theorem id_s {x : TSubscriberID} (h1 : rgI .i64 x.Network) (h2 : rgI .i64 x.Number) : sFormatSubscriberID x = some (idB x) := by
  have s1 := it_size h1; have s2 := it_size h2
  simp only [sFormatSubscriberID, vsid_s, fint_s h1, fint_s h2, Option.bind_some, idB]
  cases (inR x.Network 0 3 && inR x.Number 0 99)
  · rfl
  · simp (disch := ((try simp only [ByteArray.size_append, lit_size, List.size_toArray, List.length_cons, List.length_nil]); omega)) only [saOk_t, cond_true, cond_false, Bool.not_true]
theorem idB_size {x : TSubscriberID} (h1 : rgI .i64 x.Network) (h2 : rgI .i64 x.Number) : (idB x).size ≤ 50 := by
  have s1 := it_size h1; have s2 := it_size h2
  unfold idB
  cases (inR x.Network 0 3 && inR x.Number 0 99) <;> simp only [cond_true, cond_false, ByteArray.size_append, lit_size, List.size_toArray, List.length_cons, List.length_nil] <;> omega
theorem dev_eq {d : TDevice} (hd : d.Receiver.Delivered.length ≤ 1048576) (h1 : rgI .i64 d.Card.ID.Network) (h2 : rgI .i64 d.Card.ID.Number) (h3 : rgI .i64 d.Cell) (h4 : rgI .i64 d.Epoch) : ∃ s, iFormatDevice d = some s ∧ sFormatDevice d = some s := by
  have s1 := idB_size h1 h2; have s2 := it_size h3; have s3 := it_size h4; have s4 := it_size (rg_len hd); have s5 := devn_size d.State
  refine ⟨idB d.Card.ID ++ ⟨#[32]⟩ ++ devN d.State ++ ⟨#[64]⟩ ++ it d.Cell ++ ⟨#[46]⟩ ++ it d.Epoch ++ ⟨#[32]⟩ ++ it ((d.Receiver.Delivered.length : Nat) : Int), ?_, ?_⟩
  · simp only [iFormatDevice, id_i h1 h2, devn_i, fint_i h3, fint_i h4, fint_i (rg_len hd), Option.bind_some]
    simp (disch := ((try simp only [ByteArray.size_append, lit_size, List.size_toArray, List.length_cons, List.length_nil]); omega)) only [saOk_t, cond_true]
  · unfold sFormatDevice
    rw [bind_assoc', devn_s]
    simp only [id_s h1 h2, fint_s h3, fint_s h4, fint_s (rg_len hd), Option.bind_some]
    simp (disch := ((try simp only [ByteArray.size_append, lit_size, List.size_toArray, List.length_cons, List.length_nil]); omega)) only [saOk_t, cond_true]
theorem lFnExactFormatDevice_ok (a : TDevice) (hp : preTDevice a) (r : rngTDevice a) : lFnExactFormatDevice a = some true := by
  unfold lFnExactFormatDevice
  obtain ⟨r1, a1, b1, c1⟩ := psz_Device a 1048576 hp (by omega) (by omega)
  rcases c1 with ⟨c1, rfl⟩ | ⟨c1, d1, e1⟩
  · simp [a1, c1]
  unfold rngTDevice at r
  obtain ⟨q1, q2, q3, q4, q5, q6, q7, q8, q9, q10⟩ := r
  obtain ⟨s, h1, h2⟩ := dev_eq e1.2.1 q1 q2 q6 q9
  simp only [a1, c1, pto_Device a e1, h1, h2, peq_Device a e1, strB_refl, Option.bind_some, cond_false, Bool.not_true]
theorem ses_eq {s : TSession} (hs : s.Submitted.length ≤ 1048576) (h1 : rgI .i64 s.Cell) (h2 : rgI .i64 s.Epoch) : ∃ t, iFormatSession s = some t ∧ sFormatSession s = some t := by
  have k1 := rg_WR (WR (s.Window.Next - 1) - ((s.Window.Unacked.length : Nat) : Int)); have k2 := rg_WR (s.Window.Next - 1)
  have s1 := it_size h1; have s2 := it_size h2; have s3 := it_size k1; have s4 := it_size k2; have s5 := it_size (rg_len hs); have s6 := sesn_size s.State
  refine ⟨sesN s.State ++ ⟨#[64]⟩ ++ it s.Cell ++ ⟨#[46]⟩ ++ it s.Epoch ++ ⟨#[32]⟩ ++ it (WR (WR (s.Window.Next - 1) - ((s.Window.Unacked.length : Nat) : Int))) ++ ⟨#[47]⟩ ++ it (WR (s.Window.Next - 1)) ++ ⟨#[47]⟩ ++ it ((s.Submitted.length : Nat) : Int), ?_, ?_⟩
  · simp only [iFormatSession, iAcknowledgedPackets, sesn_i, fint_i h1, fint_i h2, joins3 k1 k2 (rg_len hs) (sep := ⟨#[47]⟩) (by simp [lit_size]), Option.bind_some]
    simp (disch := ((try simp only [ByteArray.size_append, lit_size, List.size_toArray, List.length_cons, List.length_nil]); omega)) only [saOk_t, cond_true]
    simp only [ByteArray.append_assoc]
  · unfold sFormatSession
    rw [bind_assoc', sesn_s]
    simp only [sAcknowledgedPackets, fint_s h1, fint_s h2, fint_s k1, fint_s k2, fint_s (rg_len hs), Option.bind_some]
    simp (disch := ((try simp only [ByteArray.size_append, lit_size, List.size_toArray, List.length_cons, List.length_nil]); omega)) only [saOk_t, cond_true]
theorem lFnExactFormatSession_ok (a : TSession) (hp : preTSession a) (r : rngTSession a) : lFnExactFormatSession a = some true := by
  unfold lFnExactFormatSession
  obtain ⟨r1, a1, b1, c1⟩ := psz_Session a 1048576 hp (by omega) (by omega)
  rcases c1 with ⟨c1, rfl⟩ | ⟨c1, d1, e1⟩
  · simp [a1, c1]
  have hq : rgI .i64 a.Cell ∧ rgI .i64 a.Epoch := by
    unfold rngTSession at r
    simp only [r, and_self]
  obtain ⟨s, h1, h2⟩ := ses_eq e1.2.1.1 hq.1 hq.2
  simp only [a1, c1, pto_Session a e1, h1, h2, peq_Session a e1, strB_refl, Option.bind_some, cond_false, Bool.not_true]
end Go.AM
set_option linter.unusedVariables false
set_option linter.unusedSimpArgs false
namespace Go.AM
open Go.Proofs
attribute [local simp] ltB_self eqB_refl ix_nat
theorem empty_app (a : ByteArray) : (⟨#[]⟩ : ByteArray) ++ a = a := by
  apply ByteArray.ext; simp
theorem join_next {α : Type} (xs : List α) (wd : α → ByteArray) (sep : ByteArray) {k : Nat} {x : α} (hx : xs[k]? = some x) :
    joinB ((xs.take (k + 1)).map wd) sep = (if k = 0 then joinB ((xs.take k).map wd) sep else joinB ((xs.take k).map wd) sep ++ sep) ++ wd x := by
  have hk := (List.getElem?_eq_some_iff.1 hx)
  obtain ⟨hk1, hk2⟩ := hk
  rw [List.take_add_one, hx, Option.toList_some, List.map_append, List.map_cons, List.map_nil]
  cases k with
  | zero => simp only [List.take_zero, List.map_nil, List.nil_append, joinB_one, if_true, joinB_nil, empty_app]
  | succ k =>
    rw [if_neg (by omega)]
    cases xs with
    | nil => simp at hk1
    | cons y ys => rw [List.take_succ_cons, List.map_cons]; exact joinB_snoc _ _ _ _
theorem acc_rule {α : Type} {step : ByteArray × Int → Option (Step (ByteArray × Int) ByteArray)} (xs : List α) (wd : α → ByteArray) (sep : ByteArray) (B : Nat) (hl : xs.length ≤ 9223372036854775806) (hB : xs.length * B ≤ 1000000000000000) (hw : ∀ x ∈ xs, (wd x).size + sep.size ≤ B)
    (hs : ∀ (k : Nat) (x : α) (s : ByteArray), xs[k]? = some x → k < xs.length → s.size ≤ 1000000000000000 → step (s, (k : Int)) = some (.next ((if k = 0 then s else s ++ sep) ++ wd x, ((k + 1 : Nat) : Int))))
    (he : ∀ s, step (s, ((xs.length : Nat) : Int)) = some (.done s)) :
    iter step FU (⟨#[]⟩, 0) = some (joinB (xs.map wd) sep) ∧ (joinB (xs.map wd) sep).size ≤ xs.length * B := by
  have key : ∀ (n m k : Nat), k + n = xs.length → n < m → (joinB ((xs.take k).map wd) sep).size ≤ k * B → iter step m (joinB ((xs.take k).map wd) sep, (k : Int)) = some (joinB (xs.map wd) sep) ∧ (joinB (xs.map wd) sep).size ≤ xs.length * B := by
    intro n
    induction n with
    | zero =>
      intro m k hk hm hsz
      cases m with
      | zero => omega
      | succ m =>
        have : k = xs.length := by omega
        subst this
        rw [List.take_length] at hsz ⊢
        refine ⟨?_, hsz⟩
        simp only [iter, he]
    | succ n ih =>
      intro m k hk hm hsz
      cases m with
      | zero => omega
      | succ m =>
        have hkl : k < xs.length := by omega
        have hx := List.getElem?_eq_getElem hkl
        have hkB : k * B ≤ xs.length * B := Nat.mul_le_mul_right _ (by omega)
        have hn := join_next xs wd sep hx
        have hwx := hw _ (List.getElem_mem hkl)
        have hsz' : (joinB ((xs.take (k + 1)).map wd) sep).size ≤ (k + 1) * B := by
          rw [hn, ByteArray.size_append, Nat.add_mul]
          split
          · omega
          · rw [ByteArray.size_append]; omega
        simp only [iter]
        rw [hs k _ _ hx hkl (by omega), ← hn]
        exact ih m (k + 1) (by omega) (by omega) hsz'
  have := key xs.length FU 0 (by omega) (by have := FU_big; omega) (by simp [joinB_nil, lit_size])
  simpa [joinB_nil] using this
theorem gJoin_some {xs : List ByteArray} {sep : ByteArray} (h1 : xs.length ≤ 140737488355328) (h2 : (joinB xs sep).size ≤ 140737488355328) : gJoin xs sep = some (joinB xs sep) := by
  unfold gJoin
  rw [show (Nat.ble xs.length 140737488355328 && Nat.ble (joinB xs sep).size 140737488355328) = true from by simp [h1, h2]]
  rfl
def lineB (x : TStatementLine) : ByteArray := it x.Payer ++ ⟨#[62]⟩ ++ it x.Payee ++ ⟨#[58]⟩ ++ it x.Amount
theorem line_size {x : TStatementLine} (r : rngTStatementLine x) : (lineB x).size ≤ 65 := by
  have s1 := it_size r.1; have s2 := it_size r.2.1; have s3 := it_size r.2.2
  simp only [lineB, ByteArray.size_append, lit_size, List.size_toArray, List.length_cons, List.length_nil]; omega
theorem stm_s {xs : List TStatementLine} (hl : xs.length ≤ 1048576) (r : ∀ x ∈ xs, rngTStatementLine x) :
    iter (sFormatStatement_L1 xs) FU (⟨#[]⟩, 0) = some (joinB (xs.map lineB) ⟨#[32]⟩) ∧ (joinB (xs.map lineB) ⟨#[32]⟩).size ≤ xs.length * 66 := by
  refine acc_rule xs lineB ⟨#[32]⟩ 66 (by omega) (by omega) (fun x hx => by have := line_size (r x hx); simp only [lit_size, List.size_toArray, List.length_cons, List.length_nil]; omega) (fun k x s hx hk hs => ?_) (fun s => by simp [sFormatStatement_L1])
  have q := r x (List.mem_of_getElem? hx)
  have s1 := it_size q.1; have s2 := it_size q.2.1; have s3 := it_size q.2.2
  simp only [sFormatStatement_L1, ltB_lt hk, ix_nat, hx, WR_succ (show k < 9223372036854775807 by omega), fint_s q.1, fint_s q.2.1, fint_s q.2.2, Option.bind_some, cond_true, lineB]
  cases k with
  | zero =>
    rw [show ltB 0 ((0 : Nat) : Int) = false from by simp [ltB]]
    simp (disch := ((try simp only [ByteArray.size_append, lit_size, List.size_toArray, List.length_cons, List.length_nil]); omega)) only [saOk_t, cond_true, cond_false, Option.bind_some, if_true, ByteArray.append_assoc]
  | succ k =>
    rw [show ltB 0 ((k + 1 : Nat) : Int) = true from by simp [ltB], if_neg (by omega)]
    simp (disch := ((try simp only [ByteArray.size_append, lit_size, List.size_toArray, List.length_cons, List.length_nil]); omega)) only [saOk_t, cond_true, Option.bind_some, ByteArray.append_assoc]
theorem stm_i {xs : List TStatementLine} (hl : xs.length ≤ 1048576) (r : ∀ x ∈ xs, rngTStatementLine x) : iFormatStatement xs = (bif eqB ((xs.length : Nat) : Int) 0 then some ⟨#[45]⟩ else some (joinB (xs.map lineB) ⟨#[32]⟩)) := by
  unfold iFormatStatement
  cases eqB ((xs.length : Nat) : Int) 0
  · simp only [cond_false]
    rw [show mkOk 16 ((xs.length : Nat) : Int) ((xs.length : Nat) : Int) = true from by simp [mkOk]; omega, cond_true, Int.toNat_natCast]
    rw [iter_copy lineB (⟨#[]⟩ : ByteArray) xs (by omega) (fun k x v hx hv => by
      have hk := (List.getElem?_eq_some_iff.1 hx).1
      have q := r x (List.mem_of_getElem? hx)
      have s1 := it_size q.1; have s2 := it_size q.2.1; have s3 := it_size q.2.2
      simp only [iFormatStatement_L1, ltB_lt hk, ix_nat, hx, fint_i q.1, fint_i q.2.1, fint_i q.2.2, List.getElem?_eq_getElem (show k < v.length by omega), WR_succ (show k < 9223372036854775807 by omega), Option.bind_some, cond_true, Int.toNat_natCast, lineB]
      simp (disch := ((try simp only [ByteArray.size_append, lit_size, List.size_toArray, List.length_cons, List.length_nil]); omega)) only [saOk_t, cond_true, Option.bind_some]) (fun v => by simp [iFormatStatement_L1])]
    simp only [Option.bind_some]
    rw [gJoin_some (by simp; omega) (by have := (stm_s hl r).2; omega)]
    rfl
  · rfl
theorem lFnExactFormatStatement_ok (a : List TStatementLine) (hp : preL (fun _ => True) a) (r : ∀ x ∈ a, rngTStatementLine x) : lFnExactFormatStatement a = some true := by
  unfold lFnExactFormatStatement
  obtain ⟨r1, a1, b1, c1⟩ := psz_StatementLineS a 1048576 hp (by omega) (by omega)
  rcases c1 with ⟨c1, rfl⟩ | ⟨c1, d1, e1⟩
  · simp [a1, c1]
  have h2 : sFormatStatement a = (bif eqB ((a.length : Nat) : Int) 0 then some ⟨#[45]⟩ else some (joinB (a.map lineB) ⟨#[32]⟩)) := by
    unfold sFormatStatement
    rw [(stm_s e1.1 r).1]; rfl
  simp only [a1, c1, pto_StatementLineS a e1, stm_i e1.1 r, h2, Option.bind_some, cond_false]
  cases eqB ((a.length : Nat) : Int) 0 <;> simp only [cond_true, cond_false, Option.bind_some, strB_refl, Bool.not_true, peq_StatementLineS a e1]
end Go.AM
set_option linter.unusedVariables false
namespace Go.AM
open Go.Proofs
theorem fnExactFormatStatement_fn (x0 : D) (h0 : WT (.l [.i .i64, .i .i64, .i .i64]) x0) : Fn Tryd.prog 3 [.c x0] [rB true] := by
  obtain ⟨y0, rfl, l0, w0⟩ := h0.gl
  obtain ⟨a0, rfl, p0⟩ := WTL_map (f := eTStatementLine) (p := fun _ => True) (fun _ h => wtTStatementLine h) w0
  exact lFnExactFormatStatement_c (lFnExactFormatStatement_ok a0 ⟨by simpa using l0, p0⟩ (fun x hx => rgTStatementLine (WTL_mem w0 x hx)))
theorem fnExactFormatAccount_fn (x0 : List D) (h0 : WTs [.i .i64, .i .i64, .i .i64, .l [.i .i64, .i .i64]] x0) : Fn Tryd.prog 4 [.agg x0] [rB true] := by
  obtain ⟨a0, rfl, p0⟩ := wtTAccount h0
  exact lFnExactFormatAccount_c (lFnExactFormatAccount_ok a0 p0 (rgTAccount h0))
theorem fnExactFormatFlight_fn (x0 : List D) (h0 : WTs [.i .i64, .b, .b, .i .i64, .i .i64, .i .i64, .i .i64, .i .i64, .i .i64, .i .i64, .i .i64, .i .i64, .i .i64, .i .i64, .i .i64, .i .i64, .i .i64, .i .i64, .i .i64, .l [.i .u8], .i .i64] x0) : Fn Tryd.prog 5 [.agg x0] [rB true] := by
  obtain ⟨a0, rfl, p0⟩ := wtTFlight h0
  exact lFnExactFormatFlight_c (lFnExactFormatFlight_ok a0 p0 (rgTFlight h0))
theorem fnExactFormatDevice_fn (x0 : List D) (h0 : WTs [.i .i64, .i .i64, .i .i64, .i .i64, .i .i64, .i .i64, .i .i64, .i .i64, .i .i64, .b, .i .i64, .i .i64, .l [.i .i64, .l [.i .u8]], .l [.l [.i .u8]]] x0) : Fn Tryd.prog 6 [.agg x0] [rB true] := by
  obtain ⟨a0, rfl, p0⟩ := wtTDevice h0
  exact lFnExactFormatDevice_c (lFnExactFormatDevice_ok a0 p0 (rgTDevice h0))
theorem fnExactFormatSession_fn (x0 : List D) (h0 : WTs [.i .i64, .i .i64, .i .i64, .i .i64, .i .i64, .i .i64, .i .i64, .l [.i .i64], .i .i64, .i .i64, .i .i64, .i .i64, .i .i64, .i .i64, .i .i64, .i .i64, .i .i64, .i .i64, .i .i64, .i .i64, .i .i64, .i .i64, .i .i64, .l [.l [.i .u8]], .i .i64, .l [.i .i64, .l [.i .u8]], .i .i64, .i .i64, .i .i64, .i .i64] x0) : Fn Tryd.prog 8 [.agg x0] [rB true] := by
  obtain ⟨a0, rfl, p0⟩ := wtTSession h0
  exact lFnExactFormatSession_c (lFnExactFormatSession_ok a0 p0 (rgTSession h0))
end Go.AM
