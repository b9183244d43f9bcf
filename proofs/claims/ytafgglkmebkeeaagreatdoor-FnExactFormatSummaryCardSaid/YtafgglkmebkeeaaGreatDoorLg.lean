/-
  Own text: a part of the abstract machine for this seat (Lg). No statement is proved here.
-/
import Derived.Test.YtafgglkmebkeeaaGreatDoorLf
set_option linter.unusedVariables false
set_option linter.unusedSimpArgs false
namespace Go.AM
open Go.Proofs
attribute [local simp] ltB_self eqB_refl ix_nat
theorem app_rule {α β : Type} {step : Int × List β → Option (Step (Int × List β) (List β))} (xs : List α) (f : α → β) (a0 : List β) (hl : xs.length ≤ 1048576) (ha : a0.length ≤ 1000)
    (hs : ∀ (k : Nat) (x : α) (a : List β), xs[k]? = some x → k < xs.length → a.length ≤ 2000000 → step ((k : Int), a) = some (.next (((k + 1 : Nat) : Int), a ++ [f x])))
    (he : ∀ a, step (((xs.length : Nat) : Int), a) = some (.done a)) : iter step FU (0, a0) = some (a0 ++ xs.map f) := by
  have key : ∀ (n m k : Nat), k + n = xs.length → n < m → iter step m ((k : Int), a0 ++ (xs.take k).map f) = some (a0 ++ xs.map f) := by
    intro n
    induction n with
    | zero =>
      intro m k hk hm
      cases m with
      | zero => omega
      | succ m =>
        have : k = xs.length := by omega
        subst this
        rw [List.take_length]
        simp only [iter, he]
    | succ n ih =>
      intro m k hk hm
      cases m with
      | zero => omega
      | succ m =>
        have hkl : k < xs.length := by omega
        simp only [iter]
        rw [hs k _ _ (List.getElem?_eq_getElem hkl) hkl (by simp; omega)]
        have := ih m (k + 1) (by omega) (by omega)
        rw [List.take_add_one, List.getElem?_eq_getElem hkl, Option.toList_some, List.map_append, ← List.append_assoc] at this
        exact this
  have := key xs.length FU 0 (by omega) (by have := FU_big; omega)
  simpa using this
def sumL (n : TNetwork) : List Int := [n.Now, ((n.Flights.length : Nat) : Int), n.Lost] ++ n.Devices.map fun d => ((d.Receiver.Delivered.length : Nat) : Int)
theorem ap8 {m : Nat} (h : m ≤ 3000000) : apOk 8 m = true := by simp [apOk]; omega
theorem sum_i {n : TNetwork} (h : okTNetwork n) : iSummary n = some (sumL n) := by
  unfold iSummary
  rw [app_rule n.Devices (fun d => ((d.Receiver.Delivered.length : Nat) : Int)) _ h.2.1.1 (by simp) (fun k x a hx hk ha => by
    have := h.2.1.1
    simp only [iSummary_L1, ltB_lt hk, ix_nat, hx, WR_succ (show k < 9223372036854775807 by omega), Option.bind_some, cond_true, ap8 (show (a ++ [((x.Receiver.Delivered.length : Nat) : Int)]).length ≤ 3000000 by simp; omega)]) (fun a => by simp [iSummary_L1])]
  rfl
theorem sum_s {n : TNetwork} (h : okTNetwork n) : sSummary n = some (sumL n) := by
  unfold sSummary
  rw [app_rule n.Devices (fun d => ((d.Receiver.Delivered.length : Nat) : Int)) _ h.2.1.1 (by simp) (fun k x a hx hk ha => by
    have := h.2.1.1
    simp only [sSummary_L1, ltB_lt hk, ix_nat, hx, WR_succ (show k < 9223372036854775807 by omega), Option.bind_some, cond_true, ap8 (show (a ++ [((x.Receiver.Delivered.length : Nat) : Int)]).length ≤ 3000000 by simp; omega)]) (fun a => by simp [sSummary_L1])]
  rfl
theorem sum_rg {n : TNetwork} (h : okTNetwork n) (h1 : rgI .i64 n.Now) (h2 : rgI .i64 n.Lost) : ∀ x ∈ sumL n, rgI .i64 x := by
  intro x hx
  simp only [sumL, List.mem_append, List.mem_cons, List.mem_map, List.not_mem_nil, or_false] at hx
  rcases hx with (rfl | rfl | rfl) | ⟨d, hd, rfl⟩
  · exact h1
  · exact rg_len h.2.2.2.2.1
  · exact h2
  · exact rg_len (h.2.1.2 d hd).2.1
theorem ints_s {xs : List Int} (hl : xs.length ≤ 2000000) (r : ∀ x ∈ xs, rgI .i64 x) :
    iter (sl10Ints_L1 xs ⟨#[32]⟩) FU (⟨#[]⟩, 0) = some (joinB (xs.map it) ⟨#[32]⟩) ∧ (joinB (xs.map it) ⟨#[32]⟩).size ≤ xs.length * 22 := by
  refine acc_rule xs it ⟨#[32]⟩ 22 (by omega) (by omega) (fun x hx => by have := it_size (r x hx); simp only [lit_size, List.size_toArray, List.length_cons, List.length_nil]; omega) (fun k x s hx hk hs => ?_) (fun s => by simp [sl10Ints_L1])
  have q := r x (List.mem_of_getElem? hx)
  have s1 := it_size q
  simp only [sl10Ints_L1, ltB_lt hk, ix_nat, hx, WR_succ (show k < 9223372036854775807 by omega), fint_s q, Option.bind_some, cond_true]
  cases k with
  | zero =>
    rw [show ltB 0 ((0 : Nat) : Int) = false from by simp [ltB]]
    simp (disch := ((try simp only [ByteArray.size_append, lit_size, List.size_toArray, List.length_cons, List.length_nil]); omega)) only [saOk_t, cond_true, cond_false, Option.bind_some, if_true, ByteArray.append_assoc]
  | succ k =>
    rw [show ltB 0 ((k + 1 : Nat) : Int) = true from by simp [ltB], if_neg (by omega)]
    simp (disch := ((try simp only [ByteArray.size_append, lit_size, List.size_toArray, List.length_cons, List.length_nil]); omega)) only [saOk_t, cond_true, Option.bind_some, ByteArray.append_assoc]
theorem lFnExactFormatSummary_ok (a : TNetwork) (hp : preTNetwork a) (r : rngTNetwork a) : lFnExactFormatSummary a = some true := by
  unfold lFnExactFormatSummary
  obtain ⟨r1, a1, b1, c1⟩ := psz_Network a 1048576 hp (by omega) (by omega)
  rcases c1 with ⟨c1, rfl⟩ | ⟨c1, d1, e1⟩
  · simp [a1, c1]
  have hq : rgI .i64 a.Now ∧ rgI .i64 a.Lost := by
    unfold rngTNetwork at r
    simp only [r, and_self]
  have hr := sum_rg e1 hq.1 hq.2
  have hlen : (sumL a).length ≤ 2000000 := by have := e1.2.1.1; simp [sumL]; omega
  obtain ⟨j1, j2⟩ := ints_s hlen hr
  have hi : iFormatSummary a = some (joinB ((sumL a).map it) ⟨#[32]⟩) := by
    unfold iFormatSummary
    rw [sum_i e1]
    simp only [Option.bind_some]
    rw [joins_i (by omega) hr, gJoin_some (by simp; omega) (by omega)]
    rfl
  have hs : sFormatSummary a = some (joinB ((sumL a).map it) ⟨#[32]⟩) := by
    unfold sFormatSummary sl10Ints
    rw [sum_s e1]
    simp only [Option.bind_some]
    rw [j1]
    rfl
  simp only [a1, c1, pto_Network a e1, hi, hs, peq_Network a e1, strB_refl, Option.bind_some, cond_false, Bool.not_true]
theorem fls_s {n : TNetwork} (hl : n.Flights.length ≤ 1048576) (r : ∀ f ∈ n.Flights, RgF f) :
    iter (sFormatFlights_L1 n) FU (⟨#[]⟩, 0) = some (joinB (n.Flights.map flyB) ⟨#[59, 32]⟩) ∧ (joinB (n.Flights.map flyB) ⟨#[59, 32]⟩).size ≤ n.Flights.length * 202 := by
  refine acc_rule n.Flights flyB ⟨#[59, 32]⟩ 202 (by omega) (by omega) (fun x hx => by have := flyB_size (r x hx); simp only [lit_size, List.size_toArray, List.length_cons, List.length_nil]; omega) (fun k x s hx hk hs => ?_) (fun s => by simp [sFormatFlights_L1])
  have q := r x (List.mem_of_getElem? hx)
  have s1 := flyB_size q
  simp only [sFormatFlights_L1, ltB_lt hk, ix_nat, hx, WR_succ (show k < 9223372036854775807 by omega), fly_s q, Option.bind_some, cond_true]
  cases k with
  | zero =>
    rw [show ltB 0 ((0 : Nat) : Int) = false from by simp [ltB]]
    simp (disch := ((try simp only [ByteArray.size_append, lit_size, List.size_toArray, List.length_cons, List.length_nil]); omega)) only [saOk_t, cond_true, cond_false, Option.bind_some, if_true, ByteArray.append_assoc]
  | succ k =>
    rw [show ltB 0 ((k + 1 : Nat) : Int) = true from by simp [ltB], if_neg (by omega)]
    simp (disch := ((try simp only [ByteArray.size_append, lit_size, List.size_toArray, List.length_cons, List.length_nil]); omega)) only [saOk_t, cond_true, Option.bind_some, ByteArray.append_assoc]
theorem fls_i {n : TNetwork} (hl : n.Flights.length ≤ 1048576) (r : ∀ f ∈ n.Flights, RgF f) : iFormatFlights n = (bif eqB ((n.Flights.length : Nat) : Int) 0 then some ⟨#[45]⟩ else some (joinB (n.Flights.map flyB) ⟨#[59, 32]⟩)) := by
  unfold iFormatFlights
  cases eqB ((n.Flights.length : Nat) : Int) 0
  · simp only [cond_false]
    rw [show mkOk 16 ((n.Flights.length : Nat) : Int) ((n.Flights.length : Nat) : Int) = true from by simp [mkOk]; omega, cond_true, Int.toNat_natCast]
    rw [iter_copy flyB (⟨#[]⟩ : ByteArray) n.Flights (by omega) (fun k x v hx hv => by
      have hk := (List.getElem?_eq_some_iff.1 hx).1
      simp only [iFormatFlights_L1, ltB_lt hk, ix_nat, hx, fly_i (r x (List.mem_of_getElem? hx)), List.getElem?_eq_getElem (show k < v.length by omega), WR_succ (show k < 9223372036854775807 by omega), Option.bind_some, cond_true, Int.toNat_natCast]) (fun v => by simp [iFormatFlights_L1])]
    simp only [Option.bind_some]
    rw [gJoin_some (by simp; omega) (by have := (fls_s hl r).2; omega)]
    rfl
  · rfl
theorem lFnExactFormatFlights_ok (a : TNetwork) (hp : preTNetwork a) (r : rngTNetwork a) : lFnExactFormatFlights a = some true := by
  unfold lFnExactFormatFlights
  obtain ⟨r1, a1, b1, c1⟩ := psz_Network a 1048576 hp (by omega) (by omega)
  rcases c1 with ⟨c1, rfl⟩ | ⟨c1, d1, e1⟩
  · simp [a1, c1]
  have hq : ∀ x ∈ a.Flights, rngTFlight x := by
    unfold rngTNetwork at r
    obtain ⟨_, _, _, _, h, _⟩ := r
    exact h
  have hr : ∀ f ∈ a.Flights, RgF f := fun f hf => rgF_of (hq f hf)
  have h2 : sFormatFlights a = (bif eqB ((a.Flights.length : Nat) : Int) 0 then some ⟨#[45]⟩ else some (joinB (a.Flights.map flyB) ⟨#[59, 32]⟩)) := by
    unfold sFormatFlights
    rw [(fls_s e1.2.2.2.2.1 hr).1]; rfl
  simp only [a1, c1, pto_Network a e1, fls_i e1.2.2.2.2.1 hr, h2, Option.bind_some, cond_false]
  cases eqB ((a.Flights.length : Nat) : Int) 0 <;> simp only [cond_true, cond_false, Option.bind_some, strB_refl, Bool.not_true, peq_Network a e1]
end Go.AM
