/-
  Own text: a part of the abstract machine for this seat (Qfp). No statement is proved here.
-/
import Derived.Test.YtnhgchfpccpcdaaHal
import Derived.Test.YtnhgchfpccpcdaaQam
set_option linter.unusedVariables false
set_option linter.unusedSimpArgs false
namespace Go.AM
open Go.Proofs
attribute [local simp] ltB_self eqB_refl ix_nat
abbrev hexd : ByteArray := ⟨#[48, 49, 50, 51, 52, 53, 54, 55, 56, 57, 97, 98, 99, 100, 101, 102]⟩
def hx (d : Nat) : UInt8 := hexd.data.getD d 0
theorem shr4 (n : Nat) : bShr .u8 (n : Int) 4 = ((n / 16 : Nat) : Int) := by
  show Int.fdiv (n : Int) 16 = _
  rw [Int.fdiv_eq_ediv_of_nonneg _ (by decide)]; rfl
theorem and15 (n : Nat) (h : n < 256) : bAnd .u8 (n : Int) 15 = ((n % 16 : Nat) : Int) := by
  have key : ∀ m : _root_.Fin 256, bAnd .u8 (m.val : Int) 15 = ((m.val % 16 : Nat) : Int) := by decide +kernel
  exact key ⟨n, h⟩
theorem succ_u8 (d : Nat) (h : d < 16) : IntKind.u8.wrap ((d : Int) + 1) = ((d + 1 : Nat) : Int) := by
  have key : ∀ m : _root_.Fin 16, IntKind.u8.wrap ((m.val : Int) + 1) = ((m.val + 1 : Nat) : Int) := by decide +kernel
  exact key ⟨d, h⟩
theorem ix_hex (d : Nat) (h : d < 16) : bIx hexd (d : Int) = some ((hx d).toNat : Int) := by
  have key : ∀ m : _root_.Fin 16, bIx hexd (m.val : Int) = some ((hx m.val).toNat : Int) := by decide +kernel
  exact key ⟨d, h⟩
theorem ex_hex (d : Nat) (h : d < 16) : hexd.extract d (d + 1) = ⟨#[hx d]⟩ := by
  have key : ∀ m : _root_.Fin 16, hexd.extract m.val (m.val + 1) = ⟨#[hx m.val]⟩ := by decide +kernel
  exact key ⟨d, h⟩

def hiD (x : Int) : UInt8 := hx (x.toNat / 16)
def loD (x : Int) : UInt8 := hx (x.toNat % 16)
def fpB (s : List Int) (x : Int) : Option (Step (List Int) (List Int)) := bif apOk 1 (s ++ [((hiD x).toNat : Int), ((loD x).toNat : Int)]).length then some (.next (s ++ [((hiD x).toNat : Int), ((loD x).toNat : Int)])) else none
def hexL (xs : List Int) : List Int := xs.flatMap fun x => [((hiD x).toNat : Int), ((loD x).toNat : Int)]
theorem fp_run : ∀ (xs : List Int) (s : List Int), s.length + 2 * xs.length ≤ 2097152 → forL fpB some xs s = some (s ++ hexL xs)
  | [], s, _ => by simp [forL, hexL]
  | x :: xs, s, h => by
    simp only [List.length_cons] at h
    have ha : apOk 1 (s ++ [((hiD x).toNat : Int), ((loD x).toNat : Int)]).length = true := by
      simp only [apOk, decide_eq_true_eq, List.length_append, List.length_cons, List.length_nil]; omega
    rw [forL]
    simp only [fpB, ha, cond_true]
    rw [fp_run xs _ (by simp; omega)]
    simp [hexL]
theorem iFormatPayload_eq {xs : List Int} (h : xs.length ≤ 1048576) (hu : ∀ x ∈ xs, okU8 x) : iFormatPayload xs = some (bif eqB ((xs.length : Nat) : Int) 0 then ⟨#[45]⟩ else bsOf (hexL xs)) := by
  have hr := iter_for (step := iFormatPayload_L1 xs) xs (fun k (s : List Int) => ((k : Int), s)) fpB some (by omega)
    (fun k x s hx' hk => by
      obtain ⟨h0, h255⟩ := hu x (List.mem_of_getElem? hx')
      obtain ⟨n, rfl⟩ := Int.eq_ofNat_of_zero_le h0
      have hn : n < 256 := by omega
      simp only [iFormatPayload_L1, ltB_lt hk, ix_nat, hx', Option.bind_some, cond_true, shr4, and15 n hn, WR_succ (show k < 9223372036854775807 by omega)]
      rw [ix_hex (n / 16) (by omega), ix_hex (n % 16) (by omega)]
      simp only [Option.bind_some, fpB, hiD, loD, Int.toNat_natCast]
      cases apOk 1 (s ++ [((hx (n / 16)).toNat : Int), ((hx (n % 16)).toNat : Int)]).length <;> rfl)
    (fun s => by simp [iFormatPayload_L1]) []
  rw [fp_run xs [] (by simp; omega)] at hr
  have hr' : iter (iFormatPayload_L1 xs) FU (0, []) = some (hexL xs) := by simpa using hr
  have hm : mkOk 1 0 (WR (2 * ((xs.length : Nat) : Int))) = true := by rw [WR_in (by omega)]; simp only [mkOk, decide_eq_true_eq]; omega
  have hz : (List.replicate ((0 : Int)).toNat 0 : List Int) = [] := rfl
  simp only [iFormatPayload, hm, cond_true, hz, hr', Option.bind_some]
  cases eqB ((xs.length : Nat) : Int) 0 <;> rfl
def spB (s : ByteArray) (x : Int) : Option (Step ByteArray ByteArray) := bif saOk s ⟨#[hiD x]⟩ then (bif saOk (s ++ ⟨#[hiD x]⟩) ⟨#[loD x]⟩ then some (.next (s ++ ⟨#[hiD x]⟩ ++ ⟨#[loD x]⟩)) else none) else none
theorem app1 (s : ByteArray) (c : UInt8) : s ++ ⟨#[c]⟩ = s.push c := by
  apply ByteArray.ext
  simp [ByteArray.data_append, ByteArray.push]
theorem bsOf_snoc (l : List Int) (c : UInt8) : bsOf (l ++ [(c.toNat : Int)]) = (bsOf l).push c := by
  simp [bsOf]
theorem bsOf_size (l : List Int) : (bsOf l).size = l.length := by
  have key : ∀ (l : List Int) (r : ByteArray), (l.foldl (fun r n => r.push (UInt8.ofNat n.toNat)) r).size = r.size + l.length := by
    intro l
    induction l with
    | nil => intro r; simp
    | cons x l ih => intro r; rw [List.foldl_cons, ih]; simp [ByteArray.size_push]; omega
  have := key l ByteArray.empty
  simpa [bsOf] using this
theorem sp_run : ∀ (xs : List Int) (l : List Int), l.length + 2 * xs.length ≤ 2097152 → forL spB some xs (bsOf l) = some (bsOf (l ++ hexL xs))
  | [], l, _ => by simp [forL, hexL]
  | x :: xs, l, h => by
    simp only [List.length_cons] at h
    have hs := bsOf_size l
    have h1 : saOk (bsOf l) ⟨#[hiD x]⟩ = true := by
      simp only [saOk, decide_eq_true_eq, hs]
      have : (⟨#[hiD x]⟩ : ByteArray).size = 1 := rfl
      omega
    have h2 : saOk ((bsOf l) ++ ⟨#[hiD x]⟩) ⟨#[loD x]⟩ = true := by
      rw [app1]
      simp only [saOk, decide_eq_true_eq, ByteArray.size_push, hs]
      have : (⟨#[loD x]⟩ : ByteArray).size = 1 := rfl
      omega
    rw [forL]
    simp only [spB, h1, h2, cond_true]
    rw [app1, app1, ← bsOf_snoc, ← bsOf_snoc, sp_run xs _ (by simp; omega)]
    simp [hexL]
theorem sFormatPayload_eq {xs : List Int} (h : xs.length ≤ 1048576) (hu : ∀ x ∈ xs, okU8 x) : sFormatPayload xs = some (bif eqB ((xs.length : Nat) : Int) 0 then ⟨#[45]⟩ else bsOf (hexL xs)) := by
  have hr := iter_for (step := sFormatPayload_L1 xs) xs (fun k (s : ByteArray) => (s, (k : Int))) spB some (by omega)
    (fun k x s hx' hk => by
      obtain ⟨h0, h255⟩ := hu x (List.mem_of_getElem? hx')
      obtain ⟨n, rfl⟩ := Int.eq_ofNat_of_zero_le h0
      have hn : n < 256 := by omega
      have e1 : ssOk hexd ((n / 16 : Nat) : Int) ((n / 16 + 1 : Nat) : Int) = true := by simp only [ssOk, decide_eq_true_eq]; have : hexd.size = 16 := rfl; omega
      have e2 : ssOk hexd ((n % 16 : Nat) : Int) ((n % 16 + 1 : Nat) : Int) = true := by simp only [ssOk, decide_eq_true_eq]; have : hexd.size = 16 := rfl; omega
      simp only [sFormatPayload_L1, ltB_lt hk, ix_nat, hx', Option.bind_some, cond_true, shr4, and15 n hn, succ_u8 (n / 16) (by omega), succ_u8 (n % 16) (by omega), e1, e2, Int.toNat_natCast, ex_hex (n / 16) (by omega), ex_hex (n % 16) (by omega), WR_succ (show k < 9223372036854775807 by omega), spB, hiD, loD]
      cases saOk s ⟨#[hx (n / 16)]⟩ <;> cases saOk (s ++ ⟨#[hx (n / 16)]⟩) ⟨#[hx (n % 16)]⟩ <;> rfl)
    (fun s => by simp [sFormatPayload_L1]) (bsOf [])
  rw [sp_run xs [] (by simp; omega)] at hr
  have hr' : iter (sFormatPayload_L1 xs) FU (⟨#[]⟩, 0) = some (bsOf (hexL xs)) := hr
  simp only [sFormatPayload, hr', Option.bind_some]
  cases eqB ((xs.length : Nat) : Int) 0 <;> rfl
theorem lFnExactFormatPayload_ok (xs : List Int) (hp : preL okU8 xs) : lFnExactFormatPayload xs = some true := by
  unfold lFnExactFormatPayload
  by_cases hl : 1048576 < xs.length
  · rw [show ltB 1048576 ((xs.length : Nat) : Int) = true from by simp [ltB]; omega]; rfl
  · have hok : okL (fun _ => True) xs := ⟨by omega, fun _ _ => trivial⟩
    have hb : ∀ b : ByteArray, strB b b = true := fun b => by simp [strB]
    rw [show ltB 1048576 ((xs.length : Nat) : Int) = false from by simp [ltB]; omega]
    simp only [pto_ByteS xs hok, iFormatPayload_eq (by omega) hp.2, sFormatPayload_eq (by omega) hp.2, hb, peq_ByteS xs hok, Option.bind_some, cond_false, Bool.not_true]
theorem fnExactFormatPayload_fn (x0 : D) (h0 : WT (.l [.i .u8]) x0) : Fn Try.prog 3 [.c x0] [rB true] := by
  obtain ⟨y0, rfl, l0, w0⟩ := h0.gl
  obtain ⟨a0, rfl, p0⟩ := WTL_map (f := eU8) (p := okU8) (fun x h => by obtain ⟨n, r, rfl, w, h⟩ := h.gi; obtain rfl := h.gn; exact ⟨n, rfl, wf_u8 w⟩) w0
  exact lFnExactFormatPayload_c (lFnExactFormatPayload_ok a0 ⟨by simpa using l0, p0⟩)
end Go.AM
