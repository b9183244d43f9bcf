/-
  Own text: a part of the abstract machine for this seat (Lf). No statement is proved here.
-/
import Derived.Test.YtafgglkmebkeeaaGreatDoorLs
set_option linter.unusedVariables false
set_option linter.unusedSimpArgs false
namespace Go.AM
open Go.Proofs
attribute [local simp] ltB_self eqB_refl ix_nat
theorem rg_of {n : Int} (h : -9223372036854775808 ≤ n ∧ n ≤ 9223372036854775807) : rgI .i64 n := by
  simp [rgI, Lit.wf, IntKind.min, IntKind.max, IntKind.signed, IntKind.bits]; omega
theorem rg_WR (n : Int) : rgI .i64 (WR n) := by
  apply rg_of
  show -9223372036854775808 ≤ IntKind.i64.wrap n ∧ IntKind.i64.wrap n ≤ 9223372036854775807
  rw [IntKind.wrap_i64]; omega
theorem rg_len {n : Nat} (h : n ≤ 1048576) : rgI .i64 ((n : Nat) : Int) := rg_of (by omega)
theorem rg_fold {α : Type} (g : Int → α → Int) : ∀ (xs : List α) (a : Int), rgI .i64 a → rgI .i64 (xs.foldl (fun s x => WR (g s x)) a)
  | [], a, h => h
  | x :: xs, a, _ => by rw [List.foldl_cons]; exact rg_fold g xs _ (rg_WR _)
theorem fold_rule {α : Type} {step : Int × Int → Option (Step (Int × Int) Int)} (xs : List α) (f : Int → α → Int) (hl : xs.length ≤ 9223372036854775806)
    (hs : ∀ (k : Nat) (x : α) (a : Int), xs[k]? = some x → k < xs.length → step (a, (k : Int)) = some (.next (f a x, ((k + 1 : Nat) : Int)))) (he : ∀ a, step (a, ((xs.length : Nat) : Int)) = some (.done a)) (a0 : Int) :
    iter step FU (a0, 0) = some (xs.foldl f a0) := by
  have := iter_for (step := step) xs (fun k (v : Int) => (v, (k : Int))) (fun v x => some (.next (f v x))) some hl
    (fun k x s hx hk => by rw [hs k x s hx hk]; rfl) (fun s => by rw [he]; rfl) a0
  refine Eq.trans (show iter step FU (a0, 0) = _ from this) ?_
  clear this he hs
  induction xs generalizing a0 with
  | nil => rfl
  | cons x xs ih => rw [forL, List.foldl_cons]; exact ih (by simp at hl; omega) _
def sigN (k : Int) : ByteArray := bif eqB k 1 then ⟨#[97, 116, 116, 97, 99, 104]⟩ else (bif eqB k 2 then ⟨#[99, 104, 97, 108, 108, 101, 110, 103, 101]⟩ else (bif eqB k 3 then ⟨#[114, 101, 115, 112, 111, 110, 115, 101]⟩ else (bif eqB k 4 then ⟨#[97, 99, 99, 101, 112, 116]⟩ else (bif eqB k 5 then ⟨#[112, 97, 116, 104, 45, 117, 112, 100, 97, 116, 101]⟩ else (bif eqB k 6 then ⟨#[112, 97, 116, 104, 45, 97, 99, 107]⟩ else (bif eqB k 7 then ⟨#[112, 97, 103, 101]⟩ else (bif eqB k 8 then ⟨#[100, 97, 116, 97, 45, 97, 99, 107]⟩ else ⟨#[63]⟩)))))))
theorem sign_i (k : Int) : isignalName k = some (sigN k) := by
  unfold isignalName sigN
  cases eqB k 1 <;> cases eqB k 2 <;> cases eqB k 3 <;> cases eqB k 4 <;> cases eqB k 5 <;> cases eqB k 6 <;> cases eqB k 7 <;> cases eqB k 8 <;> rfl
theorem sign_size (k : Int) : (sigN k).size ≤ 11 := by
  unfold sigN
  cases eqB k 1 <;> cases eqB k 2 <;> cases eqB k 3 <;> cases eqB k 4 <;> cases eqB k 5 <;> cases eqB k 6 <;> cases eqB k 7 <;> cases eqB k 8 <;> decide
theorem inr_s (a b c : Int) : sl1In a b c = some (inR a b c) := by
  unfold sl1In inR
  cases leB b a <;> rfl
theorem inR_no {k a b : Int} (h : ¬ (a ≤ k ∧ k ≤ b)) : inR k a b = false := by
  rw [Bool.eq_false_iff, ne_eq, inR_iff]; exact h
theorem eq_no {k a : Int} (h : k ≠ a) : eqB k a = false := by simp [eqB, h]
theorem sig_s (k : Int) : (Option.bind (sl1In k 1 8) fun r1 => (bif r1 then (Option.bind (ix [⟨#[]⟩, ⟨#[97, 116, 116, 97, 99, 104]⟩, ⟨#[99, 104, 97, 108, 108, 101, 110, 103, 101]⟩, ⟨#[114, 101, 115, 112, 111, 110, 115, 101]⟩, ⟨#[97, 99, 99, 101, 112, 116]⟩, ⟨#[112, 97, 116, 104, 45, 117, 112, 100, 97, 116, 101]⟩, ⟨#[112, 97, 116, 104, 45, 97, 99, 107]⟩, ⟨#[112, 97, 103, 101]⟩, ⟨#[100, 97, 116, 97, 45, 97, 99, 107]⟩] k) fun x3 => some x3) else (some (⟨#[63]⟩ : ByteArray)))) = some (sigN k) := by
  by_cases h : 1 ≤ k ∧ k ≤ 8
  · have : k = 1 ∨ k = 2 ∨ k = 3 ∨ k = 4 ∨ k = 5 ∨ k = 6 ∨ k = 7 ∨ k = 8 := by omega
    rcases this with rfl | rfl | rfl | rfl | rfl | rfl | rfl | rfl <;> simp [inr_s, inR, leB, sigN, eqB, ix]
  · rw [inr_s, inR_no h]
    unfold sigN
    rw [eq_no (by omega), eq_no (by omega), eq_no (by omega), eq_no (by omega), eq_no (by omega), eq_no (by omega), eq_no (by omega), eq_no (by omega)]
    rfl
theorem bind_assoc' {α β γ : Type} (x : Option α) (f : α → Option β) (g : β → Option γ) : (Option.bind x fun a => Option.bind (f a) g) = Option.bind (Option.bind x f) g := by cases x <;> rfl
def sigB (m : TSignal) : ByteArray := sigN m.Kind ++ ⟨#[64]⟩ ++ it m.Cell ++ ⟨#[58]⟩ ++ it m.Generation ++ ⟨#[46]⟩ ++ it m.Epoch
theorem sigf_i {m : TSignal} (h1 : rgI .i64 m.Cell) (h2 : rgI .i64 m.Generation) (h3 : rgI .i64 m.Epoch) : iFormatSignal m = some (sigB m) := by
  have s1 := it_size h1; have s2 := it_size h2; have s3 := it_size h3; have s4 := sign_size m.Kind
  simp only [iFormatSignal, sign_i, fint_i h1, fint_i h2, fint_i h3, Option.bind_some, sigB]
  simp (disch := ((try simp only [ByteArray.size_append, lit_size, List.size_toArray, List.length_cons, List.length_nil]); omega)) only [saOk_t, cond_true]
theorem sigf_s {m : TSignal} (h1 : rgI .i64 m.Cell) (h2 : rgI .i64 m.Generation) (h3 : rgI .i64 m.Epoch) : sFormatSignal m = some (sigB m) := by
  have s1 := it_size h1; have s2 := it_size h2; have s3 := it_size h3; have s4 := sign_size m.Kind
  unfold sFormatSignal
  rw [bind_assoc', sig_s]
  simp only [fint_s h1, fint_s h2, fint_s h3, Option.bind_some, sigB]
  simp (disch := ((try simp only [ByteArray.size_append, lit_size, List.size_toArray, List.length_cons, List.length_nil]); omega)) only [saOk_t, cond_true]
theorem sigB_size {m : TSignal} (h1 : rgI .i64 m.Cell) (h2 : rgI .i64 m.Generation) (h3 : rgI .i64 m.Epoch) : (sigB m).size ≤ 100 := by
  have s1 := it_size h1; have s2 := it_size h2; have s3 := it_size h3; have s4 := sign_size m.Kind
  simp only [sigB, ByteArray.size_append, lit_size, List.size_toArray, List.length_cons, List.length_nil]; omega
def flyB (f : TFlight) : ByteArray := bif f.IsRadio then it f.Device ++ (bif f.Uplink then ⟨#[94]⟩ else ⟨#[118]⟩) ++ ⟨#[100, 97, 116, 97, 64]⟩ ++ it f.Cell ++ ⟨#[58]⟩ ++ it f.Radio.Message.Count ++ ⟨#[46]⟩ ++ it f.Radio.Epoch
  else it f.Device ++ (bif f.Uplink then ⟨#[94]⟩ else ⟨#[118]⟩) ++ sigB f.Signal
structure RgF (f : TFlight) : Prop where
  dev : rgI .i64 f.Device
  cell : rgI .i64 f.Cell
  scell : rgI .i64 f.Signal.Cell
  gen : rgI .i64 f.Signal.Generation
  ep : rgI .i64 f.Signal.Epoch
  cnt : rgI .i64 f.Radio.Message.Count
  rep : rgI .i64 f.Radio.Epoch
theorem fly_i {f : TFlight} (r : RgF f) : iFormatFlight f = some (flyB f) := by
  have s1 := it_size r.dev; have s2 := it_size r.cell; have s3 := it_size r.cnt; have s4 := it_size r.rep; have s5 := sigB_size r.scell r.gen r.ep
  simp only [iFormatFlight, fint_i r.dev, fint_i r.cell, fint_i r.cnt, fint_i r.rep, sigf_i r.scell r.gen r.ep, Option.bind_some, flyB]
  cases f.Uplink <;> cases f.IsRadio <;> simp only [Bool.not_true, Bool.not_false, cond_true, cond_false]
  all_goals simp (disch := ((try simp only [ByteArray.size_append, lit_size, List.size_toArray, List.length_cons, List.length_nil]); omega)) only [saOk_t, cond_true, Option.bind_some]
theorem fly_s {f : TFlight} (r : RgF f) : sFormatFlight f = some (flyB f) := by
  have s1 := it_size r.dev; have s2 := it_size r.cell; have s3 := it_size r.cnt; have s4 := it_size r.rep; have s5 := sigB_size r.scell r.gen r.ep
  simp only [sFormatFlight, fint_s r.dev, fint_s r.cell, fint_s r.cnt, fint_s r.rep, sigf_s r.scell r.gen r.ep, Option.bind_some, flyB]
  cases f.Uplink <;> cases f.IsRadio <;> simp only [Bool.not_true, Bool.not_false, cond_true, cond_false]
  all_goals simp (disch := ((try simp only [ByteArray.size_append, lit_size, List.size_toArray, List.length_cons, List.length_nil]); omega)) only [saOk_t, cond_true, Option.bind_some]
theorem flyB_size {f : TFlight} (r : RgF f) : (flyB f).size ≤ 200 := by
  have s1 := it_size r.dev; have s2 := it_size r.cell; have s3 := it_size r.cnt; have s4 := it_size r.rep; have s5 := sigB_size r.scell r.gen r.ep
  unfold flyB
  cases f.Uplink <;> cases f.IsRadio <;> simp only [cond_true, cond_false, ByteArray.size_append, lit_size, List.size_toArray, List.length_cons, List.length_nil] <;> omega
theorem rgF_of {f : TFlight} (h : rngTFlight f) : RgF f := by
  unfold rngTFlight at h
  obtain ⟨h1, h2, h3, h4, h5, h6, h7, h8, h9, h10, h11, h12, h13, h14, h15, h16, h17, h18⟩ := h
  exact ⟨h1, h2, h4, h5, h6, h17, h15⟩
theorem empty_app (a : ByteArray) : (⟨#[]⟩ : ByteArray) ++ a = a := by
  apply ByteArray.ext; simp
theorem join_next {α : Type} (xs : List α) (wd : α → ByteArray) (sep : ByteArray) {k : Nat} {x : α} (hx : xs[k]? = some x) :
    joinB ((xs.take (k + 1)).map wd) sep = (if k = 0 then joinB ((xs.take k).map wd) sep else joinB ((xs.take k).map wd) sep ++ sep) ++ wd x := by
  have hk := (List.getElem?_eq_some_iff.1 hx)
  obtain ⟨hk1, hk2⟩ := hk
  rw [List.take_add_one, hx, Option.toList_some, List.map_append, List.map_cons, List.map_nil]
  cases k with
  | zero => simp only [List.take_zero, List.map_nil, List.nil_append, joinB_one, if_true, joinB_nil, empty_app]
  | succ k =>
    rw [if_neg (by omega)]
    cases xs with
    | nil => simp at hk1
    | cons y ys => rw [List.take_succ_cons, List.map_cons]; exact joinB_snoc _ _ _ _
theorem acc_rule {α : Type} {step : ByteArray × Int → Option (Step (ByteArray × Int) ByteArray)} (xs : List α) (wd : α → ByteArray) (sep : ByteArray) (B : Nat) (hl : xs.length ≤ 9223372036854775806) (hB : xs.length * B ≤ 1000000000000000) (hw : ∀ x ∈ xs, (wd x).size + sep.size ≤ B)
    (hs : ∀ (k : Nat) (x : α) (s : ByteArray), xs[k]? = some x → k < xs.length → s.size ≤ 1000000000000000 → step (s, (k : Int)) = some (.next ((if k = 0 then s else s ++ sep) ++ wd x, ((k + 1 : Nat) : Int))))
    (he : ∀ s, step (s, ((xs.length : Nat) : Int)) = some (.done s)) :
    iter step FU (⟨#[]⟩, 0) = some (joinB (xs.map wd) sep) ∧ (joinB (xs.map wd) sep).size ≤ xs.length * B := by
  have key : ∀ (n m k : Nat), k + n = xs.length → n < m → (joinB ((xs.take k).map wd) sep).size ≤ k * B → iter step m (joinB ((xs.take k).map wd) sep, (k : Int)) = some (joinB (xs.map wd) sep) ∧ (joinB (xs.map wd) sep).size ≤ xs.length * B := by
    intro n
    induction n with
    | zero =>
      intro m k hk hm hsz
      cases m with
      | zero => omega
      | succ m =>
        have : k = xs.length := by omega
        subst this
        rw [List.take_length] at hsz ⊢
        refine ⟨?_, hsz⟩
        simp only [iter, he]
    | succ n ih =>
      intro m k hk hm hsz
      cases m with
      | zero => omega
      | succ m =>
        have hkl : k < xs.length := by omega
        have hx := List.getElem?_eq_getElem hkl
        have hkB : k * B ≤ xs.length * B := Nat.mul_le_mul_right _ (by omega)
        have hn := join_next xs wd sep hx
        have hwx := hw _ (List.getElem_mem hkl)
        have hsz' : (joinB ((xs.take (k + 1)).map wd) sep).size ≤ (k + 1) * B := by
          rw [hn, ByteArray.size_append, Nat.add_mul]
          split
          · omega
          · rw [ByteArray.size_append]; omega
        simp only [iter]
        rw [hs k _ _ hx hkl (by omega), ← hn]
        exact ih m (k + 1) (by omega) (by omega) hsz'
  have := key xs.length FU 0 (by omega) (by have := FU_big; omega) (by simp [joinB_nil, lit_size])
  simpa [joinB_nil] using this
theorem gJoin_some {xs : List ByteArray} {sep : ByteArray} (h1 : xs.length ≤ 140737488355328) (h2 : (joinB xs sep).size ≤ 140737488355328) : gJoin xs sep = some (joinB xs sep) := by
  unfold gJoin
  rw [show (Nat.ble xs.length 140737488355328 && Nat.ble (joinB xs sep).size 140737488355328) = true from by simp [h1, h2]]
  rfl
end Go.AM
