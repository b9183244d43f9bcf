/-
  The abstract machine, part Q: a row that is handed over as data; bounded shapes; the number of elements in a datum.
-/
import Derived.Test.YtlpclccdbmoemaaGreatAmP
set_option linter.unusedVariables false
namespace Go.AM
/-- A new row, handed over as data. -/
theorem Fn.frz {P : Program} {f : FuncId} {args : List AV} {ty sz n : Nat} {els : List (List D)} (h : Fn P f args [.c (.own ty sz els n)]) (hn : els.length = n) : Fn P f args [.c (.d (.l els))] := by
  refine ⟨h.enters, fun F w vals hF hT hA => (h.calls F w vals hF hT hA).mono ?_⟩
  rintro e w' ⟨v, G, bs, rfl, hp, hG, hr, _⟩
  obtain ⟨b, c, arr, rfl, rfl, hh, ha, hlc, hmx, hes, hrd, hgb, hbb⟩ := hr
  subst hn
  have hlt : b < w'.heap.size := by
    rcases Nat.lt_or_ge b w'.heap.size with h | h
    · exact h
    · rw [Array.getElem?_eq_none h] at hh; cases hh
  refine ⟨_, fun k => G k ∨ k = b, [], rfl, hp, ?_, ⟨rfl, ?_⟩, by simp⟩
  · rintro k (hk | rfl)
    · exact hG k hk
    · exact ⟨hbb, hlt, arr, ty, hh⟩
  · rw [rdD]
    exact ⟨_, _, rfl, hlc, .inr ⟨b, 0, rfl, .inr rfl, rdLL_mono' (fun _ _ => rfl) (fun _ h => .inl h) rfl _ _ hrd⟩⟩

mutual
/-- Shapes, each slice of at most 2^20 elements. -/
inductive WS : Sh → D → Prop
  | i {k : IntKind} {n : Int} (h : (Lit.int k n).wf = true) : WS (.i k) (.i k n)
  | b {x : Bool} : WS .b (.b x)
  | str {s : ByteArray} (h : s.size ≤ maxLen) : WS .str (.str s)
  | l {e : List Sh} {xs : List (List D)} (hl : xs.length ≤ 1048576) (h : WSL e xs) : WS (.l e) (.l xs)
inductive WSs : List Sh → List D → Prop
  | nil : WSs [] []
  | cons {s : Sh} {ss : List Sh} {x : D} {xs : List D} (h : WS s x) (h' : WSs ss xs) : WSs (s :: ss) (x :: xs)
inductive WSL : List Sh → List (List D) → Prop
  | nil {e : List Sh} : WSL e []
  | cons {e : List Sh} {x : List D} {xs : List (List D)} (h : WSs e x) (h' : WSL e xs) : WSL e (x :: xs)
end
mutual
def tot : D → Nat
  | .l xs => xs.length + totLL xs
  | .i _ _ => 0
  | .b _ => 0
  | .str _ => 0
  | .k _ _ _ => 0
def totLL : List (List D) → Nat
  | [] => 0
  | e :: es => totL e + totLL es
def totL : List D → Nat
  | [] => 0
  | d :: ds => tot d + totL ds
end
@[simp] theorem tot_i {k : IntKind} {n : Int} : tot (.i k n) = 0 := by rw [tot]
@[simp] theorem tot_b {x : Bool} : tot (.b x) = 0 := by rw [tot]
@[simp] theorem tot_str {s : ByteArray} : tot (.str s) = 0 := by rw [tot]
@[simp] theorem tot_l {xs : List (List D)} : tot (.l xs) = xs.length + totLL xs := by rw [tot]
@[simp] theorem totL_nil : totL [] = 0 := by rw [totL]
@[simp] theorem totL_cons {x : D} {xs : List D} : totL (x :: xs) = tot x + totL xs := by rw [totL]
@[simp] theorem totLL_nil : totLL [] = 0 := by rw [totLL]
@[simp] theorem totLL_cons {x : List D} {xs : List (List D)} : totLL (x :: xs) = totL x + totLL xs := by rw [totLL]
mutual
theorem WS_of : ∀ {s : Sh} {x : D}, WT s x → tot x ≤ 1048576 → WS s x
  | _, _, .i h, _ => .i h
  | _, _, .b, _ => .b
  | _, _, .str h, _ => .str h
  | _, _, .l hl h, ht => by rw [tot_l] at ht; exact .l (by omega) (WSL_of h (by omega))
theorem WSs_of : ∀ {s : List Sh} {x : List D}, WTs s x → totL x ≤ 1048576 → WSs s x
  | _, _, .nil, _ => .nil
  | _, _, .cons h h', ht => by rw [totL_cons] at ht; exact .cons (WS_of h (by omega)) (WSs_of h' (by omega))
theorem WSL_of : ∀ {s : List Sh} {x : List (List D)}, WTL s x → totLL x ≤ 1048576 → WSL s x
  | _, _, .nil, _ => .nil
  | _, _, .cons h h', ht => by rw [totLL_cons] at ht; exact .cons (WSs_of h (by omega)) (WSL_of h' (by omega))
end
section
variable {k : IntKind} {e ss : List Sh} {x : List D} {xs : List (List D)} {d : D}
theorem WS.gi (h : WS (.i k) d) : ∃ n, d = .i k n ∧ (Lit.int k n).wf = true := by cases h with | i h => exact ⟨_, rfl, h⟩
theorem WS.gb (h : WS .b d) : ∃ n, d = .b n := by cases h; exact ⟨_, rfl⟩
theorem WS.gs (h : WS .str d) : ∃ s, d = .str s ∧ s.size ≤ maxLen := by cases h with | str h => exact ⟨_, rfl, h⟩
theorem WS.gl (h : WS (.l e) d) : ∃ ys, d = .l ys ∧ ys.length ≤ 1048576 ∧ WSL e ys := by cases h with | l hl h => exact ⟨_, rfl, hl, h⟩
theorem WSs.gn (h : WSs [] x) : x = [] := by cases h; rfl
theorem WSs.gi (h : WSs (.i k :: ss) x) : ∃ n r, x = .i k n :: r ∧ (Lit.int k n).wf = true ∧ WSs ss r := by cases h with | cons h h' => cases h with | i h => exact ⟨_, _, rfl, h, h'⟩
theorem WSs.gb (h : WSs (.b :: ss) x) : ∃ n r, x = .b n :: r ∧ WSs ss r := by cases h with | cons h h' => cases h; exact ⟨_, _, rfl, h'⟩
theorem WSs.gs (h : WSs (.str :: ss) x) : ∃ s r, x = .str s :: r ∧ s.size ≤ maxLen ∧ WSs ss r := by cases h with | cons h h' => cases h with | str h => exact ⟨_, _, rfl, h, h'⟩
theorem WSs.gl (h : WSs (.l e :: ss) x) : ∃ ys r, x = .l ys :: r ∧ ys.length ≤ 1048576 ∧ WSL e ys ∧ WSs ss r := by cases h with | cons h h' => cases h with | l hl h => exact ⟨_, _, rfl, hl, h, h'⟩
theorem WTs.gn (h : WTs [] x) : x = [] := by cases h; rfl
theorem WTs.gi (h : WTs (.i k :: ss) x) : ∃ n r, x = .i k n :: r ∧ (Lit.int k n).wf = true ∧ WTs ss r := by cases h with | cons h h' => cases h with | i h => exact ⟨_, _, rfl, h, h'⟩
theorem WTs.gb (h : WTs (.b :: ss) x) : ∃ n r, x = .b n :: r ∧ WTs ss r := by cases h with | cons h h' => cases h; exact ⟨_, _, rfl, h'⟩
theorem WTs.gs (h : WTs (.str :: ss) x) : ∃ s r, x = .str s :: r ∧ s.size ≤ maxLen ∧ WTs ss r := by cases h with | cons h h' => cases h with | str h => exact ⟨_, _, rfl, h, h'⟩
theorem WTs.gl (h : WTs (.l e :: ss) x) : ∃ ys r, x = .l ys :: r ∧ ys.length ≤ 9223372036854775807 ∧ WTL e ys ∧ WTs ss r := by cases h with | cons h h' => cases h with | l hl h => exact ⟨_, _, rfl, by unfold maxLen at hl; simpa using hl, h, h'⟩
theorem WT.gl (h : WT (.l e) d) : ∃ ys, d = .l ys ∧ ys.length ≤ 9223372036854775807 ∧ WTL e ys := by cases h with | l hl h => exact ⟨_, rfl, by unfold maxLen at hl; simpa using hl, h⟩
theorem WT.gi (h : WT (.i k) d) : ∃ n, d = .i k n ∧ (Lit.int k n).wf = true := by cases h with | i h => exact ⟨_, rfl, h⟩
theorem WT.gb (h : WT .b d) : ∃ n, d = .b n := by cases h; exact ⟨_, rfl⟩
theorem WT.gs (h : WT .str d) : ∃ s, d = .str s ∧ s.size ≤ maxLen := by cases h with | str h => exact ⟨_, rfl, h⟩
theorem WSs.len : ∀ {ss : List Sh} {xs : List D}, WSs ss xs → xs.length = ss.length
  | _, _, .nil => rfl
  | _, _, .cons _ h => by simp [WSs.len h]
theorem WSL.len : ∀ {xs : List (List D)}, WSL ss xs → ∀ e ∈ xs, e.length = ss.length
  | _, .nil => by simp
  | _, .cons h h' => by simpa using ⟨h.len, WSL.len h'⟩
theorem WTL.len : ∀ {xs : List (List D)}, WTL ss xs → ∀ e ∈ xs, e.length = ss.length
  | _, .nil => by simp
  | _, .cons h h' => by simpa using ⟨h.len, WTL.len h'⟩
theorem WSL.get : ∀ {xs : List (List D)}, WSL ss xs → ∀ (i : Nat) (h : i < xs.length), WSs ss xs[i]
  | _ :: _, .cons h h', 0, _ => h
  | _ :: _, .cons h h', i + 1, hi => by simpa using WSL.get h' i (by simpa using hi)
theorem WTL.get : ∀ {xs : List (List D)}, WTL ss xs → ∀ (i : Nat) (h : i < xs.length), WTs ss xs[i]
  | _ :: _, .cons h h', 0, _ => h
  | _ :: _, .cons h h', i + 1, hi => by simpa using WTL.get h' i (by simpa using hi)
/-- The element at an index below the length, as a variable of its own. -/
theorem WSL.at {k : Nat} (h : WSL ss xs) (hk : k < xs.length) : ∃ e, xs[k] = e ∧ xs[(k : Int).toNat]? = some e ∧ WSs ss e := ⟨_, rfl, by simp [hk], h.get k hk⟩
theorem WTL.at {k : Nat} (h : WTL ss xs) (hk : k < xs.length) : ∃ e, xs[k] = e ∧ xs[(k : Int).toNat]? = some e ∧ WTs ss e := ⟨_, rfl, by simp [hk], h.get k hk⟩
end
/-- A row that is being filled with what another holds. -/
abbrev fil (z : List D) (l : List (List D)) (k : Nat) : List (List D) := l.take k ++ List.replicate (l.length - k) z
end Go.AM
