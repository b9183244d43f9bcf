/-
  The abstract machine, part A: pure data, and what it means that memory reads as such data.
-/
import Derived.Test.YtlpclccdbmoemaaGreatSe
import Derived.Orders
import Derived.Below
import Derived.KernelRfl
import Derived.Maps.AppendAt
import Derived.Laws.MakeOwn
namespace Go.AM
open Go.RowKit

/-- Below, by what the kernel counts fast. -/
def nlt (a b : Nat) : Bool := Nat.ble (a + 1) b

/-- The tables of the library that the seat may read lie there. -/
def TabsIn (w : World) : Prop := seatOk w
/-- Pure data: what a cell holds, slices by value. -/
inductive D where
  | i (k : IntKind) (n : Int)
  | b (x : Bool)
  | str (s : ByteArray)
  | l (xs : List (List D))
  /-- A slice value, exactly. -/
  | k (A : Option Addr) (n c : Nat)
  deriving Inhabited

mutual
/-- In world w, looking only into the blocks of F, the cell value u reads as the datum. -/
def rdD (w : World) (F : Nat → Prop) : D → Value → Prop
  | .i k n, u => u = .int k n
  | .b x, u => u = .bool x
  | .str s, u => u = .string s
  | .l xs, u => ∃ A c, u = .slice A xs.length c ∧ xs.length ≤ c ∧ (xs = [] ∨ ∃ b off, A = some ⟨b, off, none⟩ ∧ F b ∧ rdLL w F xs b off)
  | .k A n c, u => u = .slice A n c
/-- Elements that lie one behind the other. -/
def rdLL (w : World) (F : Nat → Prop) : List (List D) → Nat → Nat → Prop
  | [], _, _ => True
  | e :: es, b, k => rdL w F e b k ∧ rdLL w F es b (k + e.length)
/-- Cells that lie one behind the other. -/
def rdL (w : World) (F : Nat → Prop) : List D → Nat → Nat → Prop
  | [], _, _ => True
  | d :: ds, b, k => (∃ u, w.cell? ⟨b, k, none⟩ = some u ∧ rdD w F d u) ∧ rdL w F ds b (k + 1)
end

theorem cell_eq {w w' : World} {b k : Nat} (h : w'.heap[b]? = w.heap[b]?) : w'.cell? ⟨b, k, none⟩ = w.cell? ⟨b, k, none⟩ := by
  simp [World.cell?, h]

mutual
theorem rdD_mono {w w' : World} {F F' : Nat → Prop} (hw : ∀ b, F b → w'.heap[b]? = w.heap[b]?) (hF : ∀ b, F b → F' b) :
    ∀ (d : D) (u : Value), rdD w F d u → rdD w' F' d u
  | .i _ _, _, h => by simpa [rdD] using h
  | .b _, _, h => by simpa [rdD] using h
  | .str _, _, h => by simpa [rdD] using h
  | .l xs, u, h => by
    rw [rdD] at h ⊢
    obtain ⟨A, c, hu, hlc, h⟩ := h
    refine ⟨A, c, hu, hlc, ?_⟩
    rcases h with h | ⟨b, off, hA, hb, h⟩
    · exact .inl h
    · exact .inr ⟨b, off, hA, hF b hb, rdLL_mono hw hF xs b off hb h⟩
  | .k _ _ _, _, h => by simpa [rdD] using h
theorem rdLL_mono {w w' : World} {F F' : Nat → Prop} (hw : ∀ b, F b → w'.heap[b]? = w.heap[b]?) (hF : ∀ b, F b → F' b) :
    ∀ (xs : List (List D)) (b k : Nat), F b → rdLL w F xs b k → rdLL w' F' xs b k
  | [], _, _, _, _ => by simp [rdLL]
  | e :: es, b, k, hb, h => by
    rw [rdLL] at h ⊢
    exact ⟨rdL_mono hw hF e b k hb h.1, rdLL_mono hw hF es b _ hb h.2⟩
theorem rdL_mono {w w' : World} {F F' : Nat → Prop} (hw : ∀ b, F b → w'.heap[b]? = w.heap[b]?) (hF : ∀ b, F b → F' b) :
    ∀ (xs : List D) (b k : Nat), F b → rdL w F xs b k → rdL w' F' xs b k
  | [], _, _, _, _ => by simp [rdL]
  | d :: ds, b, k, hb, h => by
    rw [rdL] at h ⊢
    obtain ⟨⟨u, hc, hu⟩, h⟩ := h
    exact ⟨⟨u, (cell_eq (hw b hb)).trans hc, rdD_mono hw hF d u hu⟩, rdL_mono hw hF ds b _ hb h⟩
end

/-- The same for a row in a block that need not be in F: the block is as it was. -/
theorem rdL_mono' {w w' : World} {F F' : Nat → Prop} (hw : ∀ b, F b → w'.heap[b]? = w.heap[b]?) (hF : ∀ b, F b → F' b) {b : Nat} (hb : w'.heap[b]? = w.heap[b]?) :
    ∀ (xs : List D) (k : Nat), rdL w F xs b k → rdL w' F' xs b k
  | [], _, _ => by simp [rdL]
  | d :: ds, k, h => by
    rw [rdL] at h ⊢
    obtain ⟨⟨u, hc, hu⟩, h⟩ := h
    exact ⟨⟨u, (cell_eq hb).trans hc, rdD_mono hw hF d u hu⟩, rdL_mono' hw hF hb ds _ h⟩
theorem rdLL_mono' {w w' : World} {F F' : Nat → Prop} (hw : ∀ b, F b → w'.heap[b]? = w.heap[b]?) (hF : ∀ b, F b → F' b) {b : Nat} (hb : w'.heap[b]? = w.heap[b]?) :
    ∀ (xs : List (List D)) (k : Nat), rdLL w F xs b k → rdLL w' F' xs b k
  | [], _, _ => by simp [rdLL]
  | e :: es, k, h => by
    rw [rdLL] at h ⊢
    exact ⟨rdL_mono' hw hF hb e k h.1, rdLL_mono' hw hF hb es _ h.2⟩

theorem rdL_at {w : World} {F : Nat → Prop} : ∀ {xs : List D} {b k : Nat} {j : Nat} {d : D}, rdL w F xs b k → xs[j]? = some d → ∃ u, w.cell? ⟨b, k + j, none⟩ = some u ∧ rdD w F d u
  | [], _, _, _, _, _, h => by simp at h
  | _ :: _, b, k, 0, d, h, hj => by
    rw [rdL] at h
    simp at hj
    subst hj
    exact h.1
  | _ :: ds, b, k, j + 1, d, h, hj => by
    rw [rdL] at h
    have := rdL_at (j := j) h.2 (by simpa using hj)
    rwa [show k + 1 + j = k + (j + 1) from by omega] at this
theorem rdL_of {w : World} {F : Nat → Prop} : ∀ {xs : List D} {b k : Nat}, (∀ j d, xs[j]? = some d → ∃ u, w.cell? ⟨b, k + j, none⟩ = some u ∧ rdD w F d u) → rdL w F xs b k
  | [], _, _, _ => by simp [rdL]
  | d :: ds, b, k, h => by
    rw [rdL]
    refine ⟨h 0 d rfl, rdL_of fun j d' hj => ?_⟩
    have := h (j + 1) d' (by simpa using hj)
    rwa [show k + (j + 1) = k + 1 + j from by omega] at this
theorem rdLL_at {w : World} {F : Nat → Prop} {sz : Nat} : ∀ {xs : List (List D)} {b k : Nat} {i : Nat} {e : List D}, rdLL w F xs b k → (∀ e ∈ xs, e.length = sz) → xs[i]? = some e → rdL w F e b (k + i * sz)
  | [], _, _, _, _, _, _, h => by simp at h
  | _ :: _, b, k, 0, e, h, _, hi => by
    rw [rdLL] at h
    simp at hi
    subst hi
    simpa using h.1
  | e0 :: es, b, k, i + 1, e, h, hs, hi => by
    rw [rdLL] at h
    have h0 : e0.length = sz := hs e0 (by simp)
    have := rdLL_at (i := i) h.2 (fun x hx => hs x (by simp [hx])) (by simpa using hi)
    rw [h0] at this
    rwa [show k + sz + i * sz = k + (i + 1) * sz from by rw [Nat.add_mul]; omega] at this
theorem rdLL_of {w : World} {F : Nat → Prop} {sz : Nat} : ∀ {xs : List (List D)} {b k : Nat}, (∀ e ∈ xs, e.length = sz) → (∀ i e, xs[i]? = some e → rdL w F e b (k + i * sz)) → rdLL w F xs b k
  | [], _, _, _, _ => by simp [rdLL]
  | e0 :: es, b, k, hs, h => by
    rw [rdLL]
    have h0 : e0.length = sz := hs e0 (by simp)
    refine ⟨by simpa using h 0 e0 rfl, rdLL_of (fun x hx => hs x (by simp [hx])) fun i e hi => ?_⟩
    have := h (i + 1) e (by simpa using hi)
    rw [h0]
    rwa [show k + (i + 1) * sz = k + sz + i * sz from by rw [Nat.add_mul]; omega] at this
theorem rdLL_drop {w : World} {F : Nat → Prop} {sz : Nat} {xs : List (List D)} {b k : Nat} (h : rdLL w F xs b k) (hs : ∀ e ∈ xs, e.length = sz) (m : Nat) : rdLL w F (xs.drop m) b (k + m * sz) :=
  rdLL_of (fun e he => hs e (List.mem_of_mem_drop he)) fun i e hi => by
    rw [List.getElem?_drop] at hi
    have := rdLL_at h hs hi
    rwa [show k + (m + i) * sz = k + m * sz + i * sz from by rw [Nat.add_mul]; omega] at this
theorem rdLL_take {w : World} {F : Nat → Prop} : ∀ {xs : List (List D)} {b k : Nat} (m : Nat), rdLL w F xs b k → rdLL w F (xs.take m) b k
  | [], _, _, _, _ => by simp [rdLL]
  | _ :: _, _, _, 0, _ => by simp [rdLL]
  | e :: es, b, k, m + 1, h => by
    rw [rdLL] at h
    rw [List.take_succ_cons, rdLL]
    exact ⟨h.1, rdLL_take m h.2⟩
theorem sum_len {sz : Nat} : ∀ {xs : List (List D)}, (∀ e ∈ xs, e.length = sz) → (xs.map List.length).sum = xs.length * sz
  | [], _ => by simp
  | e :: es, h => by
    simp [h e (by simp), sum_len (xs := es) fun x hx => h x (by simp [hx]), Nat.add_mul]
    omega
theorem rdD_scalar {w : World} {F : Nat → Prop} {d : D} {u : Value} (h : rdD w F d u) : u.oneCell' = true := by
  cases d <;> simp only [rdD] at h
  case l xs => obtain ⟨A, c, rfl, _⟩ := h; rfl
  all_goals subst h; rfl
theorem rdD_cells {w : World} {F : Nat → Prop} {d : D} {u : Value} (h : rdD w F d u) : u.cells = #[u] := by
  cases d <;> simp only [rdD] at h
  case l xs => obtain ⟨A, c, rfl, _⟩ := h; rfl
  all_goals subst h; rfl
/-- A scalar of the same kind, or the very same. -/
def simV (u u' : Value) : Prop := u' = u ∨ (∃ k n m, u = .int k n ∧ u' = .int k m) ∨ (∃ x y, u = .bool x ∧ u' = .bool y) ∨ (∃ s t, u = .string s ∧ u' = .string t)
theorem simV.trans {u v x : Value} (h : simV u v) (h' : simV v x) : simV u x := by
  rcases h with rfl | ⟨k, n, m, rfl, rfl⟩ | ⟨a, b, rfl, rfl⟩ | ⟨s, t, rfl, rfl⟩
  · exact h'
  · rcases h' with rfl | ⟨k', n', m', h1, rfl⟩ | ⟨a, b, h1, rfl⟩ | ⟨s, t, h1, rfl⟩
    · exact .inr (.inl ⟨_, _, _, rfl, rfl⟩)
    · cases h1; exact .inr (.inl ⟨_, _, _, rfl, rfl⟩)
    · cases h1
    · cases h1
  · rcases h' with rfl | ⟨k', n', m', h1, rfl⟩ | ⟨a, b, h1, rfl⟩ | ⟨s, t, h1, rfl⟩
    · exact .inr (.inr (.inl ⟨_, _, rfl, rfl⟩))
    · cases h1
    · cases h1; exact .inr (.inr (.inl ⟨_, _, rfl, rfl⟩))
    · cases h1
  · rcases h' with rfl | ⟨k', n', m', h1, rfl⟩ | ⟨a, b, h1, rfl⟩ | ⟨s, t, h1, rfl⟩
    · exact .inr (.inr (.inr ⟨_, _, rfl, rfl⟩))
    · cases h1
    · cases h1
    · cases h1; exact .inr (.inr (.inr ⟨_, _, rfl, rfl⟩))
/-- The cells of block b are there as before, but for scalars, which may be others. -/
def SimB (w w' : World) (b : Nat) : Prop := ∀ k u, w.cell? ⟨b, k, none⟩ = some u → ∃ u', w'.cell? ⟨b, k, none⟩ = some u' ∧ simV u u'
theorem SimB.refl (w : World) (b : Nat) : SimB w w b := fun _ u h => ⟨u, h, .inl rfl⟩
theorem SimB.of_eq {w w' : World} {b : Nat} (h : w'.heap[b]? = w.heap[b]?) : SimB w w' b := fun _ u hc => ⟨u, (cell_eq h).trans hc, .inl rfl⟩
theorem SimB.trans {w w' w'' : World} {b : Nat} (h : SimB w w' b) (h' : SimB w' w'' b) : SimB w w'' b := fun k u hc => by
  obtain ⟨u', h1, h2⟩ := h k u hc
  obtain ⟨u'', h3, h4⟩ := h' k u' h1
  exact ⟨u'', h3, h2.trans h4⟩
mutual
/-- In world w, looking only into the blocks of F, the cell value u reads as a datum of this one's shape. -/
def rsD (w : World) (F : Nat → Prop) : D → Value → Prop
  | .i k _, u => ∃ m, u = .int k m
  | .b _, u => ∃ x, u = .bool x
  | .str _, u => ∃ s, u = .string s
  | .l xs, u => ∃ A c, u = .slice A xs.length c ∧ xs.length ≤ c ∧ (xs = [] ∨ ∃ b off, A = some ⟨b, off, none⟩ ∧ F b ∧ rsLL w F xs b off)
  | .k A n c, u => u = .slice A n c
def rsLL (w : World) (F : Nat → Prop) : List (List D) → Nat → Nat → Prop
  | [], _, _ => True
  | e :: es, b, k => rsL w F e b k ∧ rsLL w F es b (k + e.length)
def rsL (w : World) (F : Nat → Prop) : List D → Nat → Nat → Prop
  | [], _, _ => True
  | d :: ds, b, k => (∃ u, w.cell? ⟨b, k, none⟩ = some u ∧ rsD w F d u) ∧ rsL w F ds b (k + 1)
end
theorem rsD_sim {w : World} {F : Nat → Prop} {d : D} {u u' : Value} (h : rsD w F d u) (hs : simV u u') : rsD w F d u' := by
  rcases hs with rfl | ⟨k, n, m, rfl, rfl⟩ | ⟨a, b, rfl, rfl⟩ | ⟨s, t, rfl, rfl⟩
  · exact h
  all_goals cases d <;> simp only [rsD] at h ⊢
  all_goals first
    | (obtain ⟨A, c, h, _⟩ := h; cases h; done)
    | (obtain ⟨m', h⟩ := h; cases h; done)
    | (obtain ⟨m', h⟩ := h; cases h; exact ⟨_, rfl⟩)
    | (cases h; done)
mutual
theorem rsD_mono {w w' : World} {F F' : Nat → Prop} (hw : ∀ b, F b → SimB w w' b) (hF : ∀ b, F b → F' b) :
    ∀ (d : D) (u : Value), rsD w F d u → rsD w' F' d u
  | .i _ _, _, h => by simpa [rsD] using h
  | .b _, _, h => by simpa [rsD] using h
  | .str _, _, h => by simpa [rsD] using h
  | .l xs, u, h => by
    rw [rsD] at h ⊢
    obtain ⟨A, c, hu, hlc, h⟩ := h
    refine ⟨A, c, hu, hlc, ?_⟩
    rcases h with h | ⟨b, off, hA, hb, h⟩
    · exact .inl h
    · exact .inr ⟨b, off, hA, hF b hb, rsLL_mono hw hF xs b off hb h⟩
  | .k _ _ _, _, h => by simpa [rsD] using h
theorem rsLL_mono {w w' : World} {F F' : Nat → Prop} (hw : ∀ b, F b → SimB w w' b) (hF : ∀ b, F b → F' b) :
    ∀ (xs : List (List D)) (b k : Nat), F b → rsLL w F xs b k → rsLL w' F' xs b k
  | [], _, _, _, _ => by simp [rsLL]
  | e :: es, b, k, hb, h => by
    rw [rsLL] at h ⊢
    exact ⟨rsL_mono hw hF e b k hb h.1, rsLL_mono hw hF es b _ hb h.2⟩
theorem rsL_mono {w w' : World} {F F' : Nat → Prop} (hw : ∀ b, F b → SimB w w' b) (hF : ∀ b, F b → F' b) :
    ∀ (xs : List D) (b k : Nat), F b → rsL w F xs b k → rsL w' F' xs b k
  | [], _, _, _, _ => by simp [rsL]
  | d :: ds, b, k, hb, h => by
    rw [rsL] at h ⊢
    obtain ⟨⟨u, hc, hu⟩, h⟩ := h
    obtain ⟨u', hc', hs⟩ := hw b hb k u hc
    exact ⟨⟨u', hc', rsD_mono hw hF d u' (rsD_sim hu hs)⟩, rsL_mono hw hF ds b _ hb h⟩
end
mutual
theorem rsD_of {w : World} {F : Nat → Prop} : ∀ (d : D) (u : Value), rdD w F d u → rsD w F d u
  | .i _ n, _, h => by rw [rdD] at h; rw [rsD]; exact ⟨n, h⟩
  | .b x, _, h => by rw [rdD] at h; rw [rsD]; exact ⟨x, h⟩
  | .str s, _, h => by rw [rdD] at h; rw [rsD]; exact ⟨s, h⟩
  | .l xs, u, h => by
    rw [rdD] at h; rw [rsD]
    obtain ⟨A, c, hu, hlc, h⟩ := h
    refine ⟨A, c, hu, hlc, ?_⟩
    rcases h with h | ⟨b, off, hA, hb, h⟩
    · exact .inl h
    · exact .inr ⟨b, off, hA, hb, rsLL_of xs b off h⟩
  | .k _ _ _, _, h => by rw [rdD] at h; rw [rsD]; exact h
theorem rsLL_of {w : World} {F : Nat → Prop} : ∀ (xs : List (List D)) (b k : Nat), rdLL w F xs b k → rsLL w F xs b k
  | [], _, _, _ => by simp [rsLL]
  | e :: es, b, k, h => by
    rw [rdLL] at h; rw [rsLL]
    exact ⟨rsL_of e b k h.1, rsLL_of es b _ h.2⟩
theorem rsL_of {w : World} {F : Nat → Prop} : ∀ (xs : List D) (b k : Nat), rdL w F xs b k → rsL w F xs b k
  | [], _, _, _ => by simp [rsL]
  | d :: ds, b, k, h => by
    rw [rdL] at h; rw [rsL]
    obtain ⟨⟨u, hc, hu⟩, h⟩ := h
    exact ⟨⟨u, hc, rsD_of d u hu⟩, rsL_of ds b _ h⟩
end
theorem rsL_at {w : World} {F : Nat → Prop} : ∀ {xs : List D} {b k : Nat} {j : Nat} {d : D}, rsL w F xs b k → xs[j]? = some d → ∃ u, w.cell? ⟨b, k + j, none⟩ = some u ∧ rsD w F d u
  | [], _, _, _, _, _, h => by simp at h
  | _ :: _, b, k, 0, d, h, hj => by
    rw [rsL] at h
    simp at hj
    subst hj
    exact h.1
  | _ :: ds, b, k, j + 1, d, h, hj => by
    rw [rsL] at h
    have := rsL_at (j := j) h.2 (by simpa using hj)
    rwa [show k + 1 + j = k + (j + 1) from by omega] at this
theorem rsD_scalar {w : World} {F : Nat → Prop} {d : D} {u : Value} (h : rsD w F d u) : u.oneCell' = true ∧ u.cells = #[u] := by
  cases d <;> simp only [rsD] at h
  case l xs => obtain ⟨A, c, rfl, _⟩ := h; exact ⟨rfl, rfl⟩
  all_goals obtain ⟨_, rfl⟩ := h; exact ⟨rfl, rfl⟩
end Go.AM
