/-
  The abstract machine, part B: what a slot holds, variables and rows of the call's own, the relation to a frame and a world.
-/
import Derived.Test.YtlpclccdbmoemaaGreatAmA
import Derived.Tactics
set_option linter.unusedVariables false
namespace Go.AM
open Go.RowKit

/-- What one cell holds. 'd g x': data that nobody writes any more (g: made in this call); 'w o n': row o of the call's own, whole; 's': a part of it; 'p', 'e', 'q': addresses (a cell of a variable, of an element of a row, of an element that nobody writes). -/
inductive C where
  | d (g : Bool) (x : D)
  | w (o n : Nat)
  | s (o sz off len : Nat)
  | p (o k : Nat)
  | e (o sz i j : Nat)
  | q (g : Bool) (x : List D) (j : Nat)
  | fn (f : FuncId)
  | nil
  | any
  | r (l : Nat) (x : D)
  | z (x : D)
  | zq (x : List D) (j : Nat)
  | wn (o n : Nat)
inductive V where
  | c (x : C)
  | agg (cs : List C)
inductive T where
  | v (x : V)
  | tup (ts : List V)
  | any
/-- A thing that is described by hand: of its own block (and its capacity) and of the blocks of a region; 'nl': it may be nil. -/
structure Hid where
  nl : Prop
  S : Nat → Nat → (Nat → Prop) → World → Prop
  st : ∀ (b c : Nat) (R R' : Nat → Prop) (w w' : World), S b c R w → (∀ k, R k → R' k) → w'.heap[b]? = w.heap[b]? → (∀ k, R k → w'.heap[k]? = w.heap[k]?) → S b c R' w'
inductive Ob where
  | var (ty : TypeId) (cs : List C)
  | row (ty : TypeId) (sz : Nat) (els : List (List D)) (g m : Bool)
  | rown (ty : TypeId) (sz : Nat) (els : List (List D)) (g : Bool)
  | abs (l : Nat) (h : Hid)
abbrev tI (n : Int) : T := .v (.c (.d false (.i .i64 n)))
abbrev tB (b : Bool) : T := .v (.c (.d false (.b b)))
abbrev tS (s : ByteArray) : T := .v (.c (.d false (.str s)))
abbrev cI (n : Int) : C := .d false (.i .i64 n)
abbrev cB (b : Bool) : C := .d false (.b b)
abbrev cS (s : ByteArray) : C := .d false (.str s)

structure Env where
  r : Nat → Option (Nat × Nat)
  F : Nat → Prop
  G : Nat → Prop
  /-- Regions: blocks that are the call's own, apart from all else. -/
  T : Nat → Nat → Prop := fun _ _ => False
  /-- Blocks that were handed in, of which the shape alone is known. -/
  Z : Nat → Prop := fun _ => False
  /-- Labels of rows that are nil. -/
  n : Nat → Prop := fun _ => False
def Env.H (E : Env) (g : Bool) : Nat → Prop := if g then E.G else E.F

def cvC (E : Env) (w : World) : C → Value → Prop
  | .d g x, u => rdD w (E.H g) x u
  | .w o n, u => ∃ b c, E.r o = some (b, c) ∧ u = .slice (some ⟨b, 0, none⟩) n c
  | .s o sz off len, u => ∃ A c b k, E.r o = some (b, k) ∧ u = .slice A len c ∧ len ≤ c ∧ (len = 0 ∨ A = some ⟨b, off * sz, none⟩)
  | .p o k, u => ∃ b c, E.r o = some (b, c) ∧ u = .pointer (some ⟨b, k, none⟩)
  | .e o sz i j, u => ∃ b c, E.r o = some (b, c) ∧ u = .pointer (some ⟨b, i * sz + j, none⟩)
  | .q g x j, u => ∃ b k, u = .pointer (some ⟨b, k + j, none⟩) ∧ E.H g b ∧ rdL w (E.H g) x b k
  | .fn f, u => u = .func (.func f) #[] #[]
  | .nil, u => u = .slice none 0 0
  | .any, _ => True
  | .r l x, u => rdD w (E.T l) x u
  | .z x, u => rsD w E.Z x u
  | .zq x j, u => ∃ b k, u = .pointer (some ⟨b, k + j, none⟩) ∧ E.Z b ∧ rsL w E.Z x b k
  | .wn o n, u => (E.n o ∧ n = 0 ∧ u = .slice none 0 0) ∨ (¬ E.n o ∧ ∃ b c, E.r o = some (b, c) ∧ u = .slice (some ⟨b, 0, none⟩) n c)
def CV (E : Env) (w : World) : List C → List Value → Prop
  | [], [] => True
  | c :: cs, u :: us => cvC E w c u ∧ CV E w cs us
  | _, _ => False
def cvV (E : Env) (w : World) : V → Value → Prop
  | .c x, u => cvC E w x u
  | .agg cs, u => ∃ arr, u = .agg arr ∧ CV E w cs arr.toList
def VV (E : Env) (w : World) : List V → List Value → Prop
  | [], [] => True
  | c :: cs, u :: us => cvV E w c u ∧ VV E w cs us
  | _, _ => False
def cvT (E : Env) (w : World) : T → Value → Prop
  | .v x, u => cvV E w x u
  | .tup ts, u => ∃ arr, u = .tuple arr ∧ VV E w ts arr.toList
  | .any, _ => True
def relOb (E : Env) (w : World) (o : Nat) : Ob → Prop
  | .var ty cs => ∃ b c arr, E.r o = some (b, c) ∧ w.heap[b]? = some (.cells arr ty (0, 0)) ∧ CV E w cs arr.toList ∧ ¬ E.F b
  | .row ty sz els g m => ∃ b c arr, E.r o = some (b, c) ∧ w.heap[b]? = some (.cells arr ty (0, 0)) ∧ arr.size = c * sz ∧ els.length ≤ c ∧ c ≤ maxLen ∧
      (∀ e ∈ els, e.length = sz) ∧ rdLL w (E.H g) els b 0 ∧ (m = true → ¬ E.F b) ∧ (m = false → E.F b ∧ (g = true → E.G b))
  | .rown ty sz els g => (E.n o ∧ els = []) ∨ (¬ E.n o ∧ ∃ b c arr, E.r o = some (b, c) ∧ w.heap[b]? = some (.cells arr ty (0, 0)) ∧ arr.size = c * sz ∧ els.length ≤ c ∧ c ≤ maxLen ∧
      (∀ e ∈ els, e.length = sz) ∧ rdLL w (E.H g) els b 0 ∧ ¬ E.F b)
  | .abs l h => (E.n o ∧ h.nl) ∨ (¬ E.n o ∧ ∃ b c, E.r o = some (b, c) ∧ h.S b c (E.T l) w ∧ ¬ E.F b)

/-- Where a call began: its world, and the blocks of before that it may write. -/
structure Cx where
  w0 : World
  W : Nat → Prop
  r0 : Nat → Option (Nat × Nat) := fun _ => none
  F0 : Nat → Prop := fun _ => True
  /-- Blocks handed in, of which scalars may be written. -/
  Z : Nat → Prop := fun _ => False
  /-- The tables lie there and are not written. -/
  gw : TabsIn w0 ∧ ∀ b ∈ seatBlk, ¬ W b
  /-- New data that was handed in. -/
  G0 : Nat → Prop := fun _ => False
/-- Labels of what the caller has handed in to be written. -/
def rsv (o : Nat) : Bool := Nat.ble 190 o && nlt o 210
/-- Those that stay where they are. -/
def rsp (o : Nat) : Bool := Nat.ble 200 o && nlt o 210
theorem rsp_rsv {o : Nat} (h : rsp o = true) : rsv o = true := by
  simp only [rsp, rsv, nlt, Bool.and_eq_true, Nat.ble_eq] at h ⊢
  omega
theorem rsv_rsp {o : Nat} (h : rsv o = false) : rsp o = false := by
  cases k : rsp o with
  | false => rfl
  | true => rw [rsp_rsv k] at h; cases h

/-- A block of cells, all of which may be written. -/
def Plain (w : World) (b : Nat) : Prop := ∃ arr ty, w.heap[b]? = some (.cells arr ty (0, 0))
/-- Regions and soft blocks. -/
structure Soft (cx : Cx) (E : Env) (w : World) : Prop where
  tb : ∀ l b, E.T l b → (b < w.heap.size ∧ cx.w0.heap.size ≤ b) ∧ ¬ E.F b ∧ (∀ o c, E.r o ≠ some (b, c)) ∧ Plain w b
  tt : ∀ l l' b, E.T l b → E.T l' b → l = l'
  zc : ∀ b, cx.Z b → (b < cx.w0.heap.size ∧ b < w.heap.size ∧ cx.W b) ∧ ¬ E.F b ∧ (∀ o c, E.r o ≠ some (b, c)) ∧ Plain w b
  zs : ∀ b, cx.Z b → SimB cx.w0 w b
  ze : ∀ b, E.Z b → cx.Z b
theorem Soft.zb {cx : Cx} {E : Env} {w : World} (s : Soft cx E w) (b : Nat) (h : E.Z b) : (b < cx.w0.heap.size ∧ b < w.heap.size ∧ cx.W b) ∧ ¬ E.F b ∧ (∀ o c, E.r o ≠ some (b, c)) ∧ Plain w b := s.zc b (s.ze b h)
structure EnvOK (cx : Cx) (E : Env) (w : World) : Prop where
  fb : ∀ b, E.F b → b < w.heap.size
  gf : ∀ b, E.G b → E.F b
  gn : ∀ b, E.G b → cx.w0.heap.size ≤ b ∨ cx.G0 b
  rb : ∀ o b c, E.r o = some (b, c) → b < w.heap.size ∧ (cx.w0.heap.size ≤ b ∨ (cx.W b ∧ rsv o = true))
  inj : ∀ o o' b c c', E.r o = some (b, c) → E.r o' = some (b, c') → o = o'
  os : w.os = cx.w0.os
  tape : w.tape = cx.w0.tape
  output : w.output = cx.w0.output
  size : cx.w0.heap.size ≤ w.heap.size
  block : ∀ b, b < cx.w0.heap.size → ¬ cx.W b → w.heap[b]? = cx.w0.heap[b]?
  pin : ∀ o x, rsp o = true → E.r o = some x → cx.r0 o = some x
  ff : ∀ b, E.F b → cx.F0 b ∨ cx.w0.heap.size ≤ b
  gc : ∀ b, E.F b → cx.w0.heap.size ≤ b → Plain w b
  sf : Soft cx E w

theorem heap_lt {w : World} {b : Nat} {o : Obj} (h : w.heap[b]? = some o) : b < w.heap.size := by
  rcases Nat.lt_or_ge b w.heap.size with k | k
  · exact k
  · rw [Array.getElem?_eq_none k] at h; cases h
theorem EnvOK.tabs {cx : Cx} {E : Env} {w : World} (ok : EnvOK cx E w) : TabsIn w :=
  seatMono cx.w0 w (fun b hb => ok.block b (seatInb _ cx.gw.1 b hb) (cx.gw.2 b hb)) cx.gw.1
theorem EnvOK.ntab {cx : Cx} {E : Env} {w : World} (ok : EnvOK cx E w) {o b c : Nat} (h : E.r o = some (b, c)) : ∀ k ∈ seatBlk, k ≠ b := fun k hk e => by
  have := seatInb _ cx.gw.1 k hk
  subst e
  rcases (ok.rb o _ c h).2 with m | m
  · omega
  · exact cx.gw.2 _ hk m.1

structure Ext (E : Env) (w : World) (E' : Env) (w' : World) : Prop where
  r : ∀ o x, E.r o = some x → E'.r o = some x
  F : ∀ b, E.F b → E'.F b
  G : ∀ b, E.G b → E'.G b
  F' : ∀ b, E'.F b → E.F b ∨ w.heap.size ≤ b
  heap : ∀ b, b < w.heap.size → w'.heap[b]? = w.heap[b]?
  T : E'.T = E.T
  Z : E'.Z = E.Z
  n : E'.n = E.n

theorem Ext.refl (E : Env) (w : World) : Ext E w E w := ⟨fun _ _ h => h, fun _ h => h, fun _ h => h, fun _ h => .inl h, fun _ _ => rfl, rfl, rfl, rfl⟩
theorem Plain.of_eq {w w' : World} {b : Nat} (h : w'.heap[b]? = w.heap[b]?) (p : Plain w b) : Plain w' b := by
  obtain ⟨arr, ty, hp⟩ := p
  exact ⟨arr, ty, h.trans hp⟩
/-- Regions and soft blocks, where what was there is as it was. -/
theorem Soft.grow {cx : Cx} {E E' : Env} {w w' : World} (s : Soft cx E w) (hT : E'.T = E.T) (hZ : E'.Z = E.Z) (hF : ∀ b, E'.F b → E.F b ∨ w.heap.size ≤ b) (hr : ∀ o b c, E'.r o = some (b, c) → (∃ o' c', E.r o' = some (b, c')) ∨ w.heap.size ≤ b)
    (hs : w.heap.size ≤ w'.heap.size) (hh : ∀ b, b < w.heap.size → w'.heap[b]? = w.heap[b]?) : Soft cx E' w' := by
  refine ⟨fun l b h => ?_, fun l l' b h h' => ?_, fun b h => ?_, fun b h => ?_, fun b h => s.ze b (hZ ▸ h)⟩
  · rw [hT] at h
    obtain ⟨⟨h1, h2⟩, h3, h4, h5⟩ := s.tb l b h
    refine ⟨⟨by omega, h2⟩, fun hf => ?_, fun o c ho => ?_, h5.of_eq (hh b h1)⟩
    · rcases hF b hf with k | k
      · exact h3 k
      · omega
    · rcases hr o b c ho with ⟨o', c', k⟩ | k
      · exact h4 o' c' k
      · omega
  · rw [hT] at h h'; exact s.tt l l' b h h'
  · obtain ⟨⟨h1, h2, h2'⟩, h3, h4, h5⟩ := s.zc b h
    refine ⟨⟨h1, by omega, h2'⟩, fun hf => ?_, fun o c ho => ?_, h5.of_eq (hh b h2)⟩
    · rcases hF b hf with k | k
      · exact h3 k
      · omega
    · rcases hr o b c ho with ⟨o', c', k⟩ | k
      · exact h4 o' c' k
      · omega
  · exact (s.zs b h).trans (.of_eq (hh b (s.zc b h).1.2.1))
theorem EnvOK.hb {cx : Cx} {E : Env} {w : World} (ok : EnvOK cx E w) {g : Bool} {b : Nat} (h : E.H g b) : b < w.heap.size := by
  cases g
  · exact ok.fb b h
  · exact ok.fb b (ok.gf b h)
theorem Ext.H {E E' : Env} {w w' : World} (x : Ext E w E' w') {g : Bool} {b : Nat} (h : E.H g b) : E'.H g b := by
  cases g
  · exact x.F b h
  · exact x.G b h

/-- How data, addresses of data, rows are kept: the environment has grown, and the blocks of H are as they were. -/
structure Keeps (E : Env) (w : World) (E' : Env) (w' : World) : Prop where
  r : ∀ o x, E.r o = some x → E'.r o = some x
  H : ∀ g b, E.H g b → E'.H g b
  heap : ∀ g b, E.H g b → w'.heap[b]? = w.heap[b]?
  T : ∀ l b, E.T l b → E'.T l b ∧ w'.heap[b]? = w.heap[b]?
  Z : ∀ b, E.Z b → E'.Z b ∧ SimB w w' b
  n : E'.n = E.n
theorem Keeps.of_ext {cx : Cx} {E E' : Env} {w w' : World} (ok : EnvOK cx E w) (x : Ext E w E' w') : Keeps E w E' w' :=
  ⟨x.r, fun _ _ h => x.H h, fun _ b h => x.heap b (ok.hb h), fun l b h => ⟨by rw [x.T]; exact h, x.heap b (ok.sf.tb l b h).1.1⟩, fun b h => ⟨by rw [x.Z]; exact h, .of_eq (x.heap b (ok.sf.zb b h).1.2.1)⟩, x.n⟩

theorem cvC_keeps {E E' : Env} {w w' : World} (x : Keeps E w E' w') : ∀ {c : C} {u : Value}, cvC E w c u → cvC E' w' c u
  | .d g d, u, h => rdD_mono (x.heap g) (x.H g) d u h
  | .w o n, u, ⟨b, c, h, hu⟩ => ⟨b, c, x.r _ _ h, hu⟩
  | .s o sz off len, u, ⟨A, c, b, k, h, hu⟩ => ⟨A, c, b, k, x.r _ _ h, hu⟩
  | .p o k, u, ⟨b, c, h, hu⟩ => ⟨b, c, x.r _ _ h, hu⟩
  | .e o sz i j, u, ⟨b, c, h, hu⟩ => ⟨b, c, x.r _ _ h, hu⟩
  | .q g y j, u, ⟨b, k, hu, hb, h⟩ => ⟨b, k, hu, x.H g b hb, rdL_mono (x.heap g) (x.H g) y b k hb h⟩
  | .fn f, u, h => h
  | .nil, u, h => h
  | .any, u, _ => trivial
  | .r l d, u, h => rdD_mono (fun b hb => (x.T l b hb).2) (fun b hb => (x.T l b hb).1) d u h
  | .z d, u, h => rsD_mono (fun b hb => (x.Z b hb).2) (fun b hb => (x.Z b hb).1) d u h
  | .zq y j, u, ⟨b, k, hu, hb, h⟩ => ⟨b, k, hu, (x.Z b hb).1, rsL_mono (fun b hb => (x.Z b hb).2) (fun b hb => (x.Z b hb).1) y b k hb h⟩
  | .wn o n, u, .inl ⟨h1, h2⟩ => .inl ⟨by rw [x.n]; exact h1, h2⟩
  | .wn o n, u, .inr ⟨h1, b, c, h, hu⟩ => .inr ⟨by rw [x.n]; exact h1, b, c, x.r _ _ h, hu⟩
theorem CV_keeps {E E' : Env} {w w' : World} (x : Keeps E w E' w') : ∀ {cs : List C} {us : List Value}, CV E w cs us → CV E' w' cs us
  | [], [], _ => trivial
  | _ :: _, _ :: _, h => ⟨cvC_keeps x h.1, CV_keeps x h.2⟩
  | [], _ :: _, h => h.elim
  | _ :: _, [], h => h.elim
theorem cvV_keeps {E E' : Env} {w w' : World} (x : Keeps E w E' w') {v : V} {u : Value} (h : cvV E w v u) : cvV E' w' v u := by
  cases v with
  | c c => exact cvC_keeps x h
  | agg cs => obtain ⟨arr, hu, h⟩ := h; exact ⟨arr, hu, CV_keeps x h⟩
theorem VV_keeps {E E' : Env} {w w' : World} (x : Keeps E w E' w') : ∀ {cs : List V} {us : List Value}, VV E w cs us → VV E' w' cs us
  | [], [], _ => trivial
  | _ :: _, _ :: _, h => ⟨cvV_keeps x h.1, VV_keeps x h.2⟩
  | [], _ :: _, h => h.elim
  | _ :: _, [], h => h.elim
theorem cvT_keeps {E E' : Env} {w w' : World} (x : Keeps E w E' w') {t : T} {u : Value} (h : cvT E w t u) : cvT E' w' t u := by
  cases t with
  | v v => exact cvV_keeps x h
  | tup ts => obtain ⟨arr, hu, h⟩ := h; exact ⟨arr, hu, VV_keeps x h⟩
  | any => trivial
/-- An object whose block is as it was. -/
theorem relOb_keeps {E E' : Env} {w w' : World} (x : Keeps E w E' w') {o : Nat} {ob : Ob} (hb : ∀ b c, E.r o = some (b, c) → w'.heap[b]? = w.heap[b]?) (hF : ∀ b c, E.r o = some (b, c) → ¬ E.F b → ¬ E'.F b)
    (h : relOb E w o ob) : relOb E' w' o ob := by
  cases ob with
  | var ty cs =>
    obtain ⟨b, c, arr, hr, hh, hc, hf⟩ := h
    exact ⟨b, c, arr, x.r _ _ hr, (hb b c hr).trans hh, CV_keeps x hc, hF b c hr hf⟩
  | row ty sz els g m =>
    obtain ⟨b, c, arr, hr, hh, h1, h2, h3, h4, h5, h6, h7⟩ := h
    exact ⟨b, c, arr, x.r _ _ hr, (hb b c hr).trans hh, h1, h2, h3, h4, rdLL_mono' (x.heap g) (x.H g) (hb b c hr) _ _ h5, fun hm => hF b c hr (h6 hm), fun hm => ⟨x.H false b (h7 hm).1, fun hg => x.H true b ((h7 hm).2 hg)⟩⟩
  | rown ty sz els g =>
    rcases h with ⟨h0, h1⟩ | ⟨h0, b, c, arr, hr, hh, h1, h2, h3, h4, h5, h6⟩
    · exact .inl ⟨by rw [x.n]; exact h0, h1⟩
    · exact .inr ⟨by rw [x.n]; exact h0, b, c, arr, x.r _ _ hr, (hb b c hr).trans hh, h1, h2, h3, h4, rdLL_mono' (x.heap g) (x.H g) (hb b c hr) _ _ h5, hF b c hr h6⟩
  | abs l y =>
    rcases h with ⟨h0, h1⟩ | ⟨h0, b, c, hr, h1, h2⟩
    · exact .inl ⟨by rw [x.n]; exact h0, h1⟩
    · exact .inr ⟨by rw [x.n]; exact h0, b, c, x.r _ _ hr, y.st b c _ _ w w' h1 (fun k hk => (x.T l k hk).1) (hb b c hr) (fun k hk => (x.T l k hk).2), hF b c hr h2⟩
theorem relOb_ext {cx : Cx} {E E' : Env} {w w' : World} (ok : EnvOK cx E w) (x : Ext E w E' w') {o : Nat} {ob : Ob} (h : relOb E w o ob) : relOb E' w' o ob :=
  relOb_keeps (.of_ext ok x) (fun b c hr => x.heap b (ok.rb _ _ _ hr).1) (fun b c hr hf hf' => by
    have := (ok.rb _ _ _ hr).1
    rcases x.F' b hf' with h | h
    · exact hf h
    · omega) h

def gt : List (Nat × T) → Nat → T
  | [], _ => .any
  | (k, v) :: r, n => bif Nat.beq k n then v else gt r n
def go : List (Nat × Ob) → Nat → Option Ob
  | [], _ => none
  | (k, v) :: r, n => bif Nat.beq k n then some v else go r n
theorem beq_ne {k n : Nat} (h : k ≠ n) : Nat.beq k n = false := by
  rcases hb : Nat.beq k n with _ | _
  · rfl
  · exact absurd (Nat.eq_of_beq_eq_true hb) h
theorem gt_same (k : Nat) (v : T) (r : List (Nat × T)) : gt ((k, v) :: r) k = v := by simp [gt]
theorem gt_other {k n : Nat} (v : T) (r : List (Nat × T)) (h : k ≠ n) : gt ((k, v) :: r) n = gt r n := by simp [gt, beq_ne h]
theorem go_same (k : Nat) (v : Ob) (r : List (Nat × Ob)) : go ((k, v) :: r) k = some v := by simp [go]
theorem go_other {k n : Nat} (v : Ob) (r : List (Nat × Ob)) (h : k ≠ n) : go ((k, v) :: r) n = go r n := by simp [go, beq_ne h]

structure St where
  sl : List (Nat × T)
  ob : List (Nat × Ob)
  nx : Nat

structure Rel (N : Nat) (cx : Cx) (E : Env) (st : St) (a : Act) (w : World) : Prop where
  ok : EnvOK cx E w
  dom : ∀ o x, E.r o = some x → o < st.nx
  obs : ∀ o ob, go st.ob o = some ob → relOb E w o ob
  sl : ∀ k, cvT E w (gt st.sl k) (a.tmps.getD k undef)
  dfr : a.defers = []
  size : a.tmps.size = N
  td : ∀ l b, E.T l b → l < st.nx

def constC : Value → C
  | .int k n => .d false (.i k n)
  | .bool b => .d false (.b b)
  | .string s => .d false (.str s)
  | .slice a n c => bif a.isNone && Nat.beq n 0 && Nat.beq c 0 then .nil else .any
  | _ => .any
theorem constC_ok (E : Env) (w : World) (u : Value) : cvC E w (constC u) u := by
  cases u with
  | slice a n c =>
    simp only [constC]
    cases h : a.isNone && Nat.beq n 0 && Nat.beq c 0 with
    | false => exact trivial
    | true =>
      simp only [Bool.and_eq_true, Option.isNone_iff_eq_none] at h
      obtain ⟨⟨rfl, h1⟩, h2⟩ := h
      have e1 := Nat.eq_of_beq_eq_true h1
      have e2 := Nat.eq_of_beq_eq_true h2
      subst e1; subst e2
      exact rfl
  | _ => simp only [constC, cvC, rdD]
def opT (sl : List (Nat × T)) : Operand → T
  | .tmp k => gt sl k
  | .const (.int k n) => .v (.c (.d false (.i k n)))
  | .const (.bool b) => .v (.c (.d false (.b b)))
  | .const (.string s) => .v (.c (.d false (.str s)))
  | .const (.agg cs) => .v (.agg (cs.toList.map constC))
  | .const v => .v (.c (constC v))
  | .func f => .v (.c (.fn f))
  | .global _ => .any
theorem CV_const (E : Env) (w : World) : ∀ us : List Value, CV E w (us.map constC) us
  | [] => trivial
  | u :: us => ⟨constC_ok E w u, CV_const E w us⟩
theorem Rel.op {N : Nat} {cx : Cx} {E : Env} {st : St} {a : Act} {w : World} (h : Rel N cx E st a w) (x : Operand) : cvT E w (opT st.sl x) (a.eval x) := by
  cases x with
  | tmp k => exact h.sl k
  | const v =>
    cases v <;> simp only [opT, Act.eval, cvT, cvV] <;> first | exact constC_ok E w _ | exact ⟨_, rfl, CV_const E w _⟩ | (simp only [cvC, rdD])
  | func f => simp [opT, Act.eval, cvT, cvV, cvC]
  | global g => simp [opT, cvT]

/-- One operation that writes nothing that is there: out of what its operands hold it makes 'out', and the new objects 'nw'. -/
def AWN (P : Program) (o : Oper) (needs : List (Operand × T)) (nob : List (Nat × Ob)) (out : T) (nw : List (Nat × Ob)) : Prop :=
  ∀ (cx : Cx) (E : Env) (a : Act) (w : World), EnvOK cx E w → (∀ x t, (x, t) ∈ needs → cvT E w t (a.eval x)) → (∀ l ob, (l, ob) ∈ nob → relOb E w l ob) →
    (∀ l ob, (l, ob) ∈ nw → E.r l = none ∧ rsv l = false) →
    o.wp P a w (fun a' w' => ∃ v E', a' = a.put o.dst v ∧ EnvOK cx E' w' ∧ Ext E w E' w' ∧ cvT E' w' out v ∧ (∀ l ob, (l, ob) ∈ nw → relOb E' w' l ob) ∧
      (∀ l x, E'.r l = some x → E.r l = some x ∨ ∃ ob, (l, ob) ∈ nw)) (fun _ _ _ => False)
theorem awn_pure {P : Program} {o : Oper} {needs : List (Operand × T)} {nob : List (Nat × Ob)} {out : T}
    (h : ∀ (E : Env) (a : Act) (w : World), (∀ x t, (x, t) ∈ needs → cvT E w t (a.eval x)) → (∀ l ob, (l, ob) ∈ nob → relOb E w l ob) →
      ∃ v, (execOp a.eval o).run P w = .ok (.value v) w ∧ cvT E w out v) : AWN P o needs nob out [] := by
  intro cx E a w ok hn hb _
  obtain ⟨v, hr, hv⟩ := h E a w hn hb
  unfold Oper.wp
  rw [hr]
  exact ⟨v, E, rfl, ok, Ext.refl E w, hv, (fun _ _ h => by simp at h), fun _ _ h => .inl h⟩

/-- One operation, from state to state. -/
def AWO (P : Program) (N : Nat) (o : Oper) (st st' : St) : Prop :=
  ∀ (cx : Cx) (E : Env) (a : Act) (w : World), Rel N cx E st a w → o.wp P a w (fun a' w' => ∃ E', Rel N cx E' st' a' w') (fun _ _ _ => False)

def Lk (sl : List (Nat × T)) : List (Operand × T) → Prop
  | [] => True
  | (x, t) :: r => opT sl x = t ∧ Lk sl r
def Lo (ob : List (Nat × Ob)) : List (Nat × Ob) → Prop
  | [] => True
  | (l, x) :: r => go ob l = some x ∧ Lo ob r
/-- The new labels, one behind the other from nx on; what the next one is. -/
def Nw (nx : Nat) : List (Nat × Ob) → Nat → Prop
  | [], n => n = nx
  | (l, _) :: r, n => (l = nx ∧ rsv l = false) ∧ Nw (nx + 1) r n
theorem Lk.mem {sl : List (Nat × T)} : ∀ {l : List (Operand × T)}, Lk sl l → ∀ x t, (x, t) ∈ l → opT sl x = t
  | (y, s) :: r, h, x, t, hm => by
    rcases List.mem_cons.1 hm with e | e
    · cases e; exact h.1
    · exact Lk.mem h.2 x t e
theorem Lo.mem {ob : List (Nat × Ob)} : ∀ {l : List (Nat × Ob)}, Lo ob l → ∀ x t, (x, t) ∈ l → go ob x = some t
  | (y, s) :: r, h, x, t, hm => by
    rcases List.mem_cons.1 hm with e | e
    · cases e; exact h.1
    · exact Lo.mem h.2 x t e
theorem Nw.mem : ∀ {l : List (Nat × Ob)} {nx n : Nat}, Nw nx l n → nx ≤ n ∧ ∀ x t, (x, t) ∈ l → nx ≤ x ∧ x < n ∧ rsv x = false
  | [], nx, n, h => ⟨by rw [Nw] at h; omega, fun _ _ h => by simp at h⟩
  | (y, s) :: r, nx, n, h => by
    rw [Nw] at h
    obtain ⟨h1, h2⟩ := Nw.mem h.2
    refine ⟨by omega, fun x t hm => ?_⟩
    rcases List.mem_cons.1 hm with e | e
    · cases e; exact ⟨by omega, by omega, h.1.2⟩
    · have := h2 x t e; exact ⟨by omega, this.2.1, this.2.2⟩
theorem go_append {nw ob : List (Nat × Ob)} {o : Nat} {x : Ob} (h : go (nw ++ ob) o = some x) : (o, x) ∈ nw ∨ go ob o = some x := by
  induction nw with
  | nil => exact .inr h
  | cons p r ih =>
    obtain ⟨k, v⟩ := p
    by_cases hk : k = o
    · subst hk
      rw [List.cons_append, go_same] at h
      cases h
      exact .inl (by simp)
    · rw [List.cons_append, go_other v _ hk] at h
      rcases ih h with h | h
      · exact .inl (by simp [h])
      · exact .inr h
theorem getD_put {a : Act} {d : Tmp} {v : Value} (h : d < a.tmps.size) (k : Nat) : (a.put (some d) v).tmps.getD k undef = if d = k then v else a.tmps.getD k undef := by
  by_cases hk : d = k
  · subst hk; simp [Act.put, h]
  · simp [Act.put, hk, Array.getElem?_setIfInBounds_ne hk]
theorem awo_of_awn {P : Program} {N : Nat} {o : Oper} {st : St} {needs : List (Operand × T)} {nob : List (Nat × Ob)} {out : T} {nw : List (Nat × Ob)} {d : Tmp} {n : Nat}
    (h : AWN P o needs nob out nw) (hd : o.dst = some d) (hN : d < N) (hn : Lk st.sl needs) (hb : Lo st.ob nob) (hw : Nw st.nx nw n) :
    AWO P N o st ⟨(d, out) :: st.sl, nw ++ st.ob, n⟩ := by
  intro cx E a w hR
  obtain ⟨hx1, hx2⟩ := Nw.mem hw
  refine Oper.wp_mono ?_ (h cx E a w hR.ok (fun x t hm => by have := hR.op x; rwa [Lk.mem hn x t hm] at this) (fun l ob hm => hR.obs l ob (Lo.mem hb l ob hm))
    (fun l ob hm => by
      refine ⟨?_, (hx2 l ob hm).2.2⟩
      rcases hr : E.r l with _ | x
      · rfl
      · have := hR.dom l x hr; have := hx2 l ob hm; omega))
  rintro a' w' ⟨v, E', rfl, ok', ext, hv, hob, hdom⟩
  refine ⟨E', ok', fun l x hl => ?_, fun l ob hl => ?_, fun k => ?_, ?_, ?_, ?_⟩
  · rcases hdom l x hl with h | ⟨ob, h⟩
    · have := hR.dom l x h; show l < n; omega
    · exact (hx2 l ob h).2.1
  · rcases go_append hl with h | h
    · exact hob l ob h
    · exact relOb_ext hR.ok ext (hR.obs l ob h)
  · rw [hd, getD_put (by rw [hR.size]; exact hN)]
    by_cases hk : d = k
    · subst hk; rw [gt_same, if_pos rfl]; exact hv
    · rw [gt_other _ _ hk, if_neg hk]; exact cvT_keeps (.of_ext hR.ok ext) (hR.sl k)
  · rw [hd]; exact hR.dfr
  · rw [hd]; simpa [Act.put] using hR.size
  · intro l b h
    rw [ext.T] at h
    have := hR.td l b h
    show l < n; omega
end Go.AM
