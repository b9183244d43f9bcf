/-
  The abstract machine, part V: the steps on rows and data whose elements are of one kind.
-/
import Derived.Test.YtlpclccdbmoemaaGreatAmU
set_option linter.unusedVariables false
namespace Go.AM
open Go.RowKit

def mkOk (by_ : Nat) (n c : Int) : Bool := decide (0 ≤ n ∧ n ≤ c ∧ (by_ : Int) * c ≤ 281474976710656 ∧ c ≤ 9223372036854775807)
def apOk (by_ n : Nat) : Bool := decide (n * by_ ≤ 140737488355328 ∧ n ≤ 9223372036854775807)
theorem lenM {α : Type} {enc : α → List D} {n : Nat} (h : ∀ a, (enc a).length = n) (l : List α) : ∀ e ∈ l.map enc, e.length = n := by
  intro e he; obtain ⟨a, _, rfl⟩ := List.mem_map.1 he; exact h a
theorem lm {α : Type} {enc : α → List D} (l : List α) : (l.map enc).length = l.length := List.length_map _
section
variable {P : Program} {N : Nat} {d : Tmp} {ty : TypeId} {ps : String} {af : Array Edge} {gd : Option (Nat × Bool)} {x y z : Operand} {sl : List (Nat × T)} {ob : List (Nat × Ob)} {nx : Nat}
variable {α : Type} {enc : α → List D}
/-- Into data. -/
theorem xdT {t : TypeId} {e sz by_ : Nat} {g g' : Bool} {kd : IntKind} {xs : List α} {i : Int} {a : α} [TySl P t e sz by_] (H : ix xs i = some a) (henc : ∀ a, (enc a).length = sz) (hx : opT sl x = .v (.c (.d g (.l (xs.map enc))))) (hy : opT sl y = .v (.c (.d g' (.i kd i)))) (hN : nlt d N = true) :
    NS0 P N ⟨some d, .indexAddr t x y, ty, ps, af, gd⟩ sl ob nx d (.v (.c (.q g (enc a) 0))) ⟨d, [(x, .v (.c (.d g (.l (xs.map enc))))), (y, .v (.c (.d g' (.i kd i))))], [], .v (.c (.q g (enc a) 0)), []⟩ :=
  xd hx hy hN (ixE H).1 (ix_map enc H) (lenM henc xs)
/-- Into a row. -/
theorem xwT {t : TypeId} {e sz by_ : Nat} {g : Bool} {kd : IntKind} {o n : Nat} {i : Int} {ys : List α} {a : α} [TySl P t e sz by_] (H : ix ys i = some a) (hn : ys.length = n) (hx : opT sl x = .v (.c (.w o n))) (hy : opT sl y = .v (.c (.d g (.i kd i)))) (hN : nlt d N = true) :
    NS0 P N ⟨some d, .indexAddr t x y, ty, ps, af, gd⟩ sl ob nx d (.v (.c (.e o sz i.toNat 0))) ⟨d, [(x, .v (.c (.w o n))), (y, .v (.c (.d g (.i kd i))))], [], .v (.c (.e o sz i.toNat 0)), []⟩ :=
  xw hx hy hN (ixE H).1 (by have := ix_lt H; omega)
theorem mkT {nx' : Nat} {t : TypeId} {e sz by_ : Nat} {zd : List D} {g g' : Bool} {k k' : IntKind} {n c : Int} {za : α} [TySl P t e sz by_] [TyE P e zd] (H : mkOk by_ n c = true) (hz : enc za = zd) (hx : opT sl x = .v (.c (.d g (.i k n)))) (hy : opT sl y = .v (.c (.d g' (.i k' c)))) (hN : nlt d N = true)
    (hq : nxt nx = some nx') :
    NS1 P N ⟨some d, .makeSlice t x y, ty, ps, af, gd⟩ sl ob nx nx' d (.v (.c (.w nx (List.replicate n.toNat za).length))) (.row e sz ((List.replicate n.toNat za).map enc) true true) ⟨d, [(x, .v (.c (.d g (.i k n)))), (y, .v (.c (.d g' (.i k' c))))], [], .v (.c (.w nx (List.replicate n.toNat za).length)), [(nx, .row e sz ((List.replicate n.toNat za).map enc) true true)]⟩ := by
  simp only [mkOk, decide_eq_true_eq] at H
  have hn : ((n.toNat : Nat) : Int) = n := by omega
  have := mk (P := P) (N := N) (d := d) (ty := ty) (ps := ps) (af := af) (gd := gd) (ob := ob) (sl := sl) (nx := nx) (nx' := nx') (t := t) (e := e) (sz := sz) (by_ := by_) (zd := zd) (x := x) (y := y) (n := n.toNat) (by rw [hn]; exact hx) hy hN (by omega) (by omega) (by omega) hq
  rw [hn] at this
  rw [List.map_replicate, List.length_replicate, hz]
  exact this
/-- Elements appended to a row. -/
theorem apT {t : TypeId} {e sz by_ o n : Nat} {ys zs : List α} {zd : List (List D)} {g gy gg : Bool} {c : C} {sl' : List (Nat × T)} {ob' : List (Nat × Ob)} [TySl P t e sz by_] (H : apOk by_ (ys ++ zs).length = true) (hzd : zs.map enc = zd) (henc : ∀ a, (enc a).length = sz) (hn : ys.length = n) (hs : Src ob c zd gy) (hd : nlt d N = true)
    (hx : opT sl x = .v (.c (.w o n))) (hy : opT sl y = .v (.c c)) (ho : go ob o = some (.row e sz (ys.map enc) g true)) (hk : killS o sl = some sl') (hkb : killB o ob = some ob') (hg : (g && gy) = gg) (hrv : rsp o = false) :
    AWO P N ⟨some d, .call ⟨.builtin .append, #[x, y], #[t, t]⟩, ty, ps, af, gd⟩ ⟨sl, ob, nx⟩ ⟨(d, .v (.c (.w o (ys ++ zs).length))) :: sl', (o, .row e sz ((ys ++ zs).map enc) gg true) :: ob', nx⟩ := by
  subst hzd
  simp only [apOk, decide_eq_true_eq, List.length_append] at H
  have := ap (P := P) (N := N) (d := d) (ty := ty) (ps := ps) (af := af) (gd := gd) (nx := nx) (t := t) (e := e) (sz := sz) (by_ := by_) hd hx hy ho hs hk hkb hg (by simpa using hn) (lenM henc zs) (by subst hn; simp only [List.length_map]; exact H.1) (by subst hn; simp only [List.length_map]; omega) hrv
  rw [List.map_append, List.length_append, hn]
  rw [List.length_map] at this
  exact this
/-- An element of a row is written. -/
theorem soT {t : TypeId} {n o sz j : Nat} {i : Int} {rt : TypeId} {ys : List α} {a a' : α} {ns : List D} {g g' gg : Bool} {v : V} [TyN P t n] (H : ix ys i = some a) (hx : opT sl x = .v (.c (.e o sz i.toNat j))) (hy : opT sl y = .v v)
    (ho : go ob o = some (.row rt sz (ys.map enc) g true)) (hv : vD v = some (ns, g')) (hn : Nat.beq ns.length n = true) (hs : splO j ns (enc a) = some (enc a')) (hg : (g && g') = gg) :
    AWO P N ⟨none, .store t x y, ty, ps, af, gd⟩ ⟨sl, ob, nx⟩ ⟨sl, (o, .row rt sz ((ys.set i.toNat a').map enc) gg true) :: ob, nx⟩ := by
  have := so (P := P) (N := N) (ty := ty) (ps := ps) (af := af) (gd := gd) (nx := nx) (t := t) (n := n) hx hy ho hv hn (ix_map enc H) hs hg
  rwa [List.map_set]
end
end Go.AM
