/-
  The abstract machine, part Ze: strings and bytes.
-/
import Derived.Test.YtmlpfnppnjfcaaaDoorAmZd
import Derived.Test.YtmlpfnppnjfcaaaDoorAmW
import Derived.Laws.BytesString
set_option linter.unusedVariables false
namespace Go.AM
open Go.RowKit
/-- The string of bytes. -/
def bsOf (ns : List Int) : ByteArray := ns.foldl (fun r n => r.push (UInt8.ofNat n.toNat)) ByteArray.empty
/-- A string's byte. -/
def bIx (s : ByteArray) (i : Int) : Option Int := bif leB 0 i then (s[i.toNat]?).map (fun c => (c.toNat : Int)) else none
def ssOk (s : ByteArray) (l h : Int) : Bool := decide (0 ≤ l ∧ l ≤ h ∧ h ≤ s.size)
section
variable {P : Program} {N : Nat} {d : Tmp} {x y : Operand} {ty : TypeId} {ps : String} {af : Array Edge} {gd : Option (Nat × Bool)} {sl : List (Nat × T)} {ob : List (Nat × Ob)} {nx : Nat}
theorem rdLL_u8 {w : World} {F : Nat → Prop} {b : Nat} : ∀ {xs : List Int} {k : Nat}, rdLL w F (xs.map eU8) b k → ∀ (j : Nat) (u : Value), (xs.map (Value.int .u8))[j]? = some u → w.cell? ⟨b, k + j, none⟩ = some u
  | [], k, _, j, u, h => by simp at h
  | n :: xs, k, h, j, u, hj => by
    rw [List.map_cons, rdLL] at h
    obtain ⟨h1, h2⟩ := h
    simp only [eU8, rdL, rdD] at h1
    obtain ⟨⟨v, hc, rfl⟩, _⟩ := h1
    cases j with
    | zero => simp at hj; subst hj; simpa using hc
    | succ j =>
      have := rdLL_u8 h2 j u (by simpa using hj)
      rwa [show k + (eU8 n).length + j = k + (j + 1) from by simp [eU8]; omega] at this
theorem run_bts {w : World} {F : Nat → Prop} {A : Option Addr} {xs : List Int} {c : Nat} (h : xs = [] ∨ ∃ b off, A = some ⟨b, off, none⟩ ∧ rdLL w F (xs.map eU8) b off) : (Conv.bytesToString (.slice A xs.length c)).run P w = .ok (.string (bsOf xs)) w := by
  cases A with
  | none =>
    rcases h with rfl | ⟨b, off, h, _⟩
    · rfl
    · cases h
  | some a =>
    refine run_bytesToString w a xs.length c xs ?_
    rcases h with rfl | ⟨b, off, h, hr⟩
    · rfl
    · cases h
      have := loadCellsFrom_run (P := P) (b := b) (k := off) (w := w) (xs.map (Value.int .u8)) 0 #[] (fun j u hj => by rw [Nat.zero_add]; exact rdLL_u8 hr j u hj)
      simpa [loadCells] using this
theorem n_bts {t t' e : TypeId} {sz by_ : Nat} {g : Bool} {xs : List Int} [hs : TySl P t e sz by_] [he : TyU P e (.int .u8)] [hd : TyU P t' .string] :
    AWN P ⟨some d, .convert t t' x, ty, ps, af, gd⟩ [(x, .v (.c (.d g (.l (xs.map eU8)))))] [] (tS (bsOf xs)) [] :=
  awn_pure fun E ac w hn _ => by
    have h := hn x _ (.head _)
    simp only [cvT, cvV, cvC, rdD] at h
    obtain ⟨A, c, hu, _, h⟩ := h
    rw [List.length_map] at hu
    refine ⟨.string (bsOf xs), ?_, by simp [cvT, cvV, cvC, rdD]⟩
    have := run_bts (P := P) (w := w) (F := E.H g) (A := A) (xs := xs) (c := c) (by
      rcases h with h | ⟨b, off, h1, _, h2⟩
      · left; simpa using h
      · right; exact ⟨b, off, h1, h2⟩)
    simp only [execOp, hu, Sem.run_bind, run_convert_bytes_string w t t' e A xs.length c hs.u he.h hd.h, this, Result.andThen_ok, Sem.run_pure]
theorem n_btw {t t' e : TypeId} {sz by_ : Nat} {o n rt sz' : Nat} {g m : Bool} {xs : List Int} (hl : xs.length = n) [hs : TySl P t e sz by_] [he : TyU P e (.int .u8)] [hd : TyU P t' .string] :
    AWN P ⟨some d, .convert t t' x, ty, ps, af, gd⟩ [(x, .v (.c (.w o n)))] [(o, .row rt sz' (xs.map eU8) g m)] (tS (bsOf xs)) [] :=
  awn_pure fun E ac w hn hb => by
    obtain ⟨b, c, hr, hu⟩ := hn x _ (.head _)
    obtain ⟨b', c', arr, hr', hh, ha, hlc, hmx, hes, hrd, _⟩ := hb o _ (.head _)
    rw [hr] at hr'; cases hr'
    subst hl
    refine ⟨.string (bsOf xs), ?_, by simp [cvT, cvV, cvC, rdD]⟩
    have := run_bts (P := P) (w := w) (F := E.H g) (A := some ⟨b, 0, none⟩) (xs := xs) (c := c) (.inr ⟨b, 0, rfl, hrd⟩)
    simp only [execOp, hu, Sem.run_bind, run_convert_bytes_string w t t' e _ xs.length c hs.u he.h hd.h, this, Result.andThen_ok, Sem.run_pure]
theorem n_ssl {t : TypeId} {g g1 g2 : Bool} {k1 k2 : IntKind} {s : ByteArray} {l h : Int} {lo hi : Operand} [ht : TyU P t .string] (H : ssOk s l h = true) :
    AWN P ⟨some d, .slice t x (some lo) (some hi) none, ty, ps, af, gd⟩ [(x, .v (.c (.d g (.str s)))), (lo, .v (.c (.d g1 (.i k1 l)))), (hi, .v (.c (.d g2 (.i k2 h))))] [] (tS (s.extract l.toNat h.toNat)) [] :=
  awn_pure fun E ac w hn _ => by
    have h1 := cv_str (hn x _ (.head _))
    have h2 := cv_int (hn lo _ (.tail _ (.head _)))
    have h3 := cv_int (hn hi _ (.tail _ (.tail _ (.head _))))
    simp only [ssOk, decide_eq_true_eq] at H
    refine ⟨.string (s.extract l.toNat h.toNat), ?_, by simp [cvT, cvV, cvC, rdD]⟩
    have e1 : (0 ≤ h ∧ h ≤ (s.size : Int)) := by omega
    have e2 : (0 ≤ l ∧ l ≤ ((h.toNat : Nat) : Int)) := by omega
    simp [execOp, h1, h2, h3, Instr.sliceAt, Instr.slice, underlying, ht.h, Instr.sliceBounds, Instr.sliceBound, asIntOf, e1, e2]
    intro hh; exfalso; have : max h 0 = h := Int.max_eq_left (by omega); omega
theorem n_sslh {t : TypeId} {g g2 : Bool} {k2 : IntKind} {s : ByteArray} {h : Int} {hi : Operand} [ht : TyU P t .string] (H : ssOk s 0 h = true) :
    AWN P ⟨some d, .slice t x none (some hi) none, ty, ps, af, gd⟩ [(x, .v (.c (.d g (.str s)))), (hi, .v (.c (.d g2 (.i k2 h))))] [] (tS (s.extract 0 h.toNat)) [] :=
  awn_pure fun E ac w hn _ => by
    have h1 := cv_str (hn x _ (.head _))
    have h3 := cv_int (hn hi _ (.tail _ (.head _)))
    simp only [ssOk, decide_eq_true_eq] at H
    refine ⟨.string (s.extract 0 h.toNat), ?_, by simp [cvT, cvV, cvC, rdD]⟩
    have e1 : (0 ≤ h ∧ h ≤ (s.size : Int)) := by omega
    simp [execOp, h1, h3, Instr.sliceAt, Instr.slice, underlying, ht.h, Instr.sliceBounds, Instr.sliceBound, asIntOf, e1]
theorem n_ssll {t : TypeId} {g g1 : Bool} {k1 : IntKind} {s : ByteArray} {l : Int} {lo : Operand} [ht : TyU P t .string] (H : ssOk s l s.size = true) :
    AWN P ⟨some d, .slice t x (some lo) none none, ty, ps, af, gd⟩ [(x, .v (.c (.d g (.str s)))), (lo, .v (.c (.d g1 (.i k1 l))))] [] (tS (s.extract l.toNat s.size)) [] :=
  awn_pure fun E ac w hn _ => by
    have h1 := cv_str (hn x _ (.head _))
    have h2 := cv_int (hn lo _ (.tail _ (.head _)))
    simp only [ssOk, decide_eq_true_eq] at H
    refine ⟨.string (s.extract l.toNat s.size), ?_, by simp [cvT, cvV, cvC, rdD]⟩
    have e2 : (0 ≤ l ∧ l ≤ (s.size : Int)) := by omega
    simp [execOp, h1, h2, Instr.sliceAt, Instr.slice, underlying, ht.h, Instr.sliceBounds, Instr.sliceBound, asIntOf, e2]
theorem bt1 {t t' e : TypeId} {sz by_ : Nat} {g : Bool} {xs : List Int} [TySl P t e sz by_] [TyU P e (.int .u8)] [TyU P t' .string] (hx : opT sl x = .v (.c (.d g (.l (xs.map eU8))))) (hN : nlt d N = true) :
    NS0 P N ⟨some d, .convert t t' x, ty, ps, af, gd⟩ sl ob nx d (tS (bsOf xs)) ⟨d, [(x, .v (.c (.d g (.l (xs.map eU8)))))], [], tS (bsOf xs), []⟩ := ns_mk (st := ⟨sl, ob, nx⟩) n_bts rfl hN ⟨hx, trivial⟩ trivial rfl
theorem bt2 {t t' e : TypeId} {sz by_ : Nat} {o n rt sz' : Nat} {g m : Bool} {xs : List Int} [TySl P t e sz by_] [TyU P e (.int .u8)] [TyU P t' .string] (hx : opT sl x = .v (.c (.w o n))) (ho : go ob o = some (.row rt sz' (xs.map eU8) g m)) (hl : xs.length = n) (hN : nlt d N = true) :
    NS0 P N ⟨some d, .convert t t' x, ty, ps, af, gd⟩ sl ob nx d (tS (bsOf xs)) ⟨d, [(x, .v (.c (.w o n)))], [(o, .row rt sz' (xs.map eU8) g m)], tS (bsOf xs), []⟩ := ns_mk (st := ⟨sl, ob, nx⟩) (n_btw hl) rfl hN ⟨hx, trivial⟩ ⟨ho, trivial⟩ rfl
theorem xstT {t : TypeId} {g g' : Bool} {kd : IntKind} {s : ByteArray} {i r : Int} [TyU P t .string] (H : bIx s i = some r) (hx : opT sl x = .v (.c (.d g (.str s)))) (hy : opT sl y = .v (.c (.d g' (.i kd i)))) (hN : nlt d N = true) :
    NS0 P N ⟨some d, .index t x y, ty, ps, af, gd⟩ sl ob nx d (.v (.c (.d false (.i .u8 r)))) ⟨d, [(x, .v (.c (.d g (.str s)))), (y, .v (.c (.d g' (.i kd i))))], [], .v (.c (.d false (.i .u8 r))), []⟩ := by
  unfold bIx at H
  cases hb : leB 0 i with
  | false => rw [hb] at H; cases H
  | true =>
    rw [hb] at H
    cases hc : s[i.toNat]? with
    | none => rw [hc] at H; cases H
    | some c =>
      rw [hc] at H; simp at H; subst H
      exact ns_mk (st := ⟨sl, ob, nx⟩) (n_index_str (by simpa [leB] using hb) hc) rfl hN ⟨hx, hy, trivial⟩ trivial rfl
theorem ss3 {t : TypeId} {g g1 g2 : Bool} {k1 k2 : IntKind} {s : ByteArray} {l h : Int} {lo hi : Operand} [TyU P t .string] (H : ssOk s l h = true) (hx : opT sl x = .v (.c (.d g (.str s)))) (hl : opT sl lo = .v (.c (.d g1 (.i k1 l)))) (hh : opT sl hi = .v (.c (.d g2 (.i k2 h)))) (hN : nlt d N = true) :
    NS0 P N ⟨some d, .slice t x (some lo) (some hi) none, ty, ps, af, gd⟩ sl ob nx d (tS (s.extract l.toNat h.toNat)) ⟨d, [(x, .v (.c (.d g (.str s)))), (lo, .v (.c (.d g1 (.i k1 l)))), (hi, .v (.c (.d g2 (.i k2 h))))], [], tS (s.extract l.toNat h.toNat), []⟩ := ns_mk (st := ⟨sl, ob, nx⟩) (n_ssl H) rfl hN ⟨hx, hl, hh, trivial⟩ trivial rfl
theorem ss2 {t : TypeId} {g g2 : Bool} {k2 : IntKind} {s : ByteArray} {h : Int} {hi : Operand} [TyU P t .string] (H : ssOk s 0 h = true) (hx : opT sl x = .v (.c (.d g (.str s)))) (hh : opT sl hi = .v (.c (.d g2 (.i k2 h)))) (hN : nlt d N = true) :
    NS0 P N ⟨some d, .slice t x none (some hi) none, ty, ps, af, gd⟩ sl ob nx d (tS (s.extract 0 h.toNat)) ⟨d, [(x, .v (.c (.d g (.str s)))), (hi, .v (.c (.d g2 (.i k2 h))))], [], tS (s.extract 0 h.toNat), []⟩ := ns_mk (st := ⟨sl, ob, nx⟩) (n_sslh H) rfl hN ⟨hx, hh, trivial⟩ trivial rfl
theorem ss1 {t : TypeId} {g g1 : Bool} {k1 : IntKind} {s : ByteArray} {l : Int} {lo : Operand} [TyU P t .string] (H : ssOk s l s.size = true) (hx : opT sl x = .v (.c (.d g (.str s)))) (hl : opT sl lo = .v (.c (.d g1 (.i k1 l)))) (hN : nlt d N = true) :
    NS0 P N ⟨some d, .slice t x (some lo) none none, ty, ps, af, gd⟩ sl ob nx d (tS (s.extract l.toNat s.size)) ⟨d, [(x, .v (.c (.d g (.str s)))), (lo, .v (.c (.d g1 (.i k1 l))))], [], tS (s.extract l.toNat s.size), []⟩ := ns_mk (st := ⟨sl, ob, nx⟩) (n_ssll H) rfl hN ⟨hx, hl, trivial⟩ trivial rfl
end
end Go.AM
