/-
  The abstract machine, part Ze: strings and bytes.
-/
import Derived.Test.YtlpclccdbmoemaaGreatAmZd
import Derived.Test.YtlpclccdbmoemaaGreatAmW
import Derived.Laws.BytesString
set_option linter.unusedVariables false
namespace Go.AM
open Go.RowKit
/-- The string of bytes. -/
def bsOf (ns : List Int) : ByteArray := ns.foldl (fun r n => r.push (UInt8.ofNat n.toNat)) ByteArray.empty
section
variable {P : Program} {N : Nat} {d : Tmp} {x y : Operand} {ty : TypeId} {ps : String} {af : Array Edge} {gd : Option (Nat × Bool)} {sl : List (Nat × T)} {ob : List (Nat × Ob)} {nx : Nat}
theorem rdLL_u8 {w : World} {F : Nat → Prop} {b : Nat} : ∀ {xs : List Int} {k : Nat}, rdLL w F (xs.map eU8) b k → ∀ (j : Nat) (u : Value), (xs.map (Value.int .u8))[j]? = some u → w.cell? ⟨b, k + j, none⟩ = some u
  | [], k, _, j, u, h => by simp at h
  | n :: xs, k, h, j, u, hj => by
    rw [List.map_cons, rdLL] at h
    obtain ⟨h1, h2⟩ := h
    simp only [eU8, rdL, rdD] at h1
    obtain ⟨⟨v, hc, rfl⟩, _⟩ := h1
    cases j with
    | zero => simp at hj; subst hj; simpa using hc
    | succ j =>
      have := rdLL_u8 h2 j u (by simpa using hj)
      rwa [show k + (eU8 n).length + j = k + (j + 1) from by simp [eU8]; omega] at this
theorem run_bts {w : World} {F : Nat → Prop} {A : Option Addr} {xs : List Int} {c : Nat} (h : xs = [] ∨ ∃ b off, A = some ⟨b, off, none⟩ ∧ rdLL w F (xs.map eU8) b off) : (Conv.bytesToString (.slice A xs.length c)).run P w = .ok (.string (bsOf xs)) w := by
  cases A with
  | none =>
    rcases h with rfl | ⟨b, off, h, _⟩
    · rfl
    · cases h
  | some a =>
    refine run_bytesToString w a xs.length c xs ?_
    rcases h with rfl | ⟨b, off, h, hr⟩
    · rfl
    · cases h
      have := loadCellsFrom_run (P := P) (b := b) (k := off) (w := w) (xs.map (Value.int .u8)) 0 #[] (fun j u hj => by rw [Nat.zero_add]; exact rdLL_u8 hr j u hj)
      simpa [loadCells] using this
theorem n_bts {t t' e : TypeId} {sz by_ : Nat} {g : Bool} {xs : List Int} [hs : TySl P t e sz by_] [he : TyU P e (.int .u8)] [hd : TyU P t' .string] :
    AWN P ⟨some d, .convert t t' x, ty, ps, af, gd⟩ [(x, .v (.c (.d g (.l (xs.map eU8)))))] [] (tS (bsOf xs)) [] :=
  awn_pure fun E ac w hn _ => by
    have h := hn x _ (.head _)
    simp only [cvT, cvV, cvC, rdD] at h
    obtain ⟨A, c, hu, _, h⟩ := h
    rw [List.length_map] at hu
    refine ⟨.string (bsOf xs), ?_, by simp [cvT, cvV, cvC, rdD]⟩
    have := run_bts (P := P) (w := w) (F := E.H g) (A := A) (xs := xs) (c := c) (by
      rcases h with h | ⟨b, off, h1, _, h2⟩
      · left; simpa using h
      · right; exact ⟨b, off, h1, h2⟩)
    simp only [execOp, hu, Sem.run_bind, run_convert_bytes_string w t t' e A xs.length c hs.u he.h hd.h, this, Result.andThen_ok, Sem.run_pure]
theorem bt1 {t t' e : TypeId} {sz by_ : Nat} {g : Bool} {xs : List Int} [TySl P t e sz by_] [TyU P e (.int .u8)] [TyU P t' .string] (hx : opT sl x = .v (.c (.d g (.l (xs.map eU8))))) (hN : nlt d N = true) :
    NS0 P N ⟨some d, .convert t t' x, ty, ps, af, gd⟩ sl ob nx d (tS (bsOf xs)) ⟨d, [(x, .v (.c (.d g (.l (xs.map eU8)))))], [], tS (bsOf xs), []⟩ := ns_mk (st := ⟨sl, ob, nx⟩) n_bts rfl hN ⟨hx, trivial⟩ trivial rfl
end
end Go.AM
