/-
  The tables of the library that this seat may read.
-/
import Derived.Orders
import Derived.Lib.ItoaNum
namespace Go.AM
/-- The table of powers that strconv reads. -/
def powArr : Array Value := (Lib.pow10Tab.map fun z => Value.int .u64 z).toArray
def seatBlk : List Nat := [1]
def seatOk (w : World) : Prop := ∃ ty fr, w.heap[1]? = some (.cells powArr ty fr)
theorem seatMono (w w' : World) (h : ∀ b ∈ seatBlk, w'.heap[b]? = w.heap[b]?) (hw : seatOk w) : seatOk w' := by
  obtain ⟨ty, fr, e⟩ := hw
  exact ⟨ty, fr, by rw [h 1 (by simp [seatBlk])]; exact e⟩
theorem seatInb (w : World) (hw : seatOk w) : ∀ b ∈ seatBlk, b < w.heap.size := by
  obtain ⟨ty, fr, e⟩ := hw
  intro k hk
  simp [seatBlk] at hk; subst hk
  exact (Array.getElem?_eq_some_iff.1 e).1
end Go.AM
