/-
  The tables of the library that this seat may read.
-/
import Derived.Orders
namespace Go.AM
def seatBlk : List Nat := []
def seatOk (_ : World) : Prop := True
theorem seatMono (w w' : World) (_ : ∀ b ∈ seatBlk, w'.heap[b]? = w.heap[b]?) (_ : seatOk w) : seatOk w' := trivial
theorem seatInb (w : World) (_ : seatOk w) : ∀ b ∈ seatBlk, b < w.heap.size := fun _ h => by cases h
end Go.AM
