/- A part. -/
import Derived.Test.YtigcecmbknoijaaGreatDoorP2
set_option linter.unusedVariables false
set_option linter.unusedSimpArgs false
open Option renaming some->ς,none->ξ
open Bool renaming true->ζ,false->η
open True renaming intro->θ
namespace Go.AM
open Go.Proofs
open Tryz
theorem fnFormattedAmounts_fn(x0:D)(h0:WT (.l [.i .u8]) x0):Fn prog 3 [.c x0] [rB ζ]:=by
 obtain⟨y0,rfl,l0,zy422⟩:=h0.gl
 obtain⟨a0,rfl,p0⟩:=ER (f:=eU8) (p:=zy69) (λx h=>by obtain⟨n,r,rfl,w,h⟩:=h.gi;obtain rfl:=h.gn;exact⟨n,rfl,V7 w⟩) zy422
 exact uP.h (tT a0 ⟨by simpa using l0,p0⟩)
theorem fnFormattedStates_fn(x0:D)(h0:WT (.l [.i .u8]) x0):Fn prog 4 [.c x0] [rB ζ]:=by
 obtain⟨y0,rfl,l0,zy422⟩:=h0.gl
 obtain⟨a0,rfl,p0⟩:=ER (f:=eU8) (p:=zy69) (λx h=>by obtain⟨n,r,rfl,w,h⟩:=h.gi;obtain rfl:=h.gn;exact⟨n,rfl,V7 w⟩) zy422
 exact zy59.h (uQ a0 ⟨by simpa using l0,p0⟩)
end Go.AM
