/- A part. -/
import Derived.Test.YtfbpfflnhfcmaaaGreatP3
set_option linter.unusedVariables false
set_option linter.unusedSimpArgs false
open Option renaming some->ς,none->ξ
open Bool renaming true->ζ,false->η
open True renaming intro->θ
namespace Go.AM
open Go.Proofs
open Tryz
theorem fnTop_fn(x0:D)(h0:WT (.l [.i .u8]) x0):Fn prog 3 [.c x0] [rB ζ]:=by
 obtain⟨y0,rfl,l0,w0⟩:=h0.gl
 obtain⟨a0,rfl,p0⟩:=K3 (f:=eU8) (p:=xJ) (λx h=>by obtain⟨n,r,rfl,w,h⟩:=h.gi;obtain rfl:=h.gn;exact⟨n,rfl,wf_u8 w⟩) w0
 exact Y7.h (Vf a0 ⟨by simpa using l0,p0⟩)
theorem fnSettles_fn(x0:D)(h0:WT (.l [.i .u8]) x0):Fn prog 4 [.c x0] [rB ζ]:=by
 obtain⟨y0,rfl,l0,w0⟩:=h0.gl
 obtain⟨a0,rfl,p0⟩:=K3 (f:=eU8) (p:=xJ) (λx h=>by obtain⟨n,r,rfl,w,h⟩:=h.gi;obtain rfl:=h.gn;exact⟨n,rfl,wf_u8 w⟩) w0
 exact LO.h (Jk a0 ⟨by simpa using l0,p0⟩)
end Go.AM
