/- A part. -/
import Derived.Test.YtfbpfflnhfcmaaaGreatP2
set_option linter.unusedVariables false
set_option linter.unusedSimpArgs false
open Option renaming some->ς,none->ξ
open Bool renaming true->ζ,false->η
open True renaming intro->θ
namespace Go.AM
open Go.Proofs
open Tryz
theorem fnRoundsCompose_fn(x0:D)(h0:WT (.l [.i .u8]) x0):Fn prog 5 [.c x0] [rB ζ]:=by
 obtain⟨y0,rfl,l0,w0⟩:=h0.gl
 obtain⟨a0,rfl,p0⟩:=O6 (f:=eU8) (p:=yx) (λx h=>by obtain⟨n,r,rfl,w,h⟩:=h.gi;obtain rfl:=h.gn;exact⟨n,rfl,wf_u8 w⟩) w0
 exact zz26.h (zz12 a0 ⟨by simpa using l0,p0⟩)
end Go.AM
