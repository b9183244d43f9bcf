/- A part. -/
import Derived.Test.YtcfhabdgiieejaaGreatP2
set_option linter.unusedVariables false
set_option linter.unusedSimpArgs false
namespace Go.AM
open Go.Proofs
open Tryz
theorem fnAudited_fn (x0:D) (h0:WT (.l [.i .u8]) x0):Fn prog 5 [.c x0] [rB true]:=by
 obtain⟨y0,rfl,l0,w0⟩:=h0.gl
 obtain⟨a0,rfl,p0⟩:=Ox (f:=eU8) (p:=yk) (λx h=>by obtain⟨n,r,rfl,w,h⟩:=h.gi;obtain rfl:=h.gn;exact⟨n,rfl,wf_u8 w⟩) w0
 exact Jb.h (GK a0 ⟨by simpa using l0,p0⟩)
end Go.AM
