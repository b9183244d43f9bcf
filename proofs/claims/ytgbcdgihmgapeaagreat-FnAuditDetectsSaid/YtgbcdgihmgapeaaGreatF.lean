/- A part. -/
import Derived.Test.YtgbcdgihmgapeaaGreatP2
set_option linter.unusedVariables false
set_option linter.unusedSimpArgs false
open Option renaming some->ς,none->ξ
open Bool renaming true->ζ,false->η
open True renaming intro->θ
namespace Go.AM
open Go.Proofs
open Tryz
theorem fnAuditDetects_fn(x0:D)(h0:WT (.l [.i .u8]) x0):Fn prog 3 [.c x0] [rB ζ]:=by
 obtain⟨y0,rfl,l0,zy433⟩:=h0.gl
 obtain⟨a0,rfl,p0⟩:=Lq (f:=eU8) (p:=zy54) (λx h=>by obtain⟨n,r,rfl,w,h⟩:=h.gi;obtain rfl:=h.gn;exact⟨n,rfl,wf_u8 w⟩) zy433
 exact zy42 (zy537 a0 ⟨by simpa using l0,p0⟩)
end Go.AM
