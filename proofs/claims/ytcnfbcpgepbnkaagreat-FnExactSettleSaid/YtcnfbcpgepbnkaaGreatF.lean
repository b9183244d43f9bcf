/- A part. -/
import Derived.Test.YtcnfbcpgepbnkaaGreatP2
set_option linter.unusedVariables false
set_option linter.unusedSimpArgs false
open Option renaming some->ς,none->ξ
open Bool renaming true->ζ,false->η
open True renaming intro->θ
namespace Go.AM
open Go.Proofs
open Tryz
theorem fnExactRounds_fn(x0:List D)(h0:WTs [.l [.i .i64,.l [.i .i64]],.l [.i .i64,.i .i64,.i .i64,.i .i64,.i .i64,.i .i64,.i .i64,.i .i64,.i .i64,.b,.i .i64,.i .i64,.l [.i .i64,.l [.i .u8]],.l [.l [.i .u8]]],.l [.i .i64,.i .i64,.i .i64,.i .i64,.i .i64,.i .i64,.i .i64,.l [.i .i64],.i .i64,.i .i64,.i .i64,.i .i64,.i .i64,.i .i64,.i .i64,.i .i64,.i .i64,.i .i64,.i .i64,.i .i64,.i .i64,.i .i64,.i .i64,.l [.l [.i .u8]],.i .i64,.l [.i .i64,.l [.i .u8]],.i .i64,.i .i64,.i .i64,.i .i64],.l [.i .i64,.i .i64,.i .i64,.l [.i .i64,.i .i64]],.l [.i .i64,.b,.b,.i .i64,.i .i64,.i .i64,.i .i64,.i .i64,.i .i64,.i .i64,.i .i64,.i .i64,.i .i64,.i .i64,.i .i64,.i .i64,.i .i64,.i .i64,.i .i64,.l [.i .u8],.i .i64],.i .i64,.i .i64,.i .i64,.i .i64,.i .i64] x0)(x1:D)(h1:WT (.i .i64) x1):Fn prog 5 [.agg x0,.c x1] [rB ζ]:=by
 obtain⟨a0,rfl,p0⟩:=Cr h0
 obtain⟨a1,rfl,w1⟩:=h1.gi
 exact Et (C6 a0 p0 a1 w1)
theorem fnExactRound_fn(x0:List D)(h0:WTs [.l [.i .i64,.l [.i .i64]],.l [.i .i64,.i .i64,.i .i64,.i .i64,.i .i64,.i .i64,.i .i64,.i .i64,.i .i64,.b,.i .i64,.i .i64,.l [.i .i64,.l [.i .u8]],.l [.l [.i .u8]]],.l [.i .i64,.i .i64,.i .i64,.i .i64,.i .i64,.i .i64,.i .i64,.l [.i .i64],.i .i64,.i .i64,.i .i64,.i .i64,.i .i64,.i .i64,.i .i64,.i .i64,.i .i64,.i .i64,.i .i64,.i .i64,.i .i64,.i .i64,.i .i64,.l [.l [.i .u8]],.i .i64,.l [.i .i64,.l [.i .u8]],.i .i64,.i .i64,.i .i64,.i .i64],.l [.i .i64,.i .i64,.i .i64,.l [.i .i64,.i .i64]],.l [.i .i64,.b,.b,.i .i64,.i .i64,.i .i64,.i .i64,.i .i64,.i .i64,.i .i64,.i .i64,.i .i64,.i .i64,.i .i64,.i .i64,.i .i64,.i .i64,.i .i64,.i .i64,.l [.i .u8],.i .i64],.i .i64,.i .i64,.i .i64,.i .i64,.i .i64] x0):Fn prog 4 [.agg x0] [rB ζ]:=by
 obtain⟨a0,rfl,p0⟩:=Cr h0
 exact FO (Es a0 p0)
theorem fnExactSettle_fn(x0:List D)(h0:WTs [.l [.i .i64,.l [.i .i64]],.l [.i .i64,.i .i64,.i .i64,.i .i64,.i .i64,.i .i64,.i .i64,.i .i64,.i .i64,.b,.i .i64,.i .i64,.l [.i .i64,.l [.i .u8]],.l [.l [.i .u8]]],.l [.i .i64,.i .i64,.i .i64,.i .i64,.i .i64,.i .i64,.i .i64,.l [.i .i64],.i .i64,.i .i64,.i .i64,.i .i64,.i .i64,.i .i64,.i .i64,.i .i64,.i .i64,.i .i64,.i .i64,.i .i64,.i .i64,.i .i64,.i .i64,.l [.l [.i .u8]],.i .i64,.l [.i .i64,.l [.i .u8]],.i .i64,.i .i64,.i .i64,.i .i64],.l [.i .i64,.i .i64,.i .i64,.l [.i .i64,.i .i64]],.l [.i .i64,.b,.b,.i .i64,.i .i64,.i .i64,.i .i64,.i .i64,.i .i64,.i .i64,.i .i64,.i .i64,.i .i64,.i .i64,.i .i64,.i .i64,.i .i64,.i .i64,.i .i64,.l [.i .u8],.i .i64],.i .i64,.i .i64,.i .i64,.i .i64,.i .i64] x0):Fn prog 6 [.agg x0] [rB ζ]:=by
 obtain⟨a0,rfl,p0⟩:=Cr h0
 exact Eu (C7 a0 p0)
end Go.AM
