/-
  No cell of these rows narrows 'for every input' (looked for: loops, veiled, ifaces, maps, wideKeys, modest, calm, conditions, laid).
  DERIVED. THE GIVEN ROWS OF THIS SEAT. 8 by the template 'for every input the law returns true; each argument reads behind the call as it read before'; 0 by the template 'total and deterministic' (their statements: YtnhgchfpccpcdaaTotals.lean).
  GIVEN WITH THE SEED: the statements are not yours to turn. If you find one false, say at which input.
  Laid BY PROGRAM, IN A SANDBOX (cutbox-rows.mjs): the forced cells as the released guide's own fill.sh prints them over the translation b6ebdc94c4eae9b5… (all of the seat's roots in one cut). By AI agents, Wed Nov 11 2026. No macro, syntax, notation, axiom, sorry.
-/
import Derived.Test.YtnhgchfpccpcdaaChecked
import GoSem.Claim
import GoSem.ClaimJoined
import GoSem.ClaimMapViews
import Derived.JoinedTies
import Derived.KernelRfl
namespace Go.Proofs.Ytnhgchfpccpcdaa
/- THE CELL 'sum', in the pinned program and in every row, IS THE sha256 OF THE DUMP (.gsa) THAT YtnhgchfpccpcdaaProg.lean LOADS. Nothing in Lean hashes anything: it is a label: what it is worth is what the hold of that sum in a sandbox is worth. -/
noncomputable def Try.pinned : Pinned := { name := "ytnhgchfpccpcdaa", sum := "b6ebdc94c4eae9b506a862ab556fe9b21265417e41ec93ac0204073de138e5c0", checked := Try.checked }
namespace Rows
def none {H : Type} : Left H := { results := [], args := [] }

/-- 'laws.FnExactFormatPayload': WHATEVER THE INPUT: true; the input reads as it did. -/
def fnExactFormatPayloadSpec : ChangeSpec := { name := "fnExactFormatPayload", fn := fun _ => fun
  | [d] => { results := [.lit (.bool true)], args := [d] }
  | _ => none }
def fnExactFormatPayloadRow : OpenClaim := { program := "ytnhgchfpccpcdaa", sum := "b6ebdc94c4eae9b506a862ab556fe9b21265417e41ec93ac0204073de138e5c0", func := "loop.example/g00509/laws.FnExactFormatPayload", spec := "fnExactFormatPayload", apart := false }
def FnExactFormatPayloadSaid : Prop := fnExactFormatPayloadRow.holds Try.pinned (OpenSpec.ofChange fnExactFormatPayloadSpec)

/-- ITS FALSE NEIGHBOUR: 'it returns false'. Refute it at one input. -/
def fnExactFormatPayloadWrong : ChangeSpec := { name := "fnExactFormatPayload", fn := fun _ => fun
  | [d] => { results := [.lit (.bool false)], args := [d] }
  | _ => none }
def FnExactFormatPayloadWrongFalsely : Prop := fnExactFormatPayloadRow.holds Try.pinned (OpenSpec.ofChange fnExactFormatPayloadWrong)

/-- 'laws.FnClearingSum': WHATEVER THE INPUT: true; the input reads as it did. -/
def fnClearingSumSpec : ChangeSpec := { name := "fnClearingSum", fn := fun _ => fun
  | [d] => { results := [.lit (.bool true)], args := [d] }
  | _ => none }
def fnClearingSumRow : OpenClaim := { program := "ytnhgchfpccpcdaa", sum := "b6ebdc94c4eae9b506a862ab556fe9b21265417e41ec93ac0204073de138e5c0", func := "loop.example/g00509/laws.FnClearingSum", spec := "fnClearingSum", apart := false }
def FnClearingSumSaid : Prop := fnClearingSumRow.holds Try.pinned (OpenSpec.ofChange fnClearingSumSpec)

/-- ITS FALSE NEIGHBOUR: 'it returns false'. Refute it at one input. -/
def fnClearingSumWrong : ChangeSpec := { name := "fnClearingSum", fn := fun _ => fun
  | [d] => { results := [.lit (.bool false)], args := [d] }
  | _ => none }
def FnClearingSumWrongFalsely : Prop := fnClearingSumRow.holds Try.pinned (OpenSpec.ofChange fnClearingSumWrong)

/-- 'laws.FnVisitors': WHATEVER THE INPUT: true; the input reads as it did. -/
def fnVisitorsSpec : ChangeSpec := { name := "fnVisitors", fn := fun _ => fun
  | [d] => { results := [.lit (.bool true)], args := [d] }
  | _ => none }
def fnVisitorsRow : OpenClaim := { program := "ytnhgchfpccpcdaa", sum := "b6ebdc94c4eae9b506a862ab556fe9b21265417e41ec93ac0204073de138e5c0", func := "loop.example/g00509/laws.FnVisitors", spec := "fnVisitors", apart := false }
def FnVisitorsSaid : Prop := fnVisitorsRow.holds Try.pinned (OpenSpec.ofChange fnVisitorsSpec)

/-- ITS FALSE NEIGHBOUR: 'it returns false'. Refute it at one input. -/
def fnVisitorsWrong : ChangeSpec := { name := "fnVisitors", fn := fun _ => fun
  | [d] => { results := [.lit (.bool false)], args := [d] }
  | _ => none }
def FnVisitorsWrongFalsely : Prop := fnVisitorsRow.holds Try.pinned (OpenSpec.ofChange fnVisitorsWrong)

/-- 'laws.FnRoamingAccess': WHATEVER THE INPUT: true; the input reads as it did. -/
def fnRoamingAccessSpec : ChangeSpec := { name := "fnRoamingAccess", fn := fun _ => fun
  | [d] => { results := [.lit (.bool true)], args := [d] }
  | _ => none }
def fnRoamingAccessRow : OpenClaim := { program := "ytnhgchfpccpcdaa", sum := "b6ebdc94c4eae9b506a862ab556fe9b21265417e41ec93ac0204073de138e5c0", func := "loop.example/g00509/laws.FnRoamingAccess", spec := "fnRoamingAccess", apart := false }
def FnRoamingAccessSaid : Prop := fnRoamingAccessRow.holds Try.pinned (OpenSpec.ofChange fnRoamingAccessSpec)

/-- ITS FALSE NEIGHBOUR: 'it returns false'. Refute it at one input. -/
def fnRoamingAccessWrong : ChangeSpec := { name := "fnRoamingAccess", fn := fun _ => fun
  | [d] => { results := [.lit (.bool false)], args := [d] }
  | _ => none }
def FnRoamingAccessWrongFalsely : Prop := fnRoamingAccessRow.holds Try.pinned (OpenSpec.ofChange fnRoamingAccessWrong)

/-- 'laws.FnExactReadableEpochs': WHATEVER THE INPUT: true; the input reads as it did. -/
def fnExactReadableEpochsSpec : ChangeSpec := { name := "fnExactReadableEpochs", fn := fun _ => fun
  | [d1, d2, d3] => { results := [.lit (.bool true)], args := [d1, d2, d3] }
  | _ => none }
def fnExactReadableEpochsRow : OpenClaim := { program := "ytnhgchfpccpcdaa", sum := "b6ebdc94c4eae9b506a862ab556fe9b21265417e41ec93ac0204073de138e5c0", func := "loop.example/g00509/laws.FnExactReadableEpochs", spec := "fnExactReadableEpochs", apart := false }
def FnExactReadableEpochsSaid : Prop := fnExactReadableEpochsRow.holds Try.pinned (OpenSpec.ofChange fnExactReadableEpochsSpec)

/-- ITS FALSE NEIGHBOUR: 'it returns false'. Refute it at one input. -/
def fnExactReadableEpochsWrong : ChangeSpec := { name := "fnExactReadableEpochs", fn := fun _ => fun
  | [d1, d2, d3] => { results := [.lit (.bool false)], args := [d1, d2, d3] }
  | _ => none }
def FnExactReadableEpochsWrongFalsely : Prop := fnExactReadableEpochsRow.holds Try.pinned (OpenSpec.ofChange fnExactReadableEpochsWrong)

/-- 'laws.FnRoamingRegistration': WHATEVER THE INPUT: true; the input reads as it did. -/
def fnRoamingRegistrationSpec : ChangeSpec := { name := "fnRoamingRegistration", fn := fun _ => fun
  | [d] => { results := [.lit (.bool true)], args := [d] }
  | _ => none }
def fnRoamingRegistrationRow : OpenClaim := { program := "ytnhgchfpccpcdaa", sum := "b6ebdc94c4eae9b506a862ab556fe9b21265417e41ec93ac0204073de138e5c0", func := "loop.example/g00509/laws.FnRoamingRegistration", spec := "fnRoamingRegistration", apart := false }
def FnRoamingRegistrationSaid : Prop := fnRoamingRegistrationRow.holds Try.pinned (OpenSpec.ofChange fnRoamingRegistrationSpec)

/-- ITS FALSE NEIGHBOUR: 'it returns false'. Refute it at one input. -/
def fnRoamingRegistrationWrong : ChangeSpec := { name := "fnRoamingRegistration", fn := fun _ => fun
  | [d] => { results := [.lit (.bool false)], args := [d] }
  | _ => none }
def FnRoamingRegistrationWrongFalsely : Prop := fnRoamingRegistrationRow.holds Try.pinned (OpenSpec.ofChange fnRoamingRegistrationWrong)

/-- 'laws.FnExactSettlement': WHATEVER THE INPUT: true; the input reads as it did. -/
def fnExactSettlementSpec : ChangeSpec := { name := "fnExactSettlement", fn := fun _ => fun
  | [d1, d2] => { results := [.lit (.bool true)], args := [d1, d2] }
  | _ => none }
def fnExactSettlementRow : OpenClaim := { program := "ytnhgchfpccpcdaa", sum := "b6ebdc94c4eae9b506a862ab556fe9b21265417e41ec93ac0204073de138e5c0", func := "loop.example/g00509/laws.FnExactSettlement", spec := "fnExactSettlement", apart := false }
def FnExactSettlementSaid : Prop := fnExactSettlementRow.holds Try.pinned (OpenSpec.ofChange fnExactSettlementSpec)

/-- ITS FALSE NEIGHBOUR: 'it returns false'. Refute it at one input. -/
def fnExactSettlementWrong : ChangeSpec := { name := "fnExactSettlement", fn := fun _ => fun
  | [d1, d2] => { results := [.lit (.bool false)], args := [d1, d2] }
  | _ => none }
def FnExactSettlementWrongFalsely : Prop := fnExactSettlementRow.holds Try.pinned (OpenSpec.ofChange fnExactSettlementWrong)

/-- 'laws.FnExactRegisterRoaming': WHATEVER THE INPUT: true; the input reads as it did. -/
def fnExactRegisterRoamingSpec : ChangeSpec := { name := "fnExactRegisterRoaming", fn := fun _ => fun
  | [d1, d2, d3, d4, d5, d6, d7] => { results := [.lit (.bool true)], args := [d1, d2, d3, d4, d5, d6, d7] }
  | _ => none }
def fnExactRegisterRoamingRow : OpenClaim := { program := "ytnhgchfpccpcdaa", sum := "b6ebdc94c4eae9b506a862ab556fe9b21265417e41ec93ac0204073de138e5c0", func := "loop.example/g00509/laws.FnExactRegisterRoaming", spec := "fnExactRegisterRoaming", apart := false }
def FnExactRegisterRoamingSaid : Prop := fnExactRegisterRoamingRow.holds Try.pinned (OpenSpec.ofChange fnExactRegisterRoamingSpec)

/-- ITS FALSE NEIGHBOUR: 'it returns false'. Refute it at one input. -/
def fnExactRegisterRoamingWrong : ChangeSpec := { name := "fnExactRegisterRoaming", fn := fun _ => fun
  | [d1, d2, d3, d4, d5, d6, d7] => { results := [.lit (.bool false)], args := [d1, d2, d3, d4, d5, d6, d7] }
  | _ => none }
def FnExactRegisterRoamingWrongFalsely : Prop := fnExactRegisterRoamingRow.holds Try.pinned (OpenSpec.ofChange fnExactRegisterRoamingWrong)

/- THE SECOND FORM. 'bulk': how many values and letters a reading holds, each counted each time it is reached (what is shared counts as often as it is met; a slice's spare places count too). A statement '..UptoSaid' is the law's where the arguments, and the package variables that the reading takes, are together of bulk at most 1048576: NARROWER than '..Said'. Prove '..Said' where nothing that the law and all that it calls make is longer than what came in: it says more and counts as full. Else prove '..UptoSaid'. A law counts once. -/
mutual
def uptoBulk {H : Type} : DataW H → Nat
  | .lit (.string bytes) => bytes.length + 1
  | .lit _ => 1
  | .nil => 1
  | .ptr d => uptoBulk d + 1
  | .slice elems spare => uptoBulkAll elems + uptoBulkAll spare + 1
  | .agg parts => uptoBulkAll parts + 1
  | .iface _ d => uptoBulk d + 1
  | .map entries => uptoBulkEntries entries + 1
  | .held _ => 1
def uptoBulkAll {H : Type} : List (DataW H) → Nat
  | [] => 0
  | d :: r => uptoBulk d + uptoBulkAll r
def uptoBulkEntries {H : Type} : List (Lit × DataW H) → Nat
  | [] => 0
  | x :: r => uptoBulkEntry x + uptoBulkEntries r
def uptoBulkEntry {H : Type} : Lit × DataW H → Nat
  | (.string bytes, d) => bytes.length + uptoBulk d + 1
  | (_, d) => uptoBulk d + 1
 end
def uptoSmall : (H : Type) → List (DataW H) → Bool := fun _ ds => decide (uptoBulkAll ds ≤ 1048576)
def OpenSpec.upto (s : _root_.Go.ChangeSpec) : _root_.Go.OpenSpec := { _root_.Go.OpenSpec.ofChange s with cond := some uptoSmall }

/-- 'laws.FnExactFormatPayload', WHERE WHAT IT READS IS OF BULK AT MOST 1048576: true; the input reads as it did. -/
def fnExactFormatPayloadUptoRow : OpenClaim := { program := "ytnhgchfpccpcdaa", sum := "b6ebdc94c4eae9b506a862ab556fe9b21265417e41ec93ac0204073de138e5c0", func := "loop.example/g00509/laws.FnExactFormatPayload", spec := "fnExactFormatPayload", apart := false, narrowed := true }
def FnExactFormatPayloadUptoSaid : Prop := fnExactFormatPayloadUptoRow.holds Try.pinned (OpenSpec.upto fnExactFormatPayloadSpec)

/-- 'laws.FnClearingSum', WHERE WHAT IT READS IS OF BULK AT MOST 1048576: true; the input reads as it did. -/
def fnClearingSumUptoRow : OpenClaim := { program := "ytnhgchfpccpcdaa", sum := "b6ebdc94c4eae9b506a862ab556fe9b21265417e41ec93ac0204073de138e5c0", func := "loop.example/g00509/laws.FnClearingSum", spec := "fnClearingSum", apart := false, narrowed := true }
def FnClearingSumUptoSaid : Prop := fnClearingSumUptoRow.holds Try.pinned (OpenSpec.upto fnClearingSumSpec)

/-- 'laws.FnVisitors', WHERE WHAT IT READS IS OF BULK AT MOST 1048576: true; the input reads as it did. -/
def fnVisitorsUptoRow : OpenClaim := { program := "ytnhgchfpccpcdaa", sum := "b6ebdc94c4eae9b506a862ab556fe9b21265417e41ec93ac0204073de138e5c0", func := "loop.example/g00509/laws.FnVisitors", spec := "fnVisitors", apart := false, narrowed := true }
def FnVisitorsUptoSaid : Prop := fnVisitorsUptoRow.holds Try.pinned (OpenSpec.upto fnVisitorsSpec)

/-- 'laws.FnRoamingAccess', WHERE WHAT IT READS IS OF BULK AT MOST 1048576: true; the input reads as it did. -/
def fnRoamingAccessUptoRow : OpenClaim := { program := "ytnhgchfpccpcdaa", sum := "b6ebdc94c4eae9b506a862ab556fe9b21265417e41ec93ac0204073de138e5c0", func := "loop.example/g00509/laws.FnRoamingAccess", spec := "fnRoamingAccess", apart := false, narrowed := true }
def FnRoamingAccessUptoSaid : Prop := fnRoamingAccessUptoRow.holds Try.pinned (OpenSpec.upto fnRoamingAccessSpec)

/-- 'laws.FnExactReadableEpochs', WHERE WHAT IT READS IS OF BULK AT MOST 1048576: true; the input reads as it did. -/
def fnExactReadableEpochsUptoRow : OpenClaim := { program := "ytnhgchfpccpcdaa", sum := "b6ebdc94c4eae9b506a862ab556fe9b21265417e41ec93ac0204073de138e5c0", func := "loop.example/g00509/laws.FnExactReadableEpochs", spec := "fnExactReadableEpochs", apart := false, narrowed := true }
def FnExactReadableEpochsUptoSaid : Prop := fnExactReadableEpochsUptoRow.holds Try.pinned (OpenSpec.upto fnExactReadableEpochsSpec)

/-- 'laws.FnRoamingRegistration', WHERE WHAT IT READS IS OF BULK AT MOST 1048576: true; the input reads as it did. -/
def fnRoamingRegistrationUptoRow : OpenClaim := { program := "ytnhgchfpccpcdaa", sum := "b6ebdc94c4eae9b506a862ab556fe9b21265417e41ec93ac0204073de138e5c0", func := "loop.example/g00509/laws.FnRoamingRegistration", spec := "fnRoamingRegistration", apart := false, narrowed := true }
def FnRoamingRegistrationUptoSaid : Prop := fnRoamingRegistrationUptoRow.holds Try.pinned (OpenSpec.upto fnRoamingRegistrationSpec)

/-- 'laws.FnExactSettlement', WHERE WHAT IT READS IS OF BULK AT MOST 1048576: true; the input reads as it did. -/
def fnExactSettlementUptoRow : OpenClaim := { program := "ytnhgchfpccpcdaa", sum := "b6ebdc94c4eae9b506a862ab556fe9b21265417e41ec93ac0204073de138e5c0", func := "loop.example/g00509/laws.FnExactSettlement", spec := "fnExactSettlement", apart := false, narrowed := true }
def FnExactSettlementUptoSaid : Prop := fnExactSettlementUptoRow.holds Try.pinned (OpenSpec.upto fnExactSettlementSpec)

/-- 'laws.FnExactRegisterRoaming', WHERE WHAT IT READS IS OF BULK AT MOST 1048576: true; the input reads as it did. -/
def fnExactRegisterRoamingUptoRow : OpenClaim := { program := "ytnhgchfpccpcdaa", sum := "b6ebdc94c4eae9b506a862ab556fe9b21265417e41ec93ac0204073de138e5c0", func := "loop.example/g00509/laws.FnExactRegisterRoaming", spec := "fnExactRegisterRoaming", apart := false, narrowed := true }
def FnExactRegisterRoamingUptoSaid : Prop := fnExactRegisterRoamingUptoRow.holds Try.pinned (OpenSpec.upto fnExactRegisterRoamingSpec)

end Rows
end Go.Proofs.Ytnhgchfpccpcdaa
