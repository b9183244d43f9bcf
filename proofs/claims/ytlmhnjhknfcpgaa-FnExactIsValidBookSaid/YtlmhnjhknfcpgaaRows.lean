/-
  No cell of these rows narrows 'for every input' (looked for: loops, veiled, ifaces, maps, wideKeys, modest, calm, conditions, laid).
  DERIVED. THE GIVEN ROWS OF THIS SEAT. 10 by the template 'for every input the law returns true; each argument reads behind the call as it read before'; 0 by the template 'total and deterministic' (their statements: YtlmhnjhknfcpgaaTotals.lean).
  GIVEN WITH THE SEED: the statements are not yours to turn. If you find one false, say at which input.
  Laid BY PROGRAM, IN A SANDBOX (cutbox-rows.mjs): the forced cells as the released guide's own fill.sh prints them over the translation 0985da2c722caa13… (all of the seat's roots in one cut). By AI agents, Wed Nov 11 2026. No macro, syntax, notation, axiom, sorry.
-/
import Derived.Test.YtlmhnjhknfcpgaaChecked
import GoSem.Claim
import GoSem.ClaimJoined
import GoSem.ClaimMapViews
import Derived.JoinedTies
import Derived.KernelRfl
namespace Go.Proofs.Ytlmhnjhknfcpgaa
/- THE CELL 'sum', in the pinned program and in every row, IS THE sha256 OF THE DUMP (.gsa) THAT YtlmhnjhknfcpgaaProg.lean LOADS. Nothing in Lean hashes anything: it is a label: what it is worth is what the hold of that sum in a sandbox is worth. -/
noncomputable def Try.pinned : Pinned := { name := "ytlmhnjhknfcpgaa", sum := "0985da2c722caa136d4dbd03a7e1115b816ed16ae3d9931f88b441183fb10fab", checked := Try.checked }
namespace Rows
def none {H : Type} : Left H := { results := [], args := [] }

/-- 'laws.FnExactTempIDsIn': WHATEVER THE INPUT: true; the input reads as it did. -/
def fnExactTempIDsInSpec : ChangeSpec := { name := "fnExactTempIDsIn", fn := fun _ => fun
  | [d1, d2] => { results := [.lit (.bool true)], args := [d1, d2] }
  | _ => none }
def fnExactTempIDsInRow : OpenClaim := { program := "ytlmhnjhknfcpgaa", sum := "0985da2c722caa136d4dbd03a7e1115b816ed16ae3d9931f88b441183fb10fab", func := "loop.example/g00509/laws.FnExactTempIDsIn", spec := "fnExactTempIDsIn", apart := false }
def FnExactTempIDsInSaid : Prop := fnExactTempIDsInRow.holds Try.pinned (OpenSpec.ofChange fnExactTempIDsInSpec)

/-- ITS FALSE NEIGHBOUR: 'it returns false'. Refute it at one input. -/
def fnExactTempIDsInWrong : ChangeSpec := { name := "fnExactTempIDsIn", fn := fun _ => fun
  | [d1, d2] => { results := [.lit (.bool false)], args := [d1, d2] }
  | _ => none }
def FnExactTempIDsInWrongFalsely : Prop := fnExactTempIDsInRow.holds Try.pinned (OpenSpec.ofChange fnExactTempIDsInWrong)

/-- 'laws.FnExactVisitorsOf': WHATEVER THE INPUT: true; the input reads as it did. -/
def fnExactVisitorsOfSpec : ChangeSpec := { name := "fnExactVisitorsOf", fn := fun _ => fun
  | [d1, d2] => { results := [.lit (.bool true)], args := [d1, d2] }
  | _ => none }
def fnExactVisitorsOfRow : OpenClaim := { program := "ytlmhnjhknfcpgaa", sum := "0985da2c722caa136d4dbd03a7e1115b816ed16ae3d9931f88b441183fb10fab", func := "loop.example/g00509/laws.FnExactVisitorsOf", spec := "fnExactVisitorsOf", apart := false }
def FnExactVisitorsOfSaid : Prop := fnExactVisitorsOfRow.holds Try.pinned (OpenSpec.ofChange fnExactVisitorsOfSpec)

/-- ITS FALSE NEIGHBOUR: 'it returns false'. Refute it at one input. -/
def fnExactVisitorsOfWrong : ChangeSpec := { name := "fnExactVisitorsOf", fn := fun _ => fun
  | [d1, d2] => { results := [.lit (.bool false)], args := [d1, d2] }
  | _ => none }
def FnExactVisitorsOfWrongFalsely : Prop := fnExactVisitorsOfRow.holds Try.pinned (OpenSpec.ofChange fnExactVisitorsOfWrong)

/-- 'laws.FnExactIsValidBook': WHATEVER THE INPUT: true; the input reads as it did. -/
def fnExactIsValidBookSpec : ChangeSpec := { name := "fnExactIsValidBook", fn := fun _ => fun
  | [d] => { results := [.lit (.bool true)], args := [d] }
  | _ => none }
def fnExactIsValidBookRow : OpenClaim := { program := "ytlmhnjhknfcpgaa", sum := "0985da2c722caa136d4dbd03a7e1115b816ed16ae3d9931f88b441183fb10fab", func := "loop.example/g00509/laws.FnExactIsValidBook", spec := "fnExactIsValidBook", apart := false }
def FnExactIsValidBookSaid : Prop := fnExactIsValidBookRow.holds Try.pinned (OpenSpec.ofChange fnExactIsValidBookSpec)

/-- ITS FALSE NEIGHBOUR: 'it returns false'. Refute it at one input. -/
def fnExactIsValidBookWrong : ChangeSpec := { name := "fnExactIsValidBook", fn := fun _ => fun
  | [d] => { results := [.lit (.bool false)], args := [d] }
  | _ => none }
def FnExactIsValidBookWrongFalsely : Prop := fnExactIsValidBookRow.holds Try.pinned (OpenSpec.ofChange fnExactIsValidBookWrong)

/-- 'laws.FnExactCanForgeSignals': WHATEVER THE INPUT: true; the input reads as it did. -/
def fnExactCanForgeSignalsSpec : ChangeSpec := { name := "fnExactCanForgeSignals", fn := fun _ => fun
  | [d1, d2] => { results := [.lit (.bool true)], args := [d1, d2] }
  | _ => none }
def fnExactCanForgeSignalsRow : OpenClaim := { program := "ytlmhnjhknfcpgaa", sum := "0985da2c722caa136d4dbd03a7e1115b816ed16ae3d9931f88b441183fb10fab", func := "loop.example/g00509/laws.FnExactCanForgeSignals", spec := "fnExactCanForgeSignals", apart := false }
def FnExactCanForgeSignalsSaid : Prop := fnExactCanForgeSignalsRow.holds Try.pinned (OpenSpec.ofChange fnExactCanForgeSignalsSpec)

/-- ITS FALSE NEIGHBOUR: 'it returns false'. Refute it at one input. -/
def fnExactCanForgeSignalsWrong : ChangeSpec := { name := "fnExactCanForgeSignals", fn := fun _ => fun
  | [d1, d2] => { results := [.lit (.bool false)], args := [d1, d2] }
  | _ => none }
def FnExactCanForgeSignalsWrongFalsely : Prop := fnExactCanForgeSignalsRow.holds Try.pinned (OpenSpec.ofChange fnExactCanForgeSignalsWrong)

/-- 'laws.FnVisitors': WHATEVER THE INPUT: true; the input reads as it did. -/
def fnVisitorsSpec : ChangeSpec := { name := "fnVisitors", fn := fun _ => fun
  | [d] => { results := [.lit (.bool true)], args := [d] }
  | _ => none }
def fnVisitorsRow : OpenClaim := { program := "ytlmhnjhknfcpgaa", sum := "0985da2c722caa136d4dbd03a7e1115b816ed16ae3d9931f88b441183fb10fab", func := "loop.example/g00509/laws.FnVisitors", spec := "fnVisitors", apart := false }
def FnVisitorsSaid : Prop := fnVisitorsRow.holds Try.pinned (OpenSpec.ofChange fnVisitorsSpec)

/-- ITS FALSE NEIGHBOUR: 'it returns false'. Refute it at one input. -/
def fnVisitorsWrong : ChangeSpec := { name := "fnVisitors", fn := fun _ => fun
  | [d] => { results := [.lit (.bool false)], args := [d] }
  | _ => none }
def FnVisitorsWrongFalsely : Prop := fnVisitorsRow.holds Try.pinned (OpenSpec.ofChange fnVisitorsWrong)

/-- 'laws.FnRoamingAccess': WHATEVER THE INPUT: true; the input reads as it did. -/
def fnRoamingAccessSpec : ChangeSpec := { name := "fnRoamingAccess", fn := fun _ => fun
  | [d] => { results := [.lit (.bool true)], args := [d] }
  | _ => none }
def fnRoamingAccessRow : OpenClaim := { program := "ytlmhnjhknfcpgaa", sum := "0985da2c722caa136d4dbd03a7e1115b816ed16ae3d9931f88b441183fb10fab", func := "loop.example/g00509/laws.FnRoamingAccess", spec := "fnRoamingAccess", apart := false }
def FnRoamingAccessSaid : Prop := fnRoamingAccessRow.holds Try.pinned (OpenSpec.ofChange fnRoamingAccessSpec)

/-- ITS FALSE NEIGHBOUR: 'it returns false'. Refute it at one input. -/
def fnRoamingAccessWrong : ChangeSpec := { name := "fnRoamingAccess", fn := fun _ => fun
  | [d] => { results := [.lit (.bool false)], args := [d] }
  | _ => none }
def FnRoamingAccessWrongFalsely : Prop := fnRoamingAccessRow.holds Try.pinned (OpenSpec.ofChange fnRoamingAccessWrong)

/-- 'laws.FnExactReadableEpochs': WHATEVER THE INPUT: true; the input reads as it did. -/
def fnExactReadableEpochsSpec : ChangeSpec := { name := "fnExactReadableEpochs", fn := fun _ => fun
  | [d1, d2, d3] => { results := [.lit (.bool true)], args := [d1, d2, d3] }
  | _ => none }
def fnExactReadableEpochsRow : OpenClaim := { program := "ytlmhnjhknfcpgaa", sum := "0985da2c722caa136d4dbd03a7e1115b816ed16ae3d9931f88b441183fb10fab", func := "loop.example/g00509/laws.FnExactReadableEpochs", spec := "fnExactReadableEpochs", apart := false }
def FnExactReadableEpochsSaid : Prop := fnExactReadableEpochsRow.holds Try.pinned (OpenSpec.ofChange fnExactReadableEpochsSpec)

/-- ITS FALSE NEIGHBOUR: 'it returns false'. Refute it at one input. -/
def fnExactReadableEpochsWrong : ChangeSpec := { name := "fnExactReadableEpochs", fn := fun _ => fun
  | [d1, d2, d3] => { results := [.lit (.bool false)], args := [d1, d2, d3] }
  | _ => none }
def FnExactReadableEpochsWrongFalsely : Prop := fnExactReadableEpochsRow.holds Try.pinned (OpenSpec.ofChange fnExactReadableEpochsWrong)

/-- 'laws.FnExactCheckRoaming': WHATEVER THE INPUT: true; the input reads as it did. -/
def fnExactCheckRoamingSpec : ChangeSpec := { name := "fnExactCheckRoaming", fn := fun _ => fun
  | [d1, d2, d3, d4] => { results := [.lit (.bool true)], args := [d1, d2, d3, d4] }
  | _ => none }
def fnExactCheckRoamingRow : OpenClaim := { program := "ytlmhnjhknfcpgaa", sum := "0985da2c722caa136d4dbd03a7e1115b816ed16ae3d9931f88b441183fb10fab", func := "loop.example/g00509/laws.FnExactCheckRoaming", spec := "fnExactCheckRoaming", apart := false }
def FnExactCheckRoamingSaid : Prop := fnExactCheckRoamingRow.holds Try.pinned (OpenSpec.ofChange fnExactCheckRoamingSpec)

/-- ITS FALSE NEIGHBOUR: 'it returns false'. Refute it at one input. -/
def fnExactCheckRoamingWrong : ChangeSpec := { name := "fnExactCheckRoaming", fn := fun _ => fun
  | [d1, d2, d3, d4] => { results := [.lit (.bool false)], args := [d1, d2, d3, d4] }
  | _ => none }
def FnExactCheckRoamingWrongFalsely : Prop := fnExactCheckRoamingRow.holds Try.pinned (OpenSpec.ofChange fnExactCheckRoamingWrong)

/-- 'laws.FnRoamingRegistration': WHATEVER THE INPUT: true; the input reads as it did. -/
def fnRoamingRegistrationSpec : ChangeSpec := { name := "fnRoamingRegistration", fn := fun _ => fun
  | [d] => { results := [.lit (.bool true)], args := [d] }
  | _ => none }
def fnRoamingRegistrationRow : OpenClaim := { program := "ytlmhnjhknfcpgaa", sum := "0985da2c722caa136d4dbd03a7e1115b816ed16ae3d9931f88b441183fb10fab", func := "loop.example/g00509/laws.FnRoamingRegistration", spec := "fnRoamingRegistration", apart := false }
def FnRoamingRegistrationSaid : Prop := fnRoamingRegistrationRow.holds Try.pinned (OpenSpec.ofChange fnRoamingRegistrationSpec)

/-- ITS FALSE NEIGHBOUR: 'it returns false'. Refute it at one input. -/
def fnRoamingRegistrationWrong : ChangeSpec := { name := "fnRoamingRegistration", fn := fun _ => fun
  | [d] => { results := [.lit (.bool false)], args := [d] }
  | _ => none }
def FnRoamingRegistrationWrongFalsely : Prop := fnRoamingRegistrationRow.holds Try.pinned (OpenSpec.ofChange fnRoamingRegistrationWrong)

/-- 'laws.FnExactSettlement': WHATEVER THE INPUT: true; the input reads as it did. -/
def fnExactSettlementSpec : ChangeSpec := { name := "fnExactSettlement", fn := fun _ => fun
  | [d1, d2] => { results := [.lit (.bool true)], args := [d1, d2] }
  | _ => none }
def fnExactSettlementRow : OpenClaim := { program := "ytlmhnjhknfcpgaa", sum := "0985da2c722caa136d4dbd03a7e1115b816ed16ae3d9931f88b441183fb10fab", func := "loop.example/g00509/laws.FnExactSettlement", spec := "fnExactSettlement", apart := false }
def FnExactSettlementSaid : Prop := fnExactSettlementRow.holds Try.pinned (OpenSpec.ofChange fnExactSettlementSpec)

/-- ITS FALSE NEIGHBOUR: 'it returns false'. Refute it at one input. -/
def fnExactSettlementWrong : ChangeSpec := { name := "fnExactSettlement", fn := fun _ => fun
  | [d1, d2] => { results := [.lit (.bool false)], args := [d1, d2] }
  | _ => none }
def FnExactSettlementWrongFalsely : Prop := fnExactSettlementRow.holds Try.pinned (OpenSpec.ofChange fnExactSettlementWrong)

/- THE SECOND FORM. 'bulk': how many values and letters a reading holds, each counted each time it is reached (what is shared counts as often as it is met; a slice's spare places count too). A statement '..UptoSaid' is the law's where the arguments, and the package variables that the reading takes, are together of bulk at most 1048576: NARROWER than '..Said'. Prove '..Said' where nothing that the law and all that it calls make is longer than what came in: it says more and counts as full. Else prove '..UptoSaid'. A law counts once. -/
mutual
def uptoBulk {H : Type} : DataW H → Nat
  | .lit (.string bytes) => bytes.length + 1
  | .lit _ => 1
  | .nil => 1
  | .ptr d => uptoBulk d + 1
  | .slice elems spare => uptoBulkAll elems + uptoBulkAll spare + 1
  | .agg parts => uptoBulkAll parts + 1
  | .iface _ d => uptoBulk d + 1
  | .map entries => uptoBulkEntries entries + 1
  | .held _ => 1
def uptoBulkAll {H : Type} : List (DataW H) → Nat
  | [] => 0
  | d :: r => uptoBulk d + uptoBulkAll r
def uptoBulkEntries {H : Type} : List (Lit × DataW H) → Nat
  | [] => 0
  | x :: r => uptoBulkEntry x + uptoBulkEntries r
def uptoBulkEntry {H : Type} : Lit × DataW H → Nat
  | (.string bytes, d) => bytes.length + uptoBulk d + 1
  | (_, d) => uptoBulk d + 1
 end
def uptoSmall : (H : Type) → List (DataW H) → Bool := fun _ ds => decide (uptoBulkAll ds ≤ 1048576)
def OpenSpec.upto (s : _root_.Go.ChangeSpec) : _root_.Go.OpenSpec := { _root_.Go.OpenSpec.ofChange s with cond := some uptoSmall }

/-- 'laws.FnExactTempIDsIn', WHERE WHAT IT READS IS OF BULK AT MOST 1048576: true; the input reads as it did. -/
def fnExactTempIDsInUptoRow : OpenClaim := { program := "ytlmhnjhknfcpgaa", sum := "0985da2c722caa136d4dbd03a7e1115b816ed16ae3d9931f88b441183fb10fab", func := "loop.example/g00509/laws.FnExactTempIDsIn", spec := "fnExactTempIDsIn", apart := false, narrowed := true }
def FnExactTempIDsInUptoSaid : Prop := fnExactTempIDsInUptoRow.holds Try.pinned (OpenSpec.upto fnExactTempIDsInSpec)

/-- 'laws.FnExactVisitorsOf', WHERE WHAT IT READS IS OF BULK AT MOST 1048576: true; the input reads as it did. -/
def fnExactVisitorsOfUptoRow : OpenClaim := { program := "ytlmhnjhknfcpgaa", sum := "0985da2c722caa136d4dbd03a7e1115b816ed16ae3d9931f88b441183fb10fab", func := "loop.example/g00509/laws.FnExactVisitorsOf", spec := "fnExactVisitorsOf", apart := false, narrowed := true }
def FnExactVisitorsOfUptoSaid : Prop := fnExactVisitorsOfUptoRow.holds Try.pinned (OpenSpec.upto fnExactVisitorsOfSpec)

/-- 'laws.FnExactIsValidBook', WHERE WHAT IT READS IS OF BULK AT MOST 1048576: true; the input reads as it did. -/
def fnExactIsValidBookUptoRow : OpenClaim := { program := "ytlmhnjhknfcpgaa", sum := "0985da2c722caa136d4dbd03a7e1115b816ed16ae3d9931f88b441183fb10fab", func := "loop.example/g00509/laws.FnExactIsValidBook", spec := "fnExactIsValidBook", apart := false, narrowed := true }
def FnExactIsValidBookUptoSaid : Prop := fnExactIsValidBookUptoRow.holds Try.pinned (OpenSpec.upto fnExactIsValidBookSpec)

/-- 'laws.FnExactCanForgeSignals', WHERE WHAT IT READS IS OF BULK AT MOST 1048576: true; the input reads as it did. -/
def fnExactCanForgeSignalsUptoRow : OpenClaim := { program := "ytlmhnjhknfcpgaa", sum := "0985da2c722caa136d4dbd03a7e1115b816ed16ae3d9931f88b441183fb10fab", func := "loop.example/g00509/laws.FnExactCanForgeSignals", spec := "fnExactCanForgeSignals", apart := false, narrowed := true }
def FnExactCanForgeSignalsUptoSaid : Prop := fnExactCanForgeSignalsUptoRow.holds Try.pinned (OpenSpec.upto fnExactCanForgeSignalsSpec)

/-- 'laws.FnVisitors', WHERE WHAT IT READS IS OF BULK AT MOST 1048576: true; the input reads as it did. -/
def fnVisitorsUptoRow : OpenClaim := { program := "ytlmhnjhknfcpgaa", sum := "0985da2c722caa136d4dbd03a7e1115b816ed16ae3d9931f88b441183fb10fab", func := "loop.example/g00509/laws.FnVisitors", spec := "fnVisitors", apart := false, narrowed := true }
def FnVisitorsUptoSaid : Prop := fnVisitorsUptoRow.holds Try.pinned (OpenSpec.upto fnVisitorsSpec)

/-- 'laws.FnRoamingAccess', WHERE WHAT IT READS IS OF BULK AT MOST 1048576: true; the input reads as it did. -/
def fnRoamingAccessUptoRow : OpenClaim := { program := "ytlmhnjhknfcpgaa", sum := "0985da2c722caa136d4dbd03a7e1115b816ed16ae3d9931f88b441183fb10fab", func := "loop.example/g00509/laws.FnRoamingAccess", spec := "fnRoamingAccess", apart := false, narrowed := true }
def FnRoamingAccessUptoSaid : Prop := fnRoamingAccessUptoRow.holds Try.pinned (OpenSpec.upto fnRoamingAccessSpec)

/-- 'laws.FnExactReadableEpochs', WHERE WHAT IT READS IS OF BULK AT MOST 1048576: true; the input reads as it did. -/
def fnExactReadableEpochsUptoRow : OpenClaim := { program := "ytlmhnjhknfcpgaa", sum := "0985da2c722caa136d4dbd03a7e1115b816ed16ae3d9931f88b441183fb10fab", func := "loop.example/g00509/laws.FnExactReadableEpochs", spec := "fnExactReadableEpochs", apart := false, narrowed := true }
def FnExactReadableEpochsUptoSaid : Prop := fnExactReadableEpochsUptoRow.holds Try.pinned (OpenSpec.upto fnExactReadableEpochsSpec)

/-- 'laws.FnExactCheckRoaming', WHERE WHAT IT READS IS OF BULK AT MOST 1048576: true; the input reads as it did. -/
def fnExactCheckRoamingUptoRow : OpenClaim := { program := "ytlmhnjhknfcpgaa", sum := "0985da2c722caa136d4dbd03a7e1115b816ed16ae3d9931f88b441183fb10fab", func := "loop.example/g00509/laws.FnExactCheckRoaming", spec := "fnExactCheckRoaming", apart := false, narrowed := true }
def FnExactCheckRoamingUptoSaid : Prop := fnExactCheckRoamingUptoRow.holds Try.pinned (OpenSpec.upto fnExactCheckRoamingSpec)

/-- 'laws.FnRoamingRegistration', WHERE WHAT IT READS IS OF BULK AT MOST 1048576: true; the input reads as it did. -/
def fnRoamingRegistrationUptoRow : OpenClaim := { program := "ytlmhnjhknfcpgaa", sum := "0985da2c722caa136d4dbd03a7e1115b816ed16ae3d9931f88b441183fb10fab", func := "loop.example/g00509/laws.FnRoamingRegistration", spec := "fnRoamingRegistration", apart := false, narrowed := true }
def FnRoamingRegistrationUptoSaid : Prop := fnRoamingRegistrationUptoRow.holds Try.pinned (OpenSpec.upto fnRoamingRegistrationSpec)

/-- 'laws.FnExactSettlement', WHERE WHAT IT READS IS OF BULK AT MOST 1048576: true; the input reads as it did. -/
def fnExactSettlementUptoRow : OpenClaim := { program := "ytlmhnjhknfcpgaa", sum := "0985da2c722caa136d4dbd03a7e1115b816ed16ae3d9931f88b441183fb10fab", func := "loop.example/g00509/laws.FnExactSettlement", spec := "fnExactSettlement", apart := false, narrowed := true }
def FnExactSettlementUptoSaid : Prop := fnExactSettlementUptoRow.holds Try.pinned (OpenSpec.upto fnExactSettlementSpec)

end Rows
end Go.Proofs.Ytlmhnjhknfcpgaa
