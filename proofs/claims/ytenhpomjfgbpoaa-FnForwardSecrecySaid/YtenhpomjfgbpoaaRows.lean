/-
  No cell of these rows narrows 'for every input' (looked for: loops, veiled, ifaces, maps, wideKeys, modest, calm, conditions, laid).
  DERIVED. THE GIVEN ROWS OF THIS SEAT. 12 by the template 'for every input the law returns true; each argument reads behind the call as it read before'; 0 by the template 'total and deterministic' (their statements: YtenhpomjfgbpoaaTotals.lean).
  GIVEN WITH THE SEED: the statements are not yours to turn. If you find one false, say at which input.
  Laid BY PROGRAM, IN A SANDBOX (cutbox-rows.mjs): the forced cells as the released guide's own fill.sh prints them over the translation f9238a8f1fe33af1… (all of the seat's roots in one cut). By AI agents, Wed Nov 11 2026. No macro, syntax, notation, axiom, sorry.
-/
import Derived.Test.YtenhpomjfgbpoaaChecked
import GoSem.Claim
import GoSem.ClaimJoined
import GoSem.ClaimMapViews
import Derived.JoinedTies
import Derived.KernelRfl
namespace Go.Proofs.Ytenhpomjfgbpoaa
/- THE CELL 'sum', in the pinned program and in every row, IS THE sha256 OF THE DUMP (.gsa) THAT YtenhpomjfgbpoaaProg.lean LOADS. Nothing in Lean hashes anything: it is a label: what it is worth is what the hold of that sum in a sandbox is worth. -/
noncomputable def Try.pinned : Pinned := { name := "ytenhpomjfgbpoaa", sum := "f9238a8f1fe33af1a7793825893b2eda9e36c9988237f6a77c052b252ab4f331", checked := Try.checked }
namespace Rows
def none {H : Type} : Left H := { results := [], args := [] }

/-- 'laws.FnExactRoamingCodeName': WHATEVER THE INPUT: true; the input reads as it did. -/
def fnExactRoamingCodeNameSpec : ChangeSpec := { name := "fnExactRoamingCodeName", fn := fun _ => fun
  | [d] => { results := [.lit (.bool true)], args := [d] }
  | _ => none }
def fnExactRoamingCodeNameRow : OpenClaim := { program := "ytenhpomjfgbpoaa", sum := "f9238a8f1fe33af1a7793825893b2eda9e36c9988237f6a77c052b252ab4f331", func := "loop.example/g00509/laws.FnExactRoamingCodeName", spec := "fnExactRoamingCodeName", apart := false }
def FnExactRoamingCodeNameSaid : Prop := fnExactRoamingCodeNameRow.holds Try.pinned (OpenSpec.ofChange fnExactRoamingCodeNameSpec)

/-- ITS FALSE NEIGHBOUR: 'it returns false'. Refute it at one input. -/
def fnExactRoamingCodeNameWrong : ChangeSpec := { name := "fnExactRoamingCodeName", fn := fun _ => fun
  | [d] => { results := [.lit (.bool false)], args := [d] }
  | _ => none }
def FnExactRoamingCodeNameWrongFalsely : Prop := fnExactRoamingCodeNameRow.holds Try.pinned (OpenSpec.ofChange fnExactRoamingCodeNameWrong)

/-- 'laws.FnExactFormatPayload': WHATEVER THE INPUT: true; the input reads as it did. -/
def fnExactFormatPayloadSpec : ChangeSpec := { name := "fnExactFormatPayload", fn := fun _ => fun
  | [d] => { results := [.lit (.bool true)], args := [d] }
  | _ => none }
def fnExactFormatPayloadRow : OpenClaim := { program := "ytenhpomjfgbpoaa", sum := "f9238a8f1fe33af1a7793825893b2eda9e36c9988237f6a77c052b252ab4f331", func := "loop.example/g00509/laws.FnExactFormatPayload", spec := "fnExactFormatPayload", apart := false }
def FnExactFormatPayloadSaid : Prop := fnExactFormatPayloadRow.holds Try.pinned (OpenSpec.ofChange fnExactFormatPayloadSpec)

/-- ITS FALSE NEIGHBOUR: 'it returns false'. Refute it at one input. -/
def fnExactFormatPayloadWrong : ChangeSpec := { name := "fnExactFormatPayload", fn := fun _ => fun
  | [d] => { results := [.lit (.bool false)], args := [d] }
  | _ => none }
def FnExactFormatPayloadWrongFalsely : Prop := fnExactFormatPayloadRow.holds Try.pinned (OpenSpec.ofChange fnExactFormatPayloadWrong)

/-- 'laws.FnExactTotalTurnover': WHATEVER THE INPUT: true; the input reads as it did. -/
def fnExactTotalTurnoverSpec : ChangeSpec := { name := "fnExactTotalTurnover", fn := fun _ => fun
  | [d] => { results := [.lit (.bool true)], args := [d] }
  | _ => none }
def fnExactTotalTurnoverRow : OpenClaim := { program := "ytenhpomjfgbpoaa", sum := "f9238a8f1fe33af1a7793825893b2eda9e36c9988237f6a77c052b252ab4f331", func := "loop.example/g00509/laws.FnExactTotalTurnover", spec := "fnExactTotalTurnover", apart := false }
def FnExactTotalTurnoverSaid : Prop := fnExactTotalTurnoverRow.holds Try.pinned (OpenSpec.ofChange fnExactTotalTurnoverSpec)

/-- ITS FALSE NEIGHBOUR: 'it returns false'. Refute it at one input. -/
def fnExactTotalTurnoverWrong : ChangeSpec := { name := "fnExactTotalTurnover", fn := fun _ => fun
  | [d] => { results := [.lit (.bool false)], args := [d] }
  | _ => none }
def FnExactTotalTurnoverWrongFalsely : Prop := fnExactTotalTurnoverRow.holds Try.pinned (OpenSpec.ofChange fnExactTotalTurnoverWrong)

/-- 'laws.FnSessionKeyLeak': WHATEVER THE INPUT: true; the input reads as it did. -/
def fnSessionKeyLeakSpec : ChangeSpec := { name := "fnSessionKeyLeak", fn := fun _ => fun
  | [d] => { results := [.lit (.bool true)], args := [d] }
  | _ => none }
def fnSessionKeyLeakRow : OpenClaim := { program := "ytenhpomjfgbpoaa", sum := "f9238a8f1fe33af1a7793825893b2eda9e36c9988237f6a77c052b252ab4f331", func := "loop.example/g00509/laws.FnSessionKeyLeak", spec := "fnSessionKeyLeak", apart := false }
def FnSessionKeyLeakSaid : Prop := fnSessionKeyLeakRow.holds Try.pinned (OpenSpec.ofChange fnSessionKeyLeakSpec)

/-- ITS FALSE NEIGHBOUR: 'it returns false'. Refute it at one input. -/
def fnSessionKeyLeakWrong : ChangeSpec := { name := "fnSessionKeyLeak", fn := fun _ => fun
  | [d] => { results := [.lit (.bool false)], args := [d] }
  | _ => none }
def FnSessionKeyLeakWrongFalsely : Prop := fnSessionKeyLeakRow.holds Try.pinned (OpenSpec.ofChange fnSessionKeyLeakWrong)

/-- 'laws.FnExactNetPosition': WHATEVER THE INPUT: true; the input reads as it did. -/
def fnExactNetPositionSpec : ChangeSpec := { name := "fnExactNetPosition", fn := fun _ => fun
  | [d1, d2] => { results := [.lit (.bool true)], args := [d1, d2] }
  | _ => none }
def fnExactNetPositionRow : OpenClaim := { program := "ytenhpomjfgbpoaa", sum := "f9238a8f1fe33af1a7793825893b2eda9e36c9988237f6a77c052b252ab4f331", func := "loop.example/g00509/laws.FnExactNetPosition", spec := "fnExactNetPosition", apart := false }
def FnExactNetPositionSaid : Prop := fnExactNetPositionRow.holds Try.pinned (OpenSpec.ofChange fnExactNetPositionSpec)

/-- ITS FALSE NEIGHBOUR: 'it returns false'. Refute it at one input. -/
def fnExactNetPositionWrong : ChangeSpec := { name := "fnExactNetPosition", fn := fun _ => fun
  | [d1, d2] => { results := [.lit (.bool false)], args := [d1, d2] }
  | _ => none }
def FnExactNetPositionWrongFalsely : Prop := fnExactNetPositionRow.holds Try.pinned (OpenSpec.ofChange fnExactNetPositionWrong)

/-- 'laws.FnForwardSecrecy': WHATEVER THE INPUT: true; the input reads as it did. -/
def fnForwardSecrecySpec : ChangeSpec := { name := "fnForwardSecrecy", fn := fun _ => fun
  | [d] => { results := [.lit (.bool true)], args := [d] }
  | _ => none }
def fnForwardSecrecyRow : OpenClaim := { program := "ytenhpomjfgbpoaa", sum := "f9238a8f1fe33af1a7793825893b2eda9e36c9988237f6a77c052b252ab4f331", func := "loop.example/g00509/laws.FnForwardSecrecy", spec := "fnForwardSecrecy", apart := false }
def FnForwardSecrecySaid : Prop := fnForwardSecrecyRow.holds Try.pinned (OpenSpec.ofChange fnForwardSecrecySpec)

/-- ITS FALSE NEIGHBOUR: 'it returns false'. Refute it at one input. -/
def fnForwardSecrecyWrong : ChangeSpec := { name := "fnForwardSecrecy", fn := fun _ => fun
  | [d] => { results := [.lit (.bool false)], args := [d] }
  | _ => none }
def FnForwardSecrecyWrongFalsely : Prop := fnForwardSecrecyRow.holds Try.pinned (OpenSpec.ofChange fnForwardSecrecyWrong)

/-- 'laws.FnExactHomeRouted': WHATEVER THE INPUT: true; the input reads as it did. -/
def fnExactHomeRoutedSpec : ChangeSpec := { name := "fnExactHomeRouted", fn := fun _ => fun
  | [d1, d2, d3] => { results := [.lit (.bool true)], args := [d1, d2, d3] }
  | _ => none }
def fnExactHomeRoutedRow : OpenClaim := { program := "ytenhpomjfgbpoaa", sum := "f9238a8f1fe33af1a7793825893b2eda9e36c9988237f6a77c052b252ab4f331", func := "loop.example/g00509/laws.FnExactHomeRouted", spec := "fnExactHomeRouted", apart := false }
def FnExactHomeRoutedSaid : Prop := fnExactHomeRoutedRow.holds Try.pinned (OpenSpec.ofChange fnExactHomeRoutedSpec)

/-- ITS FALSE NEIGHBOUR: 'it returns false'. Refute it at one input. -/
def fnExactHomeRoutedWrong : ChangeSpec := { name := "fnExactHomeRouted", fn := fun _ => fun
  | [d1, d2, d3] => { results := [.lit (.bool false)], args := [d1, d2, d3] }
  | _ => none }
def FnExactHomeRoutedWrongFalsely : Prop := fnExactHomeRoutedRow.holds Try.pinned (OpenSpec.ofChange fnExactHomeRoutedWrong)

/-- 'laws.FnClearingSum': WHATEVER THE INPUT: true; the input reads as it did. -/
def fnClearingSumSpec : ChangeSpec := { name := "fnClearingSum", fn := fun _ => fun
  | [d] => { results := [.lit (.bool true)], args := [d] }
  | _ => none }
def fnClearingSumRow : OpenClaim := { program := "ytenhpomjfgbpoaa", sum := "f9238a8f1fe33af1a7793825893b2eda9e36c9988237f6a77c052b252ab4f331", func := "loop.example/g00509/laws.FnClearingSum", spec := "fnClearingSum", apart := false }
def FnClearingSumSaid : Prop := fnClearingSumRow.holds Try.pinned (OpenSpec.ofChange fnClearingSumSpec)

/-- ITS FALSE NEIGHBOUR: 'it returns false'. Refute it at one input. -/
def fnClearingSumWrong : ChangeSpec := { name := "fnClearingSum", fn := fun _ => fun
  | [d] => { results := [.lit (.bool false)], args := [d] }
  | _ => none }
def FnClearingSumWrongFalsely : Prop := fnClearingSumRow.holds Try.pinned (OpenSpec.ofChange fnClearingSumWrong)

/-- 'laws.FnExactSurvivesReauthentication': WHATEVER THE INPUT: true; the input reads as it did. -/
def fnExactSurvivesReauthenticationSpec : ChangeSpec := { name := "fnExactSurvivesReauthentication", fn := fun _ => fun
  | [d1, d2] => { results := [.lit (.bool true)], args := [d1, d2] }
  | _ => none }
def fnExactSurvivesReauthenticationRow : OpenClaim := { program := "ytenhpomjfgbpoaa", sum := "f9238a8f1fe33af1a7793825893b2eda9e36c9988237f6a77c052b252ab4f331", func := "loop.example/g00509/laws.FnExactSurvivesReauthentication", spec := "fnExactSurvivesReauthentication", apart := false }
def FnExactSurvivesReauthenticationSaid : Prop := fnExactSurvivesReauthenticationRow.holds Try.pinned (OpenSpec.ofChange fnExactSurvivesReauthenticationSpec)

/-- ITS FALSE NEIGHBOUR: 'it returns false'. Refute it at one input. -/
def fnExactSurvivesReauthenticationWrong : ChangeSpec := { name := "fnExactSurvivesReauthentication", fn := fun _ => fun
  | [d1, d2] => { results := [.lit (.bool false)], args := [d1, d2] }
  | _ => none }
def FnExactSurvivesReauthenticationWrongFalsely : Prop := fnExactSurvivesReauthenticationRow.holds Try.pinned (OpenSpec.ofChange fnExactSurvivesReauthenticationWrong)

/-- 'laws.FnExactNetPayments': WHATEVER THE INPUT: true; the input reads as it did. -/
def fnExactNetPaymentsSpec : ChangeSpec := { name := "fnExactNetPayments", fn := fun _ => fun
  | [d] => { results := [.lit (.bool true)], args := [d] }
  | _ => none }
def fnExactNetPaymentsRow : OpenClaim := { program := "ytenhpomjfgbpoaa", sum := "f9238a8f1fe33af1a7793825893b2eda9e36c9988237f6a77c052b252ab4f331", func := "loop.example/g00509/laws.FnExactNetPayments", spec := "fnExactNetPayments", apart := false }
def FnExactNetPaymentsSaid : Prop := fnExactNetPaymentsRow.holds Try.pinned (OpenSpec.ofChange fnExactNetPaymentsSpec)

/-- ITS FALSE NEIGHBOUR: 'it returns false'. Refute it at one input. -/
def fnExactNetPaymentsWrong : ChangeSpec := { name := "fnExactNetPayments", fn := fun _ => fun
  | [d] => { results := [.lit (.bool false)], args := [d] }
  | _ => none }
def FnExactNetPaymentsWrongFalsely : Prop := fnExactNetPaymentsRow.holds Try.pinned (OpenSpec.ofChange fnExactNetPaymentsWrong)

/-- 'laws.FnExactFindBook': WHATEVER THE INPUT: true; the input reads as it did. -/
def fnExactFindBookSpec : ChangeSpec := { name := "fnExactFindBook", fn := fun _ => fun
  | [d1, d2] => { results := [.lit (.bool true)], args := [d1, d2] }
  | _ => none }
def fnExactFindBookRow : OpenClaim := { program := "ytenhpomjfgbpoaa", sum := "f9238a8f1fe33af1a7793825893b2eda9e36c9988237f6a77c052b252ab4f331", func := "loop.example/g00509/laws.FnExactFindBook", spec := "fnExactFindBook", apart := false }
def FnExactFindBookSaid : Prop := fnExactFindBookRow.holds Try.pinned (OpenSpec.ofChange fnExactFindBookSpec)

/-- ITS FALSE NEIGHBOUR: 'it returns false'. Refute it at one input. -/
def fnExactFindBookWrong : ChangeSpec := { name := "fnExactFindBook", fn := fun _ => fun
  | [d1, d2] => { results := [.lit (.bool false)], args := [d1, d2] }
  | _ => none }
def FnExactFindBookWrongFalsely : Prop := fnExactFindBookRow.holds Try.pinned (OpenSpec.ofChange fnExactFindBookWrong)

/-- 'laws.FnExactExposes': WHATEVER THE INPUT: true; the input reads as it did. -/
def fnExactExposesSpec : ChangeSpec := { name := "fnExactExposes", fn := fun _ => fun
  | [d1, d2, d3] => { results := [.lit (.bool true)], args := [d1, d2, d3] }
  | _ => none }
def fnExactExposesRow : OpenClaim := { program := "ytenhpomjfgbpoaa", sum := "f9238a8f1fe33af1a7793825893b2eda9e36c9988237f6a77c052b252ab4f331", func := "loop.example/g00509/laws.FnExactExposes", spec := "fnExactExposes", apart := false }
def FnExactExposesSaid : Prop := fnExactExposesRow.holds Try.pinned (OpenSpec.ofChange fnExactExposesSpec)

/-- ITS FALSE NEIGHBOUR: 'it returns false'. Refute it at one input. -/
def fnExactExposesWrong : ChangeSpec := { name := "fnExactExposes", fn := fun _ => fun
  | [d1, d2, d3] => { results := [.lit (.bool false)], args := [d1, d2, d3] }
  | _ => none }
def FnExactExposesWrongFalsely : Prop := fnExactExposesRow.holds Try.pinned (OpenSpec.ofChange fnExactExposesWrong)

/- THE SECOND FORM. 'bulk': how many values and letters a reading holds, each counted each time it is reached (what is shared counts as often as it is met; a slice's spare places count too). A statement '..UptoSaid' is the law's where the arguments, and the package variables that the reading takes, are together of bulk at most 1048576: NARROWER than '..Said'. Prove '..Said' where nothing that the law and all that it calls make is longer than what came in: it says more and counts as full. Else prove '..UptoSaid'. A law counts once. -/
mutual
def uptoBulk {H : Type} : DataW H → Nat
  | .lit (.string bytes) => bytes.length + 1
  | .lit _ => 1
  | .nil => 1
  | .ptr d => uptoBulk d + 1
  | .slice elems spare => uptoBulkAll elems + uptoBulkAll spare + 1
  | .agg parts => uptoBulkAll parts + 1
  | .iface _ d => uptoBulk d + 1
  | .map entries => uptoBulkEntries entries + 1
  | .held _ => 1
def uptoBulkAll {H : Type} : List (DataW H) → Nat
  | [] => 0
  | d :: r => uptoBulk d + uptoBulkAll r
def uptoBulkEntries {H : Type} : List (Lit × DataW H) → Nat
  | [] => 0
  | x :: r => uptoBulkEntry x + uptoBulkEntries r
def uptoBulkEntry {H : Type} : Lit × DataW H → Nat
  | (.string bytes, d) => bytes.length + uptoBulk d + 1
  | (_, d) => uptoBulk d + 1
 end
def uptoSmall : (H : Type) → List (DataW H) → Bool := fun _ ds => decide (uptoBulkAll ds ≤ 1048576)
def OpenSpec.upto (s : _root_.Go.ChangeSpec) : _root_.Go.OpenSpec := { _root_.Go.OpenSpec.ofChange s with cond := some uptoSmall }

/-- 'laws.FnExactRoamingCodeName', WHERE WHAT IT READS IS OF BULK AT MOST 1048576: true; the input reads as it did. -/
def fnExactRoamingCodeNameUptoRow : OpenClaim := { program := "ytenhpomjfgbpoaa", sum := "f9238a8f1fe33af1a7793825893b2eda9e36c9988237f6a77c052b252ab4f331", func := "loop.example/g00509/laws.FnExactRoamingCodeName", spec := "fnExactRoamingCodeName", apart := false, narrowed := true }
def FnExactRoamingCodeNameUptoSaid : Prop := fnExactRoamingCodeNameUptoRow.holds Try.pinned (OpenSpec.upto fnExactRoamingCodeNameSpec)

/-- 'laws.FnExactFormatPayload', WHERE WHAT IT READS IS OF BULK AT MOST 1048576: true; the input reads as it did. -/
def fnExactFormatPayloadUptoRow : OpenClaim := { program := "ytenhpomjfgbpoaa", sum := "f9238a8f1fe33af1a7793825893b2eda9e36c9988237f6a77c052b252ab4f331", func := "loop.example/g00509/laws.FnExactFormatPayload", spec := "fnExactFormatPayload", apart := false, narrowed := true }
def FnExactFormatPayloadUptoSaid : Prop := fnExactFormatPayloadUptoRow.holds Try.pinned (OpenSpec.upto fnExactFormatPayloadSpec)

/-- 'laws.FnExactTotalTurnover', WHERE WHAT IT READS IS OF BULK AT MOST 1048576: true; the input reads as it did. -/
def fnExactTotalTurnoverUptoRow : OpenClaim := { program := "ytenhpomjfgbpoaa", sum := "f9238a8f1fe33af1a7793825893b2eda9e36c9988237f6a77c052b252ab4f331", func := "loop.example/g00509/laws.FnExactTotalTurnover", spec := "fnExactTotalTurnover", apart := false, narrowed := true }
def FnExactTotalTurnoverUptoSaid : Prop := fnExactTotalTurnoverUptoRow.holds Try.pinned (OpenSpec.upto fnExactTotalTurnoverSpec)

/-- 'laws.FnSessionKeyLeak', WHERE WHAT IT READS IS OF BULK AT MOST 1048576: true; the input reads as it did. -/
def fnSessionKeyLeakUptoRow : OpenClaim := { program := "ytenhpomjfgbpoaa", sum := "f9238a8f1fe33af1a7793825893b2eda9e36c9988237f6a77c052b252ab4f331", func := "loop.example/g00509/laws.FnSessionKeyLeak", spec := "fnSessionKeyLeak", apart := false, narrowed := true }
def FnSessionKeyLeakUptoSaid : Prop := fnSessionKeyLeakUptoRow.holds Try.pinned (OpenSpec.upto fnSessionKeyLeakSpec)

/-- 'laws.FnExactNetPosition', WHERE WHAT IT READS IS OF BULK AT MOST 1048576: true; the input reads as it did. -/
def fnExactNetPositionUptoRow : OpenClaim := { program := "ytenhpomjfgbpoaa", sum := "f9238a8f1fe33af1a7793825893b2eda9e36c9988237f6a77c052b252ab4f331", func := "loop.example/g00509/laws.FnExactNetPosition", spec := "fnExactNetPosition", apart := false, narrowed := true }
def FnExactNetPositionUptoSaid : Prop := fnExactNetPositionUptoRow.holds Try.pinned (OpenSpec.upto fnExactNetPositionSpec)

/-- 'laws.FnForwardSecrecy', WHERE WHAT IT READS IS OF BULK AT MOST 1048576: true; the input reads as it did. -/
def fnForwardSecrecyUptoRow : OpenClaim := { program := "ytenhpomjfgbpoaa", sum := "f9238a8f1fe33af1a7793825893b2eda9e36c9988237f6a77c052b252ab4f331", func := "loop.example/g00509/laws.FnForwardSecrecy", spec := "fnForwardSecrecy", apart := false, narrowed := true }
def FnForwardSecrecyUptoSaid : Prop := fnForwardSecrecyUptoRow.holds Try.pinned (OpenSpec.upto fnForwardSecrecySpec)

/-- 'laws.FnExactHomeRouted', WHERE WHAT IT READS IS OF BULK AT MOST 1048576: true; the input reads as it did. -/
def fnExactHomeRoutedUptoRow : OpenClaim := { program := "ytenhpomjfgbpoaa", sum := "f9238a8f1fe33af1a7793825893b2eda9e36c9988237f6a77c052b252ab4f331", func := "loop.example/g00509/laws.FnExactHomeRouted", spec := "fnExactHomeRouted", apart := false, narrowed := true }
def FnExactHomeRoutedUptoSaid : Prop := fnExactHomeRoutedUptoRow.holds Try.pinned (OpenSpec.upto fnExactHomeRoutedSpec)

/-- 'laws.FnClearingSum', WHERE WHAT IT READS IS OF BULK AT MOST 1048576: true; the input reads as it did. -/
def fnClearingSumUptoRow : OpenClaim := { program := "ytenhpomjfgbpoaa", sum := "f9238a8f1fe33af1a7793825893b2eda9e36c9988237f6a77c052b252ab4f331", func := "loop.example/g00509/laws.FnClearingSum", spec := "fnClearingSum", apart := false, narrowed := true }
def FnClearingSumUptoSaid : Prop := fnClearingSumUptoRow.holds Try.pinned (OpenSpec.upto fnClearingSumSpec)

/-- 'laws.FnExactSurvivesReauthentication', WHERE WHAT IT READS IS OF BULK AT MOST 1048576: true; the input reads as it did. -/
def fnExactSurvivesReauthenticationUptoRow : OpenClaim := { program := "ytenhpomjfgbpoaa", sum := "f9238a8f1fe33af1a7793825893b2eda9e36c9988237f6a77c052b252ab4f331", func := "loop.example/g00509/laws.FnExactSurvivesReauthentication", spec := "fnExactSurvivesReauthentication", apart := false, narrowed := true }
def FnExactSurvivesReauthenticationUptoSaid : Prop := fnExactSurvivesReauthenticationUptoRow.holds Try.pinned (OpenSpec.upto fnExactSurvivesReauthenticationSpec)

/-- 'laws.FnExactNetPayments', WHERE WHAT IT READS IS OF BULK AT MOST 1048576: true; the input reads as it did. -/
def fnExactNetPaymentsUptoRow : OpenClaim := { program := "ytenhpomjfgbpoaa", sum := "f9238a8f1fe33af1a7793825893b2eda9e36c9988237f6a77c052b252ab4f331", func := "loop.example/g00509/laws.FnExactNetPayments", spec := "fnExactNetPayments", apart := false, narrowed := true }
def FnExactNetPaymentsUptoSaid : Prop := fnExactNetPaymentsUptoRow.holds Try.pinned (OpenSpec.upto fnExactNetPaymentsSpec)

/-- 'laws.FnExactFindBook', WHERE WHAT IT READS IS OF BULK AT MOST 1048576: true; the input reads as it did. -/
def fnExactFindBookUptoRow : OpenClaim := { program := "ytenhpomjfgbpoaa", sum := "f9238a8f1fe33af1a7793825893b2eda9e36c9988237f6a77c052b252ab4f331", func := "loop.example/g00509/laws.FnExactFindBook", spec := "fnExactFindBook", apart := false, narrowed := true }
def FnExactFindBookUptoSaid : Prop := fnExactFindBookUptoRow.holds Try.pinned (OpenSpec.upto fnExactFindBookSpec)

/-- 'laws.FnExactExposes', WHERE WHAT IT READS IS OF BULK AT MOST 1048576: true; the input reads as it did. -/
def fnExactExposesUptoRow : OpenClaim := { program := "ytenhpomjfgbpoaa", sum := "f9238a8f1fe33af1a7793825893b2eda9e36c9988237f6a77c052b252ab4f331", func := "loop.example/g00509/laws.FnExactExposes", spec := "fnExactExposes", apart := false, narrowed := true }
def FnExactExposesUptoSaid : Prop := fnExactExposesUptoRow.holds Try.pinned (OpenSpec.upto fnExactExposesSpec)

end Rows
end Go.Proofs.Ytenhpomjfgbpoaa
