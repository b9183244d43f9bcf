/-
  Own text: a part of the abstract machine for this seat (Dag). No statement is proved here.
-/
import Derived.Test.YtmlpfnppnjfcaaaDoorJl
set_option linter.unusedVariables false
namespace Go.AM
open Go.Proofs
attribute [local irreducible] AWN NS AWO AWR AWC DR Weak iterQ
set_option maxRecDepth 100000
set_option maxHeartbeats 4000000

end Go.AM
