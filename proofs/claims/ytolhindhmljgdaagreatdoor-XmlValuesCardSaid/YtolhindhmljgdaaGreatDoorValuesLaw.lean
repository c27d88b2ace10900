/-
  Texts of a proof. Conditions: none.
-/
import Derived.Test.YtolhindhmljgdaaGreatDoorVCtx
import Derived.Test.YtolhindhmljgdaaGreatDoorValuesPlain
set_option linter.unusedVariables false
set_option linter.unusedSimpArgs false
set_option linter.unnecessarySimpa false
set_option linter.unusedSectionVars false
namespace Go.Eng
open Go
theorem values_true (v : List UInt8) (h : v.length ≤ 9223372036854775807) : callW ctx 7 [.str v] [] = some (.bool true, []) := values_W codes e113 e61 e35 e42 known_any2 v h
end Go.Eng

