/- Plain laws of the statements' own helpers: they count bulk, copy, compare, mark; printed by a program of ours. Conditions: each law's own premises. -/
import Derived.Test.YtjokjcdckcpijaaGreatDoorXALw
namespace Go.Vm
open Go Go.Sx
set_option linter.unusedSimpArgs false
set_option linter.unusedVariables false
end Go.Vm
