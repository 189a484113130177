/- The number that strconv.Atoi hands back, as the shelf tells it. Conditions: none. -/
import Derived.Lib.AtoiAll
namespace Go.Sx
def zm8 (s:List UInt8):Int:=match Go.Lib.atoiAll s with
 | .ok v=>v
 | .range=>Go.Lib.atoiSat s
 |_=>0
end Go.Sx
