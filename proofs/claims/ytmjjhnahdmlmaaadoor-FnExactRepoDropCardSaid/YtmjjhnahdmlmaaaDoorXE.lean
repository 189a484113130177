/- Functions of the library, by the contracts of the shelf. Conditions: the arguments read as they are given. -/
import Derived.Test.YtmjjhnahdmlmaaaDoorXTs
import Derived.Test.YtmjjhnahdmlmaaaDoorXMd
import Derived.Test.YtmjjhnahdmlmaaaDoorXLc
import Derived.Test.YtmjjhnahdmlmaaaDoorShelf
namespace Go.Sx
open Go Go.Proofs Go.Vm Rp
set_option linter.unusedVariables false

instance : Ia := ⟨fun h => by
  obtain ⟨c, rfl⟩ : ∃ c, _ = [c] := ⟨_, h.1⟩
  rw [Rd.int h]⟩
instance : Sa := ⟨rfl, ⟨fun h => ⟨h.1, h.2.1⟩, fun h => ⟨h.1, h.2, trivial⟩⟩, fun h => h.1⟩



theorem p99 {W : CW} {K : List Nat} {x0 : Str} {x1 : Str} {k0 : Nat} {r : (List Str)} (h99 : Gl 2 W K) (hm : Vm.strings_Split x0 x1 = some r) : CallR Tryd.prog 99 [vS x0, vS x1].toArray W.w (Res W [] fun W' v => ∃ (u0 : Value), v = u0 ∧ Ow W' k0 [] [u0] r) := by
  unfold Vm.strings_Split at hm
  exact split_call Tryd.strings_Split h99 hm



theorem p142 {W : CW} {K : List Nat} {x0 : Str} {x1 : Str} {r : Bool}  (hm : Vm.strings_HasPrefix x0 x1 = some r) : CallR Tryd.prog 142 [vS x0, vS x1].toArray W.w (Res W [] fun W' v => v = vB r) := by
  unfold Vm.strings_HasPrefix at hm
  exact prefix_call Tryd.strings_HasPrefix hm

end Go.Sx
