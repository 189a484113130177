/- Functions of the library, by the contracts of the shelf. Conditions: the arguments read as they are given. -/
import Derived.Test.YtmjjhnahdmlmaaaDoorXTs
import Derived.Test.YtmjjhnahdmlmaaaDoorXMd
import Derived.Test.YtmjjhnahdmlmaaaDoorXSt
import Derived.Test.YtmjjhnahdmlmaaaDoorShelf
namespace Go.Sx
open Go Go.Proofs Go.Vm Rp
set_option linter.unusedVariables false

instance : Ia := ⟨fun h => by
  obtain ⟨c, rfl⟩ : ∃ c, _ = [c] := ⟨_, h.1⟩
  rw [Rd.int h]⟩
instance : Sa := ⟨rfl, ⟨fun h => ⟨h.1, h.2.1⟩, fun h => ⟨h.1, h.2, trivial⟩⟩, fun h => h.1⟩



theorem p99 {W : CW} {K : List Nat} {x0 : Str} {x1 : Str} {k0 : Nat} {r : (List Str)} (h99 : Gl 2 W K) (hm : Vm.strings_Split x0 x1 = some r) : CallR Tryd.prog 99 [vS x0, vS x1].toArray W.w (Res W [] fun W' v => ∃ (u0 : Value), v = u0 ∧ Ow W' k0 [] [u0] r) := by
  unfold Vm.strings_Split at hm
  exact split_call Tryd.strings_Split h99 hm



theorem p110 {W : CW} {K : List Nat} {x0 : List Str} {v0_ : Value} {x1 : Str} {r : Str} (h0 : Rd W K [v0_] x0) (hm : Vm.strings_Join x0 x1 = some r) : CallR Tryd.prog 110 [v0_, vS x1].toArray W.w (Res W [] fun W' v => v = vS r) := by
  unfold Vm.strings_Join at hm
  exact join_call Tryd.strings_Join Tryd.strings_Join_none h0 hm



theorem p109 {W : CW} {K : List Nat} {x0 : Str} {x1 : Str} {r : Bool} (h99 : Gl 2 W K) (hm : Vm.strings_Contains x0 x1 = some r) : CallR Tryd.prog 109 [vS x0, vS x1].toArray W.w (Res W [] fun W' v => v = vB r) := by
  unfold Vm.strings_Contains at hm
  exact contains_call Tryd.strings_Contains h99 hm



theorem p112 {W : CW} {K : List Nat} {x0 : Int} {r : Str}  (hm : Vm.strconv_Itoa x0 = some r) : CallR Tryd.prog 112 [vI x0].toArray W.w (Res W [] fun W' v => v = vS r) := by
  unfold Vm.strconv_Itoa at hm
  exact itoa_call Tryd.strconv_Itoa_small hm

end Go.Sx
