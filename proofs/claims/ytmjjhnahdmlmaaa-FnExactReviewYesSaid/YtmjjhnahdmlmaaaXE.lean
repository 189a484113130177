/- Functions of the library, by the contracts of the shelf. Conditions: the arguments read as they are given. -/
import Derived.Test.YtmjjhnahdmlmaaaXTs
import Derived.Test.YtmjjhnahdmlmaaaXMd
import Derived.Test.YtmjjhnahdmlmaaaXSs
import Derived.Test.YtmjjhnahdmlmaaaShelf
namespace Go.Sx
open Go Go.Proofs Go.Vm Rp
set_option linter.unusedVariables false

instance : Sa := ⟨rfl, ⟨fun h => ⟨h.1, h.2.1⟩, fun h => ⟨h.1, h.2, trivial⟩⟩⟩



theorem p23 {W : CW} {K : List Nat} {x0 : List Str} {v0_ : Value} {c0 : Nat} {r : (List Str)} (h0 : Ow W c0 [] [v0_] x0) (hJ : okJ K [c0] = true) (hm : Vm.slices_Sort_string_string x0 = some r) : CallR Try.prog 23 [v0_].toArray W.w (Res W [c0] fun W' v => v = .tuple #[] ∧ Ow W' c0 [] [v0_] r) := by
  unfold Vm.slices_Sort_string_string at hm
  exact sort_call Try.slices_Sort_string Try.slices_Sort_string_none h0 hm



theorem p24 {W : CW} {K : List Nat} {x0 : List Str} {v0_ : Value} {k0 : Nat} {c0 : Nat} {r : (List Str)} (h0 : Ow W c0 [] [v0_] x0) (hJ : okJ K [c0] = true) (hm : Vm.slices_Compact_string_string x0 = some r) : CallR Try.prog 24 [v0_].toArray W.w (Res W [c0] fun W' v => ∃ (u0 : Value), v = u0 ∧ Ow W' k0 [] [u0] r) := by
  unfold Vm.slices_Compact_string_string at hm
  exact compact_call Try.slices_Compact_string Try.slices_Compact_string_empty h0 hm

end Go.Sx
