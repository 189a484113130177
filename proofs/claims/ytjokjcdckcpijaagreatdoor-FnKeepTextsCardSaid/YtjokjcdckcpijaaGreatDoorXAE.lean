/- Functions of the library, by the contracts of the shelf. Conditions: the arguments read as they are given. -/
import Derived.Test.YtjokjcdckcpijaaGreatDoorXATs
import Derived.Test.YtjokjcdckcpijaaGreatDoorXAM0
import Derived.Test.YtjokjcdckcpijaaGreatDoorXALc
import Derived.Test.YtjokjcdckcpijaaGreatDoorXAShelf
namespace Go.Sx
open Go Go.Proofs Go.Vm Rp Go.RowKit
set_option linter.unusedVariables false
set_option linter.unusedSimpArgs false
instance :Ia:=⟨fun h=>by
 obtain⟨c,rfl⟩: ∃ c,_=[c]:=⟨_,h.1⟩
 rw[Rd.int h]⟩
instance :Sa:=⟨rfl,⟨fun h=>⟨h.1,h.2.1⟩,fun h=>⟨h.1,h.2,trivial⟩⟩,fun h=>h.1⟩
theorem p52 {W:CW}{K:List Nat}{x0:Str}{x1:Str}{k0:Nat}{r:(List Str)}(h99:Gl 0 W K)(hm:Vm.strings_Split x0 x1=some r):zap Tryz.prog 52 [vS x0,vS x1].toArray W.w (Res W [] fun W' v=> ∃ (u0:Value),v=u0/\Ow W' k0 [] [u0] r):=by
 unfold Vm.strings_Split at hm
 exact zpy Tryz.strings_Split h99 hm
theorem p53 {W:CW}{x0:Str}{x1:Str}{r:Bool}(hm:Vm.strings_HasPrefix x0 x1=some r):zap Tryz.prog 53 [vS x0,vS x1].toArray W.w (Res W [] fun W' v=>v=vB r):=by
 unfold Vm.strings_HasPrefix at hm
 exact zol Tryz.strings_HasPrefix hm
end Go.Sx
