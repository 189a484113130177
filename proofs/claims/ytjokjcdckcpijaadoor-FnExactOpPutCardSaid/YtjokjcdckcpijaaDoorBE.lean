/- Functions of the library, by the contracts of the shelf. Conditions: the arguments read as they are given. -/
import Derived.Test.YtjokjcdckcpijaaDoorBTs
import Derived.Test.YtjokjcdckcpijaaDoorBM0
import Derived.Test.YtjokjcdckcpijaaDoorBLc
import Derived.Test.YtjokjcdckcpijaaDoorBShelf
namespace Go.Sx
open Go Go.Proofs Go.Vm Rp Go.RowKit
set_option linter.unusedVariables false
set_option linter.unusedSimpArgs false
instance :Ia:=⟨fun h=>by
 obtain⟨c,rfl⟩: ∃ c,_=[c]:=⟨_,h.1⟩
 rw[Rd.int h]⟩
instance :Sa:=⟨rfl,⟨fun h=>⟨h.1,h.2.1⟩,fun h=>⟨h.1,h.2,trivial⟩⟩,fun h=>h.1⟩
theorem p25 {W:CW}{K:List Nat}{x0:Str}{x1:Str}{k0:Nat}{r:(List Str)}(h99:Gl 2 W K)(hm:Vm.strings_Split x0 x1=some r):zax Tryd.prog 25 [vS x0,vS x1].toArray W.w (Res W [] fun W' v=> ∃ (u0:Value),v=u0/\Ow W' k0 [] [u0] r):=by
 unfold Vm.strings_Split at hm
 exact zjK Tryd.strings_Split h99 hm
theorem p39 {W:CW}{K:List Nat}{x0:List Str}{v0_:Value}{x1:Str}{r:Str}(h0:Rd W K [v0_] x0)(hm:Vm.strings_Join x0 x1=some r):zax Tryd.prog 39 [v0_,vS x1].toArray W.w (Res W [] fun W' v=>v=vS r):=by
 unfold Vm.strings_Join at hm
 exact zkH Tryd.strings_Join Tryd.strings_Join_none h0 hm
theorem p38 {W:CW}{K:List Nat}{x0:Str}{x1:Str}{r:Bool}(h99:Gl 2 W K)(hm:Vm.strings_Contains x0 x1=some r):zax Tryd.prog 38 [vS x0,vS x1].toArray W.w (Res W [] fun W' v=>v=vB r):=by
 unfold Vm.strings_Contains at hm
 exact zgQ Tryd.strings_Contains h99 hm
theorem p52 {W:CW}{x0:Int}{r:Str}(hm:Vm.strconv_Itoa x0=some r):zax Tryd.prog 52 [vI x0].toArray W.w (Res W [] fun W' v=>v=vS r):=by
 unfold Vm.strconv_Itoa at hm
 exact zkI Tryd.strconv_Itoa_small hm
end Go.Sx
