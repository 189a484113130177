/- Functions of the library, by the contracts of the shelf. Conditions: the arguments read as they are given. -/
import Derived.Test.YtjokjcdckcpijaaDoorATs
import Derived.Test.YtjokjcdckcpijaaDoorAM0
import Derived.Test.YtjokjcdckcpijaaDoorALc
import Derived.Test.YtjokjcdckcpijaaDoorAShelf
namespace Go.Sx
open Go Go.Proofs Go.Vm Rp Go.RowKit
set_option linter.unusedVariables false
set_option linter.unusedSimpArgs false
instance :Ia:=⟨fun h=>by
 obtain⟨c,rfl⟩: ∃ c,_=[c]:=⟨_,h.1⟩
 rw[Rd.int h]⟩
instance :Sa:=⟨rfl,⟨fun h=>⟨h.1,h.2.1⟩,fun h=>⟨h.1,h.2,trivial⟩⟩,fun h=>h.1⟩
theorem p22 {W:CW}{K:List Nat}{x0:Str}{x1:Str}{x2:Int}{k0:Nat}{r:(List Str)}(h99:Gk 2 0 1 W K)(hm:Vm.strings_SplitN x0 x1 x2=some r):zaq Tryd.prog 22 [vS x0,vS x1,vI x2].toArray W.w (Res W [] fun W' v=> ∃ (u0:Value),v=u0/\Ow W' k0 [] [u0] r):=by
 unfold Vm.strings_SplitN at hm
 exact zjS (fun s sep n m w a b c d e=>Tryd.strings_SplitN s sep n m w a b c d e) h99.gl hm
theorem p25 {W:CW}{K:List Nat}{x0:Str}{x1:Str}{k0:Nat}{r:(List Str)}(h99:Gk 2 0 1 W K)(hm:Vm.strings_Split x0 x1=some r):zaq Tryd.prog 25 [vS x0,vS x1].toArray W.w (Res W [] fun W' v=> ∃ (u0:Value),v=u0/\Ow W' k0 [] [u0] r):=by
 unfold Vm.strings_Split at hm
 exact zll Tryd.strings_Split h99.gl hm
theorem p26 {W:CW}{K:List Nat}{x0:Str}{r:Int×Unit}(h99:Gk 2 0 1 W K)(hm:Vm.strconv_Atoi x0=some r):zaq Tryd.prog 26 [vS x0].toArray W.w (Res W [] fun W' v=> ∃ (u1:Value),v = .tuple [vI r.1,u1].toArray):=by
 unfold Vm.strconv_Atoi at hm
 exact zmi Tryd.strconv_Atoi_ok Tryd.strconv_Atoi_syntax Tryd.strconv_Atoi_range h99 hm
theorem p39 {W:CW}{K:List Nat}{x0:List Str}{v0_:Value}{x1:Str}{r:Str}(h0:Rd W K [v0_] x0)(hm:Vm.strings_Join x0 x1=some r):zaq Tryd.prog 39 [v0_,vS x1].toArray W.w (Res W [] fun W' v=>v=vS r):=by
 unfold Vm.strings_Join at hm
 exact zmg Tryd.strings_Join Tryd.strings_Join_none h0 hm
theorem p38 {W:CW}{K:List Nat}{x0:Str}{x1:Str}{r:Bool}(h99:Gk 2 0 1 W K)(hm:Vm.strings_Contains x0 x1=some r):zaq Tryd.prog 38 [vS x0,vS x1].toArray W.w (Res W [] fun W' v=>v=vB r):=by
 unfold Vm.strings_Contains at hm
 exact zik Tryd.strings_Contains h99.gl hm
theorem p52 {W:CW}{x0:Int}{r:Str}(hm:Vm.strconv_Itoa x0=some r):zaq Tryd.prog 52 [vI x0].toArray W.w (Res W [] fun W' v=>v=vS r):=by
 unfold Vm.strconv_Itoa at hm
 exact zmh Tryd.strconv_Itoa_small hm
end Go.Sx
