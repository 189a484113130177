/- Functions of the library, by the contracts of the shelf. Conditions: the arguments read as they are given. -/
import Derived.Test.YtifbmanldeabeaaGreatDoorETs
import Derived.Test.YtifbmanldeabeaaGreatDoorEM0
import Derived.Test.YtifbmanldeabeaaGreatDoorELc
import Derived.Test.YtifbmanldeabeaaGreatDoorESab
import Derived.Test.YtifbmanldeabeaaGreatDoorEShelf
namespace Go.Sx
open Go Go.Proofs Go.Vm Rp Go.RowKit
set_option linter.unusedVariables false
set_option linter.unusedSimpArgs false
instance :Ia:=⟨fun h=>by
 obtain⟨c,rfl⟩: ∃ c,_=[c]:=⟨_,h.1⟩
 rw[Rd.int h]⟩
instance :Sa:=⟨rfl,⟨fun h=>⟨h.1,h.2.1⟩,fun h=>⟨h.1,h.2,trivial⟩⟩,fun h=>h.1⟩
theorem p160 {W:CW}{K:List Nat}{x0:Str}{x1:Str}{k0:Nat}{r:(List Str)}(h99:Gl 0 W K)(hm:Vm.strings_Split x0 x1=some r):zak Tryz.prog 160 [vS x0,vS x1].toArray W.w (Res W [] fun W' v=> ∃ (u0:Value),v=u0/\Ow W' k0 [] [u0] r):=by
 unfold Vm.strings_Split at hm
 exact zpR Tryz.strings_Split h99 hm
theorem p163 {W:CW}{x0:Str}{x1:Str}{r:Bool}(hm:Vm.strings_HasPrefix x0 x1=some r):zak Tryz.prog 163 [vS x0,vS x1].toArray W.w (Res W [] fun W' v=>v=vB r):=by
 unfold Vm.strings_HasPrefix at hm
 exact zoK Tryz.strings_HasPrefix hm
theorem p58 {W:CW}{K:List Nat}{k0 c:Nat}{v:Value}{m:List (Str×Int)}(h:Ow (α:=Mp) W c [] [v] m):zak Tryz.prog 58 [v].toArray W.w (Res W [] fun W' u=> ∃ g:Nat,u = .func (.func 114) #[] [ptr (bx g)].toArray/\Bx W' k0 g [v]):=
 zrW (M:=94) (fun mb w=>Tryz.maps_Keys_58 mb w) h
theorem p57 {W:CW}{K:List Nat}{k0 c cb g:Nat}{v:Value}{m:List (Str×Int)}{r:List Str}(hB:Bx W cb g [v])(h:Ow (α:=Mp) W c [] [v] m)(hm:znK m=some r):zak Tryz.prog 57 [.func (.func 114) #[] [ptr (bx g)].toArray].toArray W.w (Res W [] fun W' u=> ∃ u0:Value,u=u0/\Ow W' k0 [] [u0] r):=
 zpa (P:=Tryz.prog) (k:=9) (e:=3) (fun g b nn D0 R w=>Tryz.sorted_keys_57_58 g b nn D0 R w) Tryz.underlying9 Tryz.underlying3 rfl hB h hm
end Go.Sx
