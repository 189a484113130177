/- What the statements say of the arguments, as readings: each type of the seat. Conditions: none. -/
import Derived.Test.YtjokjcdckcpijaaDoorBTs
import Derived.Test.YtjokjcdckcpijaaDoorBLw
import Derived.Test.YtjokjcdckcpijaaDoorBOp
namespace Go.Sx
open Go Go.Proofs Go.Vm Rp
instance :Opn Tryd.prog 2 Int:=⟨fun h=>by
 obtain⟨n,rfl,_,hw⟩:=DataW.trod_int Tryd.underlying2 h
 exact⟨n,⟨rfl,trivial⟩,zkO hw⟩⟩
instance :Opn Tryd.prog 3 Int:=⟨fun h=>by
 obtain⟨n,rfl,_,hw⟩:=DataW.trod_int Tryd.underlying3 h
 exact⟨n,⟨rfl,trivial⟩,zkO hw⟩⟩
instance :Opn Tryd.prog 4 Bool:=⟨fun h=>by
 obtain⟨b,rfl,_⟩:=DataW.trod_bool Tryd.underlying4 h
 exact⟨b,⟨rfl,trivial⟩,trivial⟩⟩
instance :Opn Tryd.prog 5 zcM:=⟨fun h=>by
 obtain⟨n,rfl,_,hw⟩:=DataW.trod_int Tryd.underlying5 h
 obtain⟨b,rfl⟩:=znP hw
 exact⟨b,⟨rfl,trivial⟩,trivial⟩⟩
instance :Opn Tryd.prog 9 Str:=⟨fun h=>by
 obtain⟨s,rfl,_,hw⟩:=DataW.trod_string Tryd.underlying9 h
 exact⟨s.data.toList,⟨rfl,trivial⟩,znO hw⟩⟩
instance :Opn Tryd.prog 22 (List zcM):=zgT (e:=5) (s:=1) (by kernel_rfl) rfl rfl
instance :Opn Tryd.prog 24 (List Str):=zgT (e:=9) (s:=1) (by kernel_rfl) rfl rfl
instance :Opn Tryd.prog 26 Vm.Op:=⟨fun {H enc w base spare held fuel cs x} h=>by
 have hl:=zkN Tryd.underlying26 h (n:=7) (by kernel_rfl)
 match cs,hl,h with
 | [c0,c1,c2,c3,c4,c5,c6],_,h=>
  obtain⟨m0,y0,h0⟩:=zb7 Tryd.underlying26 h (i:=0) rfl (by kernel_rfl) rfl rfl
  obtain⟨a0,r0,b0⟩:=Opn.opn (P:=Tryd.prog) (t:=3) (α:=Int) h0
  obtain⟨m1,y1,h1⟩:=zb7 Tryd.underlying26 h (i:=1) rfl (by kernel_rfl) rfl rfl
  obtain⟨a1,r1,b1⟩:=Opn.opn (P:=Tryd.prog) (t:=9) (α:=Str) h1
  obtain⟨m2,y2,h2⟩:=zb7 Tryd.underlying26 h (i:=2) rfl (by kernel_rfl) rfl rfl
  obtain⟨a2,r2,b2⟩:=Opn.opn (P:=Tryd.prog) (t:=9) (α:=Str) h2
  obtain⟨m3,y3,h3⟩:=zb7 Tryd.underlying26 h (i:=3) rfl (by kernel_rfl) rfl rfl
  obtain⟨a3,r3,b3⟩:=Opn.opn (P:=Tryd.prog) (t:=9) (α:=Str) h3
  obtain⟨m4,y4,h4⟩:=zb7 Tryd.underlying26 h (i:=4) rfl (by kernel_rfl) rfl rfl
  obtain⟨a4,r4,b4⟩:=Opn.opn (P:=Tryd.prog) (t:=9) (α:=Str) h4
  obtain⟨m5,y5,h5⟩:=zb7 Tryd.underlying26 h (i:=5) rfl (by kernel_rfl) rfl rfl
  obtain⟨a5,r5,b5⟩:=Opn.opn (P:=Tryd.prog) (t:=3) (α:=Int) h5
  obtain⟨m6,y6,h6⟩:=zb7 Tryd.underlying26 h (i:=6) rfl (by kernel_rfl) rfl rfl
  obtain⟨a6,r6,b6⟩:=Opn.opn (P:=Tryd.prog) (t:=24) (α:=List Str) h6
  exact⟨⟨a0,a1,a2,a3,a4,a5,a6⟩,(⟨[c0],[c1,c2,c3,c4,c5,c6],rfl,r0,⟨[c1],[c2,c3,c4,c5,c6],rfl,r1,⟨[c2],[c3,c4,c5,c6],rfl,r2,⟨[c3],[c4,c5,c6],rfl,r3,⟨[c4],[c5,c6],rfl,r4,⟨[c5],[c6],rfl,r5,r6⟩⟩⟩⟩⟩⟩:rd (α:=Int×Str×Str×Str×Str×Int×(List Str)) _ _ _ (a0,a1,a2,a3,a4,a5,a6)),b0,b1,b2,b3,b4,b5,b6⟩⟩
instance :Opn Tryd.prog 34 Vm.Op:=⟨fun {H enc w base spare held fuel cs x} h=>by
 have hl:=zkN Tryd.underlying34 h (n:=7) (by kernel_rfl)
 match cs,hl,h with
 | [c0,c1,c2,c3,c4,c5,c6],_,h=>
  obtain⟨m0,y0,h0⟩:=zb7 Tryd.underlying34 h (i:=0) rfl (by kernel_rfl) rfl rfl
  obtain⟨a0,r0,b0⟩:=Opn.opn (P:=Tryd.prog) (t:=3) (α:=Int) h0
  obtain⟨m1,y1,h1⟩:=zb7 Tryd.underlying34 h (i:=1) rfl (by kernel_rfl) rfl rfl
  obtain⟨a1,r1,b1⟩:=Opn.opn (P:=Tryd.prog) (t:=9) (α:=Str) h1
  obtain⟨m2,y2,h2⟩:=zb7 Tryd.underlying34 h (i:=2) rfl (by kernel_rfl) rfl rfl
  obtain⟨a2,r2,b2⟩:=Opn.opn (P:=Tryd.prog) (t:=9) (α:=Str) h2
  obtain⟨m3,y3,h3⟩:=zb7 Tryd.underlying34 h (i:=3) rfl (by kernel_rfl) rfl rfl
  obtain⟨a3,r3,b3⟩:=Opn.opn (P:=Tryd.prog) (t:=9) (α:=Str) h3
  obtain⟨m4,y4,h4⟩:=zb7 Tryd.underlying34 h (i:=4) rfl (by kernel_rfl) rfl rfl
  obtain⟨a4,r4,b4⟩:=Opn.opn (P:=Tryd.prog) (t:=9) (α:=Str) h4
  obtain⟨m5,y5,h5⟩:=zb7 Tryd.underlying34 h (i:=5) rfl (by kernel_rfl) rfl rfl
  obtain⟨a5,r5,b5⟩:=Opn.opn (P:=Tryd.prog) (t:=3) (α:=Int) h5
  obtain⟨m6,y6,h6⟩:=zb7 Tryd.underlying34 h (i:=6) rfl (by kernel_rfl) rfl rfl
  obtain⟨a6,r6,b6⟩:=Opn.opn (P:=Tryd.prog) (t:=24) (α:=List Str) h6
  exact⟨⟨a0,a1,a2,a3,a4,a5,a6⟩,(⟨[c0],[c1,c2,c3,c4,c5,c6],rfl,r0,⟨[c1],[c2,c3,c4,c5,c6],rfl,r1,⟨[c2],[c3,c4,c5,c6],rfl,r2,⟨[c3],[c4,c5,c6],rfl,r3,⟨[c4],[c5,c6],rfl,r4,⟨[c5],[c6],rfl,r5,r6⟩⟩⟩⟩⟩⟩:rd (α:=Int×Str×Str×Str×Str×Int×(List Str)) _ _ _ (a0,a1,a2,a3,a4,a5,a6)),b0,b1,b2,b3,b4,b5,b6⟩⟩
instance :Opn Tryd.prog 71 (List Int):=zgT (e:=3) (s:=1) (by kernel_rfl) rfl rfl
end Go.Sx
