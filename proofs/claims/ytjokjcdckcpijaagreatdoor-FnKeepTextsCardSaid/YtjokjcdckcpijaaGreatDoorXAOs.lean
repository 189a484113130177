/- What the statements say of the arguments, as readings: each type of the seat. Conditions: none. -/
import Derived.Test.YtjokjcdckcpijaaGreatDoorXATs
import Derived.Test.YtjokjcdckcpijaaGreatDoorXALw
import Derived.Test.YtjokjcdckcpijaaGreatDoorXAOp
namespace Go.Sx
open Go Go.Proofs Go.Vm Rp
instance :Opn Tryz.prog 2 Int:=⟨fun h=>by
 obtain⟨n,rfl,_,hw⟩:=DataW.trod_int Tryz.underlying2 h
 exact⟨n,⟨rfl,trivial⟩,zqt hw⟩⟩
instance :Opn Tryz.prog 3 Int:=⟨fun h=>by
 obtain⟨n,rfl,_,hw⟩:=DataW.trod_int Tryz.underlying3 h
 exact⟨n,⟨rfl,trivial⟩,zqt hw⟩⟩
instance :Opn Tryz.prog 4 Bool:=⟨fun h=>by
 obtain⟨b,rfl,_⟩:=DataW.trod_bool Tryz.underlying4 h
 exact⟨b,⟨rfl,trivial⟩,trivial⟩⟩
instance :Opn Tryz.prog 5 Byte:=⟨fun h=>by
 obtain⟨n,rfl,_,hw⟩:=DataW.trod_int Tryz.underlying5 h
 obtain⟨b,rfl⟩:=zsV hw
 exact⟨b,⟨rfl,trivial⟩,trivial⟩⟩
instance :Opn Tryz.prog 9 Str:=⟨fun h=>by
 obtain⟨s,rfl,_,hw⟩:=DataW.trod_string Tryz.underlying9 h
 exact⟨s.data.toList,⟨rfl,trivial⟩,zsU hw⟩⟩
instance :Opn Tryz.prog 22 (List Byte):=zep (e:=5) (s:=1) (by kernel_rfl) rfl rfl
instance :Opn Tryz.prog 37 (List Int):=zep (e:=3) (s:=1) (by kernel_rfl) rfl rfl
instance :Opn Tryz.prog 33 (List Str):=zep (e:=9) (s:=1) (by kernel_rfl) rfl rfl
instance :Opn Tryz.prog 42 File:=⟨fun {H enc w base spare held fuel cs x} h=>by
 have hl:=zhs Tryz.underlying42 h (n:=2) (by kernel_rfl)
 match cs,hl,h with
 | [c0,c1],_,h=>
  obtain⟨m0,y0,h0⟩:=zcn Tryz.underlying42 h (i:=0) rfl (by kernel_rfl) rfl rfl
  obtain⟨a0,r0,b0⟩:=Opn.opn (P:=Tryz.prog) (t:=9) (α:=Str) h0
  obtain⟨m1,y1,h1⟩:=zcn Tryz.underlying42 h (i:=1) rfl (by kernel_rfl) rfl rfl
  obtain⟨a1,r1,b1⟩:=Opn.opn (P:=Tryz.prog) (t:=33) (α:=List Str) h1
  exact⟨⟨a0,a1⟩,(⟨[c0],[c1],rfl,r0,r1⟩:rd (α:=Str×(List Str)) _ _ _ (a0,a1)),b0,b1⟩⟩
instance :Opn Tryz.prog 38 (List File):=zep (e:=42) (s:=2) (by kernel_rfl) rfl rfl
instance :Opn Tryz.prog 40 Commit:=⟨fun {H enc w base spare held fuel cs x} h=>by
 have hl:=zhs Tryz.underlying40 h (n:=3) (by kernel_rfl)
 match cs,hl,h with
 | [c0,c1,c2],_,h=>
  obtain⟨m0,y0,h0⟩:=zcn Tryz.underlying40 h (i:=0) rfl (by kernel_rfl) rfl rfl
  obtain⟨a0,r0,b0⟩:=Opn.opn (P:=Tryz.prog) (t:=37) (α:=List Int) h0
  obtain⟨m1,y1,h1⟩:=zcn Tryz.underlying40 h (i:=1) rfl (by kernel_rfl) rfl rfl
  obtain⟨a1,r1,b1⟩:=Opn.opn (P:=Tryz.prog) (t:=9) (α:=Str) h1
  obtain⟨m2,y2,h2⟩:=zcn Tryz.underlying40 h (i:=2) rfl (by kernel_rfl) rfl rfl
  obtain⟨a2,r2,b2⟩:=Opn.opn (P:=Tryz.prog) (t:=38) (α:=List File) h2
  exact⟨⟨a0,a1,a2⟩,(⟨[c0],[c1,c2],rfl,r0,⟨[c1],[c2],rfl,r1,r2⟩⟩:rd (α:=(List Int)×Str×(List File)) _ _ _ (a0,a1,a2)),b0,b1,b2⟩⟩
instance :Opn Tryz.prog 23 (List Commit):=zep (e:=40) (s:=3) (by kernel_rfl) rfl rfl
instance :Opn Tryz.prog 60 Head:=⟨fun {H enc w base spare held fuel cs x} h=>by
 have hl:=zhs Tryz.underlying60 h (n:=2) (by kernel_rfl)
 match cs,hl,h with
 | [c0,c1],_,h=>
  obtain⟨m0,y0,h0⟩:=zcn Tryz.underlying60 h (i:=0) rfl (by kernel_rfl) rfl rfl
  obtain⟨a0,r0,b0⟩:=Opn.opn (P:=Tryz.prog) (t:=9) (α:=Str) h0
  obtain⟨m1,y1,h1⟩:=zcn Tryz.underlying60 h (i:=1) rfl (by kernel_rfl) rfl rfl
  obtain⟨a1,r1,b1⟩:=Opn.opn (P:=Tryz.prog) (t:=3) (α:=Int) h1
  exact⟨⟨a0,a1⟩,(⟨[c0],[c1],rfl,r0,r1⟩:rd (α:=Str×Int) _ _ _ (a0,a1)),b0,b1⟩⟩
instance :Opn Tryz.prog 24 (List Head):=zep (e:=60) (s:=2) (by kernel_rfl) rfl rfl
instance :Opn Tryz.prog 26 Repo:=⟨fun {H enc w base spare held fuel cs x} h=>by
 have hl:=zhs Tryz.underlying26 h (n:=2) (by kernel_rfl)
 match cs,hl,h with
 | [c0,c1],_,h=>
  obtain⟨m0,y0,h0⟩:=zcn Tryz.underlying26 h (i:=0) rfl (by kernel_rfl) rfl rfl
  obtain⟨a0,r0,b0⟩:=Opn.opn (P:=Tryz.prog) (t:=23) (α:=List Commit) h0
  obtain⟨m1,y1,h1⟩:=zcn Tryz.underlying26 h (i:=1) rfl (by kernel_rfl) rfl rfl
  obtain⟨a1,r1,b1⟩:=Opn.opn (P:=Tryz.prog) (t:=24) (α:=List Head) h1
  exact⟨⟨a0,a1⟩,(⟨[c0],[c1],rfl,r0,r1⟩:rd (α:=(List Commit)×(List Head)) _ _ _ (a0,a1)),b0,b1⟩⟩
instance :Opn Tryz.prog 28 (List (List Str)):=zep (e:=33) (s:=1) (by kernel_rfl) rfl rfl
instance :Opn Tryz.prog 69 Delta:=⟨fun {H enc w base spare held fuel cs x} h=>by
 have hl:=zhs Tryz.underlying69 h (n:=3) (by kernel_rfl)
 match cs,hl,h with
 | [c0,c1,c2],_,h=>
  obtain⟨m0,y0,h0⟩:=zcn Tryz.underlying69 h (i:=0) rfl (by kernel_rfl) rfl rfl
  obtain⟨a0,r0,b0⟩:=Opn.opn (P:=Tryz.prog) (t:=3) (α:=Int) h0
  obtain⟨m1,y1,h1⟩:=zcn Tryz.underlying69 h (i:=1) rfl (by kernel_rfl) rfl rfl
  obtain⟨a1,r1,b1⟩:=Opn.opn (P:=Tryz.prog) (t:=3) (α:=Int) h1
  obtain⟨m2,y2,h2⟩:=zcn Tryz.underlying69 h (i:=2) rfl (by kernel_rfl) rfl rfl
  obtain⟨a2,r2,b2⟩:=Opn.opn (P:=Tryz.prog) (t:=33) (α:=List Str) h2
  exact⟨⟨a0,a1,a2⟩,(⟨[c0],[c1,c2],rfl,r0,⟨[c1],[c2],rfl,r1,r2⟩⟩:rd (α:=Int×Int×(List Str)) _ _ _ (a0,a1,a2)),b0,b1,b2⟩⟩
instance :Opn Tryz.prog 51 (List Delta):=zep (e:=69) (s:=3) (by kernel_rfl) rfl rfl
instance :Opn Tryz.prog 54 Packed:=⟨fun {H enc w base spare held fuel cs x} h=>by
 have hl:=zhs Tryz.underlying54 h (n:=2) (by kernel_rfl)
 match cs,hl,h with
 | [c0,c1],_,h=>
  obtain⟨m0,y0,h0⟩:=zcn Tryz.underlying54 h (i:=0) rfl (by kernel_rfl) rfl rfl
  obtain⟨a0,r0,b0⟩:=Opn.opn (P:=Tryz.prog) (t:=3) (α:=Int) h0
  obtain⟨m1,y1,h1⟩:=zcn Tryz.underlying54 h (i:=1) rfl (by kernel_rfl) rfl rfl
  obtain⟨a1,r1,b1⟩:=Opn.opn (P:=Tryz.prog) (t:=51) (α:=List Delta) h1
  exact⟨⟨a0,a1⟩,(⟨[c0],[c1],rfl,r0,r1⟩:rd (α:=Int×(List Delta)) _ _ _ (a0,a1)),b0,b1⟩⟩
instance :Opn Tryz.prog 31 (List Packed):=zep (e:=54) (s:=2) (by kernel_rfl) rfl rfl
instance :Opn Tryz.prog 82 Vm.Op:=⟨fun {H enc w base spare held fuel cs x} h=>by
 have hl:=zhs Tryz.underlying82 h (n:=7) (by kernel_rfl)
 match cs,hl,h with
 | [c0,c1,c2,c3,c4,c5,c6],_,h=>
  obtain⟨m0,y0,h0⟩:=zcn Tryz.underlying82 h (i:=0) rfl (by kernel_rfl) rfl rfl
  obtain⟨a0,r0,b0⟩:=Opn.opn (P:=Tryz.prog) (t:=3) (α:=Int) h0
  obtain⟨m1,y1,h1⟩:=zcn Tryz.underlying82 h (i:=1) rfl (by kernel_rfl) rfl rfl
  obtain⟨a1,r1,b1⟩:=Opn.opn (P:=Tryz.prog) (t:=9) (α:=Str) h1
  obtain⟨m2,y2,h2⟩:=zcn Tryz.underlying82 h (i:=2) rfl (by kernel_rfl) rfl rfl
  obtain⟨a2,r2,b2⟩:=Opn.opn (P:=Tryz.prog) (t:=9) (α:=Str) h2
  obtain⟨m3,y3,h3⟩:=zcn Tryz.underlying82 h (i:=3) rfl (by kernel_rfl) rfl rfl
  obtain⟨a3,r3,b3⟩:=Opn.opn (P:=Tryz.prog) (t:=9) (α:=Str) h3
  obtain⟨m4,y4,h4⟩:=zcn Tryz.underlying82 h (i:=4) rfl (by kernel_rfl) rfl rfl
  obtain⟨a4,r4,b4⟩:=Opn.opn (P:=Tryz.prog) (t:=9) (α:=Str) h4
  obtain⟨m5,y5,h5⟩:=zcn Tryz.underlying82 h (i:=5) rfl (by kernel_rfl) rfl rfl
  obtain⟨a5,r5,b5⟩:=Opn.opn (P:=Tryz.prog) (t:=3) (α:=Int) h5
  obtain⟨m6,y6,h6⟩:=zcn Tryz.underlying82 h (i:=6) rfl (by kernel_rfl) rfl rfl
  obtain⟨a6,r6,b6⟩:=Opn.opn (P:=Tryz.prog) (t:=33) (α:=List Str) h6
  exact⟨⟨a0,a1,a2,a3,a4,a5,a6⟩,(⟨[c0],[c1,c2,c3,c4,c5,c6],rfl,r0,⟨[c1],[c2,c3,c4,c5,c6],rfl,r1,⟨[c2],[c3,c4,c5,c6],rfl,r2,⟨[c3],[c4,c5,c6],rfl,r3,⟨[c4],[c5,c6],rfl,r4,⟨[c5],[c6],rfl,r5,r6⟩⟩⟩⟩⟩⟩:rd (α:=Int×Str×Str×Str×Str×Int×(List Str)) _ _ _ (a0,a1,a2,a3,a4,a5,a6)),b0,b1,b2,b3,b4,b5,b6⟩⟩
instance :Opn Tryz.prog 73 (List Vm.Op):=zep (e:=82) (s:=7) (by kernel_rfl) rfl rfl
instance :Opn Tryz.prog 125 Clash:=⟨fun {H enc w base spare held fuel cs x} h=>by
 have hl:=zhs Tryz.underlying125 h (n:=2) (by kernel_rfl)
 match cs,hl,h with
 | [c0,c1],_,h=>
  obtain⟨m0,y0,h0⟩:=zcn Tryz.underlying125 h (i:=0) rfl (by kernel_rfl) rfl rfl
  obtain⟨a0,r0,b0⟩:=Opn.opn (P:=Tryz.prog) (t:=9) (α:=Str) h0
  obtain⟨m1,y1,h1⟩:=zcn Tryz.underlying125 h (i:=1) rfl (by kernel_rfl) rfl rfl
  obtain⟨a1,r1,b1⟩:=Opn.opn (P:=Tryz.prog) (t:=3) (α:=Int) h1
  exact⟨⟨a0,a1⟩,(⟨[c0],[c1],rfl,r0,r1⟩:rd (α:=Str×Int) _ _ _ (a0,a1)),b0,b1⟩⟩
instance :Opn Tryz.prog 115 (List Clash):=zep (e:=125) (s:=2) (by kernel_rfl) rfl rfl
instance :Opn Tryz.prog 123 (List Bool):=zep (e:=4) (s:=1) (by kernel_rfl) rfl rfl
instance :Opn Tryz.prog 145 Part:=⟨fun {H enc w base spare held fuel cs x} h=>by
 have hl:=zhs Tryz.underlying145 h (n:=5) (by kernel_rfl)
 match cs,hl,h with
 | [c0,c1,c2,c3,c4],_,h=>
  obtain⟨m0,y0,h0⟩:=zcn Tryz.underlying145 h (i:=0) rfl (by kernel_rfl) rfl rfl
  obtain⟨a0,r0,b0⟩:=Opn.opn (P:=Tryz.prog) (t:=4) (α:=Bool) h0
  obtain⟨m1,y1,h1⟩:=zcn Tryz.underlying145 h (i:=1) rfl (by kernel_rfl) rfl rfl
  obtain⟨a1,r1,b1⟩:=Opn.opn (P:=Tryz.prog) (t:=33) (α:=List Str) h1
  obtain⟨m2,y2,h2⟩:=zcn Tryz.underlying145 h (i:=2) rfl (by kernel_rfl) rfl rfl
  obtain⟨a2,r2,b2⟩:=Opn.opn (P:=Tryz.prog) (t:=33) (α:=List Str) h2
  obtain⟨m3,y3,h3⟩:=zcn Tryz.underlying145 h (i:=3) rfl (by kernel_rfl) rfl rfl
  obtain⟨a3,r3,b3⟩:=Opn.opn (P:=Tryz.prog) (t:=33) (α:=List Str) h3
  obtain⟨m4,y4,h4⟩:=zcn Tryz.underlying145 h (i:=4) rfl (by kernel_rfl) rfl rfl
  obtain⟨a4,r4,b4⟩:=Opn.opn (P:=Tryz.prog) (t:=33) (α:=List Str) h4
  exact⟨⟨a0,a1,a2,a3,a4⟩,(⟨[c0],[c1,c2,c3,c4],rfl,r0,⟨[c1],[c2,c3,c4],rfl,r1,⟨[c2],[c3,c4],rfl,r2,⟨[c3],[c4],rfl,r3,r4⟩⟩⟩⟩:rd (α:=Bool×(List Str)×(List Str)×(List Str)×(List Str)) _ _ _ (a0,a1,a2,a3,a4)),b0,b1,b2,b3,b4⟩⟩
instance :Opn Tryz.prog 142 (List Part):=zep (e:=145) (s:=5) (by kernel_rfl) rfl rfl
instance :Opn Tryz.prog 149 (List (List Int)):=zep (e:=37) (s:=1) (by kernel_rfl) rfl rfl
end Go.Sx
