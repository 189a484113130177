/- What the statements say of the arguments, as readings: each type of the seat. Conditions: none. -/
import Derived.Test.YtiahldhbknpmiaaGreatDoorBTs
import Derived.Test.YtiahldhbknpmiaaGreatDoorBLw
import Derived.Test.YtiahldhbknpmiaaGreatDoorBOp
namespace Go.Sx
open Go Go.Proofs Go.Vm Rp
instance :Opn Tryz.prog 2 Int:=⟨fun h=>by
 obtain⟨n,rfl,_,hw⟩:=DataW.trod_int Tryz.underlying2 h
 exact⟨n,⟨rfl,trivial⟩,zss hw⟩⟩
instance :Opn Tryz.prog 3 Int:=⟨fun h=>by
 obtain⟨n,rfl,_,hw⟩:=DataW.trod_int Tryz.underlying3 h
 exact⟨n,⟨rfl,trivial⟩,zss hw⟩⟩
instance :Opn Tryz.prog 4 Bool:=⟨fun h=>by
 obtain⟨b,rfl,_⟩:=DataW.trod_bool Tryz.underlying4 h
 exact⟨b,⟨rfl,trivial⟩,trivial⟩⟩
instance :Opn Tryz.prog 5 Byte:=⟨fun h=>by
 obtain⟨n,rfl,_,hw⟩:=DataW.trod_int Tryz.underlying5 h
 obtain⟨b,rfl⟩:=zwl hw
 exact⟨b,⟨rfl,trivial⟩,trivial⟩⟩
instance :Opn Tryz.prog 9 Str:=⟨fun h=>by
 obtain⟨s,rfl,_,hw⟩:=DataW.trod_string Tryz.underlying9 h
 exact⟨s.data.toList,⟨rfl,trivial⟩,zwk hw⟩⟩
instance :Opn Tryz.prog 66 (List Int):=zjF (e:=3) (s:=1) (by kernel_rfl) rfl rfl
instance :Opn Tryz.prog 40 (List Str):=zjF (e:=9) (s:=1) (by kernel_rfl) rfl rfl
instance :Opn Tryz.prog 219 File:=⟨fun {H enc w base spare held fuel cs x} h=>by
 have hl:=zlz Tryz.underlying219 h (n:=2) (by kernel_rfl)
 match cs,hl,h with
 | [c0,c1],_,h=>
  obtain⟨m0,y0,h0⟩:=zem Tryz.underlying219 h (i:=0) rfl (by kernel_rfl) rfl rfl
  obtain⟨a0,r0,b0⟩:=Opn.opn (P:=Tryz.prog) (t:=9) (α:=Str) h0
  obtain⟨m1,y1,h1⟩:=zem Tryz.underlying219 h (i:=1) rfl (by kernel_rfl) rfl rfl
  obtain⟨a1,r1,b1⟩:=Opn.opn (P:=Tryz.prog) (t:=40) (α:=List Str) h1
  exact⟨⟨a0,a1⟩,(⟨[c0],[c1],rfl,r0,r1⟩:rd (α:=Str×(List Str)) _ _ _ (a0,a1)),b0,b1⟩⟩
instance :Opn Tryz.prog 154 (List File):=zjF (e:=219) (s:=2) (by kernel_rfl) rfl rfl
instance :Opn Tryz.prog 156 Commit:=⟨fun {H enc w base spare held fuel cs x} h=>by
 have hl:=zlz Tryz.underlying156 h (n:=3) (by kernel_rfl)
 match cs,hl,h with
 | [c0,c1,c2],_,h=>
  obtain⟨m0,y0,h0⟩:=zem Tryz.underlying156 h (i:=0) rfl (by kernel_rfl) rfl rfl
  obtain⟨a0,r0,b0⟩:=Opn.opn (P:=Tryz.prog) (t:=66) (α:=List Int) h0
  obtain⟨m1,y1,h1⟩:=zem Tryz.underlying156 h (i:=1) rfl (by kernel_rfl) rfl rfl
  obtain⟨a1,r1,b1⟩:=Opn.opn (P:=Tryz.prog) (t:=9) (α:=Str) h1
  obtain⟨m2,y2,h2⟩:=zem Tryz.underlying156 h (i:=2) rfl (by kernel_rfl) rfl rfl
  obtain⟨a2,r2,b2⟩:=Opn.opn (P:=Tryz.prog) (t:=154) (α:=List File) h2
  exact⟨⟨a0,a1,a2⟩,(⟨[c0],[c1,c2],rfl,r0,⟨[c1],[c2],rfl,r1,r2⟩⟩:rd (α:=(List Int)×Str×(List File)) _ _ _ (a0,a1,a2)),b0,b1,b2⟩⟩
instance :Opn Tryz.prog 22 (List Commit):=zjF (e:=156) (s:=3) (by kernel_rfl) rfl rfl
instance :Opn Tryz.prog 158 Head:=⟨fun {H enc w base spare held fuel cs x} h=>by
 have hl:=zlz Tryz.underlying158 h (n:=2) (by kernel_rfl)
 match cs,hl,h with
 | [c0,c1],_,h=>
  obtain⟨m0,y0,h0⟩:=zem Tryz.underlying158 h (i:=0) rfl (by kernel_rfl) rfl rfl
  obtain⟨a0,r0,b0⟩:=Opn.opn (P:=Tryz.prog) (t:=9) (α:=Str) h0
  obtain⟨m1,y1,h1⟩:=zem Tryz.underlying158 h (i:=1) rfl (by kernel_rfl) rfl rfl
  obtain⟨a1,r1,b1⟩:=Opn.opn (P:=Tryz.prog) (t:=3) (α:=Int) h1
  exact⟨⟨a0,a1⟩,(⟨[c0],[c1],rfl,r0,r1⟩:rd (α:=Str×Int) _ _ _ (a0,a1)),b0,b1⟩⟩
instance :Opn Tryz.prog 23 (List Head):=zjF (e:=158) (s:=2) (by kernel_rfl) rfl rfl
instance :Opn Tryz.prog 25 Repo:=⟨fun {H enc w base spare held fuel cs x} h=>by
 have hl:=zlz Tryz.underlying25 h (n:=2) (by kernel_rfl)
 match cs,hl,h with
 | [c0,c1],_,h=>
  obtain⟨m0,y0,h0⟩:=zem Tryz.underlying25 h (i:=0) rfl (by kernel_rfl) rfl rfl
  obtain⟨a0,r0,b0⟩:=Opn.opn (P:=Tryz.prog) (t:=22) (α:=List Commit) h0
  obtain⟨m1,y1,h1⟩:=zem Tryz.underlying25 h (i:=1) rfl (by kernel_rfl) rfl rfl
  obtain⟨a1,r1,b1⟩:=Opn.opn (P:=Tryz.prog) (t:=23) (α:=List Head) h1
  exact⟨⟨a0,a1⟩,(⟨[c0],[c1],rfl,r0,r1⟩:rd (α:=(List Commit)×(List Head)) _ _ _ (a0,a1)),b0,b1⟩⟩
instance :Opn Tryz.prog 135 File:=⟨fun {H enc w base spare held fuel cs x} h=>by
 have hl:=zlz Tryz.underlying135 h (n:=2) (by kernel_rfl)
 match cs,hl,h with
 | [c0,c1],_,h=>
  obtain⟨m0,y0,h0⟩:=zem Tryz.underlying135 h (i:=0) rfl (by kernel_rfl) rfl rfl
  obtain⟨a0,r0,b0⟩:=Opn.opn (P:=Tryz.prog) (t:=9) (α:=Str) h0
  obtain⟨m1,y1,h1⟩:=zem Tryz.underlying135 h (i:=1) rfl (by kernel_rfl) rfl rfl
  obtain⟨a1,r1,b1⟩:=Opn.opn (P:=Tryz.prog) (t:=40) (α:=List Str) h1
  exact⟨⟨a0,a1⟩,(⟨[c0],[c1],rfl,r0,r1⟩:rd (α:=Str×(List Str)) _ _ _ (a0,a1)),b0,b1⟩⟩
instance :Opn Tryz.prog 63 (List File):=zjF (e:=135) (s:=2) (by kernel_rfl) rfl rfl
instance :Opn Tryz.prog 68 Commit:=⟨fun {H enc w base spare held fuel cs x} h=>by
 have hl:=zlz Tryz.underlying68 h (n:=3) (by kernel_rfl)
 match cs,hl,h with
 | [c0,c1,c2],_,h=>
  obtain⟨m0,y0,h0⟩:=zem Tryz.underlying68 h (i:=0) rfl (by kernel_rfl) rfl rfl
  obtain⟨a0,r0,b0⟩:=Opn.opn (P:=Tryz.prog) (t:=66) (α:=List Int) h0
  obtain⟨m1,y1,h1⟩:=zem Tryz.underlying68 h (i:=1) rfl (by kernel_rfl) rfl rfl
  obtain⟨a1,r1,b1⟩:=Opn.opn (P:=Tryz.prog) (t:=9) (α:=Str) h1
  obtain⟨m2,y2,h2⟩:=zem Tryz.underlying68 h (i:=2) rfl (by kernel_rfl) rfl rfl
  obtain⟨a2,r2,b2⟩:=Opn.opn (P:=Tryz.prog) (t:=63) (α:=List File) h2
  exact⟨⟨a0,a1,a2⟩,(⟨[c0],[c1,c2],rfl,r0,⟨[c1],[c2],rfl,r1,r2⟩⟩:rd (α:=(List Int)×Str×(List File)) _ _ _ (a0,a1,a2)),b0,b1,b2⟩⟩
instance :Opn Tryz.prog 27 (List Commit):=zjF (e:=68) (s:=3) (by kernel_rfl) rfl rfl
instance :Opn Tryz.prog 130 Head:=⟨fun {H enc w base spare held fuel cs x} h=>by
 have hl:=zlz Tryz.underlying130 h (n:=2) (by kernel_rfl)
 match cs,hl,h with
 | [c0,c1],_,h=>
  obtain⟨m0,y0,h0⟩:=zem Tryz.underlying130 h (i:=0) rfl (by kernel_rfl) rfl rfl
  obtain⟨a0,r0,b0⟩:=Opn.opn (P:=Tryz.prog) (t:=9) (α:=Str) h0
  obtain⟨m1,y1,h1⟩:=zem Tryz.underlying130 h (i:=1) rfl (by kernel_rfl) rfl rfl
  obtain⟨a1,r1,b1⟩:=Opn.opn (P:=Tryz.prog) (t:=3) (α:=Int) h1
  exact⟨⟨a0,a1⟩,(⟨[c0],[c1],rfl,r0,r1⟩:rd (α:=Str×Int) _ _ _ (a0,a1)),b0,b1⟩⟩
instance :Opn Tryz.prog 28 (List Head):=zjF (e:=130) (s:=2) (by kernel_rfl) rfl rfl
instance :Opn Tryz.prog 30 Repo:=⟨fun {H enc w base spare held fuel cs x} h=>by
 have hl:=zlz Tryz.underlying30 h (n:=2) (by kernel_rfl)
 match cs,hl,h with
 | [c0,c1],_,h=>
  obtain⟨m0,y0,h0⟩:=zem Tryz.underlying30 h (i:=0) rfl (by kernel_rfl) rfl rfl
  obtain⟨a0,r0,b0⟩:=Opn.opn (P:=Tryz.prog) (t:=27) (α:=List Commit) h0
  obtain⟨m1,y1,h1⟩:=zem Tryz.underlying30 h (i:=1) rfl (by kernel_rfl) rfl rfl
  obtain⟨a1,r1,b1⟩:=Opn.opn (P:=Tryz.prog) (t:=28) (α:=List Head) h1
  exact⟨⟨a0,a1⟩,(⟨[c0],[c1],rfl,r0,r1⟩:rd (α:=(List Commit)×(List Head)) _ _ _ (a0,a1)),b0,b1⟩⟩
instance :Opn Tryz.prog 111 Owner:=⟨fun {H enc w base spare held fuel cs x} h=>by
 have hl:=zlz Tryz.underlying111 h (n:=2) (by kernel_rfl)
 match cs,hl,h with
 | [c0,c1],_,h=>
  obtain⟨m0,y0,h0⟩:=zem Tryz.underlying111 h (i:=0) rfl (by kernel_rfl) rfl rfl
  obtain⟨a0,r0,b0⟩:=Opn.opn (P:=Tryz.prog) (t:=9) (α:=Str) h0
  obtain⟨m1,y1,h1⟩:=zem Tryz.underlying111 h (i:=1) rfl (by kernel_rfl) rfl rfl
  obtain⟨a1,r1,b1⟩:=Opn.opn (P:=Tryz.prog) (t:=9) (α:=Str) h1
  exact⟨⟨a0,a1⟩,(⟨[c0],[c1],rfl,r0,r1⟩:rd (α:=Str×Str) _ _ _ (a0,a1)),b0,b1⟩⟩
instance :Opn Tryz.prog 39 (List Owner):=zjF (e:=111) (s:=2) (by kernel_rfl) rfl rfl
instance :Opn Tryz.prog 42 Review:=⟨fun {H enc w base spare held fuel cs x} h=>by
 have hl:=zlz Tryz.underlying42 h (n:=4) (by kernel_rfl)
 match cs,hl,h with
 | [c0,c1,c2,c3],_,h=>
  obtain⟨m0,y0,h0⟩:=zem Tryz.underlying42 h (i:=0) rfl (by kernel_rfl) rfl rfl
  obtain⟨a0,r0,b0⟩:=Opn.opn (P:=Tryz.prog) (t:=9) (α:=Str) h0
  obtain⟨m1,y1,h1⟩:=zem Tryz.underlying42 h (i:=1) rfl (by kernel_rfl) rfl rfl
  obtain⟨a1,r1,b1⟩:=Opn.opn (P:=Tryz.prog) (t:=9) (α:=Str) h1
  obtain⟨m2,y2,h2⟩:=zem Tryz.underlying42 h (i:=2) rfl (by kernel_rfl) rfl rfl
  obtain⟨a2,r2,b2⟩:=Opn.opn (P:=Tryz.prog) (t:=9) (α:=Str) h2
  obtain⟨m3,y3,h3⟩:=zem Tryz.underlying42 h (i:=3) rfl (by kernel_rfl) rfl rfl
  obtain⟨a3,r3,b3⟩:=Opn.opn (P:=Tryz.prog) (t:=40) (α:=List Str) h3
  exact⟨⟨a0,a1,a2,a3⟩,(⟨[c0],[c1,c2,c3],rfl,r0,⟨[c1],[c2,c3],rfl,r1,⟨[c2],[c3],rfl,r2,r3⟩⟩⟩:rd (α:=Str×Str×Str×(List Str)) _ _ _ (a0,a1,a2,a3)),b0,b1,b2,b3⟩⟩
instance :Opn Tryz.prog 115 Owner:=⟨fun {H enc w base spare held fuel cs x} h=>by
 have hl:=zlz Tryz.underlying115 h (n:=2) (by kernel_rfl)
 match cs,hl,h with
 | [c0,c1],_,h=>
  obtain⟨m0,y0,h0⟩:=zem Tryz.underlying115 h (i:=0) rfl (by kernel_rfl) rfl rfl
  obtain⟨a0,r0,b0⟩:=Opn.opn (P:=Tryz.prog) (t:=9) (α:=Str) h0
  obtain⟨m1,y1,h1⟩:=zem Tryz.underlying115 h (i:=1) rfl (by kernel_rfl) rfl rfl
  obtain⟨a1,r1,b1⟩:=Opn.opn (P:=Tryz.prog) (t:=9) (α:=Str) h1
  exact⟨⟨a0,a1⟩,(⟨[c0],[c1],rfl,r0,r1⟩:rd (α:=Str×Str) _ _ _ (a0,a1)),b0,b1⟩⟩
instance :Opn Tryz.prog 47 (List Owner):=zjF (e:=115) (s:=2) (by kernel_rfl) rfl rfl
instance :Opn Tryz.prog 49 Review:=⟨fun {H enc w base spare held fuel cs x} h=>by
 have hl:=zlz Tryz.underlying49 h (n:=4) (by kernel_rfl)
 match cs,hl,h with
 | [c0,c1,c2,c3],_,h=>
  obtain⟨m0,y0,h0⟩:=zem Tryz.underlying49 h (i:=0) rfl (by kernel_rfl) rfl rfl
  obtain⟨a0,r0,b0⟩:=Opn.opn (P:=Tryz.prog) (t:=9) (α:=Str) h0
  obtain⟨m1,y1,h1⟩:=zem Tryz.underlying49 h (i:=1) rfl (by kernel_rfl) rfl rfl
  obtain⟨a1,r1,b1⟩:=Opn.opn (P:=Tryz.prog) (t:=9) (α:=Str) h1
  obtain⟨m2,y2,h2⟩:=zem Tryz.underlying49 h (i:=2) rfl (by kernel_rfl) rfl rfl
  obtain⟨a2,r2,b2⟩:=Opn.opn (P:=Tryz.prog) (t:=9) (α:=Str) h2
  obtain⟨m3,y3,h3⟩:=zem Tryz.underlying49 h (i:=3) rfl (by kernel_rfl) rfl rfl
  obtain⟨a3,r3,b3⟩:=Opn.opn (P:=Tryz.prog) (t:=40) (α:=List Str) h3
  exact⟨⟨a0,a1,a2,a3⟩,(⟨[c0],[c1,c2,c3],rfl,r0,⟨[c1],[c2,c3],rfl,r1,⟨[c2],[c3],rfl,r2,r3⟩⟩⟩:rd (α:=Str×Str×Str×(List Str)) _ _ _ (a0,a1,a2,a3)),b0,b1,b2,b3⟩⟩
instance :Opn Tryz.prog 58 (List Byte):=zjF (e:=5) (s:=1) (by kernel_rfl) rfl rfl
instance :Opn Tryz.prog 207 Hunk:=⟨fun {H enc w base spare held fuel cs x} h=>by
 have hl:=zlz Tryz.underlying207 h (n:=3) (by kernel_rfl)
 match cs,hl,h with
 | [c0,c1,c2],_,h=>
  obtain⟨m0,y0,h0⟩:=zem Tryz.underlying207 h (i:=0) rfl (by kernel_rfl) rfl rfl
  obtain⟨a0,r0,b0⟩:=Opn.opn (P:=Tryz.prog) (t:=3) (α:=Int) h0
  obtain⟨m1,y1,h1⟩:=zem Tryz.underlying207 h (i:=1) rfl (by kernel_rfl) rfl rfl
  obtain⟨a1,r1,b1⟩:=Opn.opn (P:=Tryz.prog) (t:=40) (α:=List Str) h1
  obtain⟨m2,y2,h2⟩:=zem Tryz.underlying207 h (i:=2) rfl (by kernel_rfl) rfl rfl
  obtain⟨a2,r2,b2⟩:=Opn.opn (P:=Tryz.prog) (t:=40) (α:=List Str) h2
  exact⟨⟨a0,a1,a2⟩,(⟨[c0],[c1,c2],rfl,r0,⟨[c1],[c2],rfl,r1,r2⟩⟩:rd (α:=Int×(List Str)×(List Str)) _ _ _ (a0,a1,a2)),b0,b1,b2⟩⟩
instance :Opn Tryz.prog 174 (List Hunk):=zjF (e:=207) (s:=3) (by kernel_rfl) rfl rfl
instance :Opn Tryz.prog 176 Change:=⟨fun {H enc w base spare held fuel cs x} h=>by
 have hl:=zlz Tryz.underlying176 h (n:=5) (by kernel_rfl)
 match cs,hl,h with
 | [c0,c1,c2,c3,c4],_,h=>
  obtain⟨m0,y0,h0⟩:=zem Tryz.underlying176 h (i:=0) rfl (by kernel_rfl) rfl rfl
  obtain⟨a0,r0,b0⟩:=Opn.opn (P:=Tryz.prog) (t:=3) (α:=Int) h0
  obtain⟨m1,y1,h1⟩:=zem Tryz.underlying176 h (i:=1) rfl (by kernel_rfl) rfl rfl
  obtain⟨a1,r1,b1⟩:=Opn.opn (P:=Tryz.prog) (t:=9) (α:=Str) h1
  obtain⟨m2,y2,h2⟩:=zem Tryz.underlying176 h (i:=2) rfl (by kernel_rfl) rfl rfl
  obtain⟨a2,r2,b2⟩:=Opn.opn (P:=Tryz.prog) (t:=9) (α:=Str) h2
  obtain⟨m3,y3,h3⟩:=zem Tryz.underlying176 h (i:=3) rfl (by kernel_rfl) rfl rfl
  obtain⟨a3,r3,b3⟩:=Opn.opn (P:=Tryz.prog) (t:=40) (α:=List Str) h3
  obtain⟨m4,y4,h4⟩:=zem Tryz.underlying176 h (i:=4) rfl (by kernel_rfl) rfl rfl
  obtain⟨a4,r4,b4⟩:=Opn.opn (P:=Tryz.prog) (t:=174) (α:=List Hunk) h4
  exact⟨⟨a0,a1,a2,a3,a4⟩,(⟨[c0],[c1,c2,c3,c4],rfl,r0,⟨[c1],[c2,c3,c4],rfl,r1,⟨[c2],[c3,c4],rfl,r2,⟨[c3],[c4],rfl,r3,r4⟩⟩⟩⟩:rd (α:=Int×Str×Str×(List Str)×(List Hunk)) _ _ _ (a0,a1,a2,a3,a4)),b0,b1,b2,b3,b4⟩⟩
instance :Opn Tryz.prog 119 (List Change):=zjF (e:=176) (s:=5) (by kernel_rfl) rfl rfl
instance :Opn Tryz.prog 191 Clash:=⟨fun {H enc w base spare held fuel cs x} h=>by
 have hl:=zlz Tryz.underlying191 h (n:=2) (by kernel_rfl)
 match cs,hl,h with
 | [c0,c1],_,h=>
  obtain⟨m0,y0,h0⟩:=zem Tryz.underlying191 h (i:=0) rfl (by kernel_rfl) rfl rfl
  obtain⟨a0,r0,b0⟩:=Opn.opn (P:=Tryz.prog) (t:=9) (α:=Str) h0
  obtain⟨m1,y1,h1⟩:=zem Tryz.underlying191 h (i:=1) rfl (by kernel_rfl) rfl rfl
  obtain⟨a1,r1,b1⟩:=Opn.opn (P:=Tryz.prog) (t:=3) (α:=Int) h1
  exact⟨⟨a0,a1⟩,(⟨[c0],[c1],rfl,r0,r1⟩:rd (α:=Str×Int) _ _ _ (a0,a1)),b0,b1⟩⟩
instance :Opn Tryz.prog 137 (List Clash):=zjF (e:=191) (s:=2) (by kernel_rfl) rfl rfl
instance :Opn Tryz.prog 142 (List Bool):=zjF (e:=4) (s:=1) (by kernel_rfl) rfl rfl
instance :Opn Tryz.prog 186 has:=⟨fun {H enc w base spare held fuel cs x} h=>by
 have hl:=zlz Tryz.underlying186 h (n:=2) (by kernel_rfl)
 match cs,hl,h with
 | [c0,c1],_,h=>
  obtain⟨m0,y0,h0⟩:=zem Tryz.underlying186 h (i:=0) rfl (by kernel_rfl) rfl rfl
  obtain⟨a0,r0,b0⟩:=Opn.opn (P:=Tryz.prog) (t:=40) (α:=List Str) h0
  obtain⟨m1,y1,h1⟩:=zem Tryz.underlying186 h (i:=1) rfl (by kernel_rfl) rfl rfl
  obtain⟨a1,r1,b1⟩:=Opn.opn (P:=Tryz.prog) (t:=4) (α:=Bool) h1
  exact⟨⟨a0,a1⟩,(⟨[c0],[c1],rfl,r0,r1⟩:rd (α:=(List Str)×Bool) _ _ _ (a0,a1)),b0,b1⟩⟩
instance :Opn Tryz.prog 209 (List (List File)):=zjF (e:=63) (s:=1) (by kernel_rfl) rfl rfl
instance :Opn Tryz.prog 250 Vm.Op:=⟨fun {H enc w base spare held fuel cs x} h=>by
 have hl:=zlz Tryz.underlying250 h (n:=7) (by kernel_rfl)
 match cs,hl,h with
 | [c0,c1,c2,c3,c4,c5,c6],_,h=>
  obtain⟨m0,y0,h0⟩:=zem Tryz.underlying250 h (i:=0) rfl (by kernel_rfl) rfl rfl
  obtain⟨a0,r0,b0⟩:=Opn.opn (P:=Tryz.prog) (t:=3) (α:=Int) h0
  obtain⟨m1,y1,h1⟩:=zem Tryz.underlying250 h (i:=1) rfl (by kernel_rfl) rfl rfl
  obtain⟨a1,r1,b1⟩:=Opn.opn (P:=Tryz.prog) (t:=9) (α:=Str) h1
  obtain⟨m2,y2,h2⟩:=zem Tryz.underlying250 h (i:=2) rfl (by kernel_rfl) rfl rfl
  obtain⟨a2,r2,b2⟩:=Opn.opn (P:=Tryz.prog) (t:=9) (α:=Str) h2
  obtain⟨m3,y3,h3⟩:=zem Tryz.underlying250 h (i:=3) rfl (by kernel_rfl) rfl rfl
  obtain⟨a3,r3,b3⟩:=Opn.opn (P:=Tryz.prog) (t:=9) (α:=Str) h3
  obtain⟨m4,y4,h4⟩:=zem Tryz.underlying250 h (i:=4) rfl (by kernel_rfl) rfl rfl
  obtain⟨a4,r4,b4⟩:=Opn.opn (P:=Tryz.prog) (t:=9) (α:=Str) h4
  obtain⟨m5,y5,h5⟩:=zem Tryz.underlying250 h (i:=5) rfl (by kernel_rfl) rfl rfl
  obtain⟨a5,r5,b5⟩:=Opn.opn (P:=Tryz.prog) (t:=3) (α:=Int) h5
  obtain⟨m6,y6,h6⟩:=zem Tryz.underlying250 h (i:=6) rfl (by kernel_rfl) rfl rfl
  obtain⟨a6,r6,b6⟩:=Opn.opn (P:=Tryz.prog) (t:=40) (α:=List Str) h6
  exact⟨⟨a0,a1,a2,a3,a4,a5,a6⟩,(⟨[c0],[c1,c2,c3,c4,c5,c6],rfl,r0,⟨[c1],[c2,c3,c4,c5,c6],rfl,r1,⟨[c2],[c3,c4,c5,c6],rfl,r2,⟨[c3],[c4,c5,c6],rfl,r3,⟨[c4],[c5,c6],rfl,r4,⟨[c5],[c6],rfl,r5,r6⟩⟩⟩⟩⟩⟩:rd (α:=Int×Str×Str×Str×Str×Int×(List Str)) _ _ _ (a0,a1,a2,a3,a4,a5,a6)),b0,b1,b2,b3,b4,b5,b6⟩⟩
instance :Opn Tryz.prog 216 (List Vm.Op):=zjF (e:=250) (s:=7) (by kernel_rfl) rfl rfl
instance :Opn Tryz.prog 227 Int:=⟨fun h=>by
 obtain⟨n,rfl,_,hw⟩:=DataW.trod_int Tryz.underlying227 h
 exact⟨n,⟨rfl,trivial⟩,zss hw⟩⟩
instance :Opn Tryz.prog 238 (List (List Int)):=zjF (e:=66) (s:=1) (by kernel_rfl) rfl rfl
instance :Opn Tryz.prog 242 Part:=⟨fun {H enc w base spare held fuel cs x} h=>by
 have hl:=zlz Tryz.underlying242 h (n:=5) (by kernel_rfl)
 match cs,hl,h with
 | [c0,c1,c2,c3,c4],_,h=>
  obtain⟨m0,y0,h0⟩:=zem Tryz.underlying242 h (i:=0) rfl (by kernel_rfl) rfl rfl
  obtain⟨a0,r0,b0⟩:=Opn.opn (P:=Tryz.prog) (t:=4) (α:=Bool) h0
  obtain⟨m1,y1,h1⟩:=zem Tryz.underlying242 h (i:=1) rfl (by kernel_rfl) rfl rfl
  obtain⟨a1,r1,b1⟩:=Opn.opn (P:=Tryz.prog) (t:=40) (α:=List Str) h1
  obtain⟨m2,y2,h2⟩:=zem Tryz.underlying242 h (i:=2) rfl (by kernel_rfl) rfl rfl
  obtain⟨a2,r2,b2⟩:=Opn.opn (P:=Tryz.prog) (t:=40) (α:=List Str) h2
  obtain⟨m3,y3,h3⟩:=zem Tryz.underlying242 h (i:=3) rfl (by kernel_rfl) rfl rfl
  obtain⟨a3,r3,b3⟩:=Opn.opn (P:=Tryz.prog) (t:=40) (α:=List Str) h3
  obtain⟨m4,y4,h4⟩:=zem Tryz.underlying242 h (i:=4) rfl (by kernel_rfl) rfl rfl
  obtain⟨a4,r4,b4⟩:=Opn.opn (P:=Tryz.prog) (t:=40) (α:=List Str) h4
  exact⟨⟨a0,a1,a2,a3,a4⟩,(⟨[c0],[c1,c2,c3,c4],rfl,r0,⟨[c1],[c2,c3,c4],rfl,r1,⟨[c2],[c3,c4],rfl,r2,⟨[c3],[c4],rfl,r3,r4⟩⟩⟩⟩:rd (α:=Bool×(List Str)×(List Str)×(List Str)×(List Str)) _ _ _ (a0,a1,a2,a3,a4)),b0,b1,b2,b3,b4⟩⟩
instance :Opn Tryz.prog 246 (List Part):=zjF (e:=242) (s:=5) (by kernel_rfl) rfl rfl
end Go.Sx
