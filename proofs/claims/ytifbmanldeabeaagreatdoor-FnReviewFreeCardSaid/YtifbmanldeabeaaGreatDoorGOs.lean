/- What the statements say of the arguments, as readings: each type of the seat. Conditions: none. -/
import Derived.Test.YtifbmanldeabeaaGreatDoorGTs
import Derived.Test.YtifbmanldeabeaaGreatDoorGLw
import Derived.Test.YtifbmanldeabeaaGreatDoorGOp
namespace Go.Sx
open Go Go.Proofs Go.Vm Rp
instance :Opn Tryz.prog 2 Int:=⟨fun h=>by
 obtain⟨n,rfl,_,hw⟩:=DataW.trod_int Tryz.underlying2 h
 exact⟨n,⟨rfl,trivial⟩,zvE hw⟩⟩
instance :Opn Tryz.prog 3 Int:=⟨fun h=>by
 obtain⟨n,rfl,_,hw⟩:=DataW.trod_int Tryz.underlying3 h
 exact⟨n,⟨rfl,trivial⟩,zvE hw⟩⟩
instance :Opn Tryz.prog 4 Bool:=⟨fun h=>by
 obtain⟨b,rfl,_⟩:=DataW.trod_bool Tryz.underlying4 h
 exact⟨b,⟨rfl,trivial⟩,trivial⟩⟩
instance :Opn Tryz.prog 5 Byte:=⟨fun h=>by
 obtain⟨n,rfl,_,hw⟩:=DataW.trod_int Tryz.underlying5 h
 obtain⟨b,rfl⟩:=zzZ hw
 exact⟨b,⟨rfl,trivial⟩,trivial⟩⟩
instance :Opn Tryz.prog 9 Str:=⟨fun h=>by
 obtain⟨s,rfl,_,hw⟩:=DataW.trod_string Tryz.underlying9 h
 exact⟨s.data.toList,⟨rfl,trivial⟩,zzY hw⟩⟩
instance :Opn Tryz.prog 57 (List Int):=zgK (e:=3) (s:=1) (by kernel_rfl) rfl rfl
instance :Opn Tryz.prog 27 (List Str):=zgK (e:=9) (s:=1) (by kernel_rfl) rfl rfl
instance :Opn Tryz.prog 203 File:=⟨fun {H enc w base spare held fuel cs x} h=>by
 have hl:=zjo Tryz.underlying203 h (n:=2) (by kernel_rfl)
 match cs,hl,h with
 | [c0,c1],_,h=>
  obtain⟨m0,y0,h0⟩:=zbC Tryz.underlying203 h (i:=0) rfl (by kernel_rfl) rfl rfl
  obtain⟨a0,r0,b0⟩:=Opn.opn (P:=Tryz.prog) (t:=9) (α:=Str) h0
  obtain⟨m1,y1,h1⟩:=zbC Tryz.underlying203 h (i:=1) rfl (by kernel_rfl) rfl rfl
  obtain⟨a1,r1,b1⟩:=Opn.opn (P:=Tryz.prog) (t:=27) (α:=List Str) h1
  exact⟨⟨a0,a1⟩,(⟨[c0],[c1],rfl,r0,r1⟩:rd (α:=Str×(List Str)) _ _ _ (a0,a1)),b0,b1⟩⟩
instance :Opn Tryz.prog 119 (List File):=zgK (e:=203) (s:=2) (by kernel_rfl) rfl rfl
instance :Opn Tryz.prog 121 Commit:=⟨fun {H enc w base spare held fuel cs x} h=>by
 have hl:=zjo Tryz.underlying121 h (n:=3) (by kernel_rfl)
 match cs,hl,h with
 | [c0,c1,c2],_,h=>
  obtain⟨m0,y0,h0⟩:=zbC Tryz.underlying121 h (i:=0) rfl (by kernel_rfl) rfl rfl
  obtain⟨a0,r0,b0⟩:=Opn.opn (P:=Tryz.prog) (t:=57) (α:=List Int) h0
  obtain⟨m1,y1,h1⟩:=zbC Tryz.underlying121 h (i:=1) rfl (by kernel_rfl) rfl rfl
  obtain⟨a1,r1,b1⟩:=Opn.opn (P:=Tryz.prog) (t:=9) (α:=Str) h1
  obtain⟨m2,y2,h2⟩:=zbC Tryz.underlying121 h (i:=2) rfl (by kernel_rfl) rfl rfl
  obtain⟨a2,r2,b2⟩:=Opn.opn (P:=Tryz.prog) (t:=119) (α:=List File) h2
  exact⟨⟨a0,a1,a2⟩,(⟨[c0],[c1,c2],rfl,r0,⟨[c1],[c2],rfl,r1,r2⟩⟩:rd (α:=(List Int)×Str×(List File)) _ _ _ (a0,a1,a2)),b0,b1,b2⟩⟩
instance :Opn Tryz.prog 22 (List Commit):=zgK (e:=121) (s:=3) (by kernel_rfl) rfl rfl
instance :Opn Tryz.prog 124 Head:=⟨fun {H enc w base spare held fuel cs x} h=>by
 have hl:=zjo Tryz.underlying124 h (n:=2) (by kernel_rfl)
 match cs,hl,h with
 | [c0,c1],_,h=>
  obtain⟨m0,y0,h0⟩:=zbC Tryz.underlying124 h (i:=0) rfl (by kernel_rfl) rfl rfl
  obtain⟨a0,r0,b0⟩:=Opn.opn (P:=Tryz.prog) (t:=9) (α:=Str) h0
  obtain⟨m1,y1,h1⟩:=zbC Tryz.underlying124 h (i:=1) rfl (by kernel_rfl) rfl rfl
  obtain⟨a1,r1,b1⟩:=Opn.opn (P:=Tryz.prog) (t:=3) (α:=Int) h1
  exact⟨⟨a0,a1⟩,(⟨[c0],[c1],rfl,r0,r1⟩:rd (α:=Str×Int) _ _ _ (a0,a1)),b0,b1⟩⟩
instance :Opn Tryz.prog 23 (List Head):=zgK (e:=124) (s:=2) (by kernel_rfl) rfl rfl
instance :Opn Tryz.prog 25 Repo:=⟨fun {H enc w base spare held fuel cs x} h=>by
 have hl:=zjo Tryz.underlying25 h (n:=2) (by kernel_rfl)
 match cs,hl,h with
 | [c0,c1],_,h=>
  obtain⟨m0,y0,h0⟩:=zbC Tryz.underlying25 h (i:=0) rfl (by kernel_rfl) rfl rfl
  obtain⟨a0,r0,b0⟩:=Opn.opn (P:=Tryz.prog) (t:=22) (α:=List Commit) h0
  obtain⟨m1,y1,h1⟩:=zbC Tryz.underlying25 h (i:=1) rfl (by kernel_rfl) rfl rfl
  obtain⟨a1,r1,b1⟩:=Opn.opn (P:=Tryz.prog) (t:=23) (α:=List Head) h1
  exact⟨⟨a0,a1⟩,(⟨[c0],[c1],rfl,r0,r1⟩:rd (α:=(List Commit)×(List Head)) _ _ _ (a0,a1)),b0,b1⟩⟩
instance :Opn Tryz.prog 75 Owner:=⟨fun {H enc w base spare held fuel cs x} h=>by
 have hl:=zjo Tryz.underlying75 h (n:=2) (by kernel_rfl)
 match cs,hl,h with
 | [c0,c1],_,h=>
  obtain⟨m0,y0,h0⟩:=zbC Tryz.underlying75 h (i:=0) rfl (by kernel_rfl) rfl rfl
  obtain⟨a0,r0,b0⟩:=Opn.opn (P:=Tryz.prog) (t:=9) (α:=Str) h0
  obtain⟨m1,y1,h1⟩:=zbC Tryz.underlying75 h (i:=1) rfl (by kernel_rfl) rfl rfl
  obtain⟨a1,r1,b1⟩:=Opn.opn (P:=Tryz.prog) (t:=9) (α:=Str) h1
  exact⟨⟨a0,a1⟩,(⟨[c0],[c1],rfl,r0,r1⟩:rd (α:=Str×Str) _ _ _ (a0,a1)),b0,b1⟩⟩
instance :Opn Tryz.prog 26 (List Owner):=zgK (e:=75) (s:=2) (by kernel_rfl) rfl rfl
instance :Opn Tryz.prog 29 Review:=⟨fun {H enc w base spare held fuel cs x} h=>by
 have hl:=zjo Tryz.underlying29 h (n:=4) (by kernel_rfl)
 match cs,hl,h with
 | [c0,c1,c2,c3],_,h=>
  obtain⟨m0,y0,h0⟩:=zbC Tryz.underlying29 h (i:=0) rfl (by kernel_rfl) rfl rfl
  obtain⟨a0,r0,b0⟩:=Opn.opn (P:=Tryz.prog) (t:=9) (α:=Str) h0
  obtain⟨m1,y1,h1⟩:=zbC Tryz.underlying29 h (i:=1) rfl (by kernel_rfl) rfl rfl
  obtain⟨a1,r1,b1⟩:=Opn.opn (P:=Tryz.prog) (t:=9) (α:=Str) h1
  obtain⟨m2,y2,h2⟩:=zbC Tryz.underlying29 h (i:=2) rfl (by kernel_rfl) rfl rfl
  obtain⟨a2,r2,b2⟩:=Opn.opn (P:=Tryz.prog) (t:=9) (α:=Str) h2
  obtain⟨m3,y3,h3⟩:=zbC Tryz.underlying29 h (i:=3) rfl (by kernel_rfl) rfl rfl
  obtain⟨a3,r3,b3⟩:=Opn.opn (P:=Tryz.prog) (t:=27) (α:=List Str) h3
  exact⟨⟨a0,a1,a2,a3⟩,(⟨[c0],[c1,c2,c3],rfl,r0,⟨[c1],[c2,c3],rfl,r1,⟨[c2],[c3],rfl,r2,r3⟩⟩⟩:rd (α:=Str×Str×Str×(List Str)) _ _ _ (a0,a1,a2,a3)),b0,b1,b2,b3⟩⟩
instance :Opn Tryz.prog 158 File:=⟨fun {H enc w base spare held fuel cs x} h=>by
 have hl:=zjo Tryz.underlying158 h (n:=2) (by kernel_rfl)
 match cs,hl,h with
 | [c0,c1],_,h=>
  obtain⟨m0,y0,h0⟩:=zbC Tryz.underlying158 h (i:=0) rfl (by kernel_rfl) rfl rfl
  obtain⟨a0,r0,b0⟩:=Opn.opn (P:=Tryz.prog) (t:=9) (α:=Str) h0
  obtain⟨m1,y1,h1⟩:=zbC Tryz.underlying158 h (i:=1) rfl (by kernel_rfl) rfl rfl
  obtain⟨a1,r1,b1⟩:=Opn.opn (P:=Tryz.prog) (t:=27) (α:=List Str) h1
  exact⟨⟨a0,a1⟩,(⟨[c0],[c1],rfl,r0,r1⟩:rd (α:=Str×(List Str)) _ _ _ (a0,a1)),b0,b1⟩⟩
instance :Opn Tryz.prog 59 (List File):=zgK (e:=158) (s:=2) (by kernel_rfl) rfl rfl
instance :Opn Tryz.prog 61 Commit:=⟨fun {H enc w base spare held fuel cs x} h=>by
 have hl:=zjo Tryz.underlying61 h (n:=3) (by kernel_rfl)
 match cs,hl,h with
 | [c0,c1,c2],_,h=>
  obtain⟨m0,y0,h0⟩:=zbC Tryz.underlying61 h (i:=0) rfl (by kernel_rfl) rfl rfl
  obtain⟨a0,r0,b0⟩:=Opn.opn (P:=Tryz.prog) (t:=57) (α:=List Int) h0
  obtain⟨m1,y1,h1⟩:=zbC Tryz.underlying61 h (i:=1) rfl (by kernel_rfl) rfl rfl
  obtain⟨a1,r1,b1⟩:=Opn.opn (P:=Tryz.prog) (t:=9) (α:=Str) h1
  obtain⟨m2,y2,h2⟩:=zbC Tryz.underlying61 h (i:=2) rfl (by kernel_rfl) rfl rfl
  obtain⟨a2,r2,b2⟩:=Opn.opn (P:=Tryz.prog) (t:=59) (α:=List File) h2
  exact⟨⟨a0,a1,a2⟩,(⟨[c0],[c1,c2],rfl,r0,⟨[c1],[c2],rfl,r1,r2⟩⟩:rd (α:=(List Int)×Str×(List File)) _ _ _ (a0,a1,a2)),b0,b1,b2⟩⟩
instance :Opn Tryz.prog 33 (List Commit):=zgK (e:=61) (s:=3) (by kernel_rfl) rfl rfl
instance :Opn Tryz.prog 128 Head:=⟨fun {H enc w base spare held fuel cs x} h=>by
 have hl:=zjo Tryz.underlying128 h (n:=2) (by kernel_rfl)
 match cs,hl,h with
 | [c0,c1],_,h=>
  obtain⟨m0,y0,h0⟩:=zbC Tryz.underlying128 h (i:=0) rfl (by kernel_rfl) rfl rfl
  obtain⟨a0,r0,b0⟩:=Opn.opn (P:=Tryz.prog) (t:=9) (α:=Str) h0
  obtain⟨m1,y1,h1⟩:=zbC Tryz.underlying128 h (i:=1) rfl (by kernel_rfl) rfl rfl
  obtain⟨a1,r1,b1⟩:=Opn.opn (P:=Tryz.prog) (t:=3) (α:=Int) h1
  exact⟨⟨a0,a1⟩,(⟨[c0],[c1],rfl,r0,r1⟩:rd (α:=Str×Int) _ _ _ (a0,a1)),b0,b1⟩⟩
instance :Opn Tryz.prog 34 (List Head):=zgK (e:=128) (s:=2) (by kernel_rfl) rfl rfl
instance :Opn Tryz.prog 36 Repo:=⟨fun {H enc w base spare held fuel cs x} h=>by
 have hl:=zjo Tryz.underlying36 h (n:=2) (by kernel_rfl)
 match cs,hl,h with
 | [c0,c1],_,h=>
  obtain⟨m0,y0,h0⟩:=zbC Tryz.underlying36 h (i:=0) rfl (by kernel_rfl) rfl rfl
  obtain⟨a0,r0,b0⟩:=Opn.opn (P:=Tryz.prog) (t:=33) (α:=List Commit) h0
  obtain⟨m1,y1,h1⟩:=zbC Tryz.underlying36 h (i:=1) rfl (by kernel_rfl) rfl rfl
  obtain⟨a1,r1,b1⟩:=Opn.opn (P:=Tryz.prog) (t:=34) (α:=List Head) h1
  exact⟨⟨a0,a1⟩,(⟨[c0],[c1],rfl,r0,r1⟩:rd (α:=(List Commit)×(List Head)) _ _ _ (a0,a1)),b0,b1⟩⟩
instance :Opn Tryz.prog 71 Owner:=⟨fun {H enc w base spare held fuel cs x} h=>by
 have hl:=zjo Tryz.underlying71 h (n:=2) (by kernel_rfl)
 match cs,hl,h with
 | [c0,c1],_,h=>
  obtain⟨m0,y0,h0⟩:=zbC Tryz.underlying71 h (i:=0) rfl (by kernel_rfl) rfl rfl
  obtain⟨a0,r0,b0⟩:=Opn.opn (P:=Tryz.prog) (t:=9) (α:=Str) h0
  obtain⟨m1,y1,h1⟩:=zbC Tryz.underlying71 h (i:=1) rfl (by kernel_rfl) rfl rfl
  obtain⟨a1,r1,b1⟩:=Opn.opn (P:=Tryz.prog) (t:=9) (α:=Str) h1
  exact⟨⟨a0,a1⟩,(⟨[c0],[c1],rfl,r0,r1⟩:rd (α:=Str×Str) _ _ _ (a0,a1)),b0,b1⟩⟩
instance :Opn Tryz.prog 40 (List Owner):=zgK (e:=71) (s:=2) (by kernel_rfl) rfl rfl
instance :Opn Tryz.prog 42 Review:=⟨fun {H enc w base spare held fuel cs x} h=>by
 have hl:=zjo Tryz.underlying42 h (n:=4) (by kernel_rfl)
 match cs,hl,h with
 | [c0,c1,c2,c3],_,h=>
  obtain⟨m0,y0,h0⟩:=zbC Tryz.underlying42 h (i:=0) rfl (by kernel_rfl) rfl rfl
  obtain⟨a0,r0,b0⟩:=Opn.opn (P:=Tryz.prog) (t:=9) (α:=Str) h0
  obtain⟨m1,y1,h1⟩:=zbC Tryz.underlying42 h (i:=1) rfl (by kernel_rfl) rfl rfl
  obtain⟨a1,r1,b1⟩:=Opn.opn (P:=Tryz.prog) (t:=9) (α:=Str) h1
  obtain⟨m2,y2,h2⟩:=zbC Tryz.underlying42 h (i:=2) rfl (by kernel_rfl) rfl rfl
  obtain⟨a2,r2,b2⟩:=Opn.opn (P:=Tryz.prog) (t:=9) (α:=Str) h2
  obtain⟨m3,y3,h3⟩:=zbC Tryz.underlying42 h (i:=3) rfl (by kernel_rfl) rfl rfl
  obtain⟨a3,r3,b3⟩:=Opn.opn (P:=Tryz.prog) (t:=27) (α:=List Str) h3
  exact⟨⟨a0,a1,a2,a3⟩,(⟨[c0],[c1,c2,c3],rfl,r0,⟨[c1],[c2,c3],rfl,r1,⟨[c2],[c3],rfl,r2,r3⟩⟩⟩:rd (α:=Str×Str×Str×(List Str)) _ _ _ (a0,a1,a2,a3)),b0,b1,b2,b3⟩⟩
instance :Opn Tryz.prog 51 (List Byte):=zgK (e:=5) (s:=1) (by kernel_rfl) rfl rfl
instance :Opn Tryz.prog 63 Share:=⟨fun {H enc w base spare held fuel cs x} h=>by
 have hl:=zjo Tryz.underlying63 h (n:=2) (by kernel_rfl)
 match cs,hl,h with
 | [c0,c1],_,h=>
  obtain⟨m0,y0,h0⟩:=zbC Tryz.underlying63 h (i:=0) rfl (by kernel_rfl) rfl rfl
  obtain⟨a0,r0,b0⟩:=Opn.opn (P:=Tryz.prog) (t:=9) (α:=Str) h0
  obtain⟨m1,y1,h1⟩:=zbC Tryz.underlying63 h (i:=1) rfl (by kernel_rfl) rfl rfl
  obtain⟨a1,r1,b1⟩:=Opn.opn (P:=Tryz.prog) (t:=3) (α:=Int) h1
  exact⟨⟨a0,a1⟩,(⟨[c0],[c1],rfl,r0,r1⟩:rd (α:=Str×Int) _ _ _ (a0,a1)),b0,b1⟩⟩
instance :Opn Tryz.prog 54 (List Share):=zgK (e:=63) (s:=2) (by kernel_rfl) rfl rfl
instance :Opn Tryz.prog 198 Hunk:=⟨fun {H enc w base spare held fuel cs x} h=>by
 have hl:=zjo Tryz.underlying198 h (n:=3) (by kernel_rfl)
 match cs,hl,h with
 | [c0,c1,c2],_,h=>
  obtain⟨m0,y0,h0⟩:=zbC Tryz.underlying198 h (i:=0) rfl (by kernel_rfl) rfl rfl
  obtain⟨a0,r0,b0⟩:=Opn.opn (P:=Tryz.prog) (t:=3) (α:=Int) h0
  obtain⟨m1,y1,h1⟩:=zbC Tryz.underlying198 h (i:=1) rfl (by kernel_rfl) rfl rfl
  obtain⟨a1,r1,b1⟩:=Opn.opn (P:=Tryz.prog) (t:=27) (α:=List Str) h1
  obtain⟨m2,y2,h2⟩:=zbC Tryz.underlying198 h (i:=2) rfl (by kernel_rfl) rfl rfl
  obtain⟨a2,r2,b2⟩:=Opn.opn (P:=Tryz.prog) (t:=27) (α:=List Str) h2
  exact⟨⟨a0,a1,a2⟩,(⟨[c0],[c1,c2],rfl,r0,⟨[c1],[c2],rfl,r1,r2⟩⟩:rd (α:=Int×(List Str)×(List Str)) _ _ _ (a0,a1,a2)),b0,b1,b2⟩⟩
instance :Opn Tryz.prog 167 (List Hunk):=zgK (e:=198) (s:=3) (by kernel_rfl) rfl rfl
instance :Opn Tryz.prog 169 Change:=⟨fun {H enc w base spare held fuel cs x} h=>by
 have hl:=zjo Tryz.underlying169 h (n:=5) (by kernel_rfl)
 match cs,hl,h with
 | [c0,c1,c2,c3,c4],_,h=>
  obtain⟨m0,y0,h0⟩:=zbC Tryz.underlying169 h (i:=0) rfl (by kernel_rfl) rfl rfl
  obtain⟨a0,r0,b0⟩:=Opn.opn (P:=Tryz.prog) (t:=3) (α:=Int) h0
  obtain⟨m1,y1,h1⟩:=zbC Tryz.underlying169 h (i:=1) rfl (by kernel_rfl) rfl rfl
  obtain⟨a1,r1,b1⟩:=Opn.opn (P:=Tryz.prog) (t:=9) (α:=Str) h1
  obtain⟨m2,y2,h2⟩:=zbC Tryz.underlying169 h (i:=2) rfl (by kernel_rfl) rfl rfl
  obtain⟨a2,r2,b2⟩:=Opn.opn (P:=Tryz.prog) (t:=9) (α:=Str) h2
  obtain⟨m3,y3,h3⟩:=zbC Tryz.underlying169 h (i:=3) rfl (by kernel_rfl) rfl rfl
  obtain⟨a3,r3,b3⟩:=Opn.opn (P:=Tryz.prog) (t:=27) (α:=List Str) h3
  obtain⟨m4,y4,h4⟩:=zbC Tryz.underlying169 h (i:=4) rfl (by kernel_rfl) rfl rfl
  obtain⟨a4,r4,b4⟩:=Opn.opn (P:=Tryz.prog) (t:=167) (α:=List Hunk) h4
  exact⟨⟨a0,a1,a2,a3,a4⟩,(⟨[c0],[c1,c2,c3,c4],rfl,r0,⟨[c1],[c2,c3,c4],rfl,r1,⟨[c2],[c3,c4],rfl,r2,⟨[c3],[c4],rfl,r3,r4⟩⟩⟩⟩:rd (α:=Int×Str×Str×(List Str)×(List Hunk)) _ _ _ (a0,a1,a2,a3,a4)),b0,b1,b2,b3,b4⟩⟩
instance :Opn Tryz.prog 110 (List Change):=zgK (e:=169) (s:=5) (by kernel_rfl) rfl rfl
instance :Opn Tryz.prog 177 Clash:=⟨fun {H enc w base spare held fuel cs x} h=>by
 have hl:=zjo Tryz.underlying177 h (n:=2) (by kernel_rfl)
 match cs,hl,h with
 | [c0,c1],_,h=>
  obtain⟨m0,y0,h0⟩:=zbC Tryz.underlying177 h (i:=0) rfl (by kernel_rfl) rfl rfl
  obtain⟨a0,r0,b0⟩:=Opn.opn (P:=Tryz.prog) (t:=9) (α:=Str) h0
  obtain⟨m1,y1,h1⟩:=zbC Tryz.underlying177 h (i:=1) rfl (by kernel_rfl) rfl rfl
  obtain⟨a1,r1,b1⟩:=Opn.opn (P:=Tryz.prog) (t:=3) (α:=Int) h1
  exact⟨⟨a0,a1⟩,(⟨[c0],[c1],rfl,r0,r1⟩:rd (α:=Str×Int) _ _ _ (a0,a1)),b0,b1⟩⟩
instance :Opn Tryz.prog 133 (List Clash):=zgK (e:=177) (s:=2) (by kernel_rfl) rfl rfl
instance :Opn Tryz.prog 143 (List Bool):=zgK (e:=4) (s:=1) (by kernel_rfl) rfl rfl
instance :Opn Tryz.prog 191 (List (List Int)):=zgK (e:=57) (s:=1) (by kernel_rfl) rfl rfl
instance :Opn Tryz.prog 230 Vm.Op:=⟨fun {H enc w base spare held fuel cs x} h=>by
 have hl:=zjo Tryz.underlying230 h (n:=7) (by kernel_rfl)
 match cs,hl,h with
 | [c0,c1,c2,c3,c4,c5,c6],_,h=>
  obtain⟨m0,y0,h0⟩:=zbC Tryz.underlying230 h (i:=0) rfl (by kernel_rfl) rfl rfl
  obtain⟨a0,r0,b0⟩:=Opn.opn (P:=Tryz.prog) (t:=3) (α:=Int) h0
  obtain⟨m1,y1,h1⟩:=zbC Tryz.underlying230 h (i:=1) rfl (by kernel_rfl) rfl rfl
  obtain⟨a1,r1,b1⟩:=Opn.opn (P:=Tryz.prog) (t:=9) (α:=Str) h1
  obtain⟨m2,y2,h2⟩:=zbC Tryz.underlying230 h (i:=2) rfl (by kernel_rfl) rfl rfl
  obtain⟨a2,r2,b2⟩:=Opn.opn (P:=Tryz.prog) (t:=9) (α:=Str) h2
  obtain⟨m3,y3,h3⟩:=zbC Tryz.underlying230 h (i:=3) rfl (by kernel_rfl) rfl rfl
  obtain⟨a3,r3,b3⟩:=Opn.opn (P:=Tryz.prog) (t:=9) (α:=Str) h3
  obtain⟨m4,y4,h4⟩:=zbC Tryz.underlying230 h (i:=4) rfl (by kernel_rfl) rfl rfl
  obtain⟨a4,r4,b4⟩:=Opn.opn (P:=Tryz.prog) (t:=9) (α:=Str) h4
  obtain⟨m5,y5,h5⟩:=zbC Tryz.underlying230 h (i:=5) rfl (by kernel_rfl) rfl rfl
  obtain⟨a5,r5,b5⟩:=Opn.opn (P:=Tryz.prog) (t:=3) (α:=Int) h5
  obtain⟨m6,y6,h6⟩:=zbC Tryz.underlying230 h (i:=6) rfl (by kernel_rfl) rfl rfl
  obtain⟨a6,r6,b6⟩:=Opn.opn (P:=Tryz.prog) (t:=27) (α:=List Str) h6
  exact⟨⟨a0,a1,a2,a3,a4,a5,a6⟩,(⟨[c0],[c1,c2,c3,c4,c5,c6],rfl,r0,⟨[c1],[c2,c3,c4,c5,c6],rfl,r1,⟨[c2],[c3,c4,c5,c6],rfl,r2,⟨[c3],[c4,c5,c6],rfl,r3,⟨[c4],[c5,c6],rfl,r4,⟨[c5],[c6],rfl,r5,r6⟩⟩⟩⟩⟩⟩:rd (α:=Int×Str×Str×Str×Str×Int×(List Str)) _ _ _ (a0,a1,a2,a3,a4,a5,a6)),b0,b1,b2,b3,b4,b5,b6⟩⟩
instance :Opn Tryz.prog 194 (List Vm.Op):=zgK (e:=230) (s:=7) (by kernel_rfl) rfl rfl
instance :Opn Tryz.prog 211 has:=⟨fun {H enc w base spare held fuel cs x} h=>by
 have hl:=zjo Tryz.underlying211 h (n:=2) (by kernel_rfl)
 match cs,hl,h with
 | [c0,c1],_,h=>
  obtain⟨m0,y0,h0⟩:=zbC Tryz.underlying211 h (i:=0) rfl (by kernel_rfl) rfl rfl
  obtain⟨a0,r0,b0⟩:=Opn.opn (P:=Tryz.prog) (t:=27) (α:=List Str) h0
  obtain⟨m1,y1,h1⟩:=zbC Tryz.underlying211 h (i:=1) rfl (by kernel_rfl) rfl rfl
  obtain⟨a1,r1,b1⟩:=Opn.opn (P:=Tryz.prog) (t:=4) (α:=Bool) h1
  exact⟨⟨a0,a1⟩,(⟨[c0],[c1],rfl,r0,r1⟩:rd (α:=(List Str)×Bool) _ _ _ (a0,a1)),b0,b1⟩⟩
instance :Opn Tryz.prog 217 Int:=⟨fun h=>by
 obtain⟨n,rfl,_,hw⟩:=DataW.trod_int Tryz.underlying217 h
 exact⟨n,⟨rfl,trivial⟩,zvE hw⟩⟩
instance :Opn Tryz.prog 262 Part:=⟨fun {H enc w base spare held fuel cs x} h=>by
 have hl:=zjo Tryz.underlying262 h (n:=5) (by kernel_rfl)
 match cs,hl,h with
 | [c0,c1,c2,c3,c4],_,h=>
  obtain⟨m0,y0,h0⟩:=zbC Tryz.underlying262 h (i:=0) rfl (by kernel_rfl) rfl rfl
  obtain⟨a0,r0,b0⟩:=Opn.opn (P:=Tryz.prog) (t:=4) (α:=Bool) h0
  obtain⟨m1,y1,h1⟩:=zbC Tryz.underlying262 h (i:=1) rfl (by kernel_rfl) rfl rfl
  obtain⟨a1,r1,b1⟩:=Opn.opn (P:=Tryz.prog) (t:=27) (α:=List Str) h1
  obtain⟨m2,y2,h2⟩:=zbC Tryz.underlying262 h (i:=2) rfl (by kernel_rfl) rfl rfl
  obtain⟨a2,r2,b2⟩:=Opn.opn (P:=Tryz.prog) (t:=27) (α:=List Str) h2
  obtain⟨m3,y3,h3⟩:=zbC Tryz.underlying262 h (i:=3) rfl (by kernel_rfl) rfl rfl
  obtain⟨a3,r3,b3⟩:=Opn.opn (P:=Tryz.prog) (t:=27) (α:=List Str) h3
  obtain⟨m4,y4,h4⟩:=zbC Tryz.underlying262 h (i:=4) rfl (by kernel_rfl) rfl rfl
  obtain⟨a4,r4,b4⟩:=Opn.opn (P:=Tryz.prog) (t:=27) (α:=List Str) h4
  exact⟨⟨a0,a1,a2,a3,a4⟩,(⟨[c0],[c1,c2,c3,c4],rfl,r0,⟨[c1],[c2,c3,c4],rfl,r1,⟨[c2],[c3,c4],rfl,r2,⟨[c3],[c4],rfl,r3,r4⟩⟩⟩⟩:rd (α:=Bool×(List Str)×(List Str)×(List Str)×(List Str)) _ _ _ (a0,a1,a2,a3,a4)),b0,b1,b2,b3,b4⟩⟩
instance :Opn Tryz.prog 238 (List Part):=zgK (e:=262) (s:=5) (by kernel_rfl) rfl rfl
instance :Opn Tryz.prog 241 (List (List File)):=zgK (e:=59) (s:=1) (by kernel_rfl) rfl rfl
end Go.Sx
