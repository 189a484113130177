/- What the statements say of the arguments, as readings: each type of the seat. Conditions: none. -/
import Derived.Test.YtokbhelngoeblaaGreatDoorGTs
import Derived.Test.YtokbhelngoeblaaGreatDoorGLw
import Derived.Test.YtokbhelngoeblaaGreatDoorGOp
namespace Go.Sx
open Go Go.Proofs Go.Vm Rp
instance : Opn Tryz.prog 2 Int := ⟨fun h => by
  obtain ⟨n, rfl, _, hw⟩ := DataW.trod_int Tryz.underlying2 h
  exact ⟨n, ⟨rfl, trivial⟩, zsE hw⟩⟩
instance : Opn Tryz.prog 3 Int := ⟨fun h => by
  obtain ⟨n, rfl, _, hw⟩ := DataW.trod_int Tryz.underlying3 h
  exact ⟨n, ⟨rfl, trivial⟩, zsE hw⟩⟩
instance : Opn Tryz.prog 4 Bool := ⟨fun h => by
  obtain ⟨b, rfl, _⟩ := DataW.trod_bool Tryz.underlying4 h
  exact ⟨b, ⟨rfl, trivial⟩, trivial⟩⟩
instance : Opn Tryz.prog 5 zlK := ⟨fun h => by
  obtain ⟨n, rfl, _, hw⟩ := DataW.trod_int Tryz.underlying5 h
  obtain ⟨b, rfl⟩ := zwL hw
  exact ⟨b, ⟨rfl, trivial⟩, trivial⟩⟩
instance : Opn Tryz.prog 9 Str := ⟨fun h => by
  obtain ⟨s, rfl, _, hw⟩ := DataW.trod_string Tryz.underlying9 h
  exact ⟨s.data.toList, ⟨rfl, trivial⟩, zwK hw⟩⟩
instance : Opn Tryz.prog 76 (List Int) := zeX (e := 3) (s := 1) (by kernel_rfl) rfl rfl
instance : Opn Tryz.prog 49 (List Str) := zeX (e := 9) (s := 1) (by kernel_rfl) rfl rfl
instance : Opn Tryz.prog 211 File := ⟨fun {H enc w base spare held fuel cs x} h => by
  have hl := zgH Tryz.underlying211 h (n := 2) (by kernel_rfl)
  match cs, hl, h with
  | [c0, c1], _, h =>
    obtain ⟨m0, y0, h0⟩ := za7 Tryz.underlying211 h (i := 0) rfl (by kernel_rfl) rfl rfl
    obtain ⟨a0, r0, b0⟩ := Opn.opn (P := Tryz.prog) (t := 9) (α := Str) h0
    obtain ⟨m1, y1, h1⟩ := za7 Tryz.underlying211 h (i := 1) rfl (by kernel_rfl) rfl rfl
    obtain ⟨a1, r1, b1⟩ := Opn.opn (P := Tryz.prog) (t := 49) (α := List Str) h1
    exact ⟨⟨a0, a1⟩, (⟨[c0], [c1], rfl, r0, r1⟩ : rd (α := Str × (List Str)) _ _ _ (a0, a1)), b0, b1⟩⟩
instance : Opn Tryz.prog 142 (List File) := zeX (e := 211) (s := 2) (by kernel_rfl) rfl rfl
instance : Opn Tryz.prog 144 Commit := ⟨fun {H enc w base spare held fuel cs x} h => by
  have hl := zgH Tryz.underlying144 h (n := 3) (by kernel_rfl)
  match cs, hl, h with
  | [c0, c1, c2], _, h =>
    obtain ⟨m0, y0, h0⟩ := za7 Tryz.underlying144 h (i := 0) rfl (by kernel_rfl) rfl rfl
    obtain ⟨a0, r0, b0⟩ := Opn.opn (P := Tryz.prog) (t := 76) (α := List Int) h0
    obtain ⟨m1, y1, h1⟩ := za7 Tryz.underlying144 h (i := 1) rfl (by kernel_rfl) rfl rfl
    obtain ⟨a1, r1, b1⟩ := Opn.opn (P := Tryz.prog) (t := 9) (α := Str) h1
    obtain ⟨m2, y2, h2⟩ := za7 Tryz.underlying144 h (i := 2) rfl (by kernel_rfl) rfl rfl
    obtain ⟨a2, r2, b2⟩ := Opn.opn (P := Tryz.prog) (t := 142) (α := List File) h2
    exact ⟨⟨a0, a1, a2⟩, (⟨[c0], [c1, c2], rfl, r0, ⟨[c1], [c2], rfl, r1, r2⟩⟩ : rd (α := (List Int) × Str × (List File)) _ _ _ (a0, a1, a2)), b0, b1, b2⟩⟩
instance : Opn Tryz.prog 22 (List Commit) := zeX (e := 144) (s := 3) (by kernel_rfl) rfl rfl
instance : Opn Tryz.prog 146 Head := ⟨fun {H enc w base spare held fuel cs x} h => by
  have hl := zgH Tryz.underlying146 h (n := 2) (by kernel_rfl)
  match cs, hl, h with
  | [c0, c1], _, h =>
    obtain ⟨m0, y0, h0⟩ := za7 Tryz.underlying146 h (i := 0) rfl (by kernel_rfl) rfl rfl
    obtain ⟨a0, r0, b0⟩ := Opn.opn (P := Tryz.prog) (t := 9) (α := Str) h0
    obtain ⟨m1, y1, h1⟩ := za7 Tryz.underlying146 h (i := 1) rfl (by kernel_rfl) rfl rfl
    obtain ⟨a1, r1, b1⟩ := Opn.opn (P := Tryz.prog) (t := 3) (α := Int) h1
    exact ⟨⟨a0, a1⟩, (⟨[c0], [c1], rfl, r0, r1⟩ : rd (α := Str × Int) _ _ _ (a0, a1)), b0, b1⟩⟩
instance : Opn Tryz.prog 23 (List Head) := zeX (e := 146) (s := 2) (by kernel_rfl) rfl rfl
instance : Opn Tryz.prog 25 Repo := ⟨fun {H enc w base spare held fuel cs x} h => by
  have hl := zgH Tryz.underlying25 h (n := 2) (by kernel_rfl)
  match cs, hl, h with
  | [c0, c1], _, h =>
    obtain ⟨m0, y0, h0⟩ := za7 Tryz.underlying25 h (i := 0) rfl (by kernel_rfl) rfl rfl
    obtain ⟨a0, r0, b0⟩ := Opn.opn (P := Tryz.prog) (t := 22) (α := List Commit) h0
    obtain ⟨m1, y1, h1⟩ := za7 Tryz.underlying25 h (i := 1) rfl (by kernel_rfl) rfl rfl
    obtain ⟨a1, r1, b1⟩ := Opn.opn (P := Tryz.prog) (t := 23) (α := List Head) h1
    exact ⟨⟨a0, a1⟩, (⟨[c0], [c1], rfl, r0, r1⟩ : rd (α := (List Commit) × (List Head)) _ _ _ (a0, a1)), b0, b1⟩⟩
instance : Opn Tryz.prog 110 File := ⟨fun {H enc w base spare held fuel cs x} h => by
  have hl := zgH Tryz.underlying110 h (n := 2) (by kernel_rfl)
  match cs, hl, h with
  | [c0, c1], _, h =>
    obtain ⟨m0, y0, h0⟩ := za7 Tryz.underlying110 h (i := 0) rfl (by kernel_rfl) rfl rfl
    obtain ⟨a0, r0, b0⟩ := Opn.opn (P := Tryz.prog) (t := 9) (α := Str) h0
    obtain ⟨m1, y1, h1⟩ := za7 Tryz.underlying110 h (i := 1) rfl (by kernel_rfl) rfl rfl
    obtain ⟨a1, r1, b1⟩ := Opn.opn (P := Tryz.prog) (t := 49) (α := List Str) h1
    exact ⟨⟨a0, a1⟩, (⟨[c0], [c1], rfl, r0, r1⟩ : rd (α := Str × (List Str)) _ _ _ (a0, a1)), b0, b1⟩⟩
instance : Opn Tryz.prog 40 (List File) := zeX (e := 110) (s := 2) (by kernel_rfl) rfl rfl
instance : Opn Tryz.prog 78 Commit := ⟨fun {H enc w base spare held fuel cs x} h => by
  have hl := zgH Tryz.underlying78 h (n := 3) (by kernel_rfl)
  match cs, hl, h with
  | [c0, c1, c2], _, h =>
    obtain ⟨m0, y0, h0⟩ := za7 Tryz.underlying78 h (i := 0) rfl (by kernel_rfl) rfl rfl
    obtain ⟨a0, r0, b0⟩ := Opn.opn (P := Tryz.prog) (t := 76) (α := List Int) h0
    obtain ⟨m1, y1, h1⟩ := za7 Tryz.underlying78 h (i := 1) rfl (by kernel_rfl) rfl rfl
    obtain ⟨a1, r1, b1⟩ := Opn.opn (P := Tryz.prog) (t := 9) (α := Str) h1
    obtain ⟨m2, y2, h2⟩ := za7 Tryz.underlying78 h (i := 2) rfl (by kernel_rfl) rfl rfl
    obtain ⟨a2, r2, b2⟩ := Opn.opn (P := Tryz.prog) (t := 40) (α := List File) h2
    exact ⟨⟨a0, a1, a2⟩, (⟨[c0], [c1, c2], rfl, r0, ⟨[c1], [c2], rfl, r1, r2⟩⟩ : rd (α := (List Int) × Str × (List File)) _ _ _ (a0, a1, a2)), b0, b1, b2⟩⟩
instance : Opn Tryz.prog 27 (List Commit) := zeX (e := 78) (s := 3) (by kernel_rfl) rfl rfl
instance : Opn Tryz.prog 139 Head := ⟨fun {H enc w base spare held fuel cs x} h => by
  have hl := zgH Tryz.underlying139 h (n := 2) (by kernel_rfl)
  match cs, hl, h with
  | [c0, c1], _, h =>
    obtain ⟨m0, y0, h0⟩ := za7 Tryz.underlying139 h (i := 0) rfl (by kernel_rfl) rfl rfl
    obtain ⟨a0, r0, b0⟩ := Opn.opn (P := Tryz.prog) (t := 9) (α := Str) h0
    obtain ⟨m1, y1, h1⟩ := za7 Tryz.underlying139 h (i := 1) rfl (by kernel_rfl) rfl rfl
    obtain ⟨a1, r1, b1⟩ := Opn.opn (P := Tryz.prog) (t := 3) (α := Int) h1
    exact ⟨⟨a0, a1⟩, (⟨[c0], [c1], rfl, r0, r1⟩ : rd (α := Str × Int) _ _ _ (a0, a1)), b0, b1⟩⟩
instance : Opn Tryz.prog 28 (List Head) := zeX (e := 139) (s := 2) (by kernel_rfl) rfl rfl
instance : Opn Tryz.prog 30 Repo := ⟨fun {H enc w base spare held fuel cs x} h => by
  have hl := zgH Tryz.underlying30 h (n := 2) (by kernel_rfl)
  match cs, hl, h with
  | [c0, c1], _, h =>
    obtain ⟨m0, y0, h0⟩ := za7 Tryz.underlying30 h (i := 0) rfl (by kernel_rfl) rfl rfl
    obtain ⟨a0, r0, b0⟩ := Opn.opn (P := Tryz.prog) (t := 27) (α := List Commit) h0
    obtain ⟨m1, y1, h1⟩ := za7 Tryz.underlying30 h (i := 1) rfl (by kernel_rfl) rfl rfl
    obtain ⟨a1, r1, b1⟩ := Opn.opn (P := Tryz.prog) (t := 28) (α := List Head) h1
    exact ⟨⟨a0, a1⟩, (⟨[c0], [c1], rfl, r0, r1⟩ : rd (α := (List Commit) × (List Head)) _ _ _ (a0, a1)), b0, b1⟩⟩
instance : Opn Tryz.prog 37 (List zlK) := zeX (e := 5) (s := 1) (by kernel_rfl) rfl rfl
instance : Opn Tryz.prog 117 Owner := ⟨fun {H enc w base spare held fuel cs x} h => by
  have hl := zgH Tryz.underlying117 h (n := 2) (by kernel_rfl)
  match cs, hl, h with
  | [c0, c1], _, h =>
    obtain ⟨m0, y0, h0⟩ := za7 Tryz.underlying117 h (i := 0) rfl (by kernel_rfl) rfl rfl
    obtain ⟨a0, r0, b0⟩ := Opn.opn (P := Tryz.prog) (t := 9) (α := Str) h0
    obtain ⟨m1, y1, h1⟩ := za7 Tryz.underlying117 h (i := 1) rfl (by kernel_rfl) rfl rfl
    obtain ⟨a1, r1, b1⟩ := Opn.opn (P := Tryz.prog) (t := 9) (α := Str) h1
    exact ⟨⟨a0, a1⟩, (⟨[c0], [c1], rfl, r0, r1⟩ : rd (α := Str × Str) _ _ _ (a0, a1)), b0, b1⟩⟩
instance : Opn Tryz.prog 48 (List Owner) := zeX (e := 117) (s := 2) (by kernel_rfl) rfl rfl
instance : Opn Tryz.prog 51 Review := ⟨fun {H enc w base spare held fuel cs x} h => by
  have hl := zgH Tryz.underlying51 h (n := 4) (by kernel_rfl)
  match cs, hl, h with
  | [c0, c1, c2, c3], _, h =>
    obtain ⟨m0, y0, h0⟩ := za7 Tryz.underlying51 h (i := 0) rfl (by kernel_rfl) rfl rfl
    obtain ⟨a0, r0, b0⟩ := Opn.opn (P := Tryz.prog) (t := 9) (α := Str) h0
    obtain ⟨m1, y1, h1⟩ := za7 Tryz.underlying51 h (i := 1) rfl (by kernel_rfl) rfl rfl
    obtain ⟨a1, r1, b1⟩ := Opn.opn (P := Tryz.prog) (t := 9) (α := Str) h1
    obtain ⟨m2, y2, h2⟩ := za7 Tryz.underlying51 h (i := 2) rfl (by kernel_rfl) rfl rfl
    obtain ⟨a2, r2, b2⟩ := Opn.opn (P := Tryz.prog) (t := 9) (α := Str) h2
    obtain ⟨m3, y3, h3⟩ := za7 Tryz.underlying51 h (i := 3) rfl (by kernel_rfl) rfl rfl
    obtain ⟨a3, r3, b3⟩ := Opn.opn (P := Tryz.prog) (t := 49) (α := List Str) h3
    exact ⟨⟨a0, a1, a2, a3⟩, (⟨[c0], [c1, c2, c3], rfl, r0, ⟨[c1], [c2, c3], rfl, r1, ⟨[c2], [c3], rfl, r2, r3⟩⟩⟩ : rd (α := Str × Str × Str × (List Str)) _ _ _ (a0, a1, a2, a3)), b0, b1, b2, b3⟩⟩
instance : Opn Tryz.prog 71 Owner := ⟨fun {H enc w base spare held fuel cs x} h => by
  have hl := zgH Tryz.underlying71 h (n := 2) (by kernel_rfl)
  match cs, hl, h with
  | [c0, c1], _, h =>
    obtain ⟨m0, y0, h0⟩ := za7 Tryz.underlying71 h (i := 0) rfl (by kernel_rfl) rfl rfl
    obtain ⟨a0, r0, b0⟩ := Opn.opn (P := Tryz.prog) (t := 9) (α := Str) h0
    obtain ⟨m1, y1, h1⟩ := za7 Tryz.underlying71 h (i := 1) rfl (by kernel_rfl) rfl rfl
    obtain ⟨a1, r1, b1⟩ := Opn.opn (P := Tryz.prog) (t := 9) (α := Str) h1
    exact ⟨⟨a0, a1⟩, (⟨[c0], [c1], rfl, r0, r1⟩ : rd (α := Str × Str) _ _ _ (a0, a1)), b0, b1⟩⟩
instance : Opn Tryz.prog 56 (List Owner) := zeX (e := 71) (s := 2) (by kernel_rfl) rfl rfl
instance : Opn Tryz.prog 58 Review := ⟨fun {H enc w base spare held fuel cs x} h => by
  have hl := zgH Tryz.underlying58 h (n := 4) (by kernel_rfl)
  match cs, hl, h with
  | [c0, c1, c2, c3], _, h =>
    obtain ⟨m0, y0, h0⟩ := za7 Tryz.underlying58 h (i := 0) rfl (by kernel_rfl) rfl rfl
    obtain ⟨a0, r0, b0⟩ := Opn.opn (P := Tryz.prog) (t := 9) (α := Str) h0
    obtain ⟨m1, y1, h1⟩ := za7 Tryz.underlying58 h (i := 1) rfl (by kernel_rfl) rfl rfl
    obtain ⟨a1, r1, b1⟩ := Opn.opn (P := Tryz.prog) (t := 9) (α := Str) h1
    obtain ⟨m2, y2, h2⟩ := za7 Tryz.underlying58 h (i := 2) rfl (by kernel_rfl) rfl rfl
    obtain ⟨a2, r2, b2⟩ := Opn.opn (P := Tryz.prog) (t := 9) (α := Str) h2
    obtain ⟨m3, y3, h3⟩ := za7 Tryz.underlying58 h (i := 3) rfl (by kernel_rfl) rfl rfl
    obtain ⟨a3, r3, b3⟩ := Opn.opn (P := Tryz.prog) (t := 49) (α := List Str) h3
    exact ⟨⟨a0, a1, a2, a3⟩, (⟨[c0], [c1, c2, c3], rfl, r0, ⟨[c1], [c2, c3], rfl, r1, ⟨[c2], [c3], rfl, r2, r3⟩⟩⟩ : rd (α := Str × Str × Str × (List Str)) _ _ _ (a0, a1, a2, a3)), b0, b1, b2, b3⟩⟩
instance : Opn Tryz.prog 163 Clash := ⟨fun {H enc w base spare held fuel cs x} h => by
  have hl := zgH Tryz.underlying163 h (n := 2) (by kernel_rfl)
  match cs, hl, h with
  | [c0, c1], _, h =>
    obtain ⟨m0, y0, h0⟩ := za7 Tryz.underlying163 h (i := 0) rfl (by kernel_rfl) rfl rfl
    obtain ⟨a0, r0, b0⟩ := Opn.opn (P := Tryz.prog) (t := 9) (α := Str) h0
    obtain ⟨m1, y1, h1⟩ := za7 Tryz.underlying163 h (i := 1) rfl (by kernel_rfl) rfl rfl
    obtain ⟨a1, r1, b1⟩ := Opn.opn (P := Tryz.prog) (t := 3) (α := Int) h1
    exact ⟨⟨a0, a1⟩, (⟨[c0], [c1], rfl, r0, r1⟩ : rd (α := Str × Int) _ _ _ (a0, a1)), b0, b1⟩⟩
instance : Opn Tryz.prog 104 (List Clash) := zeX (e := 163) (s := 2) (by kernel_rfl) rfl rfl
instance : Opn Tryz.prog 114 (List Bool) := zeX (e := 4) (s := 1) (by kernel_rfl) rfl rfl
instance : Opn Tryz.prog 203 Hunk := ⟨fun {H enc w base spare held fuel cs x} h => by
  have hl := zgH Tryz.underlying203 h (n := 3) (by kernel_rfl)
  match cs, hl, h with
  | [c0, c1, c2], _, h =>
    obtain ⟨m0, y0, h0⟩ := za7 Tryz.underlying203 h (i := 0) rfl (by kernel_rfl) rfl rfl
    obtain ⟨a0, r0, b0⟩ := Opn.opn (P := Tryz.prog) (t := 3) (α := Int) h0
    obtain ⟨m1, y1, h1⟩ := za7 Tryz.underlying203 h (i := 1) rfl (by kernel_rfl) rfl rfl
    obtain ⟨a1, r1, b1⟩ := Opn.opn (P := Tryz.prog) (t := 49) (α := List Str) h1
    obtain ⟨m2, y2, h2⟩ := za7 Tryz.underlying203 h (i := 2) rfl (by kernel_rfl) rfl rfl
    obtain ⟨a2, r2, b2⟩ := Opn.opn (P := Tryz.prog) (t := 49) (α := List Str) h2
    exact ⟨⟨a0, a1, a2⟩, (⟨[c0], [c1, c2], rfl, r0, ⟨[c1], [c2], rfl, r1, r2⟩⟩ : rd (α := Int × (List Str) × (List Str)) _ _ _ (a0, a1, a2)), b0, b1, b2⟩⟩
instance : Opn Tryz.prog 168 (List Hunk) := zeX (e := 203) (s := 3) (by kernel_rfl) rfl rfl
instance : Opn Tryz.prog 170 Change := ⟨fun {H enc w base spare held fuel cs x} h => by
  have hl := zgH Tryz.underlying170 h (n := 5) (by kernel_rfl)
  match cs, hl, h with
  | [c0, c1, c2, c3, c4], _, h =>
    obtain ⟨m0, y0, h0⟩ := za7 Tryz.underlying170 h (i := 0) rfl (by kernel_rfl) rfl rfl
    obtain ⟨a0, r0, b0⟩ := Opn.opn (P := Tryz.prog) (t := 3) (α := Int) h0
    obtain ⟨m1, y1, h1⟩ := za7 Tryz.underlying170 h (i := 1) rfl (by kernel_rfl) rfl rfl
    obtain ⟨a1, r1, b1⟩ := Opn.opn (P := Tryz.prog) (t := 9) (α := Str) h1
    obtain ⟨m2, y2, h2⟩ := za7 Tryz.underlying170 h (i := 2) rfl (by kernel_rfl) rfl rfl
    obtain ⟨a2, r2, b2⟩ := Opn.opn (P := Tryz.prog) (t := 9) (α := Str) h2
    obtain ⟨m3, y3, h3⟩ := za7 Tryz.underlying170 h (i := 3) rfl (by kernel_rfl) rfl rfl
    obtain ⟨a3, r3, b3⟩ := Opn.opn (P := Tryz.prog) (t := 49) (α := List Str) h3
    obtain ⟨m4, y4, h4⟩ := za7 Tryz.underlying170 h (i := 4) rfl (by kernel_rfl) rfl rfl
    obtain ⟨a4, r4, b4⟩ := Opn.opn (P := Tryz.prog) (t := 168) (α := List Hunk) h4
    exact ⟨⟨a0, a1, a2, a3, a4⟩, (⟨[c0], [c1, c2, c3, c4], rfl, r0, ⟨[c1], [c2, c3, c4], rfl, r1, ⟨[c2], [c3, c4], rfl, r2, ⟨[c3], [c4], rfl, r3, r4⟩⟩⟩⟩ : rd (α := Int × Str × Str × (List Str) × (List Hunk)) _ _ _ (a0, a1, a2, a3, a4)), b0, b1, b2, b3, b4⟩⟩
instance : Opn Tryz.prog 124 (List Change) := zeX (e := 170) (s := 5) (by kernel_rfl) rfl rfl
instance : Opn Tryz.prog 183 has := ⟨fun {H enc w base spare held fuel cs x} h => by
  have hl := zgH Tryz.underlying183 h (n := 2) (by kernel_rfl)
  match cs, hl, h with
  | [c0, c1], _, h =>
    obtain ⟨m0, y0, h0⟩ := za7 Tryz.underlying183 h (i := 0) rfl (by kernel_rfl) rfl rfl
    obtain ⟨a0, r0, b0⟩ := Opn.opn (P := Tryz.prog) (t := 49) (α := List Str) h0
    obtain ⟨m1, y1, h1⟩ := za7 Tryz.underlying183 h (i := 1) rfl (by kernel_rfl) rfl rfl
    obtain ⟨a1, r1, b1⟩ := Opn.opn (P := Tryz.prog) (t := 4) (α := Bool) h1
    exact ⟨⟨a0, a1⟩, (⟨[c0], [c1], rfl, r0, r1⟩ : rd (α := (List Str) × Bool) _ _ _ (a0, a1)), b0, b1⟩⟩
instance : Opn Tryz.prog 238 Vm.Op := ⟨fun {H enc w base spare held fuel cs x} h => by
  have hl := zgH Tryz.underlying238 h (n := 7) (by kernel_rfl)
  match cs, hl, h with
  | [c0, c1, c2, c3, c4, c5, c6], _, h =>
    obtain ⟨m0, y0, h0⟩ := za7 Tryz.underlying238 h (i := 0) rfl (by kernel_rfl) rfl rfl
    obtain ⟨a0, r0, b0⟩ := Opn.opn (P := Tryz.prog) (t := 3) (α := Int) h0
    obtain ⟨m1, y1, h1⟩ := za7 Tryz.underlying238 h (i := 1) rfl (by kernel_rfl) rfl rfl
    obtain ⟨a1, r1, b1⟩ := Opn.opn (P := Tryz.prog) (t := 9) (α := Str) h1
    obtain ⟨m2, y2, h2⟩ := za7 Tryz.underlying238 h (i := 2) rfl (by kernel_rfl) rfl rfl
    obtain ⟨a2, r2, b2⟩ := Opn.opn (P := Tryz.prog) (t := 9) (α := Str) h2
    obtain ⟨m3, y3, h3⟩ := za7 Tryz.underlying238 h (i := 3) rfl (by kernel_rfl) rfl rfl
    obtain ⟨a3, r3, b3⟩ := Opn.opn (P := Tryz.prog) (t := 9) (α := Str) h3
    obtain ⟨m4, y4, h4⟩ := za7 Tryz.underlying238 h (i := 4) rfl (by kernel_rfl) rfl rfl
    obtain ⟨a4, r4, b4⟩ := Opn.opn (P := Tryz.prog) (t := 9) (α := Str) h4
    obtain ⟨m5, y5, h5⟩ := za7 Tryz.underlying238 h (i := 5) rfl (by kernel_rfl) rfl rfl
    obtain ⟨a5, r5, b5⟩ := Opn.opn (P := Tryz.prog) (t := 3) (α := Int) h5
    obtain ⟨m6, y6, h6⟩ := za7 Tryz.underlying238 h (i := 6) rfl (by kernel_rfl) rfl rfl
    obtain ⟨a6, r6, b6⟩ := Opn.opn (P := Tryz.prog) (t := 49) (α := List Str) h6
    exact ⟨⟨a0, a1, a2, a3, a4, a5, a6⟩, (⟨[c0], [c1, c2, c3, c4, c5, c6], rfl, r0, ⟨[c1], [c2, c3, c4, c5, c6], rfl, r1, ⟨[c2], [c3, c4, c5, c6], rfl, r2, ⟨[c3], [c4, c5, c6], rfl, r3, ⟨[c4], [c5, c6], rfl, r4, ⟨[c5], [c6], rfl, r5, r6⟩⟩⟩⟩⟩⟩ : rd (α := Int × Str × Str × Str × Str × Int × (List Str)) _ _ _ (a0, a1, a2, a3, a4, a5, a6)), b0, b1, b2, b3, b4, b5, b6⟩⟩
instance : Opn Tryz.prog 205 (List Vm.Op) := zeX (e := 238) (s := 7) (by kernel_rfl) rfl rfl
instance : Opn Tryz.prog 207 (List (List File)) := zeX (e := 40) (s := 1) (by kernel_rfl) rfl rfl
instance : Opn Tryz.prog 243 Part := ⟨fun {H enc w base spare held fuel cs x} h => by
  have hl := zgH Tryz.underlying243 h (n := 5) (by kernel_rfl)
  match cs, hl, h with
  | [c0, c1, c2, c3, c4], _, h =>
    obtain ⟨m0, y0, h0⟩ := za7 Tryz.underlying243 h (i := 0) rfl (by kernel_rfl) rfl rfl
    obtain ⟨a0, r0, b0⟩ := Opn.opn (P := Tryz.prog) (t := 4) (α := Bool) h0
    obtain ⟨m1, y1, h1⟩ := za7 Tryz.underlying243 h (i := 1) rfl (by kernel_rfl) rfl rfl
    obtain ⟨a1, r1, b1⟩ := Opn.opn (P := Tryz.prog) (t := 49) (α := List Str) h1
    obtain ⟨m2, y2, h2⟩ := za7 Tryz.underlying243 h (i := 2) rfl (by kernel_rfl) rfl rfl
    obtain ⟨a2, r2, b2⟩ := Opn.opn (P := Tryz.prog) (t := 49) (α := List Str) h2
    obtain ⟨m3, y3, h3⟩ := za7 Tryz.underlying243 h (i := 3) rfl (by kernel_rfl) rfl rfl
    obtain ⟨a3, r3, b3⟩ := Opn.opn (P := Tryz.prog) (t := 49) (α := List Str) h3
    obtain ⟨m4, y4, h4⟩ := za7 Tryz.underlying243 h (i := 4) rfl (by kernel_rfl) rfl rfl
    obtain ⟨a4, r4, b4⟩ := Opn.opn (P := Tryz.prog) (t := 49) (α := List Str) h4
    exact ⟨⟨a0, a1, a2, a3, a4⟩, (⟨[c0], [c1, c2, c3, c4], rfl, r0, ⟨[c1], [c2, c3, c4], rfl, r1, ⟨[c2], [c3, c4], rfl, r2, ⟨[c3], [c4], rfl, r3, r4⟩⟩⟩⟩ : rd (α := Bool × (List Str) × (List Str) × (List Str) × (List Str)) _ _ _ (a0, a1, a2, a3, a4)), b0, b1, b2, b3, b4⟩⟩
instance : Opn Tryz.prog 217 (List Part) := zeX (e := 243) (s := 5) (by kernel_rfl) rfl rfl
instance : Opn Tryz.prog 223 Int := ⟨fun h => by
  obtain ⟨n, rfl, _, hw⟩ := DataW.trod_int Tryz.underlying223 h
  exact ⟨n, ⟨rfl, trivial⟩, zsE hw⟩⟩
instance : Opn Tryz.prog 234 (List (List Int)) := zeX (e := 76) (s := 1) (by kernel_rfl) rfl rfl
end Go.Sx
