/- What the statements say of the arguments, as readings: each type of the seat. Conditions: none. -/
import Derived.Test.YtkfeiopifiejgaaDoorXTs
import Derived.Test.YtkfeiopifiejgaaDoorXLw
import Derived.Test.YtkfeiopifiejgaaDoorXOp
namespace Go.Sx
open Go Go.Proofs Go.Vm Rp

instance : Opn Tryd.prog 2 Int := ⟨fun h => by
  obtain ⟨n, rfl, _, hw⟩ := DataW.trod_int Tryd.underlying2 h
  exact ⟨n, ⟨rfl, trivial⟩, int_fit hw⟩⟩
instance : Opn Tryd.prog 3 Int := ⟨fun h => by
  obtain ⟨n, rfl, _, hw⟩ := DataW.trod_int Tryd.underlying3 h
  exact ⟨n, ⟨rfl, trivial⟩, int_fit hw⟩⟩
instance : Opn Tryd.prog 4 Bool := ⟨fun h => by
  obtain ⟨b, rfl, _⟩ := DataW.trod_bool Tryd.underlying4 h
  exact ⟨b, ⟨rfl, trivial⟩, trivial⟩⟩
instance : Opn Tryd.prog 5 Byte := ⟨fun h => by
  obtain ⟨n, rfl, _, hw⟩ := DataW.trod_int Tryd.underlying5 h
  obtain ⟨b, rfl⟩ := byte_of hw
  exact ⟨b, ⟨rfl, trivial⟩, trivial⟩⟩
instance : Opn Tryd.prog 9 Str := ⟨fun h => by
  obtain ⟨s, rfl, _, hw⟩ := DataW.trod_string Tryd.underlying9 h
  exact ⟨s.data.toList, ⟨rfl, trivial⟩, str_fit hw⟩⟩
instance : Opn Tryd.prog 43 (List Int) := opn_list (e := 3) (s := 1) (by kernel_rfl) rfl rfl
instance : Opn Tryd.prog 53 (List Str) := opn_list (e := 9) (s := 1) (by kernel_rfl) rfl rfl
instance : Opn Tryd.prog 70 File := ⟨fun {H enc w base spare held fuel cs x} h => by
  have hl := opn_len Tryd.underlying70 h (n := 2) (by kernel_rfl)
  match cs, hl, h with
  | [c0, c1], _, h =>
    obtain ⟨m0, y0, h0⟩ := opn_fld Tryd.underlying70 h (i := 0) rfl (by kernel_rfl) rfl rfl
    obtain ⟨a0, r0, b0⟩ := Opn.opn (P := Tryd.prog) (t := 9) (α := Str) h0
    obtain ⟨m1, y1, h1⟩ := opn_fld Tryd.underlying70 h (i := 1) rfl (by kernel_rfl) rfl rfl
    obtain ⟨a1, r1, b1⟩ := Opn.opn (P := Tryd.prog) (t := 53) (α := List Str) h1
    exact ⟨⟨a0, a1⟩, (⟨[c0], [c1], rfl, r0, r1⟩ : rd (α := Str × (List Str)) _ _ _ (a0, a1)), b0, b1⟩⟩
instance : Opn Tryd.prog 26 (List File) := opn_list (e := 70) (s := 2) (by kernel_rfl) rfl rfl
instance : Opn Tryd.prog 92 Commit := ⟨fun {H enc w base spare held fuel cs x} h => by
  have hl := opn_len Tryd.underlying92 h (n := 3) (by kernel_rfl)
  match cs, hl, h with
  | [c0, c1, c2], _, h =>
    obtain ⟨m0, y0, h0⟩ := opn_fld Tryd.underlying92 h (i := 0) rfl (by kernel_rfl) rfl rfl
    obtain ⟨a0, r0, b0⟩ := Opn.opn (P := Tryd.prog) (t := 43) (α := List Int) h0
    obtain ⟨m1, y1, h1⟩ := opn_fld Tryd.underlying92 h (i := 1) rfl (by kernel_rfl) rfl rfl
    obtain ⟨a1, r1, b1⟩ := Opn.opn (P := Tryd.prog) (t := 9) (α := Str) h1
    obtain ⟨m2, y2, h2⟩ := opn_fld Tryd.underlying92 h (i := 2) rfl (by kernel_rfl) rfl rfl
    obtain ⟨a2, r2, b2⟩ := Opn.opn (P := Tryd.prog) (t := 26) (α := List File) h2
    exact ⟨⟨a0, a1, a2⟩, (⟨[c0], [c1, c2], rfl, r0, ⟨[c1], [c2], rfl, r1, r2⟩⟩ : rd (α := (List Int) × Str × (List File)) _ _ _ (a0, a1, a2)), b0, b1, b2⟩⟩
instance : Opn Tryd.prog 22 (List Commit) := opn_list (e := 92) (s := 3) (by kernel_rfl) rfl rfl
instance : Opn Tryd.prog 121 Head := ⟨fun {H enc w base spare held fuel cs x} h => by
  have hl := opn_len Tryd.underlying121 h (n := 2) (by kernel_rfl)
  match cs, hl, h with
  | [c0, c1], _, h =>
    obtain ⟨m0, y0, h0⟩ := opn_fld Tryd.underlying121 h (i := 0) rfl (by kernel_rfl) rfl rfl
    obtain ⟨a0, r0, b0⟩ := Opn.opn (P := Tryd.prog) (t := 9) (α := Str) h0
    obtain ⟨m1, y1, h1⟩ := opn_fld Tryd.underlying121 h (i := 1) rfl (by kernel_rfl) rfl rfl
    obtain ⟨a1, r1, b1⟩ := Opn.opn (P := Tryd.prog) (t := 3) (α := Int) h1
    exact ⟨⟨a0, a1⟩, (⟨[c0], [c1], rfl, r0, r1⟩ : rd (α := Str × Int) _ _ _ (a0, a1)), b0, b1⟩⟩
instance : Opn Tryd.prog 23 (List Head) := opn_list (e := 121) (s := 2) (by kernel_rfl) rfl rfl
instance : Opn Tryd.prog 25 Repo := ⟨fun {H enc w base spare held fuel cs x} h => by
  have hl := opn_len Tryd.underlying25 h (n := 2) (by kernel_rfl)
  match cs, hl, h with
  | [c0, c1], _, h =>
    obtain ⟨m0, y0, h0⟩ := opn_fld Tryd.underlying25 h (i := 0) rfl (by kernel_rfl) rfl rfl
    obtain ⟨a0, r0, b0⟩ := Opn.opn (P := Tryd.prog) (t := 22) (α := List Commit) h0
    obtain ⟨m1, y1, h1⟩ := opn_fld Tryd.underlying25 h (i := 1) rfl (by kernel_rfl) rfl rfl
    obtain ⟨a1, r1, b1⟩ := Opn.opn (P := Tryd.prog) (t := 23) (α := List Head) h1
    exact ⟨⟨a0, a1⟩, (⟨[c0], [c1], rfl, r0, r1⟩ : rd (α := (List Commit) × (List Head)) _ _ _ (a0, a1)), b0, b1⟩⟩
instance : Opn Tryd.prog 79 File := ⟨fun {H enc w base spare held fuel cs x} h => by
  have hl := opn_len Tryd.underlying79 h (n := 2) (by kernel_rfl)
  match cs, hl, h with
  | [c0, c1], _, h =>
    obtain ⟨m0, y0, h0⟩ := opn_fld Tryd.underlying79 h (i := 0) rfl (by kernel_rfl) rfl rfl
    obtain ⟨a0, r0, b0⟩ := Opn.opn (P := Tryd.prog) (t := 9) (α := Str) h0
    obtain ⟨m1, y1, h1⟩ := opn_fld Tryd.underlying79 h (i := 1) rfl (by kernel_rfl) rfl rfl
    obtain ⟨a1, r1, b1⟩ := Opn.opn (P := Tryd.prog) (t := 53) (α := List Str) h1
    exact ⟨⟨a0, a1⟩, (⟨[c0], [c1], rfl, r0, r1⟩ : rd (α := Str × (List Str)) _ _ _ (a0, a1)), b0, b1⟩⟩
instance : Opn Tryd.prog 36 (List File) := opn_list (e := 79) (s := 2) (by kernel_rfl) rfl rfl
instance : Opn Tryd.prog 74 Commit := ⟨fun {H enc w base spare held fuel cs x} h => by
  have hl := opn_len Tryd.underlying74 h (n := 3) (by kernel_rfl)
  match cs, hl, h with
  | [c0, c1, c2], _, h =>
    obtain ⟨m0, y0, h0⟩ := opn_fld Tryd.underlying74 h (i := 0) rfl (by kernel_rfl) rfl rfl
    obtain ⟨a0, r0, b0⟩ := Opn.opn (P := Tryd.prog) (t := 43) (α := List Int) h0
    obtain ⟨m1, y1, h1⟩ := opn_fld Tryd.underlying74 h (i := 1) rfl (by kernel_rfl) rfl rfl
    obtain ⟨a1, r1, b1⟩ := Opn.opn (P := Tryd.prog) (t := 9) (α := Str) h1
    obtain ⟨m2, y2, h2⟩ := opn_fld Tryd.underlying74 h (i := 2) rfl (by kernel_rfl) rfl rfl
    obtain ⟨a2, r2, b2⟩ := Opn.opn (P := Tryd.prog) (t := 36) (α := List File) h2
    exact ⟨⟨a0, a1, a2⟩, (⟨[c0], [c1, c2], rfl, r0, ⟨[c1], [c2], rfl, r1, r2⟩⟩ : rd (α := (List Int) × Str × (List File)) _ _ _ (a0, a1, a2)), b0, b1, b2⟩⟩
instance : Opn Tryd.prog 29 (List Commit) := opn_list (e := 74) (s := 3) (by kernel_rfl) rfl rfl
instance : Opn Tryd.prog 123 Head := ⟨fun {H enc w base spare held fuel cs x} h => by
  have hl := opn_len Tryd.underlying123 h (n := 2) (by kernel_rfl)
  match cs, hl, h with
  | [c0, c1], _, h =>
    obtain ⟨m0, y0, h0⟩ := opn_fld Tryd.underlying123 h (i := 0) rfl (by kernel_rfl) rfl rfl
    obtain ⟨a0, r0, b0⟩ := Opn.opn (P := Tryd.prog) (t := 9) (α := Str) h0
    obtain ⟨m1, y1, h1⟩ := opn_fld Tryd.underlying123 h (i := 1) rfl (by kernel_rfl) rfl rfl
    obtain ⟨a1, r1, b1⟩ := Opn.opn (P := Tryd.prog) (t := 3) (α := Int) h1
    exact ⟨⟨a0, a1⟩, (⟨[c0], [c1], rfl, r0, r1⟩ : rd (α := Str × Int) _ _ _ (a0, a1)), b0, b1⟩⟩
instance : Opn Tryd.prog 30 (List Head) := opn_list (e := 123) (s := 2) (by kernel_rfl) rfl rfl
instance : Opn Tryd.prog 32 Repo := ⟨fun {H enc w base spare held fuel cs x} h => by
  have hl := opn_len Tryd.underlying32 h (n := 2) (by kernel_rfl)
  match cs, hl, h with
  | [c0, c1], _, h =>
    obtain ⟨m0, y0, h0⟩ := opn_fld Tryd.underlying32 h (i := 0) rfl (by kernel_rfl) rfl rfl
    obtain ⟨a0, r0, b0⟩ := Opn.opn (P := Tryd.prog) (t := 29) (α := List Commit) h0
    obtain ⟨m1, y1, h1⟩ := opn_fld Tryd.underlying32 h (i := 1) rfl (by kernel_rfl) rfl rfl
    obtain ⟨a1, r1, b1⟩ := Opn.opn (P := Tryd.prog) (t := 30) (α := List Head) h1
    exact ⟨⟨a0, a1⟩, (⟨[c0], [c1], rfl, r0, r1⟩ : rd (α := (List Commit) × (List Head)) _ _ _ (a0, a1)), b0, b1⟩⟩
instance : Opn Tryd.prog 55 Vm.Op := ⟨fun {H enc w base spare held fuel cs x} h => by
  have hl := opn_len Tryd.underlying55 h (n := 7) (by kernel_rfl)
  match cs, hl, h with
  | [c0, c1, c2, c3, c4, c5, c6], _, h =>
    obtain ⟨m0, y0, h0⟩ := opn_fld Tryd.underlying55 h (i := 0) rfl (by kernel_rfl) rfl rfl
    obtain ⟨a0, r0, b0⟩ := Opn.opn (P := Tryd.prog) (t := 3) (α := Int) h0
    obtain ⟨m1, y1, h1⟩ := opn_fld Tryd.underlying55 h (i := 1) rfl (by kernel_rfl) rfl rfl
    obtain ⟨a1, r1, b1⟩ := Opn.opn (P := Tryd.prog) (t := 9) (α := Str) h1
    obtain ⟨m2, y2, h2⟩ := opn_fld Tryd.underlying55 h (i := 2) rfl (by kernel_rfl) rfl rfl
    obtain ⟨a2, r2, b2⟩ := Opn.opn (P := Tryd.prog) (t := 9) (α := Str) h2
    obtain ⟨m3, y3, h3⟩ := opn_fld Tryd.underlying55 h (i := 3) rfl (by kernel_rfl) rfl rfl
    obtain ⟨a3, r3, b3⟩ := Opn.opn (P := Tryd.prog) (t := 9) (α := Str) h3
    obtain ⟨m4, y4, h4⟩ := opn_fld Tryd.underlying55 h (i := 4) rfl (by kernel_rfl) rfl rfl
    obtain ⟨a4, r4, b4⟩ := Opn.opn (P := Tryd.prog) (t := 9) (α := Str) h4
    obtain ⟨m5, y5, h5⟩ := opn_fld Tryd.underlying55 h (i := 5) rfl (by kernel_rfl) rfl rfl
    obtain ⟨a5, r5, b5⟩ := Opn.opn (P := Tryd.prog) (t := 3) (α := Int) h5
    obtain ⟨m6, y6, h6⟩ := opn_fld Tryd.underlying55 h (i := 6) rfl (by kernel_rfl) rfl rfl
    obtain ⟨a6, r6, b6⟩ := Opn.opn (P := Tryd.prog) (t := 53) (α := List Str) h6
    exact ⟨⟨a0, a1, a2, a3, a4, a5, a6⟩, (⟨[c0], [c1, c2, c3, c4, c5, c6], rfl, r0, ⟨[c1], [c2, c3, c4, c5, c6], rfl, r1, ⟨[c2], [c3, c4, c5, c6], rfl, r2, ⟨[c3], [c4, c5, c6], rfl, r3, ⟨[c4], [c5, c6], rfl, r4, ⟨[c5], [c6], rfl, r5, r6⟩⟩⟩⟩⟩⟩ : rd (α := Int × Str × Str × Str × Str × Int × (List Str)) _ _ _ (a0, a1, a2, a3, a4, a5, a6)), b0, b1, b2, b3, b4, b5, b6⟩⟩
instance : Opn Tryd.prog 61 (List Byte) := opn_list (e := 5) (s := 1) (by kernel_rfl) rfl rfl
end Go.Sx
