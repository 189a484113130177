/- What the statements say of the arguments, as readings: each type of the seat. Conditions: none. -/
import Derived.Test.YtkfeiopifiejgaaGreatDoorXTs
import Derived.Test.YtkfeiopifiejgaaGreatDoorXLw
import Derived.Test.YtkfeiopifiejgaaGreatDoorXOp
namespace Go.Sx
open Go Go.Proofs Go.Vm Rp

instance : Opn Tryz.prog 2 Int := ⟨fun h => by
  obtain ⟨n, rfl, _, hw⟩ := DataW.trod_int Tryz.underlying2 h
  exact ⟨n, ⟨rfl, trivial⟩, int_fit hw⟩⟩
instance : Opn Tryz.prog 3 Int := ⟨fun h => by
  obtain ⟨n, rfl, _, hw⟩ := DataW.trod_int Tryz.underlying3 h
  exact ⟨n, ⟨rfl, trivial⟩, int_fit hw⟩⟩
instance : Opn Tryz.prog 4 Bool := ⟨fun h => by
  obtain ⟨b, rfl, _⟩ := DataW.trod_bool Tryz.underlying4 h
  exact ⟨b, ⟨rfl, trivial⟩, trivial⟩⟩
instance : Opn Tryz.prog 5 Byte := ⟨fun h => by
  obtain ⟨n, rfl, _, hw⟩ := DataW.trod_int Tryz.underlying5 h
  obtain ⟨b, rfl⟩ := byte_of hw
  exact ⟨b, ⟨rfl, trivial⟩, trivial⟩⟩
instance : Opn Tryz.prog 9 Str := ⟨fun h => by
  obtain ⟨s, rfl, _, hw⟩ := DataW.trod_string Tryz.underlying9 h
  exact ⟨s.data.toList, ⟨rfl, trivial⟩, str_fit hw⟩⟩
instance : Opn Tryz.prog 22 (List Byte) := opn_list (e := 5) (s := 1) (by kernel_rfl) rfl rfl
instance : Opn Tryz.prog 29 (List Int) := opn_list (e := 3) (s := 1) (by kernel_rfl) rfl rfl
instance : Opn Tryz.prog 63 (List Str) := opn_list (e := 9) (s := 1) (by kernel_rfl) rfl rfl
instance : Opn Tryz.prog 82 File := ⟨fun {H enc w base spare held fuel cs x} h => by
  have hl := opn_len Tryz.underlying82 h (n := 2) (by kernel_rfl)
  match cs, hl, h with
  | [c0, c1], _, h =>
    obtain ⟨m0, y0, h0⟩ := opn_fld Tryz.underlying82 h (i := 0) rfl (by kernel_rfl) rfl rfl
    obtain ⟨a0, r0, b0⟩ := Opn.opn (P := Tryz.prog) (t := 9) (α := Str) h0
    obtain ⟨m1, y1, h1⟩ := opn_fld Tryz.underlying82 h (i := 1) rfl (by kernel_rfl) rfl rfl
    obtain ⟨a1, r1, b1⟩ := Opn.opn (P := Tryz.prog) (t := 63) (α := List Str) h1
    exact ⟨⟨a0, a1⟩, (⟨[c0], [c1], rfl, r0, r1⟩ : rd (α := Str × (List Str)) _ _ _ (a0, a1)), b0, b1⟩⟩
instance : Opn Tryz.prog 33 (List File) := opn_list (e := 82) (s := 2) (by kernel_rfl) rfl rfl
instance : Opn Tryz.prog 35 Commit := ⟨fun {H enc w base spare held fuel cs x} h => by
  have hl := opn_len Tryz.underlying35 h (n := 3) (by kernel_rfl)
  match cs, hl, h with
  | [c0, c1, c2], _, h =>
    obtain ⟨m0, y0, h0⟩ := opn_fld Tryz.underlying35 h (i := 0) rfl (by kernel_rfl) rfl rfl
    obtain ⟨a0, r0, b0⟩ := Opn.opn (P := Tryz.prog) (t := 29) (α := List Int) h0
    obtain ⟨m1, y1, h1⟩ := opn_fld Tryz.underlying35 h (i := 1) rfl (by kernel_rfl) rfl rfl
    obtain ⟨a1, r1, b1⟩ := Opn.opn (P := Tryz.prog) (t := 9) (α := Str) h1
    obtain ⟨m2, y2, h2⟩ := opn_fld Tryz.underlying35 h (i := 2) rfl (by kernel_rfl) rfl rfl
    obtain ⟨a2, r2, b2⟩ := Opn.opn (P := Tryz.prog) (t := 33) (α := List File) h2
    exact ⟨⟨a0, a1, a2⟩, (⟨[c0], [c1, c2], rfl, r0, ⟨[c1], [c2], rfl, r1, r2⟩⟩ : rd (α := (List Int) × Str × (List File)) _ _ _ (a0, a1, a2)), b0, b1, b2⟩⟩
instance : Opn Tryz.prog 23 (List Commit) := opn_list (e := 35) (s := 3) (by kernel_rfl) rfl rfl
instance : Opn Tryz.prog 48 Head := ⟨fun {H enc w base spare held fuel cs x} h => by
  have hl := opn_len Tryz.underlying48 h (n := 2) (by kernel_rfl)
  match cs, hl, h with
  | [c0, c1], _, h =>
    obtain ⟨m0, y0, h0⟩ := opn_fld Tryz.underlying48 h (i := 0) rfl (by kernel_rfl) rfl rfl
    obtain ⟨a0, r0, b0⟩ := Opn.opn (P := Tryz.prog) (t := 9) (α := Str) h0
    obtain ⟨m1, y1, h1⟩ := opn_fld Tryz.underlying48 h (i := 1) rfl (by kernel_rfl) rfl rfl
    obtain ⟨a1, r1, b1⟩ := Opn.opn (P := Tryz.prog) (t := 3) (α := Int) h1
    exact ⟨⟨a0, a1⟩, (⟨[c0], [c1], rfl, r0, r1⟩ : rd (α := Str × Int) _ _ _ (a0, a1)), b0, b1⟩⟩
instance : Opn Tryz.prog 24 (List Head) := opn_list (e := 48) (s := 2) (by kernel_rfl) rfl rfl
instance : Opn Tryz.prog 26 Repo := ⟨fun {H enc w base spare held fuel cs x} h => by
  have hl := opn_len Tryz.underlying26 h (n := 2) (by kernel_rfl)
  match cs, hl, h with
  | [c0, c1], _, h =>
    obtain ⟨m0, y0, h0⟩ := opn_fld Tryz.underlying26 h (i := 0) rfl (by kernel_rfl) rfl rfl
    obtain ⟨a0, r0, b0⟩ := Opn.opn (P := Tryz.prog) (t := 23) (α := List Commit) h0
    obtain ⟨m1, y1, h1⟩ := opn_fld Tryz.underlying26 h (i := 1) rfl (by kernel_rfl) rfl rfl
    obtain ⟨a1, r1, b1⟩ := Opn.opn (P := Tryz.prog) (t := 24) (α := List Head) h1
    exact ⟨⟨a0, a1⟩, (⟨[c0], [c1], rfl, r0, r1⟩ : rd (α := (List Commit) × (List Head)) _ _ _ (a0, a1)), b0, b1⟩⟩
instance : Opn Tryz.prog 56 (List Bool) := opn_list (e := 4) (s := 1) (by kernel_rfl) rfl rfl
instance : Opn Tryz.prog 98 Vm.Op := ⟨fun {H enc w base spare held fuel cs x} h => by
  have hl := opn_len Tryz.underlying98 h (n := 7) (by kernel_rfl)
  match cs, hl, h with
  | [c0, c1, c2, c3, c4, c5, c6], _, h =>
    obtain ⟨m0, y0, h0⟩ := opn_fld Tryz.underlying98 h (i := 0) rfl (by kernel_rfl) rfl rfl
    obtain ⟨a0, r0, b0⟩ := Opn.opn (P := Tryz.prog) (t := 3) (α := Int) h0
    obtain ⟨m1, y1, h1⟩ := opn_fld Tryz.underlying98 h (i := 1) rfl (by kernel_rfl) rfl rfl
    obtain ⟨a1, r1, b1⟩ := Opn.opn (P := Tryz.prog) (t := 9) (α := Str) h1
    obtain ⟨m2, y2, h2⟩ := opn_fld Tryz.underlying98 h (i := 2) rfl (by kernel_rfl) rfl rfl
    obtain ⟨a2, r2, b2⟩ := Opn.opn (P := Tryz.prog) (t := 9) (α := Str) h2
    obtain ⟨m3, y3, h3⟩ := opn_fld Tryz.underlying98 h (i := 3) rfl (by kernel_rfl) rfl rfl
    obtain ⟨a3, r3, b3⟩ := Opn.opn (P := Tryz.prog) (t := 9) (α := Str) h3
    obtain ⟨m4, y4, h4⟩ := opn_fld Tryz.underlying98 h (i := 4) rfl (by kernel_rfl) rfl rfl
    obtain ⟨a4, r4, b4⟩ := Opn.opn (P := Tryz.prog) (t := 9) (α := Str) h4
    obtain ⟨m5, y5, h5⟩ := opn_fld Tryz.underlying98 h (i := 5) rfl (by kernel_rfl) rfl rfl
    obtain ⟨a5, r5, b5⟩ := Opn.opn (P := Tryz.prog) (t := 3) (α := Int) h5
    obtain ⟨m6, y6, h6⟩ := opn_fld Tryz.underlying98 h (i := 6) rfl (by kernel_rfl) rfl rfl
    obtain ⟨a6, r6, b6⟩ := Opn.opn (P := Tryz.prog) (t := 63) (α := List Str) h6
    exact ⟨⟨a0, a1, a2, a3, a4, a5, a6⟩, (⟨[c0], [c1, c2, c3, c4, c5, c6], rfl, r0, ⟨[c1], [c2, c3, c4, c5, c6], rfl, r1, ⟨[c2], [c3, c4, c5, c6], rfl, r2, ⟨[c3], [c4, c5, c6], rfl, r3, ⟨[c4], [c5, c6], rfl, r4, ⟨[c5], [c6], rfl, r5, r6⟩⟩⟩⟩⟩⟩ : rd (α := Int × Str × Str × Str × Str × Int × (List Str)) _ _ _ (a0, a1, a2, a3, a4, a5, a6)), b0, b1, b2, b3, b4, b5, b6⟩⟩
instance : Opn Tryz.prog 91 (List Vm.Op) := opn_list (e := 98) (s := 7) (by kernel_rfl) rfl rfl
instance : Opn Tryz.prog 132 Clash := ⟨fun {H enc w base spare held fuel cs x} h => by
  have hl := opn_len Tryz.underlying132 h (n := 2) (by kernel_rfl)
  match cs, hl, h with
  | [c0, c1], _, h =>
    obtain ⟨m0, y0, h0⟩ := opn_fld Tryz.underlying132 h (i := 0) rfl (by kernel_rfl) rfl rfl
    obtain ⟨a0, r0, b0⟩ := Opn.opn (P := Tryz.prog) (t := 9) (α := Str) h0
    obtain ⟨m1, y1, h1⟩ := opn_fld Tryz.underlying132 h (i := 1) rfl (by kernel_rfl) rfl rfl
    obtain ⟨a1, r1, b1⟩ := Opn.opn (P := Tryz.prog) (t := 3) (α := Int) h1
    exact ⟨⟨a0, a1⟩, (⟨[c0], [c1], rfl, r0, r1⟩ : rd (α := Str × Int) _ _ _ (a0, a1)), b0, b1⟩⟩
instance : Opn Tryz.prog 126 (List Clash) := opn_list (e := 132) (s := 2) (by kernel_rfl) rfl rfl
instance : Opn Tryz.prog 152 Part := ⟨fun {H enc w base spare held fuel cs x} h => by
  have hl := opn_len Tryz.underlying152 h (n := 5) (by kernel_rfl)
  match cs, hl, h with
  | [c0, c1, c2, c3, c4], _, h =>
    obtain ⟨m0, y0, h0⟩ := opn_fld Tryz.underlying152 h (i := 0) rfl (by kernel_rfl) rfl rfl
    obtain ⟨a0, r0, b0⟩ := Opn.opn (P := Tryz.prog) (t := 4) (α := Bool) h0
    obtain ⟨m1, y1, h1⟩ := opn_fld Tryz.underlying152 h (i := 1) rfl (by kernel_rfl) rfl rfl
    obtain ⟨a1, r1, b1⟩ := Opn.opn (P := Tryz.prog) (t := 63) (α := List Str) h1
    obtain ⟨m2, y2, h2⟩ := opn_fld Tryz.underlying152 h (i := 2) rfl (by kernel_rfl) rfl rfl
    obtain ⟨a2, r2, b2⟩ := Opn.opn (P := Tryz.prog) (t := 63) (α := List Str) h2
    obtain ⟨m3, y3, h3⟩ := opn_fld Tryz.underlying152 h (i := 3) rfl (by kernel_rfl) rfl rfl
    obtain ⟨a3, r3, b3⟩ := Opn.opn (P := Tryz.prog) (t := 63) (α := List Str) h3
    obtain ⟨m4, y4, h4⟩ := opn_fld Tryz.underlying152 h (i := 4) rfl (by kernel_rfl) rfl rfl
    obtain ⟨a4, r4, b4⟩ := Opn.opn (P := Tryz.prog) (t := 63) (α := List Str) h4
    exact ⟨⟨a0, a1, a2, a3, a4⟩, (⟨[c0], [c1, c2, c3, c4], rfl, r0, ⟨[c1], [c2, c3, c4], rfl, r1, ⟨[c2], [c3, c4], rfl, r2, ⟨[c3], [c4], rfl, r3, r4⟩⟩⟩⟩ : rd (α := Bool × (List Str) × (List Str) × (List Str) × (List Str)) _ _ _ (a0, a1, a2, a3, a4)), b0, b1, b2, b3, b4⟩⟩
instance : Opn Tryz.prog 148 (List Part) := opn_list (e := 152) (s := 5) (by kernel_rfl) rfl rfl
instance : Opn Tryz.prog 156 (List (List Int)) := opn_list (e := 29) (s := 1) (by kernel_rfl) rfl rfl
end Go.Sx
