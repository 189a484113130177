/- What the statements say of the arguments, as readings: each type of the seat. Conditions: none. -/
import Derived.Test.YtbimgeocngkboaaGreatDoorBTs
import Derived.Test.YtbimgeocngkboaaGreatDoorBLw
import Derived.Test.YtbimgeocngkboaaGreatDoorBOp
namespace Go.Sx
open Go Go.Proofs Go.Vm Rp
instance : Opn Tryz.prog 2 Int := ⟨fun h => by
  obtain ⟨n, rfl, _, hw⟩ := DataW.trod_int Tryz.underlying2 h
  exact ⟨n, ⟨rfl, trivial⟩, int_fit hw⟩⟩
instance : Opn Tryz.prog 3 Int := ⟨fun h => by
  obtain ⟨n, rfl, _, hw⟩ := DataW.trod_int Tryz.underlying3 h
  exact ⟨n, ⟨rfl, trivial⟩, int_fit hw⟩⟩
instance : Opn Tryz.prog 4 Bool := ⟨fun h => by
  obtain ⟨b, rfl, _⟩ := DataW.trod_bool Tryz.underlying4 h
  exact ⟨b, ⟨rfl, trivial⟩, trivial⟩⟩
instance : Opn Tryz.prog 5 Byte := ⟨fun h => by
  obtain ⟨n, rfl, _, hw⟩ := DataW.trod_int Tryz.underlying5 h
  obtain ⟨b, rfl⟩ := byte_of hw
  exact ⟨b, ⟨rfl, trivial⟩, trivial⟩⟩
instance : Opn Tryz.prog 9 Str := ⟨fun h => by
  obtain ⟨s, rfl, _, hw⟩ := DataW.trod_string Tryz.underlying9 h
  exact ⟨s.data.toList, ⟨rfl, trivial⟩, str_fit hw⟩⟩
instance : Opn Tryz.prog 52 (List Int) := opn_list (e := 3) (s := 1) (by kernel_rfl) rfl rfl
instance : Opn Tryz.prog 100 (List Str) := opn_list (e := 9) (s := 1) (by kernel_rfl) rfl rfl
instance : Opn Tryz.prog 120 File := ⟨fun {H enc w base spare held fuel cs x} h => by
  have hl := opn_len Tryz.underlying120 h (n := 2) (by kernel_rfl)
  match cs, hl, h with
  | [c0, c1], _, h =>
    obtain ⟨m0, y0, h0⟩ := opn_fld Tryz.underlying120 h (i := 0) rfl (by kernel_rfl) rfl rfl
    obtain ⟨a0, r0, b0⟩ := Opn.opn (P := Tryz.prog) (t := 9) (α := Str) h0
    obtain ⟨m1, y1, h1⟩ := opn_fld Tryz.underlying120 h (i := 1) rfl (by kernel_rfl) rfl rfl
    obtain ⟨a1, r1, b1⟩ := Opn.opn (P := Tryz.prog) (t := 100) (α := List Str) h1
    exact ⟨⟨a0, a1⟩, (⟨[c0], [c1], rfl, r0, r1⟩ : rd (α := Str × (List Str)) _ _ _ (a0, a1)), b0, b1⟩⟩
instance : Opn Tryz.prog 59 (List File) := opn_list (e := 120) (s := 2) (by kernel_rfl) rfl rfl
instance : Opn Tryz.prog 61 Commit := ⟨fun {H enc w base spare held fuel cs x} h => by
  have hl := opn_len Tryz.underlying61 h (n := 3) (by kernel_rfl)
  match cs, hl, h with
  | [c0, c1, c2], _, h =>
    obtain ⟨m0, y0, h0⟩ := opn_fld Tryz.underlying61 h (i := 0) rfl (by kernel_rfl) rfl rfl
    obtain ⟨a0, r0, b0⟩ := Opn.opn (P := Tryz.prog) (t := 52) (α := List Int) h0
    obtain ⟨m1, y1, h1⟩ := opn_fld Tryz.underlying61 h (i := 1) rfl (by kernel_rfl) rfl rfl
    obtain ⟨a1, r1, b1⟩ := Opn.opn (P := Tryz.prog) (t := 9) (α := Str) h1
    obtain ⟨m2, y2, h2⟩ := opn_fld Tryz.underlying61 h (i := 2) rfl (by kernel_rfl) rfl rfl
    obtain ⟨a2, r2, b2⟩ := Opn.opn (P := Tryz.prog) (t := 59) (α := List File) h2
    exact ⟨⟨a0, a1, a2⟩, (⟨[c0], [c1, c2], rfl, r0, ⟨[c1], [c2], rfl, r1, r2⟩⟩ : rd (α := (List Int) × Str × (List File)) _ _ _ (a0, a1, a2)), b0, b1, b2⟩⟩
instance : Opn Tryz.prog 22 (List Commit) := opn_list (e := 61) (s := 3) (by kernel_rfl) rfl rfl
instance : Opn Tryz.prog 64 Head := ⟨fun {H enc w base spare held fuel cs x} h => by
  have hl := opn_len Tryz.underlying64 h (n := 2) (by kernel_rfl)
  match cs, hl, h with
  | [c0, c1], _, h =>
    obtain ⟨m0, y0, h0⟩ := opn_fld Tryz.underlying64 h (i := 0) rfl (by kernel_rfl) rfl rfl
    obtain ⟨a0, r0, b0⟩ := Opn.opn (P := Tryz.prog) (t := 9) (α := Str) h0
    obtain ⟨m1, y1, h1⟩ := opn_fld Tryz.underlying64 h (i := 1) rfl (by kernel_rfl) rfl rfl
    obtain ⟨a1, r1, b1⟩ := Opn.opn (P := Tryz.prog) (t := 3) (α := Int) h1
    exact ⟨⟨a0, a1⟩, (⟨[c0], [c1], rfl, r0, r1⟩ : rd (α := Str × Int) _ _ _ (a0, a1)), b0, b1⟩⟩
instance : Opn Tryz.prog 23 (List Head) := opn_list (e := 64) (s := 2) (by kernel_rfl) rfl rfl
instance : Opn Tryz.prog 25 Repo := ⟨fun {H enc w base spare held fuel cs x} h => by
  have hl := opn_len Tryz.underlying25 h (n := 2) (by kernel_rfl)
  match cs, hl, h with
  | [c0, c1], _, h =>
    obtain ⟨m0, y0, h0⟩ := opn_fld Tryz.underlying25 h (i := 0) rfl (by kernel_rfl) rfl rfl
    obtain ⟨a0, r0, b0⟩ := Opn.opn (P := Tryz.prog) (t := 22) (α := List Commit) h0
    obtain ⟨m1, y1, h1⟩ := opn_fld Tryz.underlying25 h (i := 1) rfl (by kernel_rfl) rfl rfl
    obtain ⟨a1, r1, b1⟩ := Opn.opn (P := Tryz.prog) (t := 23) (α := List Head) h1
    exact ⟨⟨a0, a1⟩, (⟨[c0], [c1], rfl, r0, r1⟩ : rd (α := (List Commit) × (List Head)) _ _ _ (a0, a1)), b0, b1⟩⟩
instance : Opn Tryz.prog 102 File := ⟨fun {H enc w base spare held fuel cs x} h => by
  have hl := opn_len Tryz.underlying102 h (n := 2) (by kernel_rfl)
  match cs, hl, h with
  | [c0, c1], _, h =>
    obtain ⟨m0, y0, h0⟩ := opn_fld Tryz.underlying102 h (i := 0) rfl (by kernel_rfl) rfl rfl
    obtain ⟨a0, r0, b0⟩ := Opn.opn (P := Tryz.prog) (t := 9) (α := Str) h0
    obtain ⟨m1, y1, h1⟩ := opn_fld Tryz.underlying102 h (i := 1) rfl (by kernel_rfl) rfl rfl
    obtain ⟨a1, r1, b1⟩ := Opn.opn (P := Tryz.prog) (t := 100) (α := List Str) h1
    exact ⟨⟨a0, a1⟩, (⟨[c0], [c1], rfl, r0, r1⟩ : rd (α := Str × (List Str)) _ _ _ (a0, a1)), b0, b1⟩⟩
instance : Opn Tryz.prog 53 (List File) := opn_list (e := 102) (s := 2) (by kernel_rfl) rfl rfl
instance : Opn Tryz.prog 55 Commit := ⟨fun {H enc w base spare held fuel cs x} h => by
  have hl := opn_len Tryz.underlying55 h (n := 3) (by kernel_rfl)
  match cs, hl, h with
  | [c0, c1, c2], _, h =>
    obtain ⟨m0, y0, h0⟩ := opn_fld Tryz.underlying55 h (i := 0) rfl (by kernel_rfl) rfl rfl
    obtain ⟨a0, r0, b0⟩ := Opn.opn (P := Tryz.prog) (t := 52) (α := List Int) h0
    obtain ⟨m1, y1, h1⟩ := opn_fld Tryz.underlying55 h (i := 1) rfl (by kernel_rfl) rfl rfl
    obtain ⟨a1, r1, b1⟩ := Opn.opn (P := Tryz.prog) (t := 9) (α := Str) h1
    obtain ⟨m2, y2, h2⟩ := opn_fld Tryz.underlying55 h (i := 2) rfl (by kernel_rfl) rfl rfl
    obtain ⟨a2, r2, b2⟩ := Opn.opn (P := Tryz.prog) (t := 53) (α := List File) h2
    exact ⟨⟨a0, a1, a2⟩, (⟨[c0], [c1, c2], rfl, r0, ⟨[c1], [c2], rfl, r1, r2⟩⟩ : rd (α := (List Int) × Str × (List File)) _ _ _ (a0, a1, a2)), b0, b1, b2⟩⟩
instance : Opn Tryz.prog 27 (List Commit) := opn_list (e := 55) (s := 3) (by kernel_rfl) rfl rfl
instance : Opn Tryz.prog 66 Head := ⟨fun {H enc w base spare held fuel cs x} h => by
  have hl := opn_len Tryz.underlying66 h (n := 2) (by kernel_rfl)
  match cs, hl, h with
  | [c0, c1], _, h =>
    obtain ⟨m0, y0, h0⟩ := opn_fld Tryz.underlying66 h (i := 0) rfl (by kernel_rfl) rfl rfl
    obtain ⟨a0, r0, b0⟩ := Opn.opn (P := Tryz.prog) (t := 9) (α := Str) h0
    obtain ⟨m1, y1, h1⟩ := opn_fld Tryz.underlying66 h (i := 1) rfl (by kernel_rfl) rfl rfl
    obtain ⟨a1, r1, b1⟩ := Opn.opn (P := Tryz.prog) (t := 3) (α := Int) h1
    exact ⟨⟨a0, a1⟩, (⟨[c0], [c1], rfl, r0, r1⟩ : rd (α := Str × Int) _ _ _ (a0, a1)), b0, b1⟩⟩
instance : Opn Tryz.prog 28 (List Head) := opn_list (e := 66) (s := 2) (by kernel_rfl) rfl rfl
instance : Opn Tryz.prog 30 Repo := ⟨fun {H enc w base spare held fuel cs x} h => by
  have hl := opn_len Tryz.underlying30 h (n := 2) (by kernel_rfl)
  match cs, hl, h with
  | [c0, c1], _, h =>
    obtain ⟨m0, y0, h0⟩ := opn_fld Tryz.underlying30 h (i := 0) rfl (by kernel_rfl) rfl rfl
    obtain ⟨a0, r0, b0⟩ := Opn.opn (P := Tryz.prog) (t := 27) (α := List Commit) h0
    obtain ⟨m1, y1, h1⟩ := opn_fld Tryz.underlying30 h (i := 1) rfl (by kernel_rfl) rfl rfl
    obtain ⟨a1, r1, b1⟩ := Opn.opn (P := Tryz.prog) (t := 28) (α := List Head) h1
    exact ⟨⟨a0, a1⟩, (⟨[c0], [c1], rfl, r0, r1⟩ : rd (α := (List Commit) × (List Head)) _ _ _ (a0, a1)), b0, b1⟩⟩
instance : Opn Tryz.prog 107 Clash := ⟨fun {H enc w base spare held fuel cs x} h => by
  have hl := opn_len Tryz.underlying107 h (n := 2) (by kernel_rfl)
  match cs, hl, h with
  | [c0, c1], _, h =>
    obtain ⟨m0, y0, h0⟩ := opn_fld Tryz.underlying107 h (i := 0) rfl (by kernel_rfl) rfl rfl
    obtain ⟨a0, r0, b0⟩ := Opn.opn (P := Tryz.prog) (t := 9) (α := Str) h0
    obtain ⟨m1, y1, h1⟩ := opn_fld Tryz.underlying107 h (i := 1) rfl (by kernel_rfl) rfl rfl
    obtain ⟨a1, r1, b1⟩ := Opn.opn (P := Tryz.prog) (t := 3) (α := Int) h1
    exact ⟨⟨a0, a1⟩, (⟨[c0], [c1], rfl, r0, r1⟩ : rd (α := Str × Int) _ _ _ (a0, a1)), b0, b1⟩⟩
instance : Opn Tryz.prog 71 (List Clash) := opn_list (e := 107) (s := 2) (by kernel_rfl) rfl rfl
instance : Opn Tryz.prog 82 (List Bool) := opn_list (e := 4) (s := 1) (by kernel_rfl) rfl rfl
instance : Opn Tryz.prog 117 (List Byte) := opn_list (e := 5) (s := 1) (by kernel_rfl) rfl rfl
instance : Opn Tryz.prog 131 has := ⟨fun {H enc w base spare held fuel cs x} h => by
  have hl := opn_len Tryz.underlying131 h (n := 2) (by kernel_rfl)
  match cs, hl, h with
  | [c0, c1], _, h =>
    obtain ⟨m0, y0, h0⟩ := opn_fld Tryz.underlying131 h (i := 0) rfl (by kernel_rfl) rfl rfl
    obtain ⟨a0, r0, b0⟩ := Opn.opn (P := Tryz.prog) (t := 100) (α := List Str) h0
    obtain ⟨m1, y1, h1⟩ := opn_fld Tryz.underlying131 h (i := 1) rfl (by kernel_rfl) rfl rfl
    obtain ⟨a1, r1, b1⟩ := Opn.opn (P := Tryz.prog) (t := 4) (α := Bool) h1
    exact ⟨⟨a0, a1⟩, (⟨[c0], [c1], rfl, r0, r1⟩ : rd (α := (List Str) × Bool) _ _ _ (a0, a1)), b0, b1⟩⟩
instance : Opn Tryz.prog 153 Part := ⟨fun {H enc w base spare held fuel cs x} h => by
  have hl := opn_len Tryz.underlying153 h (n := 5) (by kernel_rfl)
  match cs, hl, h with
  | [c0, c1, c2, c3, c4], _, h =>
    obtain ⟨m0, y0, h0⟩ := opn_fld Tryz.underlying153 h (i := 0) rfl (by kernel_rfl) rfl rfl
    obtain ⟨a0, r0, b0⟩ := Opn.opn (P := Tryz.prog) (t := 4) (α := Bool) h0
    obtain ⟨m1, y1, h1⟩ := opn_fld Tryz.underlying153 h (i := 1) rfl (by kernel_rfl) rfl rfl
    obtain ⟨a1, r1, b1⟩ := Opn.opn (P := Tryz.prog) (t := 100) (α := List Str) h1
    obtain ⟨m2, y2, h2⟩ := opn_fld Tryz.underlying153 h (i := 2) rfl (by kernel_rfl) rfl rfl
    obtain ⟨a2, r2, b2⟩ := Opn.opn (P := Tryz.prog) (t := 100) (α := List Str) h2
    obtain ⟨m3, y3, h3⟩ := opn_fld Tryz.underlying153 h (i := 3) rfl (by kernel_rfl) rfl rfl
    obtain ⟨a3, r3, b3⟩ := Opn.opn (P := Tryz.prog) (t := 100) (α := List Str) h3
    obtain ⟨m4, y4, h4⟩ := opn_fld Tryz.underlying153 h (i := 4) rfl (by kernel_rfl) rfl rfl
    obtain ⟨a4, r4, b4⟩ := Opn.opn (P := Tryz.prog) (t := 100) (α := List Str) h4
    exact ⟨⟨a0, a1, a2, a3, a4⟩, (⟨[c0], [c1, c2, c3, c4], rfl, r0, ⟨[c1], [c2, c3, c4], rfl, r1, ⟨[c2], [c3, c4], rfl, r2, ⟨[c3], [c4], rfl, r3, r4⟩⟩⟩⟩ : rd (α := Bool × (List Str) × (List Str) × (List Str) × (List Str)) _ _ _ (a0, a1, a2, a3, a4)), b0, b1, b2, b3, b4⟩⟩
instance : Opn Tryz.prog 143 (List Part) := opn_list (e := 153) (s := 5) (by kernel_rfl) rfl rfl
instance : Opn Tryz.prog 147 (List (List File)) := opn_list (e := 53) (s := 1) (by kernel_rfl) rfl rfl
instance : Opn Tryz.prog 164 (List (List Int)) := opn_list (e := 52) (s := 1) (by kernel_rfl) rfl rfl
instance : Opn Tryz.prog 171 Int := ⟨fun h => by
  obtain ⟨n, rfl, _, hw⟩ := DataW.trod_int Tryz.underlying171 h
  exact ⟨n, ⟨rfl, trivial⟩, int_fit hw⟩⟩
end Go.Sx
