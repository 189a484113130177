/- What the statements say of the arguments, as readings: each type of the seat. Conditions: none. -/
import Derived.Test.YtmjjhnahdmlmaaaDoorXTs
import Derived.Test.YtmjjhnahdmlmaaaDoorXLw
import Derived.Test.YtmjjhnahdmlmaaaDoorXOp
namespace Go.Sx
open Go Go.Proofs Go.Vm Rp

instance : Opn Tryd.prog 2 Int := ⟨fun h => by
  obtain ⟨n, rfl, _, hw⟩ := DataW.trod_int Tryd.underlying2 h
  exact ⟨n, ⟨rfl, trivial⟩, int_fit hw⟩⟩
instance : Opn Tryd.prog 3 Int := ⟨fun h => by
  obtain ⟨n, rfl, _, hw⟩ := DataW.trod_int Tryd.underlying3 h
  exact ⟨n, ⟨rfl, trivial⟩, int_fit hw⟩⟩
instance : Opn Tryd.prog 4 Bool := ⟨fun h => by
  obtain ⟨b, rfl, _⟩ := DataW.trod_bool Tryd.underlying4 h
  exact ⟨b, ⟨rfl, trivial⟩, trivial⟩⟩
instance : Opn Tryd.prog 5 Byte := ⟨fun h => by
  obtain ⟨n, rfl, _, hw⟩ := DataW.trod_int Tryd.underlying5 h
  obtain ⟨b, rfl⟩ := byte_of hw
  exact ⟨b, ⟨rfl, trivial⟩, trivial⟩⟩
instance : Opn Tryd.prog 9 Str := ⟨fun h => by
  obtain ⟨s, rfl, _, hw⟩ := DataW.trod_string Tryd.underlying9 h
  exact ⟨s.data.toList, ⟨rfl, trivial⟩, str_fit hw⟩⟩
instance : Opn Tryd.prog 22 (List Str) := opn_list (e := 9) (s := 1) (by kernel_rfl) rfl rfl
instance : Opn Tryd.prog 24 Vm.Op := ⟨fun {H enc w base spare held fuel cs x} h => by
  have hl := opn_len Tryd.underlying24 h (n := 7) (by kernel_rfl)
  match cs, hl, h with
  | [c0, c1, c2, c3, c4, c5, c6], _, h =>
    obtain ⟨m0, y0, h0⟩ := opn_fld Tryd.underlying24 h (i := 0) rfl (by kernel_rfl) rfl rfl
    obtain ⟨a0, r0, b0⟩ := Opn.opn (P := Tryd.prog) (t := 3) (α := Int) h0
    obtain ⟨m1, y1, h1⟩ := opn_fld Tryd.underlying24 h (i := 1) rfl (by kernel_rfl) rfl rfl
    obtain ⟨a1, r1, b1⟩ := Opn.opn (P := Tryd.prog) (t := 9) (α := Str) h1
    obtain ⟨m2, y2, h2⟩ := opn_fld Tryd.underlying24 h (i := 2) rfl (by kernel_rfl) rfl rfl
    obtain ⟨a2, r2, b2⟩ := Opn.opn (P := Tryd.prog) (t := 9) (α := Str) h2
    obtain ⟨m3, y3, h3⟩ := opn_fld Tryd.underlying24 h (i := 3) rfl (by kernel_rfl) rfl rfl
    obtain ⟨a3, r3, b3⟩ := Opn.opn (P := Tryd.prog) (t := 9) (α := Str) h3
    obtain ⟨m4, y4, h4⟩ := opn_fld Tryd.underlying24 h (i := 4) rfl (by kernel_rfl) rfl rfl
    obtain ⟨a4, r4, b4⟩ := Opn.opn (P := Tryd.prog) (t := 9) (α := Str) h4
    obtain ⟨m5, y5, h5⟩ := opn_fld Tryd.underlying24 h (i := 5) rfl (by kernel_rfl) rfl rfl
    obtain ⟨a5, r5, b5⟩ := Opn.opn (P := Tryd.prog) (t := 3) (α := Int) h5
    obtain ⟨m6, y6, h6⟩ := opn_fld Tryd.underlying24 h (i := 6) rfl (by kernel_rfl) rfl rfl
    obtain ⟨a6, r6, b6⟩ := Opn.opn (P := Tryd.prog) (t := 22) (α := List Str) h6
    exact ⟨⟨a0, a1, a2, a3, a4, a5, a6⟩, (⟨[c0], [c1, c2, c3, c4, c5, c6], rfl, r0, ⟨[c1], [c2, c3, c4, c5, c6], rfl, r1, ⟨[c2], [c3, c4, c5, c6], rfl, r2, ⟨[c3], [c4, c5, c6], rfl, r3, ⟨[c4], [c5, c6], rfl, r4, ⟨[c5], [c6], rfl, r5, r6⟩⟩⟩⟩⟩⟩ : rd (α := Int × Str × Str × Str × Str × Int × (List Str)) _ _ _ (a0, a1, a2, a3, a4, a5, a6)), b0, b1, b2, b3, b4, b5, b6⟩⟩
instance : Opn Tryd.prog 27 Vm.Op := ⟨fun {H enc w base spare held fuel cs x} h => by
  have hl := opn_len Tryd.underlying27 h (n := 7) (by kernel_rfl)
  match cs, hl, h with
  | [c0, c1, c2, c3, c4, c5, c6], _, h =>
    obtain ⟨m0, y0, h0⟩ := opn_fld Tryd.underlying27 h (i := 0) rfl (by kernel_rfl) rfl rfl
    obtain ⟨a0, r0, b0⟩ := Opn.opn (P := Tryd.prog) (t := 3) (α := Int) h0
    obtain ⟨m1, y1, h1⟩ := opn_fld Tryd.underlying27 h (i := 1) rfl (by kernel_rfl) rfl rfl
    obtain ⟨a1, r1, b1⟩ := Opn.opn (P := Tryd.prog) (t := 9) (α := Str) h1
    obtain ⟨m2, y2, h2⟩ := opn_fld Tryd.underlying27 h (i := 2) rfl (by kernel_rfl) rfl rfl
    obtain ⟨a2, r2, b2⟩ := Opn.opn (P := Tryd.prog) (t := 9) (α := Str) h2
    obtain ⟨m3, y3, h3⟩ := opn_fld Tryd.underlying27 h (i := 3) rfl (by kernel_rfl) rfl rfl
    obtain ⟨a3, r3, b3⟩ := Opn.opn (P := Tryd.prog) (t := 9) (α := Str) h3
    obtain ⟨m4, y4, h4⟩ := opn_fld Tryd.underlying27 h (i := 4) rfl (by kernel_rfl) rfl rfl
    obtain ⟨a4, r4, b4⟩ := Opn.opn (P := Tryd.prog) (t := 9) (α := Str) h4
    obtain ⟨m5, y5, h5⟩ := opn_fld Tryd.underlying27 h (i := 5) rfl (by kernel_rfl) rfl rfl
    obtain ⟨a5, r5, b5⟩ := Opn.opn (P := Tryd.prog) (t := 3) (α := Int) h5
    obtain ⟨m6, y6, h6⟩ := opn_fld Tryd.underlying27 h (i := 6) rfl (by kernel_rfl) rfl rfl
    obtain ⟨a6, r6, b6⟩ := Opn.opn (P := Tryd.prog) (t := 22) (α := List Str) h6
    exact ⟨⟨a0, a1, a2, a3, a4, a5, a6⟩, (⟨[c0], [c1, c2, c3, c4, c5, c6], rfl, r0, ⟨[c1], [c2, c3, c4, c5, c6], rfl, r1, ⟨[c2], [c3, c4, c5, c6], rfl, r2, ⟨[c3], [c4, c5, c6], rfl, r3, ⟨[c4], [c5, c6], rfl, r4, ⟨[c5], [c6], rfl, r5, r6⟩⟩⟩⟩⟩⟩ : rd (α := Int × Str × Str × Str × Str × Int × (List Str)) _ _ _ (a0, a1, a2, a3, a4, a5, a6)), b0, b1, b2, b3, b4, b5, b6⟩⟩
instance : Opn Tryd.prog 64 (List Int) := opn_list (e := 3) (s := 1) (by kernel_rfl) rfl rfl
instance : Opn Tryd.prog 96 File := ⟨fun {H enc w base spare held fuel cs x} h => by
  have hl := opn_len Tryd.underlying96 h (n := 2) (by kernel_rfl)
  match cs, hl, h with
  | [c0, c1], _, h =>
    obtain ⟨m0, y0, h0⟩ := opn_fld Tryd.underlying96 h (i := 0) rfl (by kernel_rfl) rfl rfl
    obtain ⟨a0, r0, b0⟩ := Opn.opn (P := Tryd.prog) (t := 9) (α := Str) h0
    obtain ⟨m1, y1, h1⟩ := opn_fld Tryd.underlying96 h (i := 1) rfl (by kernel_rfl) rfl rfl
    obtain ⟨a1, r1, b1⟩ := Opn.opn (P := Tryd.prog) (t := 22) (α := List Str) h1
    exact ⟨⟨a0, a1⟩, (⟨[c0], [c1], rfl, r0, r1⟩ : rd (α := Str × (List Str)) _ _ _ (a0, a1)), b0, b1⟩⟩
instance : Opn Tryd.prog 48 (List File) := opn_list (e := 96) (s := 2) (by kernel_rfl) rfl rfl
instance : Opn Tryd.prog 115 Commit := ⟨fun {H enc w base spare held fuel cs x} h => by
  have hl := opn_len Tryd.underlying115 h (n := 3) (by kernel_rfl)
  match cs, hl, h with
  | [c0, c1, c2], _, h =>
    obtain ⟨m0, y0, h0⟩ := opn_fld Tryd.underlying115 h (i := 0) rfl (by kernel_rfl) rfl rfl
    obtain ⟨a0, r0, b0⟩ := Opn.opn (P := Tryd.prog) (t := 64) (α := List Int) h0
    obtain ⟨m1, y1, h1⟩ := opn_fld Tryd.underlying115 h (i := 1) rfl (by kernel_rfl) rfl rfl
    obtain ⟨a1, r1, b1⟩ := Opn.opn (P := Tryd.prog) (t := 9) (α := Str) h1
    obtain ⟨m2, y2, h2⟩ := opn_fld Tryd.underlying115 h (i := 2) rfl (by kernel_rfl) rfl rfl
    obtain ⟨a2, r2, b2⟩ := Opn.opn (P := Tryd.prog) (t := 48) (α := List File) h2
    exact ⟨⟨a0, a1, a2⟩, (⟨[c0], [c1, c2], rfl, r0, ⟨[c1], [c2], rfl, r1, r2⟩⟩ : rd (α := (List Int) × Str × (List File)) _ _ _ (a0, a1, a2)), b0, b1, b2⟩⟩
instance : Opn Tryd.prog 31 (List Commit) := opn_list (e := 115) (s := 3) (by kernel_rfl) rfl rfl
instance : Opn Tryd.prog 135 Head := ⟨fun {H enc w base spare held fuel cs x} h => by
  have hl := opn_len Tryd.underlying135 h (n := 2) (by kernel_rfl)
  match cs, hl, h with
  | [c0, c1], _, h =>
    obtain ⟨m0, y0, h0⟩ := opn_fld Tryd.underlying135 h (i := 0) rfl (by kernel_rfl) rfl rfl
    obtain ⟨a0, r0, b0⟩ := Opn.opn (P := Tryd.prog) (t := 9) (α := Str) h0
    obtain ⟨m1, y1, h1⟩ := opn_fld Tryd.underlying135 h (i := 1) rfl (by kernel_rfl) rfl rfl
    obtain ⟨a1, r1, b1⟩ := Opn.opn (P := Tryd.prog) (t := 3) (α := Int) h1
    exact ⟨⟨a0, a1⟩, (⟨[c0], [c1], rfl, r0, r1⟩ : rd (α := Str × Int) _ _ _ (a0, a1)), b0, b1⟩⟩
instance : Opn Tryd.prog 32 (List Head) := opn_list (e := 135) (s := 2) (by kernel_rfl) rfl rfl
instance : Opn Tryd.prog 34 Repo := ⟨fun {H enc w base spare held fuel cs x} h => by
  have hl := opn_len Tryd.underlying34 h (n := 2) (by kernel_rfl)
  match cs, hl, h with
  | [c0, c1], _, h =>
    obtain ⟨m0, y0, h0⟩ := opn_fld Tryd.underlying34 h (i := 0) rfl (by kernel_rfl) rfl rfl
    obtain ⟨a0, r0, b0⟩ := Opn.opn (P := Tryd.prog) (t := 31) (α := List Commit) h0
    obtain ⟨m1, y1, h1⟩ := opn_fld Tryd.underlying34 h (i := 1) rfl (by kernel_rfl) rfl rfl
    obtain ⟨a1, r1, b1⟩ := Opn.opn (P := Tryd.prog) (t := 32) (α := List Head) h1
    exact ⟨⟨a0, a1⟩, (⟨[c0], [c1], rfl, r0, r1⟩ : rd (α := (List Commit) × (List Head)) _ _ _ (a0, a1)), b0, b1⟩⟩
instance : Opn Tryd.prog 101 File := ⟨fun {H enc w base spare held fuel cs x} h => by
  have hl := opn_len Tryd.underlying101 h (n := 2) (by kernel_rfl)
  match cs, hl, h with
  | [c0, c1], _, h =>
    obtain ⟨m0, y0, h0⟩ := opn_fld Tryd.underlying101 h (i := 0) rfl (by kernel_rfl) rfl rfl
    obtain ⟨a0, r0, b0⟩ := Opn.opn (P := Tryd.prog) (t := 9) (α := Str) h0
    obtain ⟨m1, y1, h1⟩ := opn_fld Tryd.underlying101 h (i := 1) rfl (by kernel_rfl) rfl rfl
    obtain ⟨a1, r1, b1⟩ := Opn.opn (P := Tryd.prog) (t := 22) (α := List Str) h1
    exact ⟨⟨a0, a1⟩, (⟨[c0], [c1], rfl, r0, r1⟩ : rd (α := Str × (List Str)) _ _ _ (a0, a1)), b0, b1⟩⟩
instance : Opn Tryd.prog 51 (List File) := opn_list (e := 101) (s := 2) (by kernel_rfl) rfl rfl
instance : Opn Tryd.prog 99 Commit := ⟨fun {H enc w base spare held fuel cs x} h => by
  have hl := opn_len Tryd.underlying99 h (n := 3) (by kernel_rfl)
  match cs, hl, h with
  | [c0, c1, c2], _, h =>
    obtain ⟨m0, y0, h0⟩ := opn_fld Tryd.underlying99 h (i := 0) rfl (by kernel_rfl) rfl rfl
    obtain ⟨a0, r0, b0⟩ := Opn.opn (P := Tryd.prog) (t := 64) (α := List Int) h0
    obtain ⟨m1, y1, h1⟩ := opn_fld Tryd.underlying99 h (i := 1) rfl (by kernel_rfl) rfl rfl
    obtain ⟨a1, r1, b1⟩ := Opn.opn (P := Tryd.prog) (t := 9) (α := Str) h1
    obtain ⟨m2, y2, h2⟩ := opn_fld Tryd.underlying99 h (i := 2) rfl (by kernel_rfl) rfl rfl
    obtain ⟨a2, r2, b2⟩ := Opn.opn (P := Tryd.prog) (t := 51) (α := List File) h2
    exact ⟨⟨a0, a1, a2⟩, (⟨[c0], [c1, c2], rfl, r0, ⟨[c1], [c2], rfl, r1, r2⟩⟩ : rd (α := (List Int) × Str × (List File)) _ _ _ (a0, a1, a2)), b0, b1, b2⟩⟩
instance : Opn Tryd.prog 36 (List Commit) := opn_list (e := 99) (s := 3) (by kernel_rfl) rfl rfl
instance : Opn Tryd.prog 62 Head := ⟨fun {H enc w base spare held fuel cs x} h => by
  have hl := opn_len Tryd.underlying62 h (n := 2) (by kernel_rfl)
  match cs, hl, h with
  | [c0, c1], _, h =>
    obtain ⟨m0, y0, h0⟩ := opn_fld Tryd.underlying62 h (i := 0) rfl (by kernel_rfl) rfl rfl
    obtain ⟨a0, r0, b0⟩ := Opn.opn (P := Tryd.prog) (t := 9) (α := Str) h0
    obtain ⟨m1, y1, h1⟩ := opn_fld Tryd.underlying62 h (i := 1) rfl (by kernel_rfl) rfl rfl
    obtain ⟨a1, r1, b1⟩ := Opn.opn (P := Tryd.prog) (t := 3) (α := Int) h1
    exact ⟨⟨a0, a1⟩, (⟨[c0], [c1], rfl, r0, r1⟩ : rd (α := Str × Int) _ _ _ (a0, a1)), b0, b1⟩⟩
instance : Opn Tryd.prog 37 (List Head) := opn_list (e := 62) (s := 2) (by kernel_rfl) rfl rfl
instance : Opn Tryd.prog 39 Repo := ⟨fun {H enc w base spare held fuel cs x} h => by
  have hl := opn_len Tryd.underlying39 h (n := 2) (by kernel_rfl)
  match cs, hl, h with
  | [c0, c1], _, h =>
    obtain ⟨m0, y0, h0⟩ := opn_fld Tryd.underlying39 h (i := 0) rfl (by kernel_rfl) rfl rfl
    obtain ⟨a0, r0, b0⟩ := Opn.opn (P := Tryd.prog) (t := 36) (α := List Commit) h0
    obtain ⟨m1, y1, h1⟩ := opn_fld Tryd.underlying39 h (i := 1) rfl (by kernel_rfl) rfl rfl
    obtain ⟨a1, r1, b1⟩ := Opn.opn (P := Tryd.prog) (t := 37) (α := List Head) h1
    exact ⟨⟨a0, a1⟩, (⟨[c0], [c1], rfl, r0, r1⟩ : rd (α := (List Commit) × (List Head)) _ _ _ (a0, a1)), b0, b1⟩⟩
instance : Opn Tryd.prog 56 (List Byte) := opn_list (e := 5) (s := 1) (by kernel_rfl) rfl rfl
instance : Opn Tryd.prog 155 (List Vm.Op) := opn_list (e := 27) (s := 7) (by kernel_rfl) rfl rfl
instance : Opn Tryd.prog 229 Clash := ⟨fun {H enc w base spare held fuel cs x} h => by
  have hl := opn_len Tryd.underlying229 h (n := 2) (by kernel_rfl)
  match cs, hl, h with
  | [c0, c1], _, h =>
    obtain ⟨m0, y0, h0⟩ := opn_fld Tryd.underlying229 h (i := 0) rfl (by kernel_rfl) rfl rfl
    obtain ⟨a0, r0, b0⟩ := Opn.opn (P := Tryd.prog) (t := 9) (α := Str) h0
    obtain ⟨m1, y1, h1⟩ := opn_fld Tryd.underlying229 h (i := 1) rfl (by kernel_rfl) rfl rfl
    obtain ⟨a1, r1, b1⟩ := Opn.opn (P := Tryd.prog) (t := 3) (α := Int) h1
    exact ⟨⟨a0, a1⟩, (⟨[c0], [c1], rfl, r0, r1⟩ : rd (α := Str × Int) _ _ _ (a0, a1)), b0, b1⟩⟩
instance : Opn Tryd.prog 221 (List Clash) := opn_list (e := 229) (s := 2) (by kernel_rfl) rfl rfl
instance : Opn Tryd.prog 227 (List Bool) := opn_list (e := 4) (s := 1) (by kernel_rfl) rfl rfl
instance : Opn Tryd.prog 242 Part := ⟨fun {H enc w base spare held fuel cs x} h => by
  have hl := opn_len Tryd.underlying242 h (n := 5) (by kernel_rfl)
  match cs, hl, h with
  | [c0, c1, c2, c3, c4], _, h =>
    obtain ⟨m0, y0, h0⟩ := opn_fld Tryd.underlying242 h (i := 0) rfl (by kernel_rfl) rfl rfl
    obtain ⟨a0, r0, b0⟩ := Opn.opn (P := Tryd.prog) (t := 4) (α := Bool) h0
    obtain ⟨m1, y1, h1⟩ := opn_fld Tryd.underlying242 h (i := 1) rfl (by kernel_rfl) rfl rfl
    obtain ⟨a1, r1, b1⟩ := Opn.opn (P := Tryd.prog) (t := 22) (α := List Str) h1
    obtain ⟨m2, y2, h2⟩ := opn_fld Tryd.underlying242 h (i := 2) rfl (by kernel_rfl) rfl rfl
    obtain ⟨a2, r2, b2⟩ := Opn.opn (P := Tryd.prog) (t := 22) (α := List Str) h2
    obtain ⟨m3, y3, h3⟩ := opn_fld Tryd.underlying242 h (i := 3) rfl (by kernel_rfl) rfl rfl
    obtain ⟨a3, r3, b3⟩ := Opn.opn (P := Tryd.prog) (t := 22) (α := List Str) h3
    obtain ⟨m4, y4, h4⟩ := opn_fld Tryd.underlying242 h (i := 4) rfl (by kernel_rfl) rfl rfl
    obtain ⟨a4, r4, b4⟩ := Opn.opn (P := Tryd.prog) (t := 22) (α := List Str) h4
    exact ⟨⟨a0, a1, a2, a3, a4⟩, (⟨[c0], [c1, c2, c3, c4], rfl, r0, ⟨[c1], [c2, c3, c4], rfl, r1, ⟨[c2], [c3, c4], rfl, r2, ⟨[c3], [c4], rfl, r3, r4⟩⟩⟩⟩ : rd (α := Bool × (List Str) × (List Str) × (List Str) × (List Str)) _ _ _ (a0, a1, a2, a3, a4)), b0, b1, b2, b3, b4⟩⟩
instance : Opn Tryd.prog 239 (List Part) := opn_list (e := 242) (s := 5) (by kernel_rfl) rfl rfl
instance : Opn Tryd.prog 246 (List (List Int)) := opn_list (e := 64) (s := 1) (by kernel_rfl) rfl rfl
end Go.Sx
