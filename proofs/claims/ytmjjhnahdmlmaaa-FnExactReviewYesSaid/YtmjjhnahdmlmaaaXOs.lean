/- What the statements say of the arguments, as readings: each type of the seat. Conditions: none. -/
import Derived.Test.YtmjjhnahdmlmaaaXTs
import Derived.Test.YtmjjhnahdmlmaaaXBk
import Derived.Test.YtmjjhnahdmlmaaaXOp
namespace Go.Sx
open Go Go.Proofs Go.Vm Rp

instance : Opn Try.prog 2 Int := ⟨fun h => by
  obtain ⟨n, rfl, _, hw⟩ := DataW.trod_int Try.underlying2 h
  exact ⟨n, ⟨rfl, trivial⟩, int_fit hw⟩⟩
instance : Opn Try.prog 3 Int := ⟨fun h => by
  obtain ⟨n, rfl, _, hw⟩ := DataW.trod_int Try.underlying3 h
  exact ⟨n, ⟨rfl, trivial⟩, int_fit hw⟩⟩
instance : Opn Try.prog 4 Bool := ⟨fun h => by
  obtain ⟨b, rfl, _⟩ := DataW.trod_bool Try.underlying4 h
  exact ⟨b, ⟨rfl, trivial⟩, trivial⟩⟩
instance : Opn Try.prog 5 Byte := ⟨fun h => by
  obtain ⟨n, rfl, _, hw⟩ := DataW.trod_int Try.underlying5 h
  obtain ⟨b, rfl⟩ := byte_of hw
  exact ⟨b, ⟨rfl, trivial⟩, trivial⟩⟩
instance : Opn Try.prog 9 Str := ⟨fun h => by
  obtain ⟨s, rfl, _, hw⟩ := DataW.trod_string Try.underlying9 h
  exact ⟨s.data.toList, ⟨rfl, trivial⟩, str_fit hw⟩⟩
instance : Opn Try.prog 22 (List Str) := opn_list (e := 9) (s := 1) (by kernel_rfl) rfl rfl
instance : Opn Try.prog 24 Review := ⟨fun {H enc w base spare held fuel cs x} h => by
  have hl := opn_len Try.underlying24 h (n := 4) (by kernel_rfl)
  match cs, hl, h with
  | [c0, c1, c2, c3], _, h =>
    obtain ⟨m0, y0, h0⟩ := opn_fld Try.underlying24 h (i := 0) rfl (by kernel_rfl) rfl rfl
    obtain ⟨a0, r0, b0⟩ := Opn.opn (P := Try.prog) (t := 9) (α := Str) h0
    obtain ⟨m1, y1, h1⟩ := opn_fld Try.underlying24 h (i := 1) rfl (by kernel_rfl) rfl rfl
    obtain ⟨a1, r1, b1⟩ := Opn.opn (P := Try.prog) (t := 9) (α := Str) h1
    obtain ⟨m2, y2, h2⟩ := opn_fld Try.underlying24 h (i := 2) rfl (by kernel_rfl) rfl rfl
    obtain ⟨a2, r2, b2⟩ := Opn.opn (P := Try.prog) (t := 9) (α := Str) h2
    obtain ⟨m3, y3, h3⟩ := opn_fld Try.underlying24 h (i := 3) rfl (by kernel_rfl) rfl rfl
    obtain ⟨a3, r3, b3⟩ := Opn.opn (P := Try.prog) (t := 22) (α := List Str) h3
    exact ⟨⟨a0, a1, a2, a3⟩, (⟨[c0], [c1, c2, c3], rfl, r0, ⟨[c1], [c2, c3], rfl, r1, ⟨[c2], [c3], rfl, r2, r3⟩⟩⟩ : rd (α := Str × Str × Str × (List Str)) _ _ _ (a0, a1, a2, a3)), b0, b1, b2, b3⟩⟩
instance : Opn Try.prog 26 Review := ⟨fun {H enc w base spare held fuel cs x} h => by
  have hl := opn_len Try.underlying26 h (n := 4) (by kernel_rfl)
  match cs, hl, h with
  | [c0, c1, c2, c3], _, h =>
    obtain ⟨m0, y0, h0⟩ := opn_fld Try.underlying26 h (i := 0) rfl (by kernel_rfl) rfl rfl
    obtain ⟨a0, r0, b0⟩ := Opn.opn (P := Try.prog) (t := 9) (α := Str) h0
    obtain ⟨m1, y1, h1⟩ := opn_fld Try.underlying26 h (i := 1) rfl (by kernel_rfl) rfl rfl
    obtain ⟨a1, r1, b1⟩ := Opn.opn (P := Try.prog) (t := 9) (α := Str) h1
    obtain ⟨m2, y2, h2⟩ := opn_fld Try.underlying26 h (i := 2) rfl (by kernel_rfl) rfl rfl
    obtain ⟨a2, r2, b2⟩ := Opn.opn (P := Try.prog) (t := 9) (α := Str) h2
    obtain ⟨m3, y3, h3⟩ := opn_fld Try.underlying26 h (i := 3) rfl (by kernel_rfl) rfl rfl
    obtain ⟨a3, r3, b3⟩ := Opn.opn (P := Try.prog) (t := 22) (α := List Str) h3
    exact ⟨⟨a0, a1, a2, a3⟩, (⟨[c0], [c1, c2, c3], rfl, r0, ⟨[c1], [c2, c3], rfl, r1, ⟨[c2], [c3], rfl, r2, r3⟩⟩⟩ : rd (α := Str × Str × Str × (List Str)) _ _ _ (a0, a1, a2, a3)), b0, b1, b2, b3⟩⟩
instance : Opn Try.prog 47 (List Byte) := opn_list (e := 5) (s := 1) (by kernel_rfl) rfl rfl
instance : Opn Try.prog 49 Int := ⟨fun h => by
  obtain ⟨n, rfl, _, hw⟩ := DataW.trod_int Try.underlying49 h
  exact ⟨n, ⟨rfl, trivial⟩, int_fit hw⟩⟩
end Go.Sx
