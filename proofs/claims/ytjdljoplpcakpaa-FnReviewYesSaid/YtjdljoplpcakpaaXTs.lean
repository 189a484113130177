/- The seat's types and functions: what the rules must know of them, each fact closed. Conditions: none. -/
import Derived.Test.YtjdljoplpcakpaaXSq
import Derived.Test.YtjdljoplpcakpaaXTy
import Derived.Test.YtjdljoplpcakpaaProg
namespace Go.Sx
open Go Go.Proofs Go.Vm Rp

instance : Rp Int := Rp.atom 3 vI (fun _ => True) (fun _ => rfl) 98
instance (priority := high) : Rp Str := Rp.atom 9 (fun s => vS s) (fun _ => True) (fun _ => rfl) 30
instance : Rp Bool := Rp.atom 4 vB (fun _ => True) (fun _ => rfl) 0
instance : Rp Byte := Rp.atom 5 (fun b => .int .u8 (UInt8.toNat b)) (fun _ => True) (fun _ => rfl) 29
instance : Atm Int := ⟨fun h => ⟨rfl, h⟩⟩
instance : Atm Str := ⟨fun h => ⟨rfl, h⟩⟩
instance : Atm Bool := ⟨fun h => ⟨rfl, h⟩⟩
instance : Atm Byte := ⟨fun h => ⟨rfl, h⟩⟩
instance : Pl Int := ⟨fun h => h⟩
instance : Pl Str := ⟨fun h => h⟩
instance : Pl Bool := ⟨fun h => h⟩
instance : Pl Byte := ⟨fun h => h⟩
instance : Zr Int := ⟨0, [vI 0], ⟨rfl, rfl, trivial⟩⟩
instance : Zr Str := ⟨[], [vS []], ⟨rfl, rfl, trivial⟩⟩
instance : Zr Bool := ⟨false, [vB false], ⟨rfl, rfl, trivial⟩⟩
section
variable {W : CW} {K : List Nat} {v : Value} {p : Addr}
theorem Rd.str {s : Str} (h : Rd W K [v] s) : v = vS s := by simpa using h.1
theorem Rd.int {n : Int} (h : Rd W K [v] n) : v = vI n := by simpa using h.1
theorem Rd.bool {b : Bool} (h : Rd W K [v] b) : v = vB b := by simpa using h.1
theorem Rd.byte {b : Byte} (h : Rd W K [v] b) : v = .int .u8 (UInt8.toNat b) := by simpa using h.1
theorem At.str {s : Str} (h : At W K p s) : W.w.cell? p = some (vS s) := by obtain ⟨v, hc, hr⟩ := h.cell rfl; rw [hr.str] at hc; exact hc
theorem At.int {n : Int} (h : At W K p n) : W.w.cell? p = some (vI n) := by obtain ⟨v, hc, hr⟩ := h.cell rfl; rw [hr.int] at hc; exact hc
theorem At.bool {b : Bool} (h : At W K p b) : W.w.cell? p = some (vB b) := by obtain ⟨v, hc, hr⟩ := h.cell rfl; rw [hr.bool] at hc; exact hc
theorem At.byte {b : Byte} (h : At W K p b) : W.w.cell? p = some (.int .u8 (UInt8.toNat b)) := by obtain ⟨v, hc, hr⟩ := h.cell rfl; rw [hr.byte] at hc; exact hc
theorem rdI (n : Int) : Rd W K [vI n] n := ⟨rfl, trivial⟩
theorem rdY (b : UInt8) : Rd (α := Byte) W K [.int .u8 (UInt8.toNat b : Int)] b := ⟨rfl, trivial⟩
theorem rdS (s : Str) : Rd W K [vS s] s := ⟨rfl, trivial⟩
theorem rdB (b : Bool) : Rd W K [vB b] b := ⟨rfl, trivial⟩
end
instance : Rp Memo := Rp.iso (β := (List Str) × (List Str) × (List Str) × (List Str)) 32 (fun x => (x.Old, x.One, x.Two, x.Done)) 25
instance : Zr Memo where
  z := Vm.Memo.mk [] [] [] []
  cs := Zr.cs ((List Str) × (List Str) × (List Str) × (List Str))
  own := Zr.own (α := (List Str) × (List Str) × (List Str) × (List Str))
theorem Memo.split {W : CW} {K : List Nat} {cs : List Value} {x : Vm.Memo} (h : Rd W K cs x) : ∃ c0 c1 c2 c3 : Value, cs = [c0, c1, c2, c3] ∧ Rd W K [c0] x.Old ∧ Rd W K [c1] x.One ∧ Rd W K [c2] x.Two ∧ Rd W K [c3] x.Done := by
  replace h : Rd W K cs (x.Old, x.One, x.Two, x.Done) := h
  obtain ⟨c0, d0, rfl, h0, k0⟩ := h.split
  obtain ⟨c1, d1, rfl, h1, k1⟩ := Rd.split k0
  obtain ⟨c2, d2, rfl, h2, k2⟩ := Rd.split k1
  obtain ⟨u0, rfl, _⟩ := Rd.one h0 rfl
  obtain ⟨u1, rfl, _⟩ := Rd.one h1 rfl
  obtain ⟨u2, rfl, _⟩ := Rd.one h2 rfl
  obtain ⟨u3, rfl, _⟩ := Rd.one k2 rfl
  exact ⟨u0, u1, u2, u3, rfl, h0, h1, h2, k2⟩
theorem Memo.at0 {W : CW} {K : List Nat} {p : Addr} {x : Vm.Memo} (h : At W K p x) : At W K (p.add 0) x.Old := by
  replace h : At W K p (x.Old, x.One, x.Two, x.Done) := h
  replace h := h.fst
  exact (h_add0 p).symm ▸ h
theorem Memo.at1 {W : CW} {K : List Nat} {p : Addr} {x : Vm.Memo} (h : At W K p x) : At W K (p.add 1) x.One := by
  replace h : At W K p (x.Old, x.One, x.Two, x.Done) := h
  replace h := h.snd
  replace h := h.fst
  exact h
theorem Memo.at2 {W : CW} {K : List Nat} {p : Addr} {x : Vm.Memo} (h : At W K p x) : At W K (p.add 2) x.Two := by
  replace h : At W K p (x.Old, x.One, x.Two, x.Done) := h
  replace h := h.snd
  replace h := h.snd
  replace h := h.fst
  rw [add_add] at h
  exact h
theorem Memo.at3 {W : CW} {K : List Nat} {p : Addr} {x : Vm.Memo} (h : At W K p x) : At W K (p.add 3) x.Done := by
  replace h : At W K p (x.Old, x.One, x.Two, x.Done) := h
  replace h := h.snd
  replace h := h.snd
  replace h := h.snd
  rw [add_add] at h
  rw [add_add] at h
  exact h
theorem Memo.own {W : CW} {K J0 J1 J2 J3 : List Nat} {c0 c1 c2 c3 : Value} (x0 : List Str) (x1 : List Str) (x2 : List Str) (x3 : List Str) (h0 : OwS W J0 K [c0] x0) (h1 : OwS W J1 K [c1] x1) (h2 : OwS W J2 K [c2] x2) (h3 : OwS W J3 K [c3] x3) (d0 : disj (J0) (J1 ++ (J2 ++ (J3))) = true := by rfl) (d1 : disj (J1) (J2 ++ (J3)) = true := by rfl) (d2 : disj (J2) (J3) = true := by rfl) : OwS W (J0 ++ (J1 ++ (J2 ++ (J3)))) K [c0, c1, c2, c3] (Vm.Memo.mk x0 x1 x2 x3) := (OwS.pair h0 (OwS.pair h1 (OwS.pair h2 h3 d2) d1) d0)
instance : Fs Vm.Memo (List Str) 0 (fun x => x.Old) (fun x y => Vm.Memo.mk y x.One x.Two x.Done) := ⟨(Fs.fst rfl : Fs ((List Str) × (List Str) × (List Str) × (List Str)) (List Str) 0 _ _).lt, fun h => (Fs.fst rfl : Fs ((List Str) × (List Str) × (List Str) × (List Str)) (List Str) 0 _ _).lens h⟩
instance : Fs Vm.Memo (List Str) 1 (fun x => x.One) (fun x y => Vm.Memo.mk x.Old y x.Two x.Done) := ⟨(Fs.snd rfl (Fs.fst rfl) : Fs ((List Str) × (List Str) × (List Str) × (List Str)) (List Str) 1 _ _).lt, fun h => (Fs.snd rfl (Fs.fst rfl) : Fs ((List Str) × (List Str) × (List Str) × (List Str)) (List Str) 1 _ _).lens h⟩
instance : Fs Vm.Memo (List Str) 2 (fun x => x.Two) (fun x y => Vm.Memo.mk x.Old x.One y x.Done) := ⟨(Fs.snd rfl (Fs.snd rfl (Fs.fst rfl)) : Fs ((List Str) × (List Str) × (List Str) × (List Str)) (List Str) 2 _ _).lt, fun h => (Fs.snd rfl (Fs.snd rfl (Fs.fst rfl)) : Fs ((List Str) × (List Str) × (List Str) × (List Str)) (List Str) 2 _ _).lens h⟩
instance : Fs Vm.Memo (List Str) 3 (fun x => x.Done) (fun x y => Vm.Memo.mk x.Old x.One x.Two y) := ⟨(Fs.snd rfl (Fs.snd rfl (Fs.snd rfl (Fs.self rfl))) : Fs ((List Str) × (List Str) × (List Str) × (List Str)) (List Str) 3 _ _).lt, fun h => (Fs.snd rfl (Fs.snd rfl (Fs.snd rfl (Fs.self rfl))) : Fs ((List Str) × (List Str) × (List Str) × (List Str)) (List Str) 3 _ _).lens h⟩
instance : Fl Vm.Memo (List Str) 0 (fun x => x.Old) (fun x y => Vm.Memo.mk y x.One x.Two x.Done) := ⟨fun h => (Fl.fst rfl : Fl ((List Str) × (List Str) × (List Str) × (List Str)) (List Str) 0 _ _).lens h⟩
instance : Fl Vm.Memo (List Str) 1 (fun x => x.One) (fun x y => Vm.Memo.mk x.Old y x.Two x.Done) := ⟨fun h => (Fl.snd rfl (Fl.fst rfl) : Fl ((List Str) × (List Str) × (List Str) × (List Str)) (List Str) 1 _ _).lens h⟩
instance : Fl Vm.Memo (List Str) 2 (fun x => x.Two) (fun x y => Vm.Memo.mk x.Old x.One y x.Done) := ⟨fun h => (Fl.snd rfl (Fl.snd rfl (Fl.fst rfl)) : Fl ((List Str) × (List Str) × (List Str) × (List Str)) (List Str) 2 _ _).lens h⟩
instance : Fl Vm.Memo (List Str) 3 (fun x => x.Done) (fun x y => Vm.Memo.mk x.Old x.One x.Two y) := ⟨fun h => (Fl.snd rfl (Fl.snd rfl (Fl.snd rfl (Fl.self rfl))) : Fl ((List Str) × (List Str) × (List Str) × (List Str)) (List Str) 3 _ _).lens h⟩
theorem Memo.rd {W : CW} {K : List Nat} {c0 c1 c2 c3 : Value} (x0 : List Str) (x1 : List Str) (x2 : List Str) (x3 : List Str) (h0 : Rd W K [c0] x0) (h1 : Rd W K [c1] x1) (h2 : Rd W K [c2] x2) (h3 : Rd W K [c3] x3) : Rd W K [c0, c1, c2, c3] (Vm.Memo.mk x0 x1 x2 x3) := (Rd.join h0 (Rd.join h1 (Rd.join h2 h3)))
instance : Rp Part := Rp.iso (β := Bool × (List Str) × (List Str) × (List Str) × (List Str)) 57 (fun x => (x.Clash, x.Lines, x.Old, x.One, x.Two)) 52
instance : Zr Part where
  z := Vm.Part.mk false [] [] [] []
  cs := Zr.cs (Bool × (List Str) × (List Str) × (List Str) × (List Str))
  own := Zr.own (α := Bool × (List Str) × (List Str) × (List Str) × (List Str))
theorem Part.split {W : CW} {K : List Nat} {cs : List Value} {x : Vm.Part} (h : Rd W K cs x) : ∃ c1 c2 c3 c4 : Value, cs = [vB x.Clash, c1, c2, c3, c4] ∧ Rd W K [c1] x.Lines ∧ Rd W K [c2] x.Old ∧ Rd W K [c3] x.One ∧ Rd W K [c4] x.Two := by
  replace h : Rd W K cs (x.Clash, x.Lines, x.Old, x.One, x.Two) := h
  obtain ⟨c0, d0, rfl, h0, k0⟩ := h.split
  obtain ⟨c1, d1, rfl, h1, k1⟩ := Rd.split k0
  obtain ⟨c2, d2, rfl, h2, k2⟩ := Rd.split k1
  obtain ⟨c3, d3, rfl, h3, k3⟩ := Rd.split k2
  obtain ⟨u0, rfl, _⟩ := Rd.one h0 rfl
  obtain ⟨u1, rfl, _⟩ := Rd.one h1 rfl
  obtain ⟨u2, rfl, _⟩ := Rd.one h2 rfl
  obtain ⟨u3, rfl, _⟩ := Rd.one h3 rfl
  obtain ⟨u4, rfl, _⟩ := Rd.one k3 rfl
  obtain rfl := Rd.bool h0
  exact ⟨u1, u2, u3, u4, rfl, h1, h2, h3, k3⟩
theorem Part.at0 {W : CW} {K : List Nat} {p : Addr} {x : Vm.Part} (h : At W K p x) : At W K (p.add 0) x.Clash := by
  replace h : At W K p (x.Clash, x.Lines, x.Old, x.One, x.Two) := h
  replace h := h.fst
  exact (h_add0 p).symm ▸ h
theorem Part.at1 {W : CW} {K : List Nat} {p : Addr} {x : Vm.Part} (h : At W K p x) : At W K (p.add 1) x.Lines := by
  replace h : At W K p (x.Clash, x.Lines, x.Old, x.One, x.Two) := h
  replace h := h.snd
  replace h := h.fst
  exact h
theorem Part.at2 {W : CW} {K : List Nat} {p : Addr} {x : Vm.Part} (h : At W K p x) : At W K (p.add 2) x.Old := by
  replace h : At W K p (x.Clash, x.Lines, x.Old, x.One, x.Two) := h
  replace h := h.snd
  replace h := h.snd
  replace h := h.fst
  rw [add_add] at h
  exact h
theorem Part.at3 {W : CW} {K : List Nat} {p : Addr} {x : Vm.Part} (h : At W K p x) : At W K (p.add 3) x.One := by
  replace h : At W K p (x.Clash, x.Lines, x.Old, x.One, x.Two) := h
  replace h := h.snd
  replace h := h.snd
  replace h := h.snd
  replace h := h.fst
  rw [add_add] at h
  rw [add_add] at h
  exact h
theorem Part.at4 {W : CW} {K : List Nat} {p : Addr} {x : Vm.Part} (h : At W K p x) : At W K (p.add 4) x.Two := by
  replace h : At W K p (x.Clash, x.Lines, x.Old, x.One, x.Two) := h
  replace h := h.snd
  replace h := h.snd
  replace h := h.snd
  replace h := h.snd
  rw [add_add] at h
  rw [add_add] at h
  rw [add_add] at h
  exact h
theorem Part.own {W : CW} {K J1 J2 J3 J4 : List Nat} {c1 c2 c3 c4 : Value} (x0 : Bool) (x1 : List Str) (x2 : List Str) (x3 : List Str) (x4 : List Str) (h1 : OwS W J1 K [c1] x1) (h2 : OwS W J2 K [c2] x2) (h3 : OwS W J3 K [c3] x3) (h4 : OwS W J4 K [c4] x4) (d0 : disj ([]) (J1 ++ (J2 ++ (J3 ++ (J4)))) = true := by rfl) (d1 : disj (J1) (J2 ++ (J3 ++ (J4))) = true := by rfl) (d2 : disj (J2) (J3 ++ (J4)) = true := by rfl) (d3 : disj (J3) (J4) = true := by rfl) : OwS W ([] ++ (J1 ++ (J2 ++ (J3 ++ (J4))))) K [vB x0, c1, c2, c3, c4] (Vm.Part.mk x0 x1 x2 x3 x4) := (OwS.pair (OwS.atm (rdB x0)) (OwS.pair h1 (OwS.pair h2 (OwS.pair h3 h4 d3) d2) d1) d0)
instance : Fs Vm.Part (Bool) 0 (fun x => x.Clash) (fun x y => Vm.Part.mk y x.Lines x.Old x.One x.Two) := ⟨(Fs.fst rfl : Fs (Bool × (List Str) × (List Str) × (List Str) × (List Str)) (Bool) 0 _ _).lt, fun h => (Fs.fst rfl : Fs (Bool × (List Str) × (List Str) × (List Str) × (List Str)) (Bool) 0 _ _).lens h⟩
instance : Fs Vm.Part (List Str) 1 (fun x => x.Lines) (fun x y => Vm.Part.mk x.Clash y x.Old x.One x.Two) := ⟨(Fs.snd rfl (Fs.fst rfl) : Fs (Bool × (List Str) × (List Str) × (List Str) × (List Str)) (List Str) 1 _ _).lt, fun h => (Fs.snd rfl (Fs.fst rfl) : Fs (Bool × (List Str) × (List Str) × (List Str) × (List Str)) (List Str) 1 _ _).lens h⟩
instance : Fs Vm.Part (List Str) 2 (fun x => x.Old) (fun x y => Vm.Part.mk x.Clash x.Lines y x.One x.Two) := ⟨(Fs.snd rfl (Fs.snd rfl (Fs.fst rfl)) : Fs (Bool × (List Str) × (List Str) × (List Str) × (List Str)) (List Str) 2 _ _).lt, fun h => (Fs.snd rfl (Fs.snd rfl (Fs.fst rfl)) : Fs (Bool × (List Str) × (List Str) × (List Str) × (List Str)) (List Str) 2 _ _).lens h⟩
instance : Fs Vm.Part (List Str) 3 (fun x => x.One) (fun x y => Vm.Part.mk x.Clash x.Lines x.Old y x.Two) := ⟨(Fs.snd rfl (Fs.snd rfl (Fs.snd rfl (Fs.fst rfl))) : Fs (Bool × (List Str) × (List Str) × (List Str) × (List Str)) (List Str) 3 _ _).lt, fun h => (Fs.snd rfl (Fs.snd rfl (Fs.snd rfl (Fs.fst rfl))) : Fs (Bool × (List Str) × (List Str) × (List Str) × (List Str)) (List Str) 3 _ _).lens h⟩
instance : Fs Vm.Part (List Str) 4 (fun x => x.Two) (fun x y => Vm.Part.mk x.Clash x.Lines x.Old x.One y) := ⟨(Fs.snd rfl (Fs.snd rfl (Fs.snd rfl (Fs.snd rfl (Fs.self rfl)))) : Fs (Bool × (List Str) × (List Str) × (List Str) × (List Str)) (List Str) 4 _ _).lt, fun h => (Fs.snd rfl (Fs.snd rfl (Fs.snd rfl (Fs.snd rfl (Fs.self rfl)))) : Fs (Bool × (List Str) × (List Str) × (List Str) × (List Str)) (List Str) 4 _ _).lens h⟩
instance : Fl Vm.Part (List Str) 1 (fun x => x.Lines) (fun x y => Vm.Part.mk x.Clash y x.Old x.One x.Two) := ⟨fun h => (Fl.snd rfl (Fl.fst rfl) : Fl (Bool × (List Str) × (List Str) × (List Str) × (List Str)) (List Str) 1 _ _).lens h⟩
instance : Fl Vm.Part (List Str) 2 (fun x => x.Old) (fun x y => Vm.Part.mk x.Clash x.Lines y x.One x.Two) := ⟨fun h => (Fl.snd rfl (Fl.snd rfl (Fl.fst rfl)) : Fl (Bool × (List Str) × (List Str) × (List Str) × (List Str)) (List Str) 2 _ _).lens h⟩
instance : Fl Vm.Part (List Str) 3 (fun x => x.One) (fun x y => Vm.Part.mk x.Clash x.Lines x.Old y x.Two) := ⟨fun h => (Fl.snd rfl (Fl.snd rfl (Fl.snd rfl (Fl.fst rfl))) : Fl (Bool × (List Str) × (List Str) × (List Str) × (List Str)) (List Str) 3 _ _).lens h⟩
instance : Fl Vm.Part (List Str) 4 (fun x => x.Two) (fun x y => Vm.Part.mk x.Clash x.Lines x.Old x.One y) := ⟨fun h => (Fl.snd rfl (Fl.snd rfl (Fl.snd rfl (Fl.snd rfl (Fl.self rfl)))) : Fl (Bool × (List Str) × (List Str) × (List Str) × (List Str)) (List Str) 4 _ _).lens h⟩
theorem Part.rd {W : CW} {K : List Nat} {c1 c2 c3 c4 : Value} (x0 : Bool) (x1 : List Str) (x2 : List Str) (x3 : List Str) (x4 : List Str) (h1 : Rd W K [c1] x1) (h2 : Rd W K [c2] x2) (h3 : Rd W K [c3] x3) (h4 : Rd W K [c4] x4) : Rd W K [vB x0, c1, c2, c3, c4] (Vm.Part.mk x0 x1 x2 x3 x4) := (Rd.join (rdB x0) (Rd.join h1 (Rd.join h2 (Rd.join h3 h4))))
instance : Rp Review := Rp.iso (β := Str × Str × Str × (List Str)) 65 (fun x => (x.Branch, x.Into, x.By, x.Yes)) 0
instance : Zr Review where
  z := Vm.Review.mk [] [] [] []
  cs := Zr.cs (Str × Str × Str × (List Str))
  own := Zr.own (α := Str × Str × Str × (List Str))
theorem Review.split {W : CW} {K : List Nat} {cs : List Value} {x : Vm.Review} (h : Rd W K cs x) : ∃ c3 : Value, cs = [vS x.Branch, vS x.Into, vS x.By, c3] ∧ Rd W K [c3] x.Yes := by
  replace h : Rd W K cs (x.Branch, x.Into, x.By, x.Yes) := h
  obtain ⟨c0, d0, rfl, h0, k0⟩ := h.split
  obtain ⟨c1, d1, rfl, h1, k1⟩ := Rd.split k0
  obtain ⟨c2, d2, rfl, h2, k2⟩ := Rd.split k1
  obtain ⟨u0, rfl, _⟩ := Rd.one h0 rfl
  obtain ⟨u1, rfl, _⟩ := Rd.one h1 rfl
  obtain ⟨u2, rfl, _⟩ := Rd.one h2 rfl
  obtain ⟨u3, rfl, _⟩ := Rd.one k2 rfl
  obtain rfl := Rd.str h0
  obtain rfl := Rd.str h1
  obtain rfl := Rd.str h2
  exact ⟨u3, rfl, k2⟩
theorem Review.at0 {W : CW} {K : List Nat} {p : Addr} {x : Vm.Review} (h : At W K p x) : At W K (p.add 0) x.Branch := by
  replace h : At W K p (x.Branch, x.Into, x.By, x.Yes) := h
  replace h := h.fst
  exact (h_add0 p).symm ▸ h
theorem Review.at1 {W : CW} {K : List Nat} {p : Addr} {x : Vm.Review} (h : At W K p x) : At W K (p.add 1) x.Into := by
  replace h : At W K p (x.Branch, x.Into, x.By, x.Yes) := h
  replace h := h.snd
  replace h := h.fst
  exact h
theorem Review.at2 {W : CW} {K : List Nat} {p : Addr} {x : Vm.Review} (h : At W K p x) : At W K (p.add 2) x.By := by
  replace h : At W K p (x.Branch, x.Into, x.By, x.Yes) := h
  replace h := h.snd
  replace h := h.snd
  replace h := h.fst
  rw [add_add] at h
  exact h
theorem Review.at3 {W : CW} {K : List Nat} {p : Addr} {x : Vm.Review} (h : At W K p x) : At W K (p.add 3) x.Yes := by
  replace h : At W K p (x.Branch, x.Into, x.By, x.Yes) := h
  replace h := h.snd
  replace h := h.snd
  replace h := h.snd
  rw [add_add] at h
  rw [add_add] at h
  exact h
theorem Review.own {W : CW} {K J3 : List Nat} {c3 : Value} (x0 : Str) (x1 : Str) (x2 : Str) (x3 : List Str) (h3 : OwS W J3 K [c3] x3) (d0 : disj ([]) ([] ++ ([] ++ (J3))) = true := by rfl) (d1 : disj ([]) ([] ++ (J3)) = true := by rfl) (d2 : disj ([]) (J3) = true := by rfl) : OwS W ([] ++ ([] ++ ([] ++ (J3)))) K [vS x0, vS x1, vS x2, c3] (Vm.Review.mk x0 x1 x2 x3) := (OwS.pair (OwS.atm (rdS x0)) (OwS.pair (OwS.atm (rdS x1)) (OwS.pair (OwS.atm (rdS x2)) h3 d2) d1) d0)
instance : Fs Vm.Review (Str) 0 (fun x => x.Branch) (fun x y => Vm.Review.mk y x.Into x.By x.Yes) := ⟨(Fs.fst rfl : Fs (Str × Str × Str × (List Str)) (Str) 0 _ _).lt, fun h => (Fs.fst rfl : Fs (Str × Str × Str × (List Str)) (Str) 0 _ _).lens h⟩
instance : Fs Vm.Review (Str) 1 (fun x => x.Into) (fun x y => Vm.Review.mk x.Branch y x.By x.Yes) := ⟨(Fs.snd rfl (Fs.fst rfl) : Fs (Str × Str × Str × (List Str)) (Str) 1 _ _).lt, fun h => (Fs.snd rfl (Fs.fst rfl) : Fs (Str × Str × Str × (List Str)) (Str) 1 _ _).lens h⟩
instance : Fs Vm.Review (Str) 2 (fun x => x.By) (fun x y => Vm.Review.mk x.Branch x.Into y x.Yes) := ⟨(Fs.snd rfl (Fs.snd rfl (Fs.fst rfl)) : Fs (Str × Str × Str × (List Str)) (Str) 2 _ _).lt, fun h => (Fs.snd rfl (Fs.snd rfl (Fs.fst rfl)) : Fs (Str × Str × Str × (List Str)) (Str) 2 _ _).lens h⟩
instance : Fs Vm.Review (List Str) 3 (fun x => x.Yes) (fun x y => Vm.Review.mk x.Branch x.Into x.By y) := ⟨(Fs.snd rfl (Fs.snd rfl (Fs.snd rfl (Fs.self rfl))) : Fs (Str × Str × Str × (List Str)) (List Str) 3 _ _).lt, fun h => (Fs.snd rfl (Fs.snd rfl (Fs.snd rfl (Fs.self rfl))) : Fs (Str × Str × Str × (List Str)) (List Str) 3 _ _).lens h⟩
instance : Fl Vm.Review (List Str) 3 (fun x => x.Yes) (fun x y => Vm.Review.mk x.Branch x.Into x.By y) := ⟨fun h => (Fl.snd rfl (Fl.snd rfl (Fl.snd rfl (Fl.self rfl))) : Fl (Str × Str × Str × (List Str)) (List Str) 3 _ _).lens h⟩
theorem Review.rd {W : CW} {K : List Nat} {c3 : Value} (x0 : Str) (x1 : Str) (x2 : Str) (x3 : List Str) (h3 : Rd W K [c3] x3) : Rd W K [vS x0, vS x1, vS x2, c3] (Vm.Review.mk x0 x1 x2 x3) := (Rd.join (rdS x0) (Rd.join (rdS x1) (Rd.join (rdS x2) h3)))
instance : Rp l30Rd := Rp.iso (β := (List Byte) × Int) 97 (fun x => (x.b, x.p)) 0
instance : Zr l30Rd where
  z := Vm.l30Rd.mk [] 0
  cs := Zr.cs ((List Byte) × Int)
  own := Zr.own (α := (List Byte) × Int)
theorem l30Rd.split {W : CW} {K : List Nat} {cs : List Value} {x : Vm.l30Rd} (h : Rd W K cs x) : ∃ c0 : Value, cs = [c0, vI x.p] ∧ Rd W K [c0] x.b := by
  replace h : Rd W K cs (x.b, x.p) := h
  obtain ⟨c0, d0, rfl, h0, k0⟩ := h.split
  obtain ⟨u0, rfl, _⟩ := Rd.one h0 rfl
  obtain ⟨u1, rfl, _⟩ := Rd.one k0 rfl
  obtain rfl := Rd.int k0
  exact ⟨u0, rfl, h0⟩
theorem l30Rd.at0 {W : CW} {K : List Nat} {p : Addr} {x : Vm.l30Rd} (h : At W K p x) : At W K (p.add 0) x.b := by
  replace h : At W K p (x.b, x.p) := h
  replace h := h.fst
  exact (h_add0 p).symm ▸ h
theorem l30Rd.at1 {W : CW} {K : List Nat} {p : Addr} {x : Vm.l30Rd} (h : At W K p x) : At W K (p.add 1) x.p := by
  replace h : At W K p (x.b, x.p) := h
  replace h := h.snd
  exact h
theorem l30Rd.own {W : CW} {K J0 : List Nat} {c0 : Value} (x0 : List Byte) (x1 : Int) (h0 : OwS W J0 K [c0] x0) (d0 : disj (J0) ([]) = true := by rfl) : OwS W (J0 ++ ([])) K [c0, vI x1] (Vm.l30Rd.mk x0 x1) := (OwS.pair h0 (OwS.atm (rdI x1)) d0)
instance : Fs Vm.l30Rd (List Byte) 0 (fun x => x.b) (fun x y => Vm.l30Rd.mk y x.p) := ⟨(Fs.fst rfl : Fs ((List Byte) × Int) (List Byte) 0 _ _).lt, fun h => (Fs.fst rfl : Fs ((List Byte) × Int) (List Byte) 0 _ _).lens h⟩
instance : Fs Vm.l30Rd (Int) 1 (fun x => x.p) (fun x y => Vm.l30Rd.mk x.b y) := ⟨(Fs.snd rfl (Fs.self rfl) : Fs ((List Byte) × Int) (Int) 1 _ _).lt, fun h => (Fs.snd rfl (Fs.self rfl) : Fs ((List Byte) × Int) (Int) 1 _ _).lens h⟩
instance : Fl Vm.l30Rd (List Byte) 0 (fun x => x.b) (fun x y => Vm.l30Rd.mk y x.p) := ⟨fun h => (Fl.fst rfl : Fl ((List Byte) × Int) (List Byte) 0 _ _).lens h⟩
theorem l30Rd.rd {W : CW} {K : List Nat} {c0 : Value} (x0 : List Byte) (x1 : Int) (h0 : Rd W K [c0] x0) : Rd W K [c0, vI x1] (Vm.l30Rd.mk x0 x1) := (Rd.join h0 (rdI x1))
instance : Und Try.prog 2 (TypeDesc.int IntKind.i64) := ⟨Try.underlying2⟩
instance : Inf Try.prog 2 1 8 (Value.int IntKind.i64 0) := ⟨by kernel_rfl⟩
instance : Und Try.prog 3 (TypeDesc.int IntKind.i64) := ⟨Try.underlying3⟩
instance : Inf Try.prog 3 1 8 (Value.int IntKind.i64 0) := ⟨by kernel_rfl⟩
instance : Und Try.prog 4 TypeDesc.bool := ⟨Try.underlying4⟩
instance : Inf Try.prog 4 1 1 (Value.bool false) := ⟨by kernel_rfl⟩
instance : Und Try.prog 5 (TypeDesc.int IntKind.u8) := ⟨Try.underlying5⟩
instance : Inf Try.prog 5 1 1 (Value.int IntKind.u8 0) := ⟨by kernel_rfl⟩
instance : Und Try.prog 9 TypeDesc.string := ⟨Try.underlying9⟩
instance : Inf Try.prog 9 1 16 (Value.string (ByteArray.mk #[])) := ⟨by kernel_rfl⟩
instance : Und Try.prog 12 (TypeDesc.int IntKind.u64) := ⟨Try.underlying12⟩
instance : Inf Try.prog 12 1 8 (Value.int IntKind.u64 0) := ⟨by kernel_rfl⟩
instance : Und Try.prog 13 (TypeDesc.struct #[(Field.mk "msg" 9 0 false "" "runtime" 0), (Field.mk "addr" 12 1 false "" "runtime" 16)]) := ⟨Try.underlying13⟩
instance : Inf Try.prog 13 2 24 (Value.agg #[(Value.string (ByteArray.mk #[])), (Value.int IntKind.u64 0)]) := ⟨by kernel_rfl⟩
instance : Flat Try.prog 13 2 := ⟨_, Try.underlying13, by kernel_rfl, by kernel_rfl⟩
instance : Fld Try.prog 13 0 0 := Flat.fld (n := 2) (by decide)
instance : Fld Try.prog 13 1 1 := Flat.fld (n := 2) (by decide)
instance : Und Try.prog 21 (TypeDesc.int IntKind.i32) := ⟨Try.underlying21⟩
instance : Inf Try.prog 21 1 4 (Value.int IntKind.i32 0) := ⟨by kernel_rfl⟩
instance : Und Try.prog 22 (TypeDesc.slice 38) := ⟨Try.underlying22⟩
instance : Inf Try.prog 22 1 24 (Value.slice none 0 0) := ⟨by kernel_rfl⟩
instance : Und Try.prog 25 (TypeDesc.slice 32) := ⟨Try.underlying25⟩
instance : Inf Try.prog 25 1 24 (Value.slice none 0 0) := ⟨by kernel_rfl⟩
instance : Und Try.prog 29 (TypeDesc.slice 5) := ⟨Try.underlying29⟩
instance : Inf Try.prog 29 1 24 (Value.slice none 0 0) := ⟨by kernel_rfl⟩
instance : Und Try.prog 30 (TypeDesc.slice 9) := ⟨Try.underlying30⟩
instance : Inf Try.prog 30 1 24 (Value.slice none 0 0) := ⟨by kernel_rfl⟩
instance : Und Try.prog 31 (TypeDesc.struct #[(Field.mk "Old" 30 0 false "" "" 0), (Field.mk "One" 30 1 false "" "" 24), (Field.mk "Two" 30 2 false "" "" 48), (Field.mk "Done" 30 3 false "" "" 72)]) := ⟨Try.underlying31⟩
instance : Inf Try.prog 31 4 96 (Value.agg #[(Value.slice none 0 0), (Value.slice none 0 0), (Value.slice none 0 0), (Value.slice none 0 0)]) := ⟨by kernel_rfl⟩
instance : Flat Try.prog 31 4 := ⟨_, Try.underlying31, by kernel_rfl, by kernel_rfl⟩
instance : Fld Try.prog 31 0 0 := Flat.fld (n := 4) (by decide)
instance : Fld Try.prog 31 1 1 := Flat.fld (n := 4) (by decide)
instance : Fld Try.prog 31 2 2 := Flat.fld (n := 4) (by decide)
instance : Fld Try.prog 31 3 3 := Flat.fld (n := 4) (by decide)
instance : Und Try.prog 32 (TypeDesc.struct #[(Field.mk "Old" 30 0 false "" "" 0), (Field.mk "One" 30 1 false "" "" 24), (Field.mk "Two" 30 2 false "" "" 48), (Field.mk "Done" 30 3 false "" "" 72)]) := ⟨Try.underlying32⟩
instance : Inf Try.prog 32 4 96 (Value.agg #[(Value.slice none 0 0), (Value.slice none 0 0), (Value.slice none 0 0), (Value.slice none 0 0)]) := ⟨by kernel_rfl⟩
instance : Flat Try.prog 32 4 := ⟨_, Try.underlying32, by kernel_rfl, by kernel_rfl⟩
instance : Fld Try.prog 32 0 0 := Flat.fld (n := 4) (by decide)
instance : Fld Try.prog 32 1 1 := Flat.fld (n := 4) (by decide)
instance : Fld Try.prog 32 2 2 := Flat.fld (n := 4) (by decide)
instance : Fld Try.prog 32 3 3 := Flat.fld (n := 4) (by decide)
instance : Und Try.prog 38 (TypeDesc.struct #[(Field.mk "Old" 30 0 false "" "" 0), (Field.mk "One" 30 1 false "" "" 24), (Field.mk "Two" 30 2 false "" "" 48), (Field.mk "Done" 30 3 false "" "" 72)]) := ⟨Try.underlying38⟩
instance : Inf Try.prog 38 4 96 (Value.agg #[(Value.slice none 0 0), (Value.slice none 0 0), (Value.slice none 0 0), (Value.slice none 0 0)]) := ⟨by kernel_rfl⟩
instance : Flat Try.prog 38 4 := ⟨_, Try.underlying38, by kernel_rfl, by kernel_rfl⟩
instance : Fld Try.prog 38 0 0 := Flat.fld (n := 4) (by decide)
instance : Fld Try.prog 38 1 1 := Flat.fld (n := 4) (by decide)
instance : Fld Try.prog 38 2 2 := Flat.fld (n := 4) (by decide)
instance : Fld Try.prog 38 3 3 := Flat.fld (n := 4) (by decide)
instance : Und Try.prog 52 (TypeDesc.slice 57) := ⟨Try.underlying52⟩
instance : Inf Try.prog 52 1 24 (Value.slice none 0 0) := ⟨by kernel_rfl⟩
instance : Und Try.prog 56 (TypeDesc.struct #[(Field.mk "Clash" 4 0 false "" "" 0), (Field.mk "Lines" 30 1 false "" "" 8), (Field.mk "Old" 30 2 false "" "" 32), (Field.mk "One" 30 3 false "" "" 56), (Field.mk "Two" 30 4 false "" "" 80)]) := ⟨Try.underlying56⟩
instance : Inf Try.prog 56 5 104 (Value.agg #[(Value.bool false), (Value.slice none 0 0), (Value.slice none 0 0), (Value.slice none 0 0), (Value.slice none 0 0)]) := ⟨by kernel_rfl⟩
instance : Flat Try.prog 56 5 := ⟨_, Try.underlying56, by kernel_rfl, by kernel_rfl⟩
instance : Fld Try.prog 56 0 0 := Flat.fld (n := 5) (by decide)
instance : Fld Try.prog 56 1 1 := Flat.fld (n := 5) (by decide)
instance : Fld Try.prog 56 2 2 := Flat.fld (n := 5) (by decide)
instance : Fld Try.prog 56 3 3 := Flat.fld (n := 5) (by decide)
instance : Fld Try.prog 56 4 4 := Flat.fld (n := 5) (by decide)
instance : Und Try.prog 57 (TypeDesc.struct #[(Field.mk "Clash" 4 0 false "" "" 0), (Field.mk "Lines" 30 1 false "" "" 8), (Field.mk "Old" 30 2 false "" "" 32), (Field.mk "One" 30 3 false "" "" 56), (Field.mk "Two" 30 4 false "" "" 80)]) := ⟨Try.underlying57⟩
instance : Inf Try.prog 57 5 104 (Value.agg #[(Value.bool false), (Value.slice none 0 0), (Value.slice none 0 0), (Value.slice none 0 0), (Value.slice none 0 0)]) := ⟨by kernel_rfl⟩
instance : Flat Try.prog 57 5 := ⟨_, Try.underlying57, by kernel_rfl, by kernel_rfl⟩
instance : Fld Try.prog 57 0 0 := Flat.fld (n := 5) (by decide)
instance : Fld Try.prog 57 1 1 := Flat.fld (n := 5) (by decide)
instance : Fld Try.prog 57 2 2 := Flat.fld (n := 5) (by decide)
instance : Fld Try.prog 57 3 3 := Flat.fld (n := 5) (by decide)
instance : Fld Try.prog 57 4 4 := Flat.fld (n := 5) (by decide)
instance : Und Try.prog 64 (TypeDesc.struct #[(Field.mk "Branch" 9 0 false "" "" 0), (Field.mk "Into" 9 1 false "" "" 16), (Field.mk "By" 9 2 false "" "" 32), (Field.mk "Yes" 30 3 false "" "" 48)]) := ⟨Try.underlying64⟩
instance : Inf Try.prog 64 4 72 (Value.agg #[(Value.string (ByteArray.mk #[])), (Value.string (ByteArray.mk #[])), (Value.string (ByteArray.mk #[])), (Value.slice none 0 0)]) := ⟨by kernel_rfl⟩
instance : Flat Try.prog 64 4 := ⟨_, Try.underlying64, by kernel_rfl, by kernel_rfl⟩
instance : Fld Try.prog 64 0 0 := Flat.fld (n := 4) (by decide)
instance : Fld Try.prog 64 1 1 := Flat.fld (n := 4) (by decide)
instance : Fld Try.prog 64 2 2 := Flat.fld (n := 4) (by decide)
instance : Fld Try.prog 64 3 3 := Flat.fld (n := 4) (by decide)
instance : Und Try.prog 65 (TypeDesc.struct #[(Field.mk "Branch" 9 0 false "" "" 0), (Field.mk "Into" 9 1 false "" "" 16), (Field.mk "By" 9 2 false "" "" 32), (Field.mk "Yes" 30 3 false "" "" 48)]) := ⟨Try.underlying65⟩
instance : Inf Try.prog 65 4 72 (Value.agg #[(Value.string (ByteArray.mk #[])), (Value.string (ByteArray.mk #[])), (Value.string (ByteArray.mk #[])), (Value.slice none 0 0)]) := ⟨by kernel_rfl⟩
instance : Flat Try.prog 65 4 := ⟨_, Try.underlying65, by kernel_rfl, by kernel_rfl⟩
instance : Fld Try.prog 65 0 0 := Flat.fld (n := 4) (by decide)
instance : Fld Try.prog 65 1 1 := Flat.fld (n := 4) (by decide)
instance : Fld Try.prog 65 2 2 := Flat.fld (n := 4) (by decide)
instance : Fld Try.prog 65 3 3 := Flat.fld (n := 4) (by decide)
instance : Und Try.prog 75 (TypeDesc.pointer 97) := ⟨Try.underlying75⟩
instance : Inf Try.prog 75 1 8 (Value.pointer none) := ⟨by kernel_rfl⟩
instance : Und Try.prog 87 (TypeDesc.slice 30) := ⟨Try.underlying87⟩
instance : Inf Try.prog 87 1 24 (Value.slice none 0 0) := ⟨by kernel_rfl⟩
instance : Und Try.prog 96 (TypeDesc.struct #[(Field.mk "b" 29 0 false "" "loop.example/versioncontrol/spec" 0), (Field.mk "p" 3 1 false "" "loop.example/versioncontrol/spec" 24)]) := ⟨Try.underlying96⟩
instance : Inf Try.prog 96 2 32 (Value.agg #[(Value.slice none 0 0), (Value.int IntKind.i64 0)]) := ⟨by kernel_rfl⟩
instance : Flat Try.prog 96 2 := ⟨_, Try.underlying96, by kernel_rfl, by kernel_rfl⟩
instance : Fld Try.prog 96 0 0 := Flat.fld (n := 2) (by decide)
instance : Fld Try.prog 96 1 1 := Flat.fld (n := 2) (by decide)
instance : Und Try.prog 97 (TypeDesc.struct #[(Field.mk "b" 29 0 false "" "loop.example/versioncontrol/spec" 0), (Field.mk "p" 3 1 false "" "loop.example/versioncontrol/spec" 24)]) := ⟨Try.underlying97⟩
instance : Inf Try.prog 97 2 32 (Value.agg #[(Value.slice none 0 0), (Value.int IntKind.i64 0)]) := ⟨by kernel_rfl⟩
instance : Flat Try.prog 97 2 := ⟨_, Try.underlying97, by kernel_rfl, by kernel_rfl⟩
instance : Fld Try.prog 97 0 0 := Flat.fld (n := 2) (by decide)
instance : Fld Try.prog 97 1 1 := Flat.fld (n := 2) (by decide)
instance : Und Try.prog 98 (TypeDesc.slice 3) := ⟨Try.underlying98⟩
instance : Inf Try.prog 98 1 24 (Value.slice none 0 0) := ⟨by kernel_rfl⟩
instance : Und Try.prog 105 (TypeDesc.slice 98) := ⟨Try.underlying105⟩
instance : Inf Try.prog 105 1 24 (Value.slice none 0 0) := ⟨by kernel_rfl⟩
instance : Und Try.prog 110 (TypeDesc.int IntKind.u64) := ⟨Try.underlying110⟩
instance : Inf Try.prog 110 1 8 (Value.int IntKind.u64 0) := ⟨by kernel_rfl⟩
instance : Und Try.prog 112 (TypeDesc.int IntKind.i64) := ⟨Try.underlying112⟩
instance : Inf Try.prog 112 1 8 (Value.int IntKind.i64 0) := ⟨by kernel_rfl⟩
instance : Und Try.prog 121 (TypeDesc.int IntKind.u32) := ⟨Try.underlying121⟩
instance : Inf Try.prog 121 1 4 (Value.int IntKind.u32 0) := ⟨by kernel_rfl⟩
instance : Und Try.prog 123 (TypeDesc.int IntKind.u64) := ⟨Try.underlying123⟩
instance : Inf Try.prog 123 1 8 (Value.int IntKind.u64 0) := ⟨by kernel_rfl⟩
instance : Und Try.prog 124 (TypeDesc.int IntKind.u64) := ⟨Try.underlying124⟩
instance : Inf Try.prog 124 1 8 (Value.int IntKind.u64 0) := ⟨by kernel_rfl⟩
instance : Und Try.prog 128 (TypeDesc.pointer 3) := ⟨Try.underlying128⟩
instance : Inf Try.prog 128 1 8 (Value.pointer none) := ⟨by kernel_rfl⟩
instance : Und Try.prog 130 (TypeDesc.pointer 124) := ⟨Try.underlying130⟩
instance : Inf Try.prog 130 1 8 (Value.pointer none) := ⟨by kernel_rfl⟩
instance : Und Try.prog 143 (TypeDesc.pointer 5) := ⟨Try.underlying143⟩
instance : Inf Try.prog 143 1 8 (Value.pointer none) := ⟨by kernel_rfl⟩
instance : Fun Try.prog 3 := ⟨_, Try.func3, by kernel_rfl, by kernel_rfl⟩
instance : Fun Try.prog 4 := ⟨_, Try.func4, by kernel_rfl, by kernel_rfl⟩
instance : Fun Try.prog 5 := ⟨_, Try.func5, by kernel_rfl, by kernel_rfl⟩
instance : Fun Try.prog 6 := ⟨_, Try.func6, by kernel_rfl, by kernel_rfl⟩
instance : Fun Try.prog 7 := ⟨_, Try.func7, by kernel_rfl, by kernel_rfl⟩
instance : Fun Try.prog 8 := ⟨_, Try.func8, by kernel_rfl, by kernel_rfl⟩
instance : Fun Try.prog 9 := ⟨_, Try.func9, by kernel_rfl, by kernel_rfl⟩
instance : Fun Try.prog 10 := ⟨_, Try.func10, by kernel_rfl, by kernel_rfl⟩
instance : Fun Try.prog 11 := ⟨_, Try.func11, by kernel_rfl, by kernel_rfl⟩
instance : Fun Try.prog 12 := ⟨_, Try.func12, by kernel_rfl, by kernel_rfl⟩
instance : Fun Try.prog 13 := ⟨_, Try.func13, by kernel_rfl, by kernel_rfl⟩
instance : Fun Try.prog 14 := ⟨_, Try.func14, by kernel_rfl, by kernel_rfl⟩
instance : Fun Try.prog 15 := ⟨_, Try.func15, by kernel_rfl, by kernel_rfl⟩
instance : Fun Try.prog 16 := ⟨_, Try.func16, by kernel_rfl, by kernel_rfl⟩
instance : Fun Try.prog 17 := ⟨_, Try.func17, by kernel_rfl, by kernel_rfl⟩
instance : Fun Try.prog 18 := ⟨_, Try.func18, by kernel_rfl, by kernel_rfl⟩
instance : Fun Try.prog 19 := ⟨_, Try.func19, by kernel_rfl, by kernel_rfl⟩
instance : Fun Try.prog 20 := ⟨_, Try.func20, by kernel_rfl, by kernel_rfl⟩
instance : Fun Try.prog 21 := ⟨_, Try.func21, by kernel_rfl, by kernel_rfl⟩
instance : Fun Try.prog 22 := ⟨_, Try.func22, by kernel_rfl, by kernel_rfl⟩
instance : Fun Try.prog 23 := ⟨_, Try.func23, by kernel_rfl, by kernel_rfl⟩
instance : Fun Try.prog 24 := ⟨_, Try.func24, by kernel_rfl, by kernel_rfl⟩
instance : Fun Try.prog 25 := ⟨_, Try.func25, by kernel_rfl, by kernel_rfl⟩
instance : Fun Try.prog 26 := ⟨_, Try.func26, by kernel_rfl, by kernel_rfl⟩
instance : Fun Try.prog 27 := ⟨_, Try.func27, by kernel_rfl, by kernel_rfl⟩
instance : Fun Try.prog 28 := ⟨_, Try.func28, by kernel_rfl, by kernel_rfl⟩
instance : Fun Try.prog 29 := ⟨_, Try.func29, by kernel_rfl, by kernel_rfl⟩
instance : Fun Try.prog 30 := ⟨_, Try.func30, by kernel_rfl, by kernel_rfl⟩
instance : Fun Try.prog 31 := ⟨_, Try.func31, by kernel_rfl, by kernel_rfl⟩
instance : Fun Try.prog 32 := ⟨_, Try.func32, by kernel_rfl, by kernel_rfl⟩
instance : Fun Try.prog 33 := ⟨_, Try.func33, by kernel_rfl, by kernel_rfl⟩
instance : Fun Try.prog 34 := ⟨_, Try.func34, by kernel_rfl, by kernel_rfl⟩
instance : Fun Try.prog 35 := ⟨_, Try.func35, by kernel_rfl, by kernel_rfl⟩
instance : Fun Try.prog 36 := ⟨_, Try.func36, by kernel_rfl, by kernel_rfl⟩
instance : Fun Try.prog 37 := ⟨_, Try.func37, by kernel_rfl, by kernel_rfl⟩
instance : Fun Try.prog 38 := ⟨_, Try.func38, by kernel_rfl, by kernel_rfl⟩
instance : Fun Try.prog 39 := ⟨_, Try.func39, by kernel_rfl, by kernel_rfl⟩
instance : Fun Try.prog 40 := ⟨_, Try.func40, by kernel_rfl, by kernel_rfl⟩
instance : Fun Try.prog 41 := ⟨_, Try.func41, by kernel_rfl, by kernel_rfl⟩
instance : Fun Try.prog 42 := ⟨_, Try.func42, by kernel_rfl, by kernel_rfl⟩
instance : Fun Try.prog 43 := ⟨_, Try.func43, by kernel_rfl, by kernel_rfl⟩
instance : Fun Try.prog 44 := ⟨_, Try.func44, by kernel_rfl, by kernel_rfl⟩
instance : Fun Try.prog 45 := ⟨_, Try.func45, by kernel_rfl, by kernel_rfl⟩
instance : Fun Try.prog 46 := ⟨_, Try.func46, by kernel_rfl, by kernel_rfl⟩
instance : Fun Try.prog 47 := ⟨_, Try.func47, by kernel_rfl, by kernel_rfl⟩
instance : Fun Try.prog 48 := ⟨_, Try.func48, by kernel_rfl, by kernel_rfl⟩
instance : Fun Try.prog 49 := ⟨_, Try.func49, by kernel_rfl, by kernel_rfl⟩
instance : Fun Try.prog 50 := ⟨_, Try.func50, by kernel_rfl, by kernel_rfl⟩
instance : Fun Try.prog 51 := ⟨_, Try.func51, by kernel_rfl, by kernel_rfl⟩
instance : Fun Try.prog 52 := ⟨_, Try.func52, by kernel_rfl, by kernel_rfl⟩
instance : Fun Try.prog 53 := ⟨_, Try.func53, by kernel_rfl, by kernel_rfl⟩
instance : Fun Try.prog 54 := ⟨_, Try.func54, by kernel_rfl, by kernel_rfl⟩
instance : Fun Try.prog 55 := ⟨_, Try.func55, by kernel_rfl, by kernel_rfl⟩
instance : Fun Try.prog 56 := ⟨_, Try.func56, by kernel_rfl, by kernel_rfl⟩
instance : Fun Try.prog 57 := ⟨_, Try.func57, by kernel_rfl, by kernel_rfl⟩
instance : Fun Try.prog 58 := ⟨_, Try.func58, by kernel_rfl, by kernel_rfl⟩
instance : Fun Try.prog 59 := ⟨_, Try.func59, by kernel_rfl, by kernel_rfl⟩
instance : Fun Try.prog 60 := ⟨_, Try.func60, by kernel_rfl, by kernel_rfl⟩
instance : Fun Try.prog 61 := ⟨_, Try.func61, by kernel_rfl, by kernel_rfl⟩
instance : Fun Try.prog 62 := ⟨_, Try.func62, by kernel_rfl, by kernel_rfl⟩
instance : Fun Try.prog 63 := ⟨_, Try.func63, by kernel_rfl, by kernel_rfl⟩
instance : Fun Try.prog 64 := ⟨_, Try.func64, by kernel_rfl, by kernel_rfl⟩
instance : Fun Try.prog 65 := ⟨_, Try.func65, by kernel_rfl, by kernel_rfl⟩
instance : Fun Try.prog 66 := ⟨_, Try.func66, by kernel_rfl, by kernel_rfl⟩
instance : Fun Try.prog 67 := ⟨_, Try.func67, by kernel_rfl, by kernel_rfl⟩
instance : Fun Try.prog 68 := ⟨_, Try.func68, by kernel_rfl, by kernel_rfl⟩
instance : Fun Try.prog 69 := ⟨_, Try.func69, by kernel_rfl, by kernel_rfl⟩
instance : Fun Try.prog 70 := ⟨_, Try.func70, by kernel_rfl, by kernel_rfl⟩
instance : Fun Try.prog 71 := ⟨_, Try.func71, by kernel_rfl, by kernel_rfl⟩
instance : Fun Try.prog 72 := ⟨_, Try.func72, by kernel_rfl, by kernel_rfl⟩
instance : Fun Try.prog 73 := ⟨_, Try.func73, by kernel_rfl, by kernel_rfl⟩
instance : Fun Try.prog 74 := ⟨_, Try.func74, by kernel_rfl, by kernel_rfl⟩
instance : Fun Try.prog 75 := ⟨_, Try.func75, by kernel_rfl, by kernel_rfl⟩
instance : Fun Try.prog 76 := ⟨_, Try.func76, by kernel_rfl, by kernel_rfl⟩
instance : Fun Try.prog 77 := ⟨_, Try.func77, by kernel_rfl, by kernel_rfl⟩
instance : Fun Try.prog 78 := ⟨_, Try.func78, by kernel_rfl, by kernel_rfl⟩
instance : Fun Try.prog 79 := ⟨_, Try.func79, by kernel_rfl, by kernel_rfl⟩
instance : Fun Try.prog 80 := ⟨_, Try.func80, by kernel_rfl, by kernel_rfl⟩
instance : Fun Try.prog 81 := ⟨_, Try.func81, by kernel_rfl, by kernel_rfl⟩
instance : Fun Try.prog 82 := ⟨_, Try.func82, by kernel_rfl, by kernel_rfl⟩
instance : Fun Try.prog 83 := ⟨_, Try.func83, by kernel_rfl, by kernel_rfl⟩
instance : Fun Try.prog 84 := ⟨_, Try.func84, by kernel_rfl, by kernel_rfl⟩
instance : Fun Try.prog 85 := ⟨_, Try.func85, by kernel_rfl, by kernel_rfl⟩
instance : Fun Try.prog 86 := ⟨_, Try.func86, by kernel_rfl, by kernel_rfl⟩
instance : Fun Try.prog 87 := ⟨_, Try.func87, by kernel_rfl, by kernel_rfl⟩
instance : Fun Try.prog 88 := ⟨_, Try.func88, by kernel_rfl, by kernel_rfl⟩
instance : Fun Try.prog 89 := ⟨_, Try.func89, by kernel_rfl, by kernel_rfl⟩
instance : Fun Try.prog 90 := ⟨_, Try.func90, by kernel_rfl, by kernel_rfl⟩
instance : Fun Try.prog 91 := ⟨_, Try.func91, by kernel_rfl, by kernel_rfl⟩
instance : Fun Try.prog 92 := ⟨_, Try.func92, by kernel_rfl, by kernel_rfl⟩
instance : Fun Try.prog 93 := ⟨_, Try.func93, by kernel_rfl, by kernel_rfl⟩
instance : Fun Try.prog 94 := ⟨_, Try.func94, by kernel_rfl, by kernel_rfl⟩
instance : Fun Try.prog 95 := ⟨_, Try.func95, by kernel_rfl, by kernel_rfl⟩
instance : Fun Try.prog 96 := ⟨_, Try.func96, by kernel_rfl, by kernel_rfl⟩
instance : Fun Try.prog 97 := ⟨_, Try.func97, by kernel_rfl, by kernel_rfl⟩
instance : Fun Try.prog 98 := ⟨_, Try.func98, by kernel_rfl, by kernel_rfl⟩
instance : Fun Try.prog 99 := ⟨_, Try.func99, by kernel_rfl, by kernel_rfl⟩
instance : Fun Try.prog 100 := ⟨_, Try.func100, by kernel_rfl, by kernel_rfl⟩
instance : Fun Try.prog 101 := ⟨_, Try.func101, by kernel_rfl, by kernel_rfl⟩
instance : Fun Try.prog 102 := ⟨_, Try.func102, by kernel_rfl, by kernel_rfl⟩
instance : Fun Try.prog 103 := ⟨_, Try.func103, by kernel_rfl, by kernel_rfl⟩
instance : Fun Try.prog 104 := ⟨_, Try.func104, by kernel_rfl, by kernel_rfl⟩
instance : Fun Try.prog 105 := ⟨_, Try.func105, by kernel_rfl, by kernel_rfl⟩
instance : Fun Try.prog 106 := ⟨_, Try.func106, by kernel_rfl, by kernel_rfl⟩
instance : Fun Try.prog 107 := ⟨_, Try.func107, by kernel_rfl, by kernel_rfl⟩
instance : Fun Try.prog 108 := ⟨_, Try.func108, by kernel_rfl, by kernel_rfl⟩
instance : Fun Try.prog 109 := ⟨_, Try.func109, by kernel_rfl, by kernel_rfl⟩
instance : Fun Try.prog 110 := ⟨_, Try.func110, by kernel_rfl, by kernel_rfl⟩
instance : Fun Try.prog 111 := ⟨_, Try.func111, by kernel_rfl, by kernel_rfl⟩
instance : Fun Try.prog 112 := ⟨_, Try.func112, by kernel_rfl, by kernel_rfl⟩
instance : Fun Try.prog 113 := ⟨_, Try.func113, by kernel_rfl, by kernel_rfl⟩
instance : Fun Try.prog 114 := ⟨_, Try.func114, by kernel_rfl, by kernel_rfl⟩
instance : Fun Try.prog 115 := ⟨_, Try.func115, by kernel_rfl, by kernel_rfl⟩
instance : Fun Try.prog 116 := ⟨_, Try.func116, by kernel_rfl, by kernel_rfl⟩
instance : Fun Try.prog 117 := ⟨_, Try.func117, by kernel_rfl, by kernel_rfl⟩
instance : Fun Try.prog 118 := ⟨_, Try.func118, by kernel_rfl, by kernel_rfl⟩
instance : Fun Try.prog 119 := ⟨_, Try.func119, by kernel_rfl, by kernel_rfl⟩
instance : Fun Try.prog 120 := ⟨_, Try.func120, by kernel_rfl, by kernel_rfl⟩
instance : Fun Try.prog 121 := ⟨_, Try.func121, by kernel_rfl, by kernel_rfl⟩
instance : Fun Try.prog 122 := ⟨_, Try.func122, by kernel_rfl, by kernel_rfl⟩
instance : Fun Try.prog 123 := ⟨_, Try.func123, by kernel_rfl, by kernel_rfl⟩
instance : Fun Try.prog 124 := ⟨_, Try.func124, by kernel_rfl, by kernel_rfl⟩
instance : Fun Try.prog 125 := ⟨_, Try.func125, by kernel_rfl, by kernel_rfl⟩
instance : Fun Try.prog 126 := ⟨_, Try.func126, by kernel_rfl, by kernel_rfl⟩
instance : Fun Try.prog 127 := ⟨_, Try.func127, by kernel_rfl, by kernel_rfl⟩
theorem mixed : Try.prog.follows .mixedOrders = true := by kernel_rfl
end Go.Sx
