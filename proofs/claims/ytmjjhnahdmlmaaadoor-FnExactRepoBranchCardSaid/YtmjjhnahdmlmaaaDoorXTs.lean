/- The seat's types and functions: what the rules must know of them, each fact closed. Conditions: none. -/
import Derived.Test.YtmjjhnahdmlmaaaDoorXLb
import Derived.Test.YtmjjhnahdmlmaaaDoorXLw
import Derived.Test.YtmjjhnahdmlmaaaDoorProg
namespace Go.Sx
open Go Go.Proofs Go.Vm Rp

instance : Rp Int := Rp.atom 3 vI (fun _ => True) (fun _ => rfl) 64
instance (priority := high) : Rp Str := Rp.atom 9 (fun s => vS s) (fun _ => True) (fun _ => rfl) 22
instance : Rp Bool := Rp.atom 4 vB (fun _ => True) (fun _ => rfl) 227
instance : Rp Byte := Rp.atom 5 (fun b => .int .u8 (UInt8.toNat b)) (fun _ => True) (fun _ => rfl) 56
instance : Atm Int := ⟨fun h => ⟨rfl, h⟩⟩
instance : Atm Str := ⟨fun h => ⟨rfl, h⟩⟩
instance : Atm Bool := ⟨fun h => ⟨rfl, h⟩⟩
instance : Atm Byte := ⟨fun h => ⟨rfl, h⟩⟩
instance : Pl Int := ⟨fun h => h⟩
instance : Pl Str := ⟨fun h => h⟩
instance : Pl Bool := ⟨fun h => h⟩
instance : Pl Byte := ⟨fun h => h⟩
instance : Zr Int := ⟨0, [vI 0], ⟨rfl, rfl, trivial⟩⟩
instance : Zr Str := ⟨[], [vS []], ⟨rfl, rfl, trivial⟩⟩
instance : Zr Bool := ⟨false, [vB false], ⟨rfl, rfl, trivial⟩⟩
section
variable {W : CW} {K : List Nat} {v : Value} {p : Addr}
theorem Rd.str {s : Str} (h : Rd W K [v] s) : v = vS s := by simpa using h.1
theorem Rd.int {n : Int} (h : Rd W K [v] n) : v = vI n := by simpa using h.1
theorem Rd.bool {b : Bool} (h : Rd W K [v] b) : v = vB b := by simpa using h.1
theorem At.str {s : Str} (h : At W K p s) : W.w.cell? p = some (vS s) := by obtain ⟨v, hc, hr⟩ := h.cell rfl; rw [hr.str] at hc; exact hc
theorem At.int {n : Int} (h : At W K p n) : W.w.cell? p = some (vI n) := by obtain ⟨v, hc, hr⟩ := h.cell rfl; rw [hr.int] at hc; exact hc
theorem At.bool {b : Bool} (h : At W K p b) : W.w.cell? p = some (vB b) := by obtain ⟨v, hc, hr⟩ := h.cell rfl; rw [hr.bool] at hc; exact hc
theorem rdI (n : Int) : Rd W K [vI n] n := ⟨rfl, trivial⟩
theorem rdY (b : UInt8) : Rd (α := Byte) W K [.int .u8 (UInt8.toNat b : Int)] b := ⟨rfl, trivial⟩
theorem rdS (s : Str) : Rd W K [vS s] s := ⟨rfl, trivial⟩
theorem rdB (b : Bool) : Rd W K [vB b] b := ⟨rfl, trivial⟩
end
instance : Rp Vm.Op := Rp.iso (β := Int × Str × Str × Str × Str × Int × (List Str)) 27 (fun x => (x.Kind, x.Branch, x.Who, x.Path, x.To, x.At, x.Text)) 155
instance : Zr Vm.Op where
  z := Vm.Op.mk 0 [] [] [] [] 0 []
  cs := Zr.cs (Int × Str × Str × Str × Str × Int × (List Str))
  own := Zr.own (α := Int × Str × Str × Str × Str × Int × (List Str))
theorem Op.split {W : CW} {K : List Nat} {cs : List Value} {x : Vm.Op} (h : Rd W K cs x) : ∃ c6 : Value, cs = [vI x.Kind, vS x.Branch, vS x.Who, vS x.Path, vS x.To, vI x.At, c6] ∧ Rd W K [c6] x.Text := by
  replace h : Rd W K cs (x.Kind, x.Branch, x.Who, x.Path, x.To, x.At, x.Text) := h
  obtain ⟨c0, d0, rfl, h0, k0⟩ := h.split
  obtain ⟨c1, d1, rfl, h1, k1⟩ := Rd.split k0
  obtain ⟨c2, d2, rfl, h2, k2⟩ := Rd.split k1
  obtain ⟨c3, d3, rfl, h3, k3⟩ := Rd.split k2
  obtain ⟨c4, d4, rfl, h4, k4⟩ := Rd.split k3
  obtain ⟨c5, d5, rfl, h5, k5⟩ := Rd.split k4
  obtain ⟨u0, rfl, _⟩ := Rd.one h0 rfl
  obtain ⟨u1, rfl, _⟩ := Rd.one h1 rfl
  obtain ⟨u2, rfl, _⟩ := Rd.one h2 rfl
  obtain ⟨u3, rfl, _⟩ := Rd.one h3 rfl
  obtain ⟨u4, rfl, _⟩ := Rd.one h4 rfl
  obtain ⟨u5, rfl, _⟩ := Rd.one h5 rfl
  obtain ⟨u6, rfl, _⟩ := Rd.one k5 rfl
  obtain rfl := Rd.int h0
  obtain rfl := Rd.str h1
  obtain rfl := Rd.str h2
  obtain rfl := Rd.str h3
  obtain rfl := Rd.str h4
  obtain rfl := Rd.int h5
  exact ⟨u6, rfl, k5⟩
theorem Op.at0 {W : CW} {K : List Nat} {p : Addr} {x : Vm.Op} (h : At W K p x) : At W K (p.add 0) x.Kind := by
  replace h : At W K p (x.Kind, x.Branch, x.Who, x.Path, x.To, x.At, x.Text) := h
  replace h := h.fst
  exact (h_add0 p).symm ▸ h
theorem Op.at1 {W : CW} {K : List Nat} {p : Addr} {x : Vm.Op} (h : At W K p x) : At W K (p.add 1) x.Branch := by
  replace h : At W K p (x.Kind, x.Branch, x.Who, x.Path, x.To, x.At, x.Text) := h
  replace h := h.snd
  replace h := h.fst
  exact h
theorem Op.at2 {W : CW} {K : List Nat} {p : Addr} {x : Vm.Op} (h : At W K p x) : At W K (p.add 2) x.Who := by
  replace h : At W K p (x.Kind, x.Branch, x.Who, x.Path, x.To, x.At, x.Text) := h
  replace h := h.snd
  replace h := h.snd
  replace h := h.fst
  rw [add_add] at h
  exact h
theorem Op.own {W : CW} {K J6 : List Nat} {c6 : Value} (x0 : Int) (x1 : Str) (x2 : Str) (x3 : Str) (x4 : Str) (x5 : Int) (x6 : List Str) (h6 : OwS W J6 K [c6] x6) (d0 : disj ([]) ([] ++ ([] ++ ([] ++ ([] ++ ([] ++ (J6)))))) = true := by rfl) (d1 : disj ([]) ([] ++ ([] ++ ([] ++ ([] ++ (J6))))) = true := by rfl) (d2 : disj ([]) ([] ++ ([] ++ ([] ++ (J6)))) = true := by rfl) (d3 : disj ([]) ([] ++ ([] ++ (J6))) = true := by rfl) (d4 : disj ([]) ([] ++ (J6)) = true := by rfl) (d5 : disj ([]) (J6) = true := by rfl) : OwS W ([] ++ ([] ++ ([] ++ ([] ++ ([] ++ ([] ++ (J6))))))) K [vI x0, vS x1, vS x2, vS x3, vS x4, vI x5, c6] (Vm.Op.mk x0 x1 x2 x3 x4 x5 x6) := (OwS.pair (OwS.atm (rdI x0)) (OwS.pair (OwS.atm (rdS x1)) (OwS.pair (OwS.atm (rdS x2)) (OwS.pair (OwS.atm (rdS x3)) (OwS.pair (OwS.atm (rdS x4)) (OwS.pair (OwS.atm (rdI x5)) h6 d5) d4) d3) d2) d1) d0)
instance : Fs Vm.Op (Int) 0 (fun x => x.Kind) (fun x y => Vm.Op.mk y x.Branch x.Who x.Path x.To x.At x.Text) := ⟨(Fs.fst rfl : Fs (Int × Str × Str × Str × Str × Int × (List Str)) (Int) 0 _ _).lt, fun h => (Fs.fst rfl : Fs (Int × Str × Str × Str × Str × Int × (List Str)) (Int) 0 _ _).lens h⟩
instance : Fs Vm.Op (Str) 1 (fun x => x.Branch) (fun x y => Vm.Op.mk x.Kind y x.Who x.Path x.To x.At x.Text) := ⟨(Fs.snd rfl (Fs.fst rfl) : Fs (Int × Str × Str × Str × Str × Int × (List Str)) (Str) 1 _ _).lt, fun h => (Fs.snd rfl (Fs.fst rfl) : Fs (Int × Str × Str × Str × Str × Int × (List Str)) (Str) 1 _ _).lens h⟩
instance : Fs Vm.Op (Str) 2 (fun x => x.Who) (fun x y => Vm.Op.mk x.Kind x.Branch y x.Path x.To x.At x.Text) := ⟨(Fs.snd rfl (Fs.snd rfl (Fs.fst rfl)) : Fs (Int × Str × Str × Str × Str × Int × (List Str)) (Str) 2 _ _).lt, fun h => (Fs.snd rfl (Fs.snd rfl (Fs.fst rfl)) : Fs (Int × Str × Str × Str × Str × Int × (List Str)) (Str) 2 _ _).lens h⟩
instance : Fs Vm.Op (Str) 3 (fun x => x.Path) (fun x y => Vm.Op.mk x.Kind x.Branch x.Who y x.To x.At x.Text) := ⟨(Fs.snd rfl (Fs.snd rfl (Fs.snd rfl (Fs.fst rfl))) : Fs (Int × Str × Str × Str × Str × Int × (List Str)) (Str) 3 _ _).lt, fun h => (Fs.snd rfl (Fs.snd rfl (Fs.snd rfl (Fs.fst rfl))) : Fs (Int × Str × Str × Str × Str × Int × (List Str)) (Str) 3 _ _).lens h⟩
instance : Fs Vm.Op (Str) 4 (fun x => x.To) (fun x y => Vm.Op.mk x.Kind x.Branch x.Who x.Path y x.At x.Text) := ⟨(Fs.snd rfl (Fs.snd rfl (Fs.snd rfl (Fs.snd rfl (Fs.fst rfl)))) : Fs (Int × Str × Str × Str × Str × Int × (List Str)) (Str) 4 _ _).lt, fun h => (Fs.snd rfl (Fs.snd rfl (Fs.snd rfl (Fs.snd rfl (Fs.fst rfl)))) : Fs (Int × Str × Str × Str × Str × Int × (List Str)) (Str) 4 _ _).lens h⟩
instance : Fs Vm.Op (Int) 5 (fun x => x.At) (fun x y => Vm.Op.mk x.Kind x.Branch x.Who x.Path x.To y x.Text) := ⟨(Fs.snd rfl (Fs.snd rfl (Fs.snd rfl (Fs.snd rfl (Fs.snd rfl (Fs.fst rfl))))) : Fs (Int × Str × Str × Str × Str × Int × (List Str)) (Int) 5 _ _).lt, fun h => (Fs.snd rfl (Fs.snd rfl (Fs.snd rfl (Fs.snd rfl (Fs.snd rfl (Fs.fst rfl))))) : Fs (Int × Str × Str × Str × Str × Int × (List Str)) (Int) 5 _ _).lens h⟩
instance : Fs Vm.Op (List Str) 6 (fun x => x.Text) (fun x y => Vm.Op.mk x.Kind x.Branch x.Who x.Path x.To x.At y) := ⟨(Fs.snd rfl (Fs.snd rfl (Fs.snd rfl (Fs.snd rfl (Fs.snd rfl (Fs.snd rfl (Fs.self rfl)))))) : Fs (Int × Str × Str × Str × Str × Int × (List Str)) (List Str) 6 _ _).lt, fun h => (Fs.snd rfl (Fs.snd rfl (Fs.snd rfl (Fs.snd rfl (Fs.snd rfl (Fs.snd rfl (Fs.self rfl)))))) : Fs (Int × Str × Str × Str × Str × Int × (List Str)) (List Str) 6 _ _).lens h⟩
instance : Fl Vm.Op (List Str) 6 (fun x => x.Text) (fun x y => Vm.Op.mk x.Kind x.Branch x.Who x.Path x.To x.At y) := ⟨fun h => (Fl.snd rfl (Fl.snd rfl (Fl.snd rfl (Fl.snd rfl (Fl.snd rfl (Fl.snd rfl (Fl.self rfl)))))) : Fl (Int × Str × Str × Str × Str × Int × (List Str)) (List Str) 6 _ _).lens h⟩
theorem Op.rd {W : CW} {K : List Nat} {c6 : Value} (x0 : Int) (x1 : Str) (x2 : Str) (x3 : Str) (x4 : Str) (x5 : Int) (x6 : List Str) (h6 : Rd W K [c6] x6) : Rd W K [vI x0, vS x1, vS x2, vS x3, vS x4, vI x5, c6] (Vm.Op.mk x0 x1 x2 x3 x4 x5 x6) := (Rd.join (rdI x0) (Rd.join (rdS x1) (Rd.join (rdS x2) (Rd.join (rdS x3) (Rd.join (rdS x4) (Rd.join (rdI x5) h6))))))
instance : Rp File := Rp.iso (β := Str × (List Str)) 101 (fun x => (x.Path, x.Text)) 51
instance : Zr File where
  z := Vm.File.mk [] []
  cs := Zr.cs (Str × (List Str))
  own := Zr.own (α := Str × (List Str))
theorem File.split {W : CW} {K : List Nat} {cs : List Value} {x : Vm.File} (h : Rd W K cs x) : ∃ c1 : Value, cs = [vS x.Path, c1] ∧ Rd W K [c1] x.Text := by
  replace h : Rd W K cs (x.Path, x.Text) := h
  obtain ⟨c0, d0, rfl, h0, k0⟩ := h.split
  obtain ⟨u0, rfl, _⟩ := Rd.one h0 rfl
  obtain ⟨u1, rfl, _⟩ := Rd.one k0 rfl
  obtain rfl := Rd.str h0
  exact ⟨u1, rfl, k0⟩
theorem File.at0 {W : CW} {K : List Nat} {p : Addr} {x : Vm.File} (h : At W K p x) : At W K (p.add 0) x.Path := by
  replace h : At W K p (x.Path, x.Text) := h
  replace h := h.fst
  exact (h_add0 p).symm ▸ h
theorem File.at1 {W : CW} {K : List Nat} {p : Addr} {x : Vm.File} (h : At W K p x) : At W K (p.add 1) x.Text := by
  replace h : At W K p (x.Path, x.Text) := h
  replace h := h.snd
  exact h
theorem File.own {W : CW} {K J1 : List Nat} {c1 : Value} (x0 : Str) (x1 : List Str) (h1 : OwS W J1 K [c1] x1) (d0 : disj ([]) (J1) = true := by rfl) : OwS W ([] ++ (J1)) K [vS x0, c1] (Vm.File.mk x0 x1) := (OwS.pair (OwS.atm (rdS x0)) h1 d0)
instance : Fs Vm.File (Str) 0 (fun x => x.Path) (fun x y => Vm.File.mk y x.Text) := ⟨(Fs.fst rfl : Fs (Str × (List Str)) (Str) 0 _ _).lt, fun h => (Fs.fst rfl : Fs (Str × (List Str)) (Str) 0 _ _).lens h⟩
instance : Fs Vm.File (List Str) 1 (fun x => x.Text) (fun x y => Vm.File.mk x.Path y) := ⟨(Fs.snd rfl (Fs.self rfl) : Fs (Str × (List Str)) (List Str) 1 _ _).lt, fun h => (Fs.snd rfl (Fs.self rfl) : Fs (Str × (List Str)) (List Str) 1 _ _).lens h⟩
instance : Fl Vm.File (List Str) 1 (fun x => x.Text) (fun x y => Vm.File.mk x.Path y) := ⟨fun h => (Fl.snd rfl (Fl.self rfl) : Fl (Str × (List Str)) (List Str) 1 _ _).lens h⟩
theorem File.rd {W : CW} {K : List Nat} {c1 : Value} (x0 : Str) (x1 : List Str) (h1 : Rd W K [c1] x1) : Rd W K [vS x0, c1] (Vm.File.mk x0 x1) := (Rd.join (rdS x0) h1)
instance : Rp Commit := Rp.iso (β := (List Int) × Str × (List File)) 99 (fun x => (x.Parents, x.Who, x.Tree)) 36
instance : Zr Commit where
  z := Vm.Commit.mk [] [] []
  cs := Zr.cs ((List Int) × Str × (List File))
  own := Zr.own (α := (List Int) × Str × (List File))
theorem Commit.split {W : CW} {K : List Nat} {cs : List Value} {x : Vm.Commit} (h : Rd W K cs x) : ∃ c0 c2 : Value, cs = [c0, vS x.Who, c2] ∧ Rd W K [c0] x.Parents ∧ Rd W K [c2] x.Tree := by
  replace h : Rd W K cs (x.Parents, x.Who, x.Tree) := h
  obtain ⟨c0, d0, rfl, h0, k0⟩ := h.split
  obtain ⟨c1, d1, rfl, h1, k1⟩ := Rd.split k0
  obtain ⟨u0, rfl, _⟩ := Rd.one h0 rfl
  obtain ⟨u1, rfl, _⟩ := Rd.one h1 rfl
  obtain ⟨u2, rfl, _⟩ := Rd.one k1 rfl
  obtain rfl := Rd.str h1
  exact ⟨u0, u2, rfl, h0, k1⟩
theorem Commit.at0 {W : CW} {K : List Nat} {p : Addr} {x : Vm.Commit} (h : At W K p x) : At W K (p.add 0) x.Parents := by
  replace h : At W K p (x.Parents, x.Who, x.Tree) := h
  replace h := h.fst
  exact (h_add0 p).symm ▸ h
theorem Commit.at1 {W : CW} {K : List Nat} {p : Addr} {x : Vm.Commit} (h : At W K p x) : At W K (p.add 1) x.Who := by
  replace h : At W K p (x.Parents, x.Who, x.Tree) := h
  replace h := h.snd
  replace h := h.fst
  exact h
theorem Commit.at2 {W : CW} {K : List Nat} {p : Addr} {x : Vm.Commit} (h : At W K p x) : At W K (p.add 2) x.Tree := by
  replace h : At W K p (x.Parents, x.Who, x.Tree) := h
  replace h := h.snd
  replace h := h.snd
  rw [add_add] at h
  exact h
theorem Commit.own {W : CW} {K J0 J2 : List Nat} {c0 c2 : Value} (x0 : List Int) (x1 : Str) (x2 : List File) (h0 : OwS W J0 K [c0] x0) (h2 : OwS W J2 K [c2] x2) (d0 : disj (J0) ([] ++ (J2)) = true := by rfl) (d1 : disj ([]) (J2) = true := by rfl) : OwS W (J0 ++ ([] ++ (J2))) K [c0, vS x1, c2] (Vm.Commit.mk x0 x1 x2) := (OwS.pair h0 (OwS.pair (OwS.atm (rdS x1)) h2 d1) d0)
instance : Fs Vm.Commit (List Int) 0 (fun x => x.Parents) (fun x y => Vm.Commit.mk y x.Who x.Tree) := ⟨(Fs.fst rfl : Fs ((List Int) × Str × (List File)) (List Int) 0 _ _).lt, fun h => (Fs.fst rfl : Fs ((List Int) × Str × (List File)) (List Int) 0 _ _).lens h⟩
instance : Fs Vm.Commit (Str) 1 (fun x => x.Who) (fun x y => Vm.Commit.mk x.Parents y x.Tree) := ⟨(Fs.snd rfl (Fs.fst rfl) : Fs ((List Int) × Str × (List File)) (Str) 1 _ _).lt, fun h => (Fs.snd rfl (Fs.fst rfl) : Fs ((List Int) × Str × (List File)) (Str) 1 _ _).lens h⟩
instance : Fs Vm.Commit (List File) 2 (fun x => x.Tree) (fun x y => Vm.Commit.mk x.Parents x.Who y) := ⟨(Fs.snd rfl (Fs.snd rfl (Fs.self rfl)) : Fs ((List Int) × Str × (List File)) (List File) 2 _ _).lt, fun h => (Fs.snd rfl (Fs.snd rfl (Fs.self rfl)) : Fs ((List Int) × Str × (List File)) (List File) 2 _ _).lens h⟩
instance : Fl Vm.Commit (List Int) 0 (fun x => x.Parents) (fun x y => Vm.Commit.mk y x.Who x.Tree) := ⟨fun h => (Fl.fst rfl : Fl ((List Int) × Str × (List File)) (List Int) 0 _ _).lens h⟩
instance : Fl Vm.Commit (List File) 2 (fun x => x.Tree) (fun x y => Vm.Commit.mk x.Parents x.Who y) := ⟨fun h => (Fl.snd rfl (Fl.snd rfl (Fl.self rfl)) : Fl ((List Int) × Str × (List File)) (List File) 2 _ _).lens h⟩
theorem Commit.rd {W : CW} {K : List Nat} {c0 c2 : Value} (x0 : List Int) (x1 : Str) (x2 : List File) (h0 : Rd W K [c0] x0) (h2 : Rd W K [c2] x2) : Rd W K [c0, vS x1, c2] (Vm.Commit.mk x0 x1 x2) := (Rd.join h0 (Rd.join (rdS x1) h2))
instance : Rp Head := Rp.iso (β := Str × Int) 62 (fun x => (x.Name, x.At)) 37
instance : Atm Head := ⟨fun h => Atm.own (α := Str × Int) h⟩
instance : Pl Head := ⟨fun h => Pl.pl (α := Str × Int) h⟩
instance : Zr Head where
  z := Vm.Head.mk [] 0
  cs := Zr.cs (Str × Int)
  own := Zr.own (α := Str × Int)
theorem Head.split {W : CW} {K : List Nat} {cs : List Value} {x : Vm.Head} (h : Rd W K cs x) : cs = [vS x.Name, vI x.At] := by
  replace h : Rd W K cs (x.Name, x.At) := h
  obtain ⟨c0, d0, rfl, h0, k0⟩ := h.split
  obtain ⟨u0, rfl, _⟩ := Rd.one h0 rfl
  obtain ⟨u1, rfl, _⟩ := Rd.one k0 rfl
  obtain rfl := Rd.str h0
  obtain rfl := Rd.int k0
  exact rfl
theorem Head.at0 {W : CW} {K : List Nat} {p : Addr} {x : Vm.Head} (h : At W K p x) : At W K (p.add 0) x.Name := by
  replace h : At W K p (x.Name, x.At) := h
  replace h := h.fst
  exact (h_add0 p).symm ▸ h
theorem Head.at1 {W : CW} {K : List Nat} {p : Addr} {x : Vm.Head} (h : At W K p x) : At W K (p.add 1) x.At := by
  replace h : At W K p (x.Name, x.At) := h
  replace h := h.snd
  exact h
instance : Fs Vm.Head (Str) 0 (fun x => x.Name) (fun x y => Vm.Head.mk y x.At) := ⟨(Fs.fst rfl : Fs (Str × Int) (Str) 0 _ _).lt, fun h => (Fs.fst rfl : Fs (Str × Int) (Str) 0 _ _).lens h⟩
instance : Fs Vm.Head (Int) 1 (fun x => x.At) (fun x y => Vm.Head.mk x.Name y) := ⟨(Fs.snd rfl (Fs.self rfl) : Fs (Str × Int) (Int) 1 _ _).lt, fun h => (Fs.snd rfl (Fs.self rfl) : Fs (Str × Int) (Int) 1 _ _).lens h⟩
theorem Head.rd {W : CW} {K : List Nat} (x0 : Str) (x1 : Int) : Rd W K [vS x0, vI x1] (Vm.Head.mk x0 x1) := (Rd.join (rdS x0) (rdI x1))
instance : Rp Repo := Rp.iso (β := (List Commit) × (List Head)) 39 (fun x => (x.Commits, x.Heads)) 0
instance : Zr Repo where
  z := Vm.Repo.mk [] []
  cs := Zr.cs ((List Commit) × (List Head))
  own := Zr.own (α := (List Commit) × (List Head))
theorem Repo.split {W : CW} {K : List Nat} {cs : List Value} {x : Vm.Repo} (h : Rd W K cs x) : ∃ c0 c1 : Value, cs = [c0, c1] ∧ Rd W K [c0] x.Commits ∧ Rd W K [c1] x.Heads := by
  replace h : Rd W K cs (x.Commits, x.Heads) := h
  obtain ⟨c0, d0, rfl, h0, k0⟩ := h.split
  obtain ⟨u0, rfl, _⟩ := Rd.one h0 rfl
  obtain ⟨u1, rfl, _⟩ := Rd.one k0 rfl
  exact ⟨u0, u1, rfl, h0, k0⟩
theorem Repo.at0 {W : CW} {K : List Nat} {p : Addr} {x : Vm.Repo} (h : At W K p x) : At W K (p.add 0) x.Commits := by
  replace h : At W K p (x.Commits, x.Heads) := h
  replace h := h.fst
  exact (h_add0 p).symm ▸ h
theorem Repo.at1 {W : CW} {K : List Nat} {p : Addr} {x : Vm.Repo} (h : At W K p x) : At W K (p.add 1) x.Heads := by
  replace h : At W K p (x.Commits, x.Heads) := h
  replace h := h.snd
  exact h
theorem Repo.own {W : CW} {K J0 J1 : List Nat} {c0 c1 : Value} (x0 : List Commit) (x1 : List Head) (h0 : OwS W J0 K [c0] x0) (h1 : OwS W J1 K [c1] x1) (d0 : disj (J0) (J1) = true := by rfl) : OwS W (J0 ++ (J1)) K [c0, c1] (Vm.Repo.mk x0 x1) := (OwS.pair h0 h1 d0)
instance : Fs Vm.Repo (List Commit) 0 (fun x => x.Commits) (fun x y => Vm.Repo.mk y x.Heads) := ⟨(Fs.fst rfl : Fs ((List Commit) × (List Head)) (List Commit) 0 _ _).lt, fun h => (Fs.fst rfl : Fs ((List Commit) × (List Head)) (List Commit) 0 _ _).lens h⟩
instance : Fs Vm.Repo (List Head) 1 (fun x => x.Heads) (fun x y => Vm.Repo.mk x.Commits y) := ⟨(Fs.snd rfl (Fs.self rfl) : Fs ((List Commit) × (List Head)) (List Head) 1 _ _).lt, fun h => (Fs.snd rfl (Fs.self rfl) : Fs ((List Commit) × (List Head)) (List Head) 1 _ _).lens h⟩
instance : Fl Vm.Repo (List Commit) 0 (fun x => x.Commits) (fun x y => Vm.Repo.mk y x.Heads) := ⟨fun h => (Fl.fst rfl : Fl ((List Commit) × (List Head)) (List Commit) 0 _ _).lens h⟩
instance : Fl Vm.Repo (List Head) 1 (fun x => x.Heads) (fun x y => Vm.Repo.mk x.Commits y) := ⟨fun h => (Fl.snd rfl (Fl.self rfl) : Fl ((List Commit) × (List Head)) (List Head) 1 _ _).lens h⟩
theorem Repo.rd {W : CW} {K : List Nat} {c0 c1 : Value} (x0 : List Commit) (x1 : List Head) (h0 : Rd W K [c0] x0) (h1 : Rd W K [c1] x1) : Rd W K [c0, c1] (Vm.Repo.mk x0 x1) := (Rd.join h0 h1)
instance : Rp l30Rd := Rp.iso (β := (List Byte) × Int) 141 (fun x => (x.b, x.p)) 0
instance : Zr l30Rd where
  z := Vm.l30Rd.mk [] 0
  cs := Zr.cs ((List Byte) × Int)
  own := Zr.own (α := (List Byte) × Int)
theorem l30Rd.split {W : CW} {K : List Nat} {cs : List Value} {x : Vm.l30Rd} (h : Rd W K cs x) : ∃ c0 : Value, cs = [c0, vI x.p] ∧ Rd W K [c0] x.b := by
  replace h : Rd W K cs (x.b, x.p) := h
  obtain ⟨c0, d0, rfl, h0, k0⟩ := h.split
  obtain ⟨u0, rfl, _⟩ := Rd.one h0 rfl
  obtain ⟨u1, rfl, _⟩ := Rd.one k0 rfl
  obtain rfl := Rd.int k0
  exact ⟨u0, rfl, h0⟩
theorem l30Rd.at0 {W : CW} {K : List Nat} {p : Addr} {x : Vm.l30Rd} (h : At W K p x) : At W K (p.add 0) x.b := by
  replace h : At W K p (x.b, x.p) := h
  replace h := h.fst
  exact (h_add0 p).symm ▸ h
theorem l30Rd.at1 {W : CW} {K : List Nat} {p : Addr} {x : Vm.l30Rd} (h : At W K p x) : At W K (p.add 1) x.p := by
  replace h : At W K p (x.b, x.p) := h
  replace h := h.snd
  exact h
theorem l30Rd.own {W : CW} {K J0 : List Nat} {c0 : Value} (x0 : List Byte) (x1 : Int) (h0 : OwS W J0 K [c0] x0) (d0 : disj (J0) ([]) = true := by rfl) : OwS W (J0 ++ ([])) K [c0, vI x1] (Vm.l30Rd.mk x0 x1) := (OwS.pair h0 (OwS.atm (rdI x1)) d0)
instance : Fs Vm.l30Rd (List Byte) 0 (fun x => x.b) (fun x y => Vm.l30Rd.mk y x.p) := ⟨(Fs.fst rfl : Fs ((List Byte) × Int) (List Byte) 0 _ _).lt, fun h => (Fs.fst rfl : Fs ((List Byte) × Int) (List Byte) 0 _ _).lens h⟩
instance : Fs Vm.l30Rd (Int) 1 (fun x => x.p) (fun x y => Vm.l30Rd.mk x.b y) := ⟨(Fs.snd rfl (Fs.self rfl) : Fs ((List Byte) × Int) (Int) 1 _ _).lt, fun h => (Fs.snd rfl (Fs.self rfl) : Fs ((List Byte) × Int) (Int) 1 _ _).lens h⟩
instance : Fl Vm.l30Rd (List Byte) 0 (fun x => x.b) (fun x y => Vm.l30Rd.mk y x.p) := ⟨fun h => (Fl.fst rfl : Fl ((List Byte) × Int) (List Byte) 0 _ _).lens h⟩
theorem l30Rd.rd {W : CW} {K : List Nat} {c0 : Value} (x0 : List Byte) (x1 : Int) (h0 : Rd W K [c0] x0) : Rd W K [c0, vI x1] (Vm.l30Rd.mk x0 x1) := (Rd.join h0 (rdI x1))
instance : Rp Clash := Rp.iso (β := Str × Int) 229 (fun x => (x.Path, x.Kind)) 221
instance : Atm Clash := ⟨fun h => Atm.own (α := Str × Int) h⟩
instance : Pl Clash := ⟨fun h => Pl.pl (α := Str × Int) h⟩
instance : Zr Clash where
  z := Vm.Clash.mk [] 0
  cs := Zr.cs (Str × Int)
  own := Zr.own (α := Str × Int)
theorem Clash.split {W : CW} {K : List Nat} {cs : List Value} {x : Vm.Clash} (h : Rd W K cs x) : cs = [vS x.Path, vI x.Kind] := by
  replace h : Rd W K cs (x.Path, x.Kind) := h
  obtain ⟨c0, d0, rfl, h0, k0⟩ := h.split
  obtain ⟨u0, rfl, _⟩ := Rd.one h0 rfl
  obtain ⟨u1, rfl, _⟩ := Rd.one k0 rfl
  obtain rfl := Rd.str h0
  obtain rfl := Rd.int k0
  exact rfl
theorem Clash.at0 {W : CW} {K : List Nat} {p : Addr} {x : Vm.Clash} (h : At W K p x) : At W K (p.add 0) x.Path := by
  replace h : At W K p (x.Path, x.Kind) := h
  replace h := h.fst
  exact (h_add0 p).symm ▸ h
theorem Clash.at1 {W : CW} {K : List Nat} {p : Addr} {x : Vm.Clash} (h : At W K p x) : At W K (p.add 1) x.Kind := by
  replace h : At W K p (x.Path, x.Kind) := h
  replace h := h.snd
  exact h
instance : Fs Vm.Clash (Str) 0 (fun x => x.Path) (fun x y => Vm.Clash.mk y x.Kind) := ⟨(Fs.fst rfl : Fs (Str × Int) (Str) 0 _ _).lt, fun h => (Fs.fst rfl : Fs (Str × Int) (Str) 0 _ _).lens h⟩
instance : Fs Vm.Clash (Int) 1 (fun x => x.Kind) (fun x y => Vm.Clash.mk x.Path y) := ⟨(Fs.snd rfl (Fs.self rfl) : Fs (Str × Int) (Int) 1 _ _).lt, fun h => (Fs.snd rfl (Fs.self rfl) : Fs (Str × Int) (Int) 1 _ _).lens h⟩
theorem Clash.rd {W : CW} {K : List Nat} (x0 : Str) (x1 : Int) : Rd W K [vS x0, vI x1] (Vm.Clash.mk x0 x1) := (Rd.join (rdS x0) (rdI x1))
instance : Rp Part := Rp.iso (β := Bool × (List Str) × (List Str) × (List Str) × (List Str)) 242 (fun x => (x.Clash, x.Lines, x.Old, x.One, x.Two)) 239
instance : Zr Part where
  z := Vm.Part.mk false [] [] [] []
  cs := Zr.cs (Bool × (List Str) × (List Str) × (List Str) × (List Str))
  own := Zr.own (α := Bool × (List Str) × (List Str) × (List Str) × (List Str))
theorem Part.split {W : CW} {K : List Nat} {cs : List Value} {x : Vm.Part} (h : Rd W K cs x) : ∃ c1 c2 c3 c4 : Value, cs = [vB x.Clash, c1, c2, c3, c4] ∧ Rd W K [c1] x.Lines ∧ Rd W K [c2] x.Old ∧ Rd W K [c3] x.One ∧ Rd W K [c4] x.Two := by
  replace h : Rd W K cs (x.Clash, x.Lines, x.Old, x.One, x.Two) := h
  obtain ⟨c0, d0, rfl, h0, k0⟩ := h.split
  obtain ⟨c1, d1, rfl, h1, k1⟩ := Rd.split k0
  obtain ⟨c2, d2, rfl, h2, k2⟩ := Rd.split k1
  obtain ⟨c3, d3, rfl, h3, k3⟩ := Rd.split k2
  obtain ⟨u0, rfl, _⟩ := Rd.one h0 rfl
  obtain ⟨u1, rfl, _⟩ := Rd.one h1 rfl
  obtain ⟨u2, rfl, _⟩ := Rd.one h2 rfl
  obtain ⟨u3, rfl, _⟩ := Rd.one h3 rfl
  obtain ⟨u4, rfl, _⟩ := Rd.one k3 rfl
  obtain rfl := Rd.bool h0
  exact ⟨u1, u2, u3, u4, rfl, h1, h2, h3, k3⟩
theorem Part.at0 {W : CW} {K : List Nat} {p : Addr} {x : Vm.Part} (h : At W K p x) : At W K (p.add 0) x.Clash := by
  replace h : At W K p (x.Clash, x.Lines, x.Old, x.One, x.Two) := h
  replace h := h.fst
  exact (h_add0 p).symm ▸ h
theorem Part.at1 {W : CW} {K : List Nat} {p : Addr} {x : Vm.Part} (h : At W K p x) : At W K (p.add 1) x.Lines := by
  replace h : At W K p (x.Clash, x.Lines, x.Old, x.One, x.Two) := h
  replace h := h.snd
  replace h := h.fst
  exact h
theorem Part.at2 {W : CW} {K : List Nat} {p : Addr} {x : Vm.Part} (h : At W K p x) : At W K (p.add 2) x.Old := by
  replace h : At W K p (x.Clash, x.Lines, x.Old, x.One, x.Two) := h
  replace h := h.snd
  replace h := h.snd
  replace h := h.fst
  rw [add_add] at h
  exact h
theorem Part.own {W : CW} {K J1 J2 J3 J4 : List Nat} {c1 c2 c3 c4 : Value} (x0 : Bool) (x1 : List Str) (x2 : List Str) (x3 : List Str) (x4 : List Str) (h1 : OwS W J1 K [c1] x1) (h2 : OwS W J2 K [c2] x2) (h3 : OwS W J3 K [c3] x3) (h4 : OwS W J4 K [c4] x4) (d0 : disj ([]) (J1 ++ (J2 ++ (J3 ++ (J4)))) = true := by rfl) (d1 : disj (J1) (J2 ++ (J3 ++ (J4))) = true := by rfl) (d2 : disj (J2) (J3 ++ (J4)) = true := by rfl) (d3 : disj (J3) (J4) = true := by rfl) : OwS W ([] ++ (J1 ++ (J2 ++ (J3 ++ (J4))))) K [vB x0, c1, c2, c3, c4] (Vm.Part.mk x0 x1 x2 x3 x4) := (OwS.pair (OwS.atm (rdB x0)) (OwS.pair h1 (OwS.pair h2 (OwS.pair h3 h4 d3) d2) d1) d0)
instance : Fs Vm.Part (Bool) 0 (fun x => x.Clash) (fun x y => Vm.Part.mk y x.Lines x.Old x.One x.Two) := ⟨(Fs.fst rfl : Fs (Bool × (List Str) × (List Str) × (List Str) × (List Str)) (Bool) 0 _ _).lt, fun h => (Fs.fst rfl : Fs (Bool × (List Str) × (List Str) × (List Str) × (List Str)) (Bool) 0 _ _).lens h⟩
instance : Fs Vm.Part (List Str) 1 (fun x => x.Lines) (fun x y => Vm.Part.mk x.Clash y x.Old x.One x.Two) := ⟨(Fs.snd rfl (Fs.fst rfl) : Fs (Bool × (List Str) × (List Str) × (List Str) × (List Str)) (List Str) 1 _ _).lt, fun h => (Fs.snd rfl (Fs.fst rfl) : Fs (Bool × (List Str) × (List Str) × (List Str) × (List Str)) (List Str) 1 _ _).lens h⟩
instance : Fs Vm.Part (List Str) 2 (fun x => x.Old) (fun x y => Vm.Part.mk x.Clash x.Lines y x.One x.Two) := ⟨(Fs.snd rfl (Fs.snd rfl (Fs.fst rfl)) : Fs (Bool × (List Str) × (List Str) × (List Str) × (List Str)) (List Str) 2 _ _).lt, fun h => (Fs.snd rfl (Fs.snd rfl (Fs.fst rfl)) : Fs (Bool × (List Str) × (List Str) × (List Str) × (List Str)) (List Str) 2 _ _).lens h⟩
instance : Fs Vm.Part (List Str) 3 (fun x => x.One) (fun x y => Vm.Part.mk x.Clash x.Lines x.Old y x.Two) := ⟨(Fs.snd rfl (Fs.snd rfl (Fs.snd rfl (Fs.fst rfl))) : Fs (Bool × (List Str) × (List Str) × (List Str) × (List Str)) (List Str) 3 _ _).lt, fun h => (Fs.snd rfl (Fs.snd rfl (Fs.snd rfl (Fs.fst rfl))) : Fs (Bool × (List Str) × (List Str) × (List Str) × (List Str)) (List Str) 3 _ _).lens h⟩
instance : Fs Vm.Part (List Str) 4 (fun x => x.Two) (fun x y => Vm.Part.mk x.Clash x.Lines x.Old x.One y) := ⟨(Fs.snd rfl (Fs.snd rfl (Fs.snd rfl (Fs.snd rfl (Fs.self rfl)))) : Fs (Bool × (List Str) × (List Str) × (List Str) × (List Str)) (List Str) 4 _ _).lt, fun h => (Fs.snd rfl (Fs.snd rfl (Fs.snd rfl (Fs.snd rfl (Fs.self rfl)))) : Fs (Bool × (List Str) × (List Str) × (List Str) × (List Str)) (List Str) 4 _ _).lens h⟩
instance : Fl Vm.Part (List Str) 1 (fun x => x.Lines) (fun x y => Vm.Part.mk x.Clash y x.Old x.One x.Two) := ⟨fun h => (Fl.snd rfl (Fl.fst rfl) : Fl (Bool × (List Str) × (List Str) × (List Str) × (List Str)) (List Str) 1 _ _).lens h⟩
instance : Fl Vm.Part (List Str) 2 (fun x => x.Old) (fun x y => Vm.Part.mk x.Clash x.Lines y x.One x.Two) := ⟨fun h => (Fl.snd rfl (Fl.snd rfl (Fl.fst rfl)) : Fl (Bool × (List Str) × (List Str) × (List Str) × (List Str)) (List Str) 2 _ _).lens h⟩
instance : Fl Vm.Part (List Str) 3 (fun x => x.One) (fun x y => Vm.Part.mk x.Clash x.Lines x.Old y x.Two) := ⟨fun h => (Fl.snd rfl (Fl.snd rfl (Fl.snd rfl (Fl.fst rfl))) : Fl (Bool × (List Str) × (List Str) × (List Str) × (List Str)) (List Str) 3 _ _).lens h⟩
instance : Fl Vm.Part (List Str) 4 (fun x => x.Two) (fun x y => Vm.Part.mk x.Clash x.Lines x.Old x.One y) := ⟨fun h => (Fl.snd rfl (Fl.snd rfl (Fl.snd rfl (Fl.snd rfl (Fl.self rfl)))) : Fl (Bool × (List Str) × (List Str) × (List Str) × (List Str)) (List Str) 4 _ _).lens h⟩
theorem Part.rd {W : CW} {K : List Nat} {c1 c2 c3 c4 : Value} (x0 : Bool) (x1 : List Str) (x2 : List Str) (x3 : List Str) (x4 : List Str) (h1 : Rd W K [c1] x1) (h2 : Rd W K [c2] x2) (h3 : Rd W K [c3] x3) (h4 : Rd W K [c4] x4) : Rd W K [vB x0, c1, c2, c3, c4] (Vm.Part.mk x0 x1 x2 x3 x4) := (Rd.join (rdB x0) (Rd.join h1 (Rd.join h2 (Rd.join h3 h4))))
instance : Und Tryd.prog 2 (TypeDesc.int IntKind.i64) := ⟨Tryd.underlying2⟩
instance : Inf Tryd.prog 2 1 8 (Value.int IntKind.i64 0) := ⟨by kernel_rfl⟩
instance : Und Tryd.prog 3 (TypeDesc.int IntKind.i64) := ⟨Tryd.underlying3⟩
instance : Inf Tryd.prog 3 1 8 (Value.int IntKind.i64 0) := ⟨by kernel_rfl⟩
instance : Und Tryd.prog 4 TypeDesc.bool := ⟨Tryd.underlying4⟩
instance : Inf Tryd.prog 4 1 1 (Value.bool false) := ⟨by kernel_rfl⟩
instance : Und Tryd.prog 5 (TypeDesc.int IntKind.u8) := ⟨Tryd.underlying5⟩
instance : Inf Tryd.prog 5 1 1 (Value.int IntKind.u8 0) := ⟨by kernel_rfl⟩
instance : Und Tryd.prog 9 TypeDesc.string := ⟨Tryd.underlying9⟩
instance : Inf Tryd.prog 9 1 16 (Value.string (ByteArray.mk #[])) := ⟨by kernel_rfl⟩
instance : Und Tryd.prog 12 (TypeDesc.int IntKind.u64) := ⟨Tryd.underlying12⟩
instance : Inf Tryd.prog 12 1 8 (Value.int IntKind.u64 0) := ⟨by kernel_rfl⟩
instance : Und Tryd.prog 13 (TypeDesc.struct #[(Field.mk "msg" 9 0 false "" "runtime" 0), (Field.mk "addr" 12 1 false "" "runtime" 16)]) := ⟨Tryd.underlying13⟩
instance : Inf Tryd.prog 13 2 24 (Value.agg #[(Value.string (ByteArray.mk #[])), (Value.int IntKind.u64 0)]) := ⟨by kernel_rfl⟩
instance : Flat Tryd.prog 13 2 := ⟨_, Tryd.underlying13, by kernel_rfl, by kernel_rfl⟩
instance : Fld Tryd.prog 13 0 0 := Flat.fld (n := 2) (by decide)
instance : Fld Tryd.prog 13 1 1 := Flat.fld (n := 2) (by decide)
instance : Und Tryd.prog 21 (TypeDesc.int IntKind.i32) := ⟨Tryd.underlying21⟩
instance : Inf Tryd.prog 21 1 4 (Value.int IntKind.i32 0) := ⟨by kernel_rfl⟩
instance : Und Tryd.prog 22 (TypeDesc.slice 9) := ⟨Tryd.underlying22⟩
instance : Inf Tryd.prog 22 1 24 (Value.slice none 0 0) := ⟨by kernel_rfl⟩
instance : Und Tryd.prog 23 (TypeDesc.struct #[(Field.mk "Kind" 3 0 false "" "" 0), (Field.mk "Branch" 9 1 false "" "" 8), (Field.mk "Who" 9 2 false "" "" 24), (Field.mk "Path" 9 3 false "" "" 40), (Field.mk "To" 9 4 false "" "" 56), (Field.mk "At" 3 5 false "" "" 72), (Field.mk "Text" 22 6 false "" "" 80)]) := ⟨Tryd.underlying23⟩
instance : Inf Tryd.prog 23 7 104 (Value.agg #[(Value.int IntKind.i64 0), (Value.string (ByteArray.mk #[])), (Value.string (ByteArray.mk #[])), (Value.string (ByteArray.mk #[])), (Value.string (ByteArray.mk #[])), (Value.int IntKind.i64 0), (Value.slice none 0 0)]) := ⟨by kernel_rfl⟩
instance : Flat Tryd.prog 23 7 := ⟨_, Tryd.underlying23, by kernel_rfl, by kernel_rfl⟩
instance : Fld Tryd.prog 23 0 0 := Flat.fld (n := 7) (by decide)
instance : Fld Tryd.prog 23 1 1 := Flat.fld (n := 7) (by decide)
instance : Fld Tryd.prog 23 2 2 := Flat.fld (n := 7) (by decide)
instance : Fld Tryd.prog 23 3 3 := Flat.fld (n := 7) (by decide)
instance : Fld Tryd.prog 23 4 4 := Flat.fld (n := 7) (by decide)
instance : Fld Tryd.prog 23 5 5 := Flat.fld (n := 7) (by decide)
instance : Fld Tryd.prog 23 6 6 := Flat.fld (n := 7) (by decide)
instance : Und Tryd.prog 24 (TypeDesc.struct #[(Field.mk "Kind" 3 0 false "" "" 0), (Field.mk "Branch" 9 1 false "" "" 8), (Field.mk "Who" 9 2 false "" "" 24), (Field.mk "Path" 9 3 false "" "" 40), (Field.mk "To" 9 4 false "" "" 56), (Field.mk "At" 3 5 false "" "" 72), (Field.mk "Text" 22 6 false "" "" 80)]) := ⟨Tryd.underlying24⟩
instance : Inf Tryd.prog 24 7 104 (Value.agg #[(Value.int IntKind.i64 0), (Value.string (ByteArray.mk #[])), (Value.string (ByteArray.mk #[])), (Value.string (ByteArray.mk #[])), (Value.string (ByteArray.mk #[])), (Value.int IntKind.i64 0), (Value.slice none 0 0)]) := ⟨by kernel_rfl⟩
instance : Flat Tryd.prog 24 7 := ⟨_, Tryd.underlying24, by kernel_rfl, by kernel_rfl⟩
instance : Fld Tryd.prog 24 0 0 := Flat.fld (n := 7) (by decide)
instance : Fld Tryd.prog 24 1 1 := Flat.fld (n := 7) (by decide)
instance : Fld Tryd.prog 24 2 2 := Flat.fld (n := 7) (by decide)
instance : Fld Tryd.prog 24 3 3 := Flat.fld (n := 7) (by decide)
instance : Fld Tryd.prog 24 4 4 := Flat.fld (n := 7) (by decide)
instance : Fld Tryd.prog 24 5 5 := Flat.fld (n := 7) (by decide)
instance : Fld Tryd.prog 24 6 6 := Flat.fld (n := 7) (by decide)
instance : Und Tryd.prog 27 (TypeDesc.struct #[(Field.mk "Kind" 3 0 false "" "" 0), (Field.mk "Branch" 9 1 false "" "" 8), (Field.mk "Who" 9 2 false "" "" 24), (Field.mk "Path" 9 3 false "" "" 40), (Field.mk "To" 9 4 false "" "" 56), (Field.mk "At" 3 5 false "" "" 72), (Field.mk "Text" 22 6 false "" "" 80)]) := ⟨Tryd.underlying27⟩
instance : Inf Tryd.prog 27 7 104 (Value.agg #[(Value.int IntKind.i64 0), (Value.string (ByteArray.mk #[])), (Value.string (ByteArray.mk #[])), (Value.string (ByteArray.mk #[])), (Value.string (ByteArray.mk #[])), (Value.int IntKind.i64 0), (Value.slice none 0 0)]) := ⟨by kernel_rfl⟩
instance : Flat Tryd.prog 27 7 := ⟨_, Tryd.underlying27, by kernel_rfl, by kernel_rfl⟩
instance : Fld Tryd.prog 27 0 0 := Flat.fld (n := 7) (by decide)
instance : Fld Tryd.prog 27 1 1 := Flat.fld (n := 7) (by decide)
instance : Fld Tryd.prog 27 2 2 := Flat.fld (n := 7) (by decide)
instance : Fld Tryd.prog 27 3 3 := Flat.fld (n := 7) (by decide)
instance : Fld Tryd.prog 27 4 4 := Flat.fld (n := 7) (by decide)
instance : Fld Tryd.prog 27 5 5 := Flat.fld (n := 7) (by decide)
instance : Fld Tryd.prog 27 6 6 := Flat.fld (n := 7) (by decide)
instance : Und Tryd.prog 31 (TypeDesc.slice 115) := ⟨Tryd.underlying31⟩
instance : Inf Tryd.prog 31 1 24 (Value.slice none 0 0) := ⟨by kernel_rfl⟩
instance : Und Tryd.prog 32 (TypeDesc.slice 135) := ⟨Tryd.underlying32⟩
instance : Inf Tryd.prog 32 1 24 (Value.slice none 0 0) := ⟨by kernel_rfl⟩
instance : Und Tryd.prog 33 (TypeDesc.struct #[(Field.mk "Commits" 31 0 false "" "" 0), (Field.mk "Heads" 32 1 false "" "" 24)]) := ⟨Tryd.underlying33⟩
instance : Inf Tryd.prog 33 2 48 (Value.agg #[(Value.slice none 0 0), (Value.slice none 0 0)]) := ⟨by kernel_rfl⟩
instance : Flat Tryd.prog 33 2 := ⟨_, Tryd.underlying33, by kernel_rfl, by kernel_rfl⟩
instance : Fld Tryd.prog 33 0 0 := Flat.fld (n := 2) (by decide)
instance : Fld Tryd.prog 33 1 1 := Flat.fld (n := 2) (by decide)
instance : Und Tryd.prog 34 (TypeDesc.struct #[(Field.mk "Commits" 31 0 false "" "" 0), (Field.mk "Heads" 32 1 false "" "" 24)]) := ⟨Tryd.underlying34⟩
instance : Inf Tryd.prog 34 2 48 (Value.agg #[(Value.slice none 0 0), (Value.slice none 0 0)]) := ⟨by kernel_rfl⟩
instance : Flat Tryd.prog 34 2 := ⟨_, Tryd.underlying34, by kernel_rfl, by kernel_rfl⟩
instance : Fld Tryd.prog 34 0 0 := Flat.fld (n := 2) (by decide)
instance : Fld Tryd.prog 34 1 1 := Flat.fld (n := 2) (by decide)
instance : Und Tryd.prog 36 (TypeDesc.slice 99) := ⟨Tryd.underlying36⟩
instance : Inf Tryd.prog 36 1 24 (Value.slice none 0 0) := ⟨by kernel_rfl⟩
instance : Und Tryd.prog 37 (TypeDesc.slice 62) := ⟨Tryd.underlying37⟩
instance : Inf Tryd.prog 37 1 24 (Value.slice none 0 0) := ⟨by kernel_rfl⟩
instance : Und Tryd.prog 38 (TypeDesc.struct #[(Field.mk "Commits" 36 0 false "" "" 0), (Field.mk "Heads" 37 1 false "" "" 24)]) := ⟨Tryd.underlying38⟩
instance : Inf Tryd.prog 38 2 48 (Value.agg #[(Value.slice none 0 0), (Value.slice none 0 0)]) := ⟨by kernel_rfl⟩
instance : Flat Tryd.prog 38 2 := ⟨_, Tryd.underlying38, by kernel_rfl, by kernel_rfl⟩
instance : Fld Tryd.prog 38 0 0 := Flat.fld (n := 2) (by decide)
instance : Fld Tryd.prog 38 1 1 := Flat.fld (n := 2) (by decide)
instance : Und Tryd.prog 39 (TypeDesc.struct #[(Field.mk "Commits" 36 0 false "" "" 0), (Field.mk "Heads" 37 1 false "" "" 24)]) := ⟨Tryd.underlying39⟩
instance : Inf Tryd.prog 39 2 48 (Value.agg #[(Value.slice none 0 0), (Value.slice none 0 0)]) := ⟨by kernel_rfl⟩
instance : Flat Tryd.prog 39 2 := ⟨_, Tryd.underlying39, by kernel_rfl, by kernel_rfl⟩
instance : Fld Tryd.prog 39 0 0 := Flat.fld (n := 2) (by decide)
instance : Fld Tryd.prog 39 1 1 := Flat.fld (n := 2) (by decide)
instance : Und Tryd.prog 48 (TypeDesc.slice 96) := ⟨Tryd.underlying48⟩
instance : Inf Tryd.prog 48 1 24 (Value.slice none 0 0) := ⟨by kernel_rfl⟩
instance : Und Tryd.prog 51 (TypeDesc.slice 101) := ⟨Tryd.underlying51⟩
instance : Inf Tryd.prog 51 1 24 (Value.slice none 0 0) := ⟨by kernel_rfl⟩
instance : Und Tryd.prog 56 (TypeDesc.slice 5) := ⟨Tryd.underlying56⟩
instance : Inf Tryd.prog 56 1 24 (Value.slice none 0 0) := ⟨by kernel_rfl⟩
instance : Und Tryd.prog 61 (TypeDesc.struct #[(Field.mk "Name" 9 0 false "" "" 0), (Field.mk "At" 3 1 false "" "" 16)]) := ⟨Tryd.underlying61⟩
instance : Inf Tryd.prog 61 2 24 (Value.agg #[(Value.string (ByteArray.mk #[])), (Value.int IntKind.i64 0)]) := ⟨by kernel_rfl⟩
instance : Flat Tryd.prog 61 2 := ⟨_, Tryd.underlying61, by kernel_rfl, by kernel_rfl⟩
instance : Fld Tryd.prog 61 0 0 := Flat.fld (n := 2) (by decide)
instance : Fld Tryd.prog 61 1 1 := Flat.fld (n := 2) (by decide)
instance : Und Tryd.prog 62 (TypeDesc.struct #[(Field.mk "Name" 9 0 false "" "" 0), (Field.mk "At" 3 1 false "" "" 16)]) := ⟨Tryd.underlying62⟩
instance : Inf Tryd.prog 62 2 24 (Value.agg #[(Value.string (ByteArray.mk #[])), (Value.int IntKind.i64 0)]) := ⟨by kernel_rfl⟩
instance : Flat Tryd.prog 62 2 := ⟨_, Tryd.underlying62, by kernel_rfl, by kernel_rfl⟩
instance : Fld Tryd.prog 62 0 0 := Flat.fld (n := 2) (by decide)
instance : Fld Tryd.prog 62 1 1 := Flat.fld (n := 2) (by decide)
instance : Und Tryd.prog 64 (TypeDesc.slice 3) := ⟨Tryd.underlying64⟩
instance : Inf Tryd.prog 64 1 24 (Value.slice none 0 0) := ⟨by kernel_rfl⟩
instance : Und Tryd.prog 95 (TypeDesc.struct #[(Field.mk "Path" 9 0 false "" "" 0), (Field.mk "Text" 22 1 false "" "" 16)]) := ⟨Tryd.underlying95⟩
instance : Inf Tryd.prog 95 2 40 (Value.agg #[(Value.string (ByteArray.mk #[])), (Value.slice none 0 0)]) := ⟨by kernel_rfl⟩
instance : Flat Tryd.prog 95 2 := ⟨_, Tryd.underlying95, by kernel_rfl, by kernel_rfl⟩
instance : Fld Tryd.prog 95 0 0 := Flat.fld (n := 2) (by decide)
instance : Fld Tryd.prog 95 1 1 := Flat.fld (n := 2) (by decide)
instance : Und Tryd.prog 96 (TypeDesc.struct #[(Field.mk "Path" 9 0 false "" "" 0), (Field.mk "Text" 22 1 false "" "" 16)]) := ⟨Tryd.underlying96⟩
instance : Inf Tryd.prog 96 2 40 (Value.agg #[(Value.string (ByteArray.mk #[])), (Value.slice none 0 0)]) := ⟨by kernel_rfl⟩
instance : Flat Tryd.prog 96 2 := ⟨_, Tryd.underlying96, by kernel_rfl, by kernel_rfl⟩
instance : Fld Tryd.prog 96 0 0 := Flat.fld (n := 2) (by decide)
instance : Fld Tryd.prog 96 1 1 := Flat.fld (n := 2) (by decide)
instance : Und Tryd.prog 98 (TypeDesc.struct #[(Field.mk "Parents" 64 0 false "" "" 0), (Field.mk "Who" 9 1 false "" "" 24), (Field.mk "Tree" 51 2 false "" "" 40)]) := ⟨Tryd.underlying98⟩
instance : Inf Tryd.prog 98 3 64 (Value.agg #[(Value.slice none 0 0), (Value.string (ByteArray.mk #[])), (Value.slice none 0 0)]) := ⟨by kernel_rfl⟩
instance : Flat Tryd.prog 98 3 := ⟨_, Tryd.underlying98, by kernel_rfl, by kernel_rfl⟩
instance : Fld Tryd.prog 98 0 0 := Flat.fld (n := 3) (by decide)
instance : Fld Tryd.prog 98 1 1 := Flat.fld (n := 3) (by decide)
instance : Fld Tryd.prog 98 2 2 := Flat.fld (n := 3) (by decide)
instance : Und Tryd.prog 99 (TypeDesc.struct #[(Field.mk "Parents" 64 0 false "" "" 0), (Field.mk "Who" 9 1 false "" "" 24), (Field.mk "Tree" 51 2 false "" "" 40)]) := ⟨Tryd.underlying99⟩
instance : Inf Tryd.prog 99 3 64 (Value.agg #[(Value.slice none 0 0), (Value.string (ByteArray.mk #[])), (Value.slice none 0 0)]) := ⟨by kernel_rfl⟩
instance : Flat Tryd.prog 99 3 := ⟨_, Tryd.underlying99, by kernel_rfl, by kernel_rfl⟩
instance : Fld Tryd.prog 99 0 0 := Flat.fld (n := 3) (by decide)
instance : Fld Tryd.prog 99 1 1 := Flat.fld (n := 3) (by decide)
instance : Fld Tryd.prog 99 2 2 := Flat.fld (n := 3) (by decide)
instance : Und Tryd.prog 101 (TypeDesc.struct #[(Field.mk "Path" 9 0 false "" "" 0), (Field.mk "Text" 22 1 false "" "" 16)]) := ⟨Tryd.underlying101⟩
instance : Inf Tryd.prog 101 2 40 (Value.agg #[(Value.string (ByteArray.mk #[])), (Value.slice none 0 0)]) := ⟨by kernel_rfl⟩
instance : Flat Tryd.prog 101 2 := ⟨_, Tryd.underlying101, by kernel_rfl, by kernel_rfl⟩
instance : Fld Tryd.prog 101 0 0 := Flat.fld (n := 2) (by decide)
instance : Fld Tryd.prog 101 1 1 := Flat.fld (n := 2) (by decide)
instance : Und Tryd.prog 106 (TypeDesc.pointer 141) := ⟨Tryd.underlying106⟩
instance : Inf Tryd.prog 106 1 8 (Value.pointer none) := ⟨by kernel_rfl⟩
instance : Und Tryd.prog 114 (TypeDesc.struct #[(Field.mk "Parents" 64 0 false "" "" 0), (Field.mk "Who" 9 1 false "" "" 24), (Field.mk "Tree" 48 2 false "" "" 40)]) := ⟨Tryd.underlying114⟩
instance : Inf Tryd.prog 114 3 64 (Value.agg #[(Value.slice none 0 0), (Value.string (ByteArray.mk #[])), (Value.slice none 0 0)]) := ⟨by kernel_rfl⟩
instance : Flat Tryd.prog 114 3 := ⟨_, Tryd.underlying114, by kernel_rfl, by kernel_rfl⟩
instance : Fld Tryd.prog 114 0 0 := Flat.fld (n := 3) (by decide)
instance : Fld Tryd.prog 114 1 1 := Flat.fld (n := 3) (by decide)
instance : Fld Tryd.prog 114 2 2 := Flat.fld (n := 3) (by decide)
instance : Und Tryd.prog 115 (TypeDesc.struct #[(Field.mk "Parents" 64 0 false "" "" 0), (Field.mk "Who" 9 1 false "" "" 24), (Field.mk "Tree" 48 2 false "" "" 40)]) := ⟨Tryd.underlying115⟩
instance : Inf Tryd.prog 115 3 64 (Value.agg #[(Value.slice none 0 0), (Value.string (ByteArray.mk #[])), (Value.slice none 0 0)]) := ⟨by kernel_rfl⟩
instance : Flat Tryd.prog 115 3 := ⟨_, Tryd.underlying115, by kernel_rfl, by kernel_rfl⟩
instance : Fld Tryd.prog 115 0 0 := Flat.fld (n := 3) (by decide)
instance : Fld Tryd.prog 115 1 1 := Flat.fld (n := 3) (by decide)
instance : Fld Tryd.prog 115 2 2 := Flat.fld (n := 3) (by decide)
instance : Und Tryd.prog 135 (TypeDesc.struct #[(Field.mk "Name" 9 0 false "" "" 0), (Field.mk "At" 3 1 false "" "" 16)]) := ⟨Tryd.underlying135⟩
instance : Inf Tryd.prog 135 2 24 (Value.agg #[(Value.string (ByteArray.mk #[])), (Value.int IntKind.i64 0)]) := ⟨by kernel_rfl⟩
instance : Flat Tryd.prog 135 2 := ⟨_, Tryd.underlying135, by kernel_rfl, by kernel_rfl⟩
instance : Fld Tryd.prog 135 0 0 := Flat.fld (n := 2) (by decide)
instance : Fld Tryd.prog 135 1 1 := Flat.fld (n := 2) (by decide)
instance : Und Tryd.prog 140 (TypeDesc.struct #[(Field.mk "b" 56 0 false "" "loop.example/versioncontrol/spec" 0), (Field.mk "p" 3 1 false "" "loop.example/versioncontrol/spec" 24)]) := ⟨Tryd.underlying140⟩
instance : Inf Tryd.prog 140 2 32 (Value.agg #[(Value.slice none 0 0), (Value.int IntKind.i64 0)]) := ⟨by kernel_rfl⟩
instance : Flat Tryd.prog 140 2 := ⟨_, Tryd.underlying140, by kernel_rfl, by kernel_rfl⟩
instance : Fld Tryd.prog 140 0 0 := Flat.fld (n := 2) (by decide)
instance : Fld Tryd.prog 140 1 1 := Flat.fld (n := 2) (by decide)
instance : Und Tryd.prog 141 (TypeDesc.struct #[(Field.mk "b" 56 0 false "" "loop.example/versioncontrol/spec" 0), (Field.mk "p" 3 1 false "" "loop.example/versioncontrol/spec" 24)]) := ⟨Tryd.underlying141⟩
instance : Inf Tryd.prog 141 2 32 (Value.agg #[(Value.slice none 0 0), (Value.int IntKind.i64 0)]) := ⟨by kernel_rfl⟩
instance : Flat Tryd.prog 141 2 := ⟨_, Tryd.underlying141, by kernel_rfl, by kernel_rfl⟩
instance : Fld Tryd.prog 141 0 0 := Flat.fld (n := 2) (by decide)
instance : Fld Tryd.prog 141 1 1 := Flat.fld (n := 2) (by decide)
instance : Und Tryd.prog 148 (TypeDesc.pointer 150) := ⟨Tryd.underlying148⟩
instance : Inf Tryd.prog 148 1 8 (Value.pointer none) := ⟨by kernel_rfl⟩
instance : Und Tryd.prog 149 (TypeDesc.struct #[(Field.mk "addr" 148 0 false "" "strings" 0), (Field.mk "buf" 56 1 false "" "strings" 8)]) := ⟨Tryd.underlying149⟩
instance : Inf Tryd.prog 149 2 32 (Value.agg #[(Value.pointer none), (Value.slice none 0 0)]) := ⟨by kernel_rfl⟩
instance : Flat Tryd.prog 149 2 := ⟨_, Tryd.underlying149, by kernel_rfl, by kernel_rfl⟩
instance : Fld Tryd.prog 149 0 0 := Flat.fld (n := 2) (by decide)
instance : Fld Tryd.prog 149 1 1 := Flat.fld (n := 2) (by decide)
instance : Und Tryd.prog 150 (TypeDesc.struct #[(Field.mk "addr" 148 0 false "" "strings" 0), (Field.mk "buf" 56 1 false "" "strings" 8)]) := ⟨Tryd.underlying150⟩
instance : Inf Tryd.prog 150 2 32 (Value.agg #[(Value.pointer none), (Value.slice none 0 0)]) := ⟨by kernel_rfl⟩
instance : Flat Tryd.prog 150 2 := ⟨_, Tryd.underlying150, by kernel_rfl, by kernel_rfl⟩
instance : Fld Tryd.prog 150 0 0 := Flat.fld (n := 2) (by decide)
instance : Fld Tryd.prog 150 1 1 := Flat.fld (n := 2) (by decide)
instance : Und Tryd.prog 155 (TypeDesc.slice 27) := ⟨Tryd.underlying155⟩
instance : Inf Tryd.prog 155 1 24 (Value.slice none 0 0) := ⟨by kernel_rfl⟩
instance : Und Tryd.prog 158 (TypeDesc.int IntKind.i64) := ⟨Tryd.underlying158⟩
instance : Inf Tryd.prog 158 1 8 (Value.int IntKind.i64 0) := ⟨by kernel_rfl⟩
instance : Und Tryd.prog 161 (TypeDesc.pointer 180) := ⟨Tryd.underlying161⟩
instance : Inf Tryd.prog 161 1 8 (Value.pointer none) := ⟨by kernel_rfl⟩
instance : Und Tryd.prog 164 (TypeDesc.pointer 5) := ⟨Tryd.underlying164⟩
instance : Inf Tryd.prog 164 1 8 (Value.pointer none) := ⟨by kernel_rfl⟩
instance : Und Tryd.prog 174 (TypeDesc.int IntKind.u64) := ⟨Tryd.underlying174⟩
instance : Inf Tryd.prog 174 1 8 (Value.int IntKind.u64 0) := ⟨by kernel_rfl⟩
instance : Und Tryd.prog 177 (TypeDesc.int IntKind.u64) := ⟨Tryd.underlying177⟩
instance : Inf Tryd.prog 177 1 8 (Value.int IntKind.u64 0) := ⟨by kernel_rfl⟩
instance : Und Tryd.prog 179 (TypeDesc.struct #[(Field.mk "Func" 9 0 false "" "" 0), (Field.mk "Num" 9 1 false "" "" 16), (Field.mk "Err" 127 2 false "" "" 32)]) := ⟨Tryd.underlying179⟩
instance : Inf Tryd.prog 179 3 48 (Value.agg #[(Value.string (ByteArray.mk #[])), (Value.string (ByteArray.mk #[])), Value.nilIface]) := ⟨by kernel_rfl⟩
instance : Flat Tryd.prog 179 3 := ⟨_, Tryd.underlying179, by kernel_rfl, by kernel_rfl⟩
instance : Fld Tryd.prog 179 0 0 := Flat.fld (n := 3) (by decide)
instance : Fld Tryd.prog 179 1 1 := Flat.fld (n := 3) (by decide)
instance : Fld Tryd.prog 179 2 2 := Flat.fld (n := 3) (by decide)
instance : Und Tryd.prog 180 (TypeDesc.struct #[(Field.mk "Func" 9 0 false "" "" 0), (Field.mk "Num" 9 1 false "" "" 16), (Field.mk "Err" 127 2 false "" "" 32)]) := ⟨Tryd.underlying180⟩
instance : Inf Tryd.prog 180 3 48 (Value.agg #[(Value.string (ByteArray.mk #[])), (Value.string (ByteArray.mk #[])), Value.nilIface]) := ⟨by kernel_rfl⟩
instance : Flat Tryd.prog 180 3 := ⟨_, Tryd.underlying180, by kernel_rfl, by kernel_rfl⟩
instance : Fld Tryd.prog 180 0 0 := Flat.fld (n := 3) (by decide)
instance : Fld Tryd.prog 180 1 1 := Flat.fld (n := 3) (by decide)
instance : Fld Tryd.prog 180 2 2 := Flat.fld (n := 3) (by decide)
instance : Und Tryd.prog 199 (TypeDesc.pointer 201) := ⟨Tryd.underlying199⟩
instance : Inf Tryd.prog 199 1 8 (Value.pointer none) := ⟨by kernel_rfl⟩
instance : Und Tryd.prog 200 (TypeDesc.struct #[(Field.mk "s" 9 0 false "" "errors" 0)]) := ⟨Tryd.underlying200⟩
instance : Inf Tryd.prog 200 1 16 (Value.agg #[(Value.string (ByteArray.mk #[]))]) := ⟨by kernel_rfl⟩
instance : Flat Tryd.prog 200 1 := ⟨_, Tryd.underlying200, by kernel_rfl, by kernel_rfl⟩
instance : Fld Tryd.prog 200 0 0 := Flat.fld (n := 1) (by decide)
instance : Und Tryd.prog 201 (TypeDesc.struct #[(Field.mk "s" 9 0 false "" "errors" 0)]) := ⟨Tryd.underlying201⟩
instance : Inf Tryd.prog 201 1 16 (Value.agg #[(Value.string (ByteArray.mk #[]))]) := ⟨by kernel_rfl⟩
instance : Flat Tryd.prog 201 1 := ⟨_, Tryd.underlying201, by kernel_rfl, by kernel_rfl⟩
instance : Fld Tryd.prog 201 0 0 := Flat.fld (n := 1) (by decide)
instance : Und Tryd.prog 202 (TypeDesc.int IntKind.u32) := ⟨Tryd.underlying202⟩
instance : Inf Tryd.prog 202 1 4 (Value.int IntKind.u32 0) := ⟨by kernel_rfl⟩
instance : Und Tryd.prog 215 (TypeDesc.struct #[(Field.mk "lo" 5 0 false "" "unicode/utf8" 0), (Field.mk "hi" 5 1 false "" "unicode/utf8" 1)]) := ⟨Tryd.underlying215⟩
instance : Inf Tryd.prog 215 2 2 (Value.agg #[(Value.int IntKind.u8 0), (Value.int IntKind.u8 0)]) := ⟨by kernel_rfl⟩
instance : Flat Tryd.prog 215 2 := ⟨_, Tryd.underlying215, by kernel_rfl, by kernel_rfl⟩
instance : Fld Tryd.prog 215 0 0 := Flat.fld (n := 2) (by decide)
instance : Fld Tryd.prog 215 1 1 := Flat.fld (n := 2) (by decide)
instance : Und Tryd.prog 216 (TypeDesc.struct #[(Field.mk "lo" 5 0 false "" "unicode/utf8" 0), (Field.mk "hi" 5 1 false "" "unicode/utf8" 1)]) := ⟨Tryd.underlying216⟩
instance : Inf Tryd.prog 216 2 2 (Value.agg #[(Value.int IntKind.u8 0), (Value.int IntKind.u8 0)]) := ⟨by kernel_rfl⟩
instance : Flat Tryd.prog 216 2 := ⟨_, Tryd.underlying216, by kernel_rfl, by kernel_rfl⟩
instance : Fld Tryd.prog 216 0 0 := Flat.fld (n := 2) (by decide)
instance : Fld Tryd.prog 216 1 1 := Flat.fld (n := 2) (by decide)
instance : Und Tryd.prog 221 (TypeDesc.slice 229) := ⟨Tryd.underlying221⟩
instance : Inf Tryd.prog 221 1 24 (Value.slice none 0 0) := ⟨by kernel_rfl⟩
instance : Und Tryd.prog 227 (TypeDesc.slice 4) := ⟨Tryd.underlying227⟩
instance : Inf Tryd.prog 227 1 24 (Value.slice none 0 0) := ⟨by kernel_rfl⟩
instance : Und Tryd.prog 228 (TypeDesc.struct #[(Field.mk "Path" 9 0 false "" "" 0), (Field.mk "Kind" 3 1 false "" "" 16)]) := ⟨Tryd.underlying228⟩
instance : Inf Tryd.prog 228 2 24 (Value.agg #[(Value.string (ByteArray.mk #[])), (Value.int IntKind.i64 0)]) := ⟨by kernel_rfl⟩
instance : Flat Tryd.prog 228 2 := ⟨_, Tryd.underlying228, by kernel_rfl, by kernel_rfl⟩
instance : Fld Tryd.prog 228 0 0 := Flat.fld (n := 2) (by decide)
instance : Fld Tryd.prog 228 1 1 := Flat.fld (n := 2) (by decide)
instance : Und Tryd.prog 229 (TypeDesc.struct #[(Field.mk "Path" 9 0 false "" "" 0), (Field.mk "Kind" 3 1 false "" "" 16)]) := ⟨Tryd.underlying229⟩
instance : Inf Tryd.prog 229 2 24 (Value.agg #[(Value.string (ByteArray.mk #[])), (Value.int IntKind.i64 0)]) := ⟨by kernel_rfl⟩
instance : Flat Tryd.prog 229 2 := ⟨_, Tryd.underlying229, by kernel_rfl, by kernel_rfl⟩
instance : Fld Tryd.prog 229 0 0 := Flat.fld (n := 2) (by decide)
instance : Fld Tryd.prog 229 1 1 := Flat.fld (n := 2) (by decide)
instance : Und Tryd.prog 239 (TypeDesc.slice 242) := ⟨Tryd.underlying239⟩
instance : Inf Tryd.prog 239 1 24 (Value.slice none 0 0) := ⟨by kernel_rfl⟩
instance : Und Tryd.prog 241 (TypeDesc.struct #[(Field.mk "Clash" 4 0 false "" "" 0), (Field.mk "Lines" 22 1 false "" "" 8), (Field.mk "Old" 22 2 false "" "" 32), (Field.mk "One" 22 3 false "" "" 56), (Field.mk "Two" 22 4 false "" "" 80)]) := ⟨Tryd.underlying241⟩
instance : Inf Tryd.prog 241 5 104 (Value.agg #[(Value.bool false), (Value.slice none 0 0), (Value.slice none 0 0), (Value.slice none 0 0), (Value.slice none 0 0)]) := ⟨by kernel_rfl⟩
instance : Flat Tryd.prog 241 5 := ⟨_, Tryd.underlying241, by kernel_rfl, by kernel_rfl⟩
instance : Fld Tryd.prog 241 0 0 := Flat.fld (n := 5) (by decide)
instance : Fld Tryd.prog 241 1 1 := Flat.fld (n := 5) (by decide)
instance : Fld Tryd.prog 241 2 2 := Flat.fld (n := 5) (by decide)
instance : Fld Tryd.prog 241 3 3 := Flat.fld (n := 5) (by decide)
instance : Fld Tryd.prog 241 4 4 := Flat.fld (n := 5) (by decide)
instance : Und Tryd.prog 242 (TypeDesc.struct #[(Field.mk "Clash" 4 0 false "" "" 0), (Field.mk "Lines" 22 1 false "" "" 8), (Field.mk "Old" 22 2 false "" "" 32), (Field.mk "One" 22 3 false "" "" 56), (Field.mk "Two" 22 4 false "" "" 80)]) := ⟨Tryd.underlying242⟩
instance : Inf Tryd.prog 242 5 104 (Value.agg #[(Value.bool false), (Value.slice none 0 0), (Value.slice none 0 0), (Value.slice none 0 0), (Value.slice none 0 0)]) := ⟨by kernel_rfl⟩
instance : Flat Tryd.prog 242 5 := ⟨_, Tryd.underlying242, by kernel_rfl, by kernel_rfl⟩
instance : Fld Tryd.prog 242 0 0 := Flat.fld (n := 5) (by decide)
instance : Fld Tryd.prog 242 1 1 := Flat.fld (n := 5) (by decide)
instance : Fld Tryd.prog 242 2 2 := Flat.fld (n := 5) (by decide)
instance : Fld Tryd.prog 242 3 3 := Flat.fld (n := 5) (by decide)
instance : Fld Tryd.prog 242 4 4 := Flat.fld (n := 5) (by decide)
instance : Und Tryd.prog 246 (TypeDesc.slice 64) := ⟨Tryd.underlying246⟩
instance : Inf Tryd.prog 246 1 24 (Value.slice none 0 0) := ⟨by kernel_rfl⟩
instance : Fun Tryd.prog 5 := ⟨_, Tryd.func5, by kernel_rfl, by kernel_rfl⟩
instance : Fun Tryd.prog 15 := ⟨_, Tryd.func15, by kernel_rfl, by kernel_rfl⟩
instance : Fun Tryd.prog 17 := ⟨_, Tryd.func17, by kernel_rfl, by kernel_rfl⟩
instance : Fun Tryd.prog 19 := ⟨_, Tryd.func19, by kernel_rfl, by kernel_rfl⟩
instance : Fun Tryd.prog 20 := ⟨_, Tryd.func20, by kernel_rfl, by kernel_rfl⟩
instance : Fun Tryd.prog 21 := ⟨_, Tryd.func21, by kernel_rfl, by kernel_rfl⟩
instance : Fun Tryd.prog 22 := ⟨_, Tryd.func22, by kernel_rfl, by kernel_rfl⟩
instance : Fun Tryd.prog 23 := ⟨_, Tryd.func23, by kernel_rfl, by kernel_rfl⟩
instance : Fun Tryd.prog 24 := ⟨_, Tryd.func24, by kernel_rfl, by kernel_rfl⟩
instance : Fun Tryd.prog 26 := ⟨_, Tryd.func26, by kernel_rfl, by kernel_rfl⟩
instance : Fun Tryd.prog 28 := ⟨_, Tryd.func28, by kernel_rfl, by kernel_rfl⟩
instance : Fun Tryd.prog 29 := ⟨_, Tryd.func29, by kernel_rfl, by kernel_rfl⟩
instance : Fun Tryd.prog 33 := ⟨_, Tryd.func33, by kernel_rfl, by kernel_rfl⟩
instance : Fun Tryd.prog 34 := ⟨_, Tryd.func34, by kernel_rfl, by kernel_rfl⟩
instance : Fun Tryd.prog 36 := ⟨_, Tryd.func36, by kernel_rfl, by kernel_rfl⟩
instance : Fun Tryd.prog 37 := ⟨_, Tryd.func37, by kernel_rfl, by kernel_rfl⟩
instance : Fun Tryd.prog 39 := ⟨_, Tryd.func39, by kernel_rfl, by kernel_rfl⟩
instance : Fun Tryd.prog 40 := ⟨_, Tryd.func40, by kernel_rfl, by kernel_rfl⟩
instance : Fun Tryd.prog 41 := ⟨_, Tryd.func41, by kernel_rfl, by kernel_rfl⟩
instance : Fun Tryd.prog 42 := ⟨_, Tryd.func42, by kernel_rfl, by kernel_rfl⟩
instance : Fun Tryd.prog 47 := ⟨_, Tryd.func47, by kernel_rfl, by kernel_rfl⟩
instance : Fun Tryd.prog 50 := ⟨_, Tryd.func50, by kernel_rfl, by kernel_rfl⟩
instance : Fun Tryd.prog 53 := ⟨_, Tryd.func53, by kernel_rfl, by kernel_rfl⟩
instance : Fun Tryd.prog 54 := ⟨_, Tryd.func54, by kernel_rfl, by kernel_rfl⟩
instance : Fun Tryd.prog 55 := ⟨_, Tryd.func55, by kernel_rfl, by kernel_rfl⟩
instance : Fun Tryd.prog 56 := ⟨_, Tryd.func56, by kernel_rfl, by kernel_rfl⟩
instance : Fun Tryd.prog 57 := ⟨_, Tryd.func57, by kernel_rfl, by kernel_rfl⟩
instance : Fun Tryd.prog 58 := ⟨_, Tryd.func58, by kernel_rfl, by kernel_rfl⟩
instance : Fun Tryd.prog 61 := ⟨_, Tryd.func61, by kernel_rfl, by kernel_rfl⟩
instance : Fun Tryd.prog 62 := ⟨_, Tryd.func62, by kernel_rfl, by kernel_rfl⟩
instance : Fun Tryd.prog 63 := ⟨_, Tryd.func63, by kernel_rfl, by kernel_rfl⟩
instance : Fun Tryd.prog 64 := ⟨_, Tryd.func64, by kernel_rfl, by kernel_rfl⟩
instance : Fun Tryd.prog 65 := ⟨_, Tryd.func65, by kernel_rfl, by kernel_rfl⟩
instance : Fun Tryd.prog 66 := ⟨_, Tryd.func66, by kernel_rfl, by kernel_rfl⟩
instance : Fun Tryd.prog 67 := ⟨_, Tryd.func67, by kernel_rfl, by kernel_rfl⟩
instance : Fun Tryd.prog 68 := ⟨_, Tryd.func68, by kernel_rfl, by kernel_rfl⟩
instance : Fun Tryd.prog 69 := ⟨_, Tryd.func69, by kernel_rfl, by kernel_rfl⟩
instance : Fun Tryd.prog 70 := ⟨_, Tryd.func70, by kernel_rfl, by kernel_rfl⟩
instance : Fun Tryd.prog 71 := ⟨_, Tryd.func71, by kernel_rfl, by kernel_rfl⟩
instance : Fun Tryd.prog 73 := ⟨_, Tryd.func73, by kernel_rfl, by kernel_rfl⟩
instance : Fun Tryd.prog 75 := ⟨_, Tryd.func75, by kernel_rfl, by kernel_rfl⟩
instance : Fun Tryd.prog 76 := ⟨_, Tryd.func76, by kernel_rfl, by kernel_rfl⟩
instance : Fun Tryd.prog 77 := ⟨_, Tryd.func77, by kernel_rfl, by kernel_rfl⟩
instance : Fun Tryd.prog 81 := ⟨_, Tryd.func81, by kernel_rfl, by kernel_rfl⟩
instance : Fun Tryd.prog 82 := ⟨_, Tryd.func82, by kernel_rfl, by kernel_rfl⟩
instance : Fun Tryd.prog 83 := ⟨_, Tryd.func83, by kernel_rfl, by kernel_rfl⟩
instance : Fun Tryd.prog 84 := ⟨_, Tryd.func84, by kernel_rfl, by kernel_rfl⟩
instance : Fun Tryd.prog 85 := ⟨_, Tryd.func85, by kernel_rfl, by kernel_rfl⟩
instance : Fun Tryd.prog 86 := ⟨_, Tryd.func86, by kernel_rfl, by kernel_rfl⟩
instance : Fun Tryd.prog 87 := ⟨_, Tryd.func87, by kernel_rfl, by kernel_rfl⟩
instance : Fun Tryd.prog 89 := ⟨_, Tryd.func89, by kernel_rfl, by kernel_rfl⟩
instance : Fun Tryd.prog 91 := ⟨_, Tryd.func91, by kernel_rfl, by kernel_rfl⟩
instance : Fun Tryd.prog 92 := ⟨_, Tryd.func92, by kernel_rfl, by kernel_rfl⟩
instance : Fun Tryd.prog 93 := ⟨_, Tryd.func93, by kernel_rfl, by kernel_rfl⟩
instance : Fun Tryd.prog 99 := ⟨_, Tryd.func99, by kernel_rfl, by kernel_rfl⟩
instance : Fun Tryd.prog 101 := ⟨_, Tryd.func101, by kernel_rfl, by kernel_rfl⟩
instance : Fun Tryd.prog 102 := ⟨_, Tryd.func102, by kernel_rfl, by kernel_rfl⟩
instance : Fun Tryd.prog 104 := ⟨_, Tryd.func104, by kernel_rfl, by kernel_rfl⟩
instance : Fun Tryd.prog 107 := ⟨_, Tryd.func107, by kernel_rfl, by kernel_rfl⟩
instance : Fun Tryd.prog 108 := ⟨_, Tryd.func108, by kernel_rfl, by kernel_rfl⟩
instance : Fun Tryd.prog 113 := ⟨_, Tryd.func113, by kernel_rfl, by kernel_rfl⟩
instance : Fun Tryd.prog 114 := ⟨_, Tryd.func114, by kernel_rfl, by kernel_rfl⟩
instance : Fun Tryd.prog 115 := ⟨_, Tryd.func115, by kernel_rfl, by kernel_rfl⟩
instance : Fun Tryd.prog 117 := ⟨_, Tryd.func117, by kernel_rfl, by kernel_rfl⟩
instance : Fun Tryd.prog 118 := ⟨_, Tryd.func118, by kernel_rfl, by kernel_rfl⟩
instance : Fun Tryd.prog 119 := ⟨_, Tryd.func119, by kernel_rfl, by kernel_rfl⟩
instance : Fun Tryd.prog 120 := ⟨_, Tryd.func120, by kernel_rfl, by kernel_rfl⟩
instance : Fun Tryd.prog 123 := ⟨_, Tryd.func123, by kernel_rfl, by kernel_rfl⟩
instance : Fun Tryd.prog 124 := ⟨_, Tryd.func124, by kernel_rfl, by kernel_rfl⟩
instance : Fun Tryd.prog 125 := ⟨_, Tryd.func125, by kernel_rfl, by kernel_rfl⟩
instance : Fun Tryd.prog 126 := ⟨_, Tryd.func126, by kernel_rfl, by kernel_rfl⟩
instance : Fun Tryd.prog 127 := ⟨_, Tryd.func127, by kernel_rfl, by kernel_rfl⟩
instance : Fun Tryd.prog 131 := ⟨_, Tryd.func131, by kernel_rfl, by kernel_rfl⟩
instance : Fun Tryd.prog 132 := ⟨_, Tryd.func132, by kernel_rfl, by kernel_rfl⟩
instance : Fun Tryd.prog 138 := ⟨_, Tryd.func138, by kernel_rfl, by kernel_rfl⟩
instance : Fun Tryd.prog 139 := ⟨_, Tryd.func139, by kernel_rfl, by kernel_rfl⟩
instance : Fun Tryd.prog 142 := ⟨_, Tryd.func142, by kernel_rfl, by kernel_rfl⟩
instance : Fun Tryd.prog 150 := ⟨_, Tryd.func150, by kernel_rfl, by kernel_rfl⟩
theorem mixed : Tryd.prog.follows .mixedOrders = true := by kernel_rfl
end Go.Sx
