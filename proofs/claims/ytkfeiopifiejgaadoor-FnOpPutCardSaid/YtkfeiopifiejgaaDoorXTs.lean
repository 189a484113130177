/- The seat's types and functions: what the rules must know of them, each fact closed. Conditions: none. -/
import Derived.Test.YtkfeiopifiejgaaDoorXLb
import Derived.Test.YtkfeiopifiejgaaDoorXLw
import Derived.Test.YtkfeiopifiejgaaDoorProg
namespace Go.Sx
open Go Go.Proofs Go.Vm Rp

abbrev Q0 (f : Nat) (l : List Value) (W : CW) (R : CW → Value → Prop) : Prop := CallR Tryd.prog f l.toArray W.w (Res W LL R)
abbrev Q1 (f : Nat) (l : List Value) (W : CW) (L : List Nat) (R : CW → Value → Prop) : Prop := CallR Tryd.prog f l.toArray W.w (Res W L R)

instance : Rp Int := Rp.atom 3 vI (fun _ => True) (fun _ => rfl) 43
instance (priority := high) : Rp Str := Rp.atom 9 (fun s => vS s) (fun _ => True) (fun _ => rfl) 53
instance : Rp Bool := Rp.atom 4 vB (fun _ => True) (fun _ => rfl) 0
instance : Rp Byte := Rp.atom 5 (fun b => .int .u8 (UInt8.toNat b)) (fun _ => True) (fun _ => rfl) 61
instance : Atm Int := ⟨fun h => ⟨rfl, h⟩⟩
instance : Atm Str := ⟨fun h => ⟨rfl, h⟩⟩
instance : Atm Bool := ⟨fun h => ⟨rfl, h⟩⟩
instance : Atm Byte := ⟨fun h => ⟨rfl, h⟩⟩
instance : Pl Int := ⟨fun h => h⟩
instance : Pl Str := ⟨fun h => h⟩
instance : Pl Bool := ⟨fun h => h⟩
instance : Pl Byte := ⟨fun h => h⟩
instance : Zr Int := ⟨0, [vI 0], ⟨rfl, rfl, trivial⟩⟩
instance : Zr Str := ⟨[], [vS []], ⟨rfl, rfl, trivial⟩⟩
instance : Zr Bool := ⟨false, [vB false], ⟨rfl, rfl, trivial⟩⟩
section
variable {W : CW} {K : List Nat} {v : Value} {p : Addr}
theorem Rd.str {s : Str} (h : Rd W K [v] s) : v = vS s := by simpa using h.1
theorem Rd.int {n : Int} (h : Rd W K [v] n) : v = vI n := by simpa using h.1
theorem Rd.bool {b : Bool} (h : Rd W K [v] b) : v = vB b := by simpa using h.1
theorem Rd.byte {b : Byte} (h : Rd W K [v] b) : v = .int .u8 (UInt8.toNat b) := by simpa using h.1
theorem At.str {s : Str} (h : At W K p s) : W.w.cell? p = some (vS s) := by obtain ⟨v, hc, hr⟩ := h.cell rfl; rw [hr.str] at hc; exact hc
theorem At.int {n : Int} (h : At W K p n) : W.w.cell? p = some (vI n) := by obtain ⟨v, hc, hr⟩ := h.cell rfl; rw [hr.int] at hc; exact hc
theorem At.bool {b : Bool} (h : At W K p b) : W.w.cell? p = some (vB b) := by obtain ⟨v, hc, hr⟩ := h.cell rfl; rw [hr.bool] at hc; exact hc
theorem At.byte {b : Byte} (h : At W K p b) : W.w.cell? p = some (.int .u8 (UInt8.toNat b)) := by obtain ⟨v, hc, hr⟩ := h.cell rfl; rw [hr.byte] at hc; exact hc
theorem rdI (n : Int) : Rd W K [vI n] n := ⟨rfl, trivial⟩
theorem rdY (b : UInt8) : Rd (α := Byte) W K [.int .u8 (UInt8.toNat b : Int)] b := ⟨rfl, trivial⟩
theorem rdS (s : Str) : Rd W K [vS s] s := ⟨rfl, trivial⟩
end
instance : Rp File := Rp.iso (β := Str × (List Str)) 79 (fun x => (x.Path, x.Text)) 36
instance : Zr File where
  z := Vm.File.mk [] []
  cs := Zr.cs (Str × (List Str))
  own := Zr.own (α := Str × (List Str))
theorem File.split {W : CW} {K : List Nat} {cs : List Value} {x : Vm.File} (h : Rd W K cs x) : ∃ c1 : Value, cs = [vS x.Path, c1] ∧ Rd W K [c1] x.Text := by
  replace h : Rd W K cs (x.Path, x.Text) := h
  obtain ⟨c0, d0, rfl, h0, k0⟩ := h.split
  obtain ⟨u0, rfl, _⟩ := Rd.one h0 rfl
  obtain ⟨u1, rfl, _⟩ := Rd.one k0 rfl
  obtain rfl := Rd.str h0
  exact ⟨u1, rfl, k0⟩
theorem File.own {W : CW} {K J1 : List Nat} {c1 : Value} (x0 : Str) (x1 : List Str) (h1 : OwS W J1 K [c1] x1) (d0 : disj ([]) (J1) = true := by rfl) : OwS W ([] ++ (J1)) K [vS x0, c1] (Vm.File.mk x0 x1) := (OwS.pair (OwS.atm (rdS x0)) h1 d0)
instance : Fs Vm.File (Str) 0 (fun x => x.Path) (fun x y => Vm.File.mk y x.Text) := ⟨(Fs.fst rfl : Fs (Str × (List Str)) (Str) 0 _ _).lt, fun h => (Fs.fst rfl : Fs (Str × (List Str)) (Str) 0 _ _).lens h⟩
instance : Fs Vm.File (List Str) 1 (fun x => x.Text) (fun x y => Vm.File.mk x.Path y) := ⟨(Fs.snd rfl (Fs.self rfl) : Fs (Str × (List Str)) (List Str) 1 _ _).lt, fun h => (Fs.snd rfl (Fs.self rfl) : Fs (Str × (List Str)) (List Str) 1 _ _).lens h⟩
instance : Fl Vm.File (List Str) 1 (fun x => x.Text) (fun x y => Vm.File.mk x.Path y) := ⟨fun h => (Fl.snd rfl (Fl.self rfl) : Fl (Str × (List Str)) (List Str) 1 _ _).lens h⟩
theorem File.rd {W : CW} {K : List Nat} {c1 : Value} (x0 : Str) (x1 : List Str) (h1 : Rd W K [c1] x1) : Rd W K [vS x0, c1] (Vm.File.mk x0 x1) := (Rd.join (rdS x0) h1)
instance : Rp Commit := Rp.iso (β := (List Int) × Str × (List File)) 74 (fun x => (x.Parents, x.Who, x.Tree)) 29
instance : Zr Commit where
  z := Vm.Commit.mk [] [] []
  cs := Zr.cs ((List Int) × Str × (List File))
  own := Zr.own (α := (List Int) × Str × (List File))
theorem Commit.split {W : CW} {K : List Nat} {cs : List Value} {x : Vm.Commit} (h : Rd W K cs x) : ∃ c0 c2 : Value, cs = [c0, vS x.Who, c2] ∧ Rd W K [c0] x.Parents ∧ Rd W K [c2] x.Tree := by
  replace h : Rd W K cs (x.Parents, x.Who, x.Tree) := h
  obtain ⟨c0, d0, rfl, h0, k0⟩ := h.split
  obtain ⟨c1, d1, rfl, h1, k1⟩ := Rd.split k0
  obtain ⟨u0, rfl, _⟩ := Rd.one h0 rfl
  obtain ⟨u1, rfl, _⟩ := Rd.one h1 rfl
  obtain ⟨u2, rfl, _⟩ := Rd.one k1 rfl
  obtain rfl := Rd.str h1
  exact ⟨u0, u2, rfl, h0, k1⟩
theorem Commit.own {W : CW} {K J0 J2 : List Nat} {c0 c2 : Value} (x0 : List Int) (x1 : Str) (x2 : List File) (h0 : OwS W J0 K [c0] x0) (h2 : OwS W J2 K [c2] x2) (d0 : disj (J0) ([] ++ (J2)) = true := by rfl) (d1 : disj ([]) (J2) = true := by rfl) : OwS W (J0 ++ ([] ++ (J2))) K [c0, vS x1, c2] (Vm.Commit.mk x0 x1 x2) := (OwS.pair h0 (OwS.pair (OwS.atm (rdS x1)) h2 d1) d0)
instance : Fs Vm.Commit (List Int) 0 (fun x => x.Parents) (fun x y => Vm.Commit.mk y x.Who x.Tree) := ⟨(Fs.fst rfl : Fs ((List Int) × Str × (List File)) (List Int) 0 _ _).lt, fun h => (Fs.fst rfl : Fs ((List Int) × Str × (List File)) (List Int) 0 _ _).lens h⟩
instance : Fs Vm.Commit (Str) 1 (fun x => x.Who) (fun x y => Vm.Commit.mk x.Parents y x.Tree) := ⟨(Fs.snd rfl (Fs.fst rfl) : Fs ((List Int) × Str × (List File)) (Str) 1 _ _).lt, fun h => (Fs.snd rfl (Fs.fst rfl) : Fs ((List Int) × Str × (List File)) (Str) 1 _ _).lens h⟩
instance : Fs Vm.Commit (List File) 2 (fun x => x.Tree) (fun x y => Vm.Commit.mk x.Parents x.Who y) := ⟨(Fs.snd rfl (Fs.snd rfl (Fs.self rfl)) : Fs ((List Int) × Str × (List File)) (List File) 2 _ _).lt, fun h => (Fs.snd rfl (Fs.snd rfl (Fs.self rfl)) : Fs ((List Int) × Str × (List File)) (List File) 2 _ _).lens h⟩
instance : Fl Vm.Commit (List Int) 0 (fun x => x.Parents) (fun x y => Vm.Commit.mk y x.Who x.Tree) := ⟨fun h => (Fl.fst rfl : Fl ((List Int) × Str × (List File)) (List Int) 0 _ _).lens h⟩
instance : Fl Vm.Commit (List File) 2 (fun x => x.Tree) (fun x y => Vm.Commit.mk x.Parents x.Who y) := ⟨fun h => (Fl.snd rfl (Fl.snd rfl (Fl.self rfl)) : Fl ((List Int) × Str × (List File)) (List File) 2 _ _).lens h⟩
theorem Commit.rd {W : CW} {K : List Nat} {c0 c2 : Value} (x0 : List Int) (x1 : Str) (x2 : List File) (h0 : Rd W K [c0] x0) (h2 : Rd W K [c2] x2) : Rd W K [c0, vS x1, c2] (Vm.Commit.mk x0 x1 x2) := (Rd.join h0 (Rd.join (rdS x1) h2))
instance : Rp Head := Rp.iso (β := Str × Int) 123 (fun x => (x.Name, x.At)) 30
instance : Atm Head := ⟨fun h => Atm.own (α := Str × Int) h⟩
instance : Pl Head := ⟨fun h => Pl.pl (α := Str × Int) h⟩
instance : Zr Head where
  z := Vm.Head.mk [] 0
  cs := Zr.cs (Str × Int)
  own := Zr.own (α := Str × Int)
theorem Head.split {W : CW} {K : List Nat} {cs : List Value} {x : Vm.Head} (h : Rd W K cs x) : cs = [vS x.Name, vI x.At] := by
  replace h : Rd W K cs (x.Name, x.At) := h
  obtain ⟨c0, d0, rfl, h0, k0⟩ := h.split
  obtain ⟨u0, rfl, _⟩ := Rd.one h0 rfl
  obtain ⟨u1, rfl, _⟩ := Rd.one k0 rfl
  obtain rfl := Rd.str h0
  obtain rfl := Rd.int k0
  exact rfl
instance : Fs Vm.Head (Str) 0 (fun x => x.Name) (fun x y => Vm.Head.mk y x.At) := ⟨(Fs.fst rfl : Fs (Str × Int) (Str) 0 _ _).lt, fun h => (Fs.fst rfl : Fs (Str × Int) (Str) 0 _ _).lens h⟩
instance : Fs Vm.Head (Int) 1 (fun x => x.At) (fun x y => Vm.Head.mk x.Name y) := ⟨(Fs.snd rfl (Fs.self rfl) : Fs (Str × Int) (Int) 1 _ _).lt, fun h => (Fs.snd rfl (Fs.self rfl) : Fs (Str × Int) (Int) 1 _ _).lens h⟩
theorem Head.rd {W : CW} {K : List Nat} (x0 : Str) (x1 : Int) : Rd W K [vS x0, vI x1] (Vm.Head.mk x0 x1) := (Rd.join (rdS x0) (rdI x1))
instance : Rp Repo := Rp.iso (β := (List Commit) × (List Head)) 32 (fun x => (x.Commits, x.Heads)) 0
instance : Zr Repo where
  z := Vm.Repo.mk [] []
  cs := Zr.cs ((List Commit) × (List Head))
  own := Zr.own (α := (List Commit) × (List Head))
theorem Repo.split {W : CW} {K : List Nat} {cs : List Value} {x : Vm.Repo} (h : Rd W K cs x) : ∃ c0 c1 : Value, cs = [c0, c1] ∧ Rd W K [c0] x.Commits ∧ Rd W K [c1] x.Heads := by
  replace h : Rd W K cs (x.Commits, x.Heads) := h
  obtain ⟨c0, d0, rfl, h0, k0⟩ := h.split
  obtain ⟨u0, rfl, _⟩ := Rd.one h0 rfl
  obtain ⟨u1, rfl, _⟩ := Rd.one k0 rfl
  exact ⟨u0, u1, rfl, h0, k0⟩
theorem Repo.own {W : CW} {K J0 J1 : List Nat} {c0 c1 : Value} (x0 : List Commit) (x1 : List Head) (h0 : OwS W J0 K [c0] x0) (h1 : OwS W J1 K [c1] x1) (d0 : disj (J0) (J1) = true := by rfl) : OwS W (J0 ++ (J1)) K [c0, c1] (Vm.Repo.mk x0 x1) := (OwS.pair h0 h1 d0)
instance : Fs Vm.Repo (List Commit) 0 (fun x => x.Commits) (fun x y => Vm.Repo.mk y x.Heads) := ⟨(Fs.fst rfl : Fs ((List Commit) × (List Head)) (List Commit) 0 _ _).lt, fun h => (Fs.fst rfl : Fs ((List Commit) × (List Head)) (List Commit) 0 _ _).lens h⟩
instance : Fs Vm.Repo (List Head) 1 (fun x => x.Heads) (fun x y => Vm.Repo.mk x.Commits y) := ⟨(Fs.snd rfl (Fs.self rfl) : Fs ((List Commit) × (List Head)) (List Head) 1 _ _).lt, fun h => (Fs.snd rfl (Fs.self rfl) : Fs ((List Commit) × (List Head)) (List Head) 1 _ _).lens h⟩
instance : Fl Vm.Repo (List Commit) 0 (fun x => x.Commits) (fun x y => Vm.Repo.mk y x.Heads) := ⟨fun h => (Fl.fst rfl : Fl ((List Commit) × (List Head)) (List Commit) 0 _ _).lens h⟩
instance : Fl Vm.Repo (List Head) 1 (fun x => x.Heads) (fun x y => Vm.Repo.mk x.Commits y) := ⟨fun h => (Fl.snd rfl (Fl.self rfl) : Fl ((List Commit) × (List Head)) (List Head) 1 _ _).lens h⟩
theorem Repo.rd {W : CW} {K : List Nat} {c0 c1 : Value} (x0 : List Commit) (x1 : List Head) (h0 : Rd W K [c0] x0) (h1 : Rd W K [c1] x1) : Rd W K [c0, c1] (Vm.Repo.mk x0 x1) := (Rd.join h0 h1)
instance : Rp Vm.Op := Rp.iso (β := Int × Str × Str × Str × Str × Int × (List Str)) 55 (fun x => (x.Kind, x.Branch, x.Who, x.Path, x.To, x.At, x.Text)) 0
instance : Zr Vm.Op where
  z := Vm.Op.mk 0 [] [] [] [] 0 []
  cs := Zr.cs (Int × Str × Str × Str × Str × Int × (List Str))
  own := Zr.own (α := Int × Str × Str × Str × Str × Int × (List Str))
theorem Op.split {W : CW} {K : List Nat} {cs : List Value} {x : Vm.Op} (h : Rd W K cs x) : ∃ c6 : Value, cs = [vI x.Kind, vS x.Branch, vS x.Who, vS x.Path, vS x.To, vI x.At, c6] ∧ Rd W K [c6] x.Text := by
  replace h : Rd W K cs (x.Kind, x.Branch, x.Who, x.Path, x.To, x.At, x.Text) := h
  obtain ⟨c0, d0, rfl, h0, k0⟩ := h.split
  obtain ⟨c1, d1, rfl, h1, k1⟩ := Rd.split k0
  obtain ⟨c2, d2, rfl, h2, k2⟩ := Rd.split k1
  obtain ⟨c3, d3, rfl, h3, k3⟩ := Rd.split k2
  obtain ⟨c4, d4, rfl, h4, k4⟩ := Rd.split k3
  obtain ⟨c5, d5, rfl, h5, k5⟩ := Rd.split k4
  obtain ⟨u0, rfl, _⟩ := Rd.one h0 rfl
  obtain ⟨u1, rfl, _⟩ := Rd.one h1 rfl
  obtain ⟨u2, rfl, _⟩ := Rd.one h2 rfl
  obtain ⟨u3, rfl, _⟩ := Rd.one h3 rfl
  obtain ⟨u4, rfl, _⟩ := Rd.one h4 rfl
  obtain ⟨u5, rfl, _⟩ := Rd.one h5 rfl
  obtain ⟨u6, rfl, _⟩ := Rd.one k5 rfl
  obtain rfl := Rd.int h0
  obtain rfl := Rd.str h1
  obtain rfl := Rd.str h2
  obtain rfl := Rd.str h3
  obtain rfl := Rd.str h4
  obtain rfl := Rd.int h5
  exact ⟨u6, rfl, k5⟩
theorem Op.own {W : CW} {K J6 : List Nat} {c6 : Value} (x0 : Int) (x1 : Str) (x2 : Str) (x3 : Str) (x4 : Str) (x5 : Int) (x6 : List Str) (h6 : OwS W J6 K [c6] x6) (d0 : disj ([]) ([] ++ ([] ++ ([] ++ ([] ++ ([] ++ (J6)))))) = true := by rfl) (d1 : disj ([]) ([] ++ ([] ++ ([] ++ ([] ++ (J6))))) = true := by rfl) (d2 : disj ([]) ([] ++ ([] ++ ([] ++ (J6)))) = true := by rfl) (d3 : disj ([]) ([] ++ ([] ++ (J6))) = true := by rfl) (d4 : disj ([]) ([] ++ (J6)) = true := by rfl) (d5 : disj ([]) (J6) = true := by rfl) : OwS W ([] ++ ([] ++ ([] ++ ([] ++ ([] ++ ([] ++ (J6))))))) K [vI x0, vS x1, vS x2, vS x3, vS x4, vI x5, c6] (Vm.Op.mk x0 x1 x2 x3 x4 x5 x6) := (OwS.pair (OwS.atm (rdI x0)) (OwS.pair (OwS.atm (rdS x1)) (OwS.pair (OwS.atm (rdS x2)) (OwS.pair (OwS.atm (rdS x3)) (OwS.pair (OwS.atm (rdS x4)) (OwS.pair (OwS.atm (rdI x5)) h6 d5) d4) d3) d2) d1) d0)
instance : Fs Vm.Op (Int) 0 (fun x => x.Kind) (fun x y => Vm.Op.mk y x.Branch x.Who x.Path x.To x.At x.Text) := ⟨(Fs.fst rfl : Fs (Int × Str × Str × Str × Str × Int × (List Str)) (Int) 0 _ _).lt, fun h => (Fs.fst rfl : Fs (Int × Str × Str × Str × Str × Int × (List Str)) (Int) 0 _ _).lens h⟩
instance : Fs Vm.Op (Str) 1 (fun x => x.Branch) (fun x y => Vm.Op.mk x.Kind y x.Who x.Path x.To x.At x.Text) := ⟨(Fs.snd rfl (Fs.fst rfl) : Fs (Int × Str × Str × Str × Str × Int × (List Str)) (Str) 1 _ _).lt, fun h => (Fs.snd rfl (Fs.fst rfl) : Fs (Int × Str × Str × Str × Str × Int × (List Str)) (Str) 1 _ _).lens h⟩
instance : Fs Vm.Op (Str) 2 (fun x => x.Who) (fun x y => Vm.Op.mk x.Kind x.Branch y x.Path x.To x.At x.Text) := ⟨(Fs.snd rfl (Fs.snd rfl (Fs.fst rfl)) : Fs (Int × Str × Str × Str × Str × Int × (List Str)) (Str) 2 _ _).lt, fun h => (Fs.snd rfl (Fs.snd rfl (Fs.fst rfl)) : Fs (Int × Str × Str × Str × Str × Int × (List Str)) (Str) 2 _ _).lens h⟩
instance : Fs Vm.Op (Str) 3 (fun x => x.Path) (fun x y => Vm.Op.mk x.Kind x.Branch x.Who y x.To x.At x.Text) := ⟨(Fs.snd rfl (Fs.snd rfl (Fs.snd rfl (Fs.fst rfl))) : Fs (Int × Str × Str × Str × Str × Int × (List Str)) (Str) 3 _ _).lt, fun h => (Fs.snd rfl (Fs.snd rfl (Fs.snd rfl (Fs.fst rfl))) : Fs (Int × Str × Str × Str × Str × Int × (List Str)) (Str) 3 _ _).lens h⟩
instance : Fs Vm.Op (Str) 4 (fun x => x.To) (fun x y => Vm.Op.mk x.Kind x.Branch x.Who x.Path y x.At x.Text) := ⟨(Fs.snd rfl (Fs.snd rfl (Fs.snd rfl (Fs.snd rfl (Fs.fst rfl)))) : Fs (Int × Str × Str × Str × Str × Int × (List Str)) (Str) 4 _ _).lt, fun h => (Fs.snd rfl (Fs.snd rfl (Fs.snd rfl (Fs.snd rfl (Fs.fst rfl)))) : Fs (Int × Str × Str × Str × Str × Int × (List Str)) (Str) 4 _ _).lens h⟩
instance : Fs Vm.Op (Int) 5 (fun x => x.At) (fun x y => Vm.Op.mk x.Kind x.Branch x.Who x.Path x.To y x.Text) := ⟨(Fs.snd rfl (Fs.snd rfl (Fs.snd rfl (Fs.snd rfl (Fs.snd rfl (Fs.fst rfl))))) : Fs (Int × Str × Str × Str × Str × Int × (List Str)) (Int) 5 _ _).lt, fun h => (Fs.snd rfl (Fs.snd rfl (Fs.snd rfl (Fs.snd rfl (Fs.snd rfl (Fs.fst rfl))))) : Fs (Int × Str × Str × Str × Str × Int × (List Str)) (Int) 5 _ _).lens h⟩
instance : Fs Vm.Op (List Str) 6 (fun x => x.Text) (fun x y => Vm.Op.mk x.Kind x.Branch x.Who x.Path x.To x.At y) := ⟨(Fs.snd rfl (Fs.snd rfl (Fs.snd rfl (Fs.snd rfl (Fs.snd rfl (Fs.snd rfl (Fs.self rfl)))))) : Fs (Int × Str × Str × Str × Str × Int × (List Str)) (List Str) 6 _ _).lt, fun h => (Fs.snd rfl (Fs.snd rfl (Fs.snd rfl (Fs.snd rfl (Fs.snd rfl (Fs.snd rfl (Fs.self rfl)))))) : Fs (Int × Str × Str × Str × Str × Int × (List Str)) (List Str) 6 _ _).lens h⟩
instance : Fl Vm.Op (List Str) 6 (fun x => x.Text) (fun x y => Vm.Op.mk x.Kind x.Branch x.Who x.Path x.To x.At y) := ⟨fun h => (Fl.snd rfl (Fl.snd rfl (Fl.snd rfl (Fl.snd rfl (Fl.snd rfl (Fl.snd rfl (Fl.self rfl)))))) : Fl (Int × Str × Str × Str × Str × Int × (List Str)) (List Str) 6 _ _).lens h⟩
theorem Op.rd {W : CW} {K : List Nat} {c6 : Value} (x0 : Int) (x1 : Str) (x2 : Str) (x3 : Str) (x4 : Str) (x5 : Int) (x6 : List Str) (h6 : Rd W K [c6] x6) : Rd W K [vI x0, vS x1, vS x2, vS x3, vS x4, vI x5, c6] (Vm.Op.mk x0 x1 x2 x3 x4 x5 x6) := (Rd.join (rdI x0) (Rd.join (rdS x1) (Rd.join (rdS x2) (Rd.join (rdS x3) (Rd.join (rdS x4) (Rd.join (rdI x5) h6))))))
instance : Rp l30Rd := Rp.iso (β := (List Byte) × Int) 136 (fun x => (x.b, x.p)) 0
instance : Zr l30Rd where
  z := Vm.l30Rd.mk [] 0
  cs := Zr.cs ((List Byte) × Int)
  own := Zr.own (α := (List Byte) × Int)
theorem l30Rd.split {W : CW} {K : List Nat} {cs : List Value} {x : Vm.l30Rd} (h : Rd W K cs x) : ∃ c0 : Value, cs = [c0, vI x.p] ∧ Rd W K [c0] x.b := by
  replace h : Rd W K cs (x.b, x.p) := h
  obtain ⟨c0, d0, rfl, h0, k0⟩ := h.split
  obtain ⟨u0, rfl, _⟩ := Rd.one h0 rfl
  obtain ⟨u1, rfl, _⟩ := Rd.one k0 rfl
  obtain rfl := Rd.int k0
  exact ⟨u0, rfl, h0⟩
theorem l30Rd.own {W : CW} {K J0 : List Nat} {c0 : Value} (x0 : List Byte) (x1 : Int) (h0 : OwS W J0 K [c0] x0) (d0 : disj (J0) ([]) = true := by rfl) : OwS W (J0 ++ ([])) K [c0, vI x1] (Vm.l30Rd.mk x0 x1) := (OwS.pair h0 (OwS.atm (rdI x1)) d0)
instance : Fs Vm.l30Rd (List Byte) 0 (fun x => x.b) (fun x y => Vm.l30Rd.mk y x.p) := ⟨(Fs.fst rfl : Fs ((List Byte) × Int) (List Byte) 0 _ _).lt, fun h => (Fs.fst rfl : Fs ((List Byte) × Int) (List Byte) 0 _ _).lens h⟩
instance : Fs Vm.l30Rd (Int) 1 (fun x => x.p) (fun x y => Vm.l30Rd.mk x.b y) := ⟨(Fs.snd rfl (Fs.self rfl) : Fs ((List Byte) × Int) (Int) 1 _ _).lt, fun h => (Fs.snd rfl (Fs.self rfl) : Fs ((List Byte) × Int) (Int) 1 _ _).lens h⟩
instance : Fl Vm.l30Rd (List Byte) 0 (fun x => x.b) (fun x y => Vm.l30Rd.mk y x.p) := ⟨fun h => (Fl.fst rfl : Fl ((List Byte) × Int) (List Byte) 0 _ _).lens h⟩
theorem l30Rd.rd {W : CW} {K : List Nat} {c0 : Value} (x0 : List Byte) (x1 : Int) (h0 : Rd W K [c0] x0) : Rd W K [c0, vI x1] (Vm.l30Rd.mk x0 x1) := (Rd.join h0 (rdI x1))
instance : Und Tryd.prog 2 (TypeDesc.int IntKind.i64) := ⟨Tryd.underlying2⟩
instance : Inf Tryd.prog 2 1 8 (Value.int IntKind.i64 0) := ⟨by kernel_rfl⟩
instance : Und Tryd.prog 3 (TypeDesc.int IntKind.i64) := ⟨Tryd.underlying3⟩
instance : Inf Tryd.prog 3 1 8 (Value.int IntKind.i64 0) := ⟨by kernel_rfl⟩
instance : Und Tryd.prog 4 TypeDesc.bool := ⟨Tryd.underlying4⟩
instance : Inf Tryd.prog 4 1 1 (Value.bool false) := ⟨by kernel_rfl⟩
instance : Und Tryd.prog 5 (TypeDesc.int IntKind.u8) := ⟨Tryd.underlying5⟩
instance : Inf Tryd.prog 5 1 1 (Value.int IntKind.u8 0) := ⟨by kernel_rfl⟩
instance : Und Tryd.prog 9 TypeDesc.string := ⟨Tryd.underlying9⟩
instance : Inf Tryd.prog 9 1 16 (Value.string (ByteArray.mk #[])) := ⟨by kernel_rfl⟩
instance : Und Tryd.prog 12 (TypeDesc.int IntKind.u64) := ⟨Tryd.underlying12⟩
instance : Inf Tryd.prog 12 1 8 (Value.int IntKind.u64 0) := ⟨by kernel_rfl⟩
instance : Und Tryd.prog 13 (TypeDesc.struct #[(Field.mk "msg" 9 0 false "" "runtime" 0), (Field.mk "addr" 12 1 false "" "runtime" 16)]) := ⟨Tryd.underlying13⟩
instance : Inf Tryd.prog 13 2 24 (Value.agg #[(Value.string (ByteArray.mk #[])), (Value.int IntKind.u64 0)]) := ⟨by kernel_rfl⟩
instance : Flat Tryd.prog 13 2 := ⟨_, Tryd.underlying13, by kernel_rfl, by kernel_rfl⟩
instance : Fld Tryd.prog 13 0 0 := Flat.fld (n := 2) (by decide)
instance : Fld Tryd.prog 13 1 1 := Flat.fld (n := 2) (by decide)
instance : Und Tryd.prog 21 (TypeDesc.int IntKind.i32) := ⟨Tryd.underlying21⟩
instance : Inf Tryd.prog 21 1 4 (Value.int IntKind.i32 0) := ⟨by kernel_rfl⟩
instance : Und Tryd.prog 22 (TypeDesc.slice 92) := ⟨Tryd.underlying22⟩
instance : Inf Tryd.prog 22 1 24 (Value.slice none 0 0) := ⟨by kernel_rfl⟩
instance : Und Tryd.prog 23 (TypeDesc.slice 121) := ⟨Tryd.underlying23⟩
instance : Inf Tryd.prog 23 1 24 (Value.slice none 0 0) := ⟨by kernel_rfl⟩
instance : Und Tryd.prog 24 (TypeDesc.struct #[(Field.mk "Commits" 22 0 false "" "" 0), (Field.mk "Heads" 23 1 false "" "" 24)]) := ⟨Tryd.underlying24⟩
instance : Inf Tryd.prog 24 2 48 (Value.agg #[(Value.slice none 0 0), (Value.slice none 0 0)]) := ⟨by kernel_rfl⟩
instance : Flat Tryd.prog 24 2 := ⟨_, Tryd.underlying24, by kernel_rfl, by kernel_rfl⟩
instance : Fld Tryd.prog 24 0 0 := Flat.fld (n := 2) (by decide)
instance : Fld Tryd.prog 24 1 1 := Flat.fld (n := 2) (by decide)
instance : Und Tryd.prog 25 (TypeDesc.struct #[(Field.mk "Commits" 22 0 false "" "" 0), (Field.mk "Heads" 23 1 false "" "" 24)]) := ⟨Tryd.underlying25⟩
instance : Inf Tryd.prog 25 2 48 (Value.agg #[(Value.slice none 0 0), (Value.slice none 0 0)]) := ⟨by kernel_rfl⟩
instance : Flat Tryd.prog 25 2 := ⟨_, Tryd.underlying25, by kernel_rfl, by kernel_rfl⟩
instance : Fld Tryd.prog 25 0 0 := Flat.fld (n := 2) (by decide)
instance : Fld Tryd.prog 25 1 1 := Flat.fld (n := 2) (by decide)
instance : Und Tryd.prog 26 (TypeDesc.slice 70) := ⟨Tryd.underlying26⟩
instance : Inf Tryd.prog 26 1 24 (Value.slice none 0 0) := ⟨by kernel_rfl⟩
instance : Und Tryd.prog 29 (TypeDesc.slice 74) := ⟨Tryd.underlying29⟩
instance : Inf Tryd.prog 29 1 24 (Value.slice none 0 0) := ⟨by kernel_rfl⟩
instance : Und Tryd.prog 30 (TypeDesc.slice 123) := ⟨Tryd.underlying30⟩
instance : Inf Tryd.prog 30 1 24 (Value.slice none 0 0) := ⟨by kernel_rfl⟩
instance : Und Tryd.prog 31 (TypeDesc.struct #[(Field.mk "Commits" 29 0 false "" "" 0), (Field.mk "Heads" 30 1 false "" "" 24)]) := ⟨Tryd.underlying31⟩
instance : Inf Tryd.prog 31 2 48 (Value.agg #[(Value.slice none 0 0), (Value.slice none 0 0)]) := ⟨by kernel_rfl⟩
instance : Flat Tryd.prog 31 2 := ⟨_, Tryd.underlying31, by kernel_rfl, by kernel_rfl⟩
instance : Fld Tryd.prog 31 0 0 := Flat.fld (n := 2) (by decide)
instance : Fld Tryd.prog 31 1 1 := Flat.fld (n := 2) (by decide)
instance : Und Tryd.prog 32 (TypeDesc.struct #[(Field.mk "Commits" 29 0 false "" "" 0), (Field.mk "Heads" 30 1 false "" "" 24)]) := ⟨Tryd.underlying32⟩
instance : Inf Tryd.prog 32 2 48 (Value.agg #[(Value.slice none 0 0), (Value.slice none 0 0)]) := ⟨by kernel_rfl⟩
instance : Flat Tryd.prog 32 2 := ⟨_, Tryd.underlying32, by kernel_rfl, by kernel_rfl⟩
instance : Fld Tryd.prog 32 0 0 := Flat.fld (n := 2) (by decide)
instance : Fld Tryd.prog 32 1 1 := Flat.fld (n := 2) (by decide)
instance : Und Tryd.prog 36 (TypeDesc.slice 79) := ⟨Tryd.underlying36⟩
instance : Inf Tryd.prog 36 1 24 (Value.slice none 0 0) := ⟨by kernel_rfl⟩
instance : Und Tryd.prog 43 (TypeDesc.slice 3) := ⟨Tryd.underlying43⟩
instance : Inf Tryd.prog 43 1 24 (Value.slice none 0 0) := ⟨by kernel_rfl⟩
instance : Und Tryd.prog 53 (TypeDesc.slice 9) := ⟨Tryd.underlying53⟩
instance : Inf Tryd.prog 53 1 24 (Value.slice none 0 0) := ⟨by kernel_rfl⟩
instance : Und Tryd.prog 54 (TypeDesc.struct #[(Field.mk "Kind" 3 0 false "" "" 0), (Field.mk "Branch" 9 1 false "" "" 8), (Field.mk "Who" 9 2 false "" "" 24), (Field.mk "Path" 9 3 false "" "" 40), (Field.mk "To" 9 4 false "" "" 56), (Field.mk "At" 3 5 false "" "" 72), (Field.mk "Text" 53 6 false "" "" 80)]) := ⟨Tryd.underlying54⟩
instance : Inf Tryd.prog 54 7 104 (Value.agg #[(Value.int IntKind.i64 0), (Value.string (ByteArray.mk #[])), (Value.string (ByteArray.mk #[])), (Value.string (ByteArray.mk #[])), (Value.string (ByteArray.mk #[])), (Value.int IntKind.i64 0), (Value.slice none 0 0)]) := ⟨by kernel_rfl⟩
instance : Flat Tryd.prog 54 7 := ⟨_, Tryd.underlying54, by kernel_rfl, by kernel_rfl⟩
instance : Fld Tryd.prog 54 0 0 := Flat.fld (n := 7) (by decide)
instance : Fld Tryd.prog 54 1 1 := Flat.fld (n := 7) (by decide)
instance : Fld Tryd.prog 54 2 2 := Flat.fld (n := 7) (by decide)
instance : Fld Tryd.prog 54 3 3 := Flat.fld (n := 7) (by decide)
instance : Fld Tryd.prog 54 4 4 := Flat.fld (n := 7) (by decide)
instance : Fld Tryd.prog 54 5 5 := Flat.fld (n := 7) (by decide)
instance : Fld Tryd.prog 54 6 6 := Flat.fld (n := 7) (by decide)
instance : Und Tryd.prog 55 (TypeDesc.struct #[(Field.mk "Kind" 3 0 false "" "" 0), (Field.mk "Branch" 9 1 false "" "" 8), (Field.mk "Who" 9 2 false "" "" 24), (Field.mk "Path" 9 3 false "" "" 40), (Field.mk "To" 9 4 false "" "" 56), (Field.mk "At" 3 5 false "" "" 72), (Field.mk "Text" 53 6 false "" "" 80)]) := ⟨Tryd.underlying55⟩
instance : Inf Tryd.prog 55 7 104 (Value.agg #[(Value.int IntKind.i64 0), (Value.string (ByteArray.mk #[])), (Value.string (ByteArray.mk #[])), (Value.string (ByteArray.mk #[])), (Value.string (ByteArray.mk #[])), (Value.int IntKind.i64 0), (Value.slice none 0 0)]) := ⟨by kernel_rfl⟩
instance : Flat Tryd.prog 55 7 := ⟨_, Tryd.underlying55, by kernel_rfl, by kernel_rfl⟩
instance : Fld Tryd.prog 55 0 0 := Flat.fld (n := 7) (by decide)
instance : Fld Tryd.prog 55 1 1 := Flat.fld (n := 7) (by decide)
instance : Fld Tryd.prog 55 2 2 := Flat.fld (n := 7) (by decide)
instance : Fld Tryd.prog 55 3 3 := Flat.fld (n := 7) (by decide)
instance : Fld Tryd.prog 55 4 4 := Flat.fld (n := 7) (by decide)
instance : Fld Tryd.prog 55 5 5 := Flat.fld (n := 7) (by decide)
instance : Fld Tryd.prog 55 6 6 := Flat.fld (n := 7) (by decide)
instance : Und Tryd.prog 61 (TypeDesc.slice 5) := ⟨Tryd.underlying61⟩
instance : Inf Tryd.prog 61 1 24 (Value.slice none 0 0) := ⟨by kernel_rfl⟩
instance : Und Tryd.prog 69 (TypeDesc.struct #[(Field.mk "Path" 9 0 false "" "" 0), (Field.mk "Text" 53 1 false "" "" 16)]) := ⟨Tryd.underlying69⟩
instance : Inf Tryd.prog 69 2 40 (Value.agg #[(Value.string (ByteArray.mk #[])), (Value.slice none 0 0)]) := ⟨by kernel_rfl⟩
instance : Flat Tryd.prog 69 2 := ⟨_, Tryd.underlying69, by kernel_rfl, by kernel_rfl⟩
instance : Fld Tryd.prog 69 0 0 := Flat.fld (n := 2) (by decide)
instance : Fld Tryd.prog 69 1 1 := Flat.fld (n := 2) (by decide)
instance : Und Tryd.prog 70 (TypeDesc.struct #[(Field.mk "Path" 9 0 false "" "" 0), (Field.mk "Text" 53 1 false "" "" 16)]) := ⟨Tryd.underlying70⟩
instance : Inf Tryd.prog 70 2 40 (Value.agg #[(Value.string (ByteArray.mk #[])), (Value.slice none 0 0)]) := ⟨by kernel_rfl⟩
instance : Flat Tryd.prog 70 2 := ⟨_, Tryd.underlying70, by kernel_rfl, by kernel_rfl⟩
instance : Fld Tryd.prog 70 0 0 := Flat.fld (n := 2) (by decide)
instance : Fld Tryd.prog 70 1 1 := Flat.fld (n := 2) (by decide)
instance : Und Tryd.prog 73 (TypeDesc.struct #[(Field.mk "Parents" 43 0 false "" "" 0), (Field.mk "Who" 9 1 false "" "" 24), (Field.mk "Tree" 36 2 false "" "" 40)]) := ⟨Tryd.underlying73⟩
instance : Inf Tryd.prog 73 3 64 (Value.agg #[(Value.slice none 0 0), (Value.string (ByteArray.mk #[])), (Value.slice none 0 0)]) := ⟨by kernel_rfl⟩
instance : Flat Tryd.prog 73 3 := ⟨_, Tryd.underlying73, by kernel_rfl, by kernel_rfl⟩
instance : Fld Tryd.prog 73 0 0 := Flat.fld (n := 3) (by decide)
instance : Fld Tryd.prog 73 1 1 := Flat.fld (n := 3) (by decide)
instance : Fld Tryd.prog 73 2 2 := Flat.fld (n := 3) (by decide)
instance : Und Tryd.prog 74 (TypeDesc.struct #[(Field.mk "Parents" 43 0 false "" "" 0), (Field.mk "Who" 9 1 false "" "" 24), (Field.mk "Tree" 36 2 false "" "" 40)]) := ⟨Tryd.underlying74⟩
instance : Inf Tryd.prog 74 3 64 (Value.agg #[(Value.slice none 0 0), (Value.string (ByteArray.mk #[])), (Value.slice none 0 0)]) := ⟨by kernel_rfl⟩
instance : Flat Tryd.prog 74 3 := ⟨_, Tryd.underlying74, by kernel_rfl, by kernel_rfl⟩
instance : Fld Tryd.prog 74 0 0 := Flat.fld (n := 3) (by decide)
instance : Fld Tryd.prog 74 1 1 := Flat.fld (n := 3) (by decide)
instance : Fld Tryd.prog 74 2 2 := Flat.fld (n := 3) (by decide)
instance : Und Tryd.prog 79 (TypeDesc.struct #[(Field.mk "Path" 9 0 false "" "" 0), (Field.mk "Text" 53 1 false "" "" 16)]) := ⟨Tryd.underlying79⟩
instance : Inf Tryd.prog 79 2 40 (Value.agg #[(Value.string (ByteArray.mk #[])), (Value.slice none 0 0)]) := ⟨by kernel_rfl⟩
instance : Flat Tryd.prog 79 2 := ⟨_, Tryd.underlying79, by kernel_rfl, by kernel_rfl⟩
instance : Fld Tryd.prog 79 0 0 := Flat.fld (n := 2) (by decide)
instance : Fld Tryd.prog 79 1 1 := Flat.fld (n := 2) (by decide)
instance : Und Tryd.prog 91 (TypeDesc.struct #[(Field.mk "Parents" 43 0 false "" "" 0), (Field.mk "Who" 9 1 false "" "" 24), (Field.mk "Tree" 26 2 false "" "" 40)]) := ⟨Tryd.underlying91⟩
instance : Inf Tryd.prog 91 3 64 (Value.agg #[(Value.slice none 0 0), (Value.string (ByteArray.mk #[])), (Value.slice none 0 0)]) := ⟨by kernel_rfl⟩
instance : Flat Tryd.prog 91 3 := ⟨_, Tryd.underlying91, by kernel_rfl, by kernel_rfl⟩
instance : Fld Tryd.prog 91 0 0 := Flat.fld (n := 3) (by decide)
instance : Fld Tryd.prog 91 1 1 := Flat.fld (n := 3) (by decide)
instance : Fld Tryd.prog 91 2 2 := Flat.fld (n := 3) (by decide)
instance : Und Tryd.prog 92 (TypeDesc.struct #[(Field.mk "Parents" 43 0 false "" "" 0), (Field.mk "Who" 9 1 false "" "" 24), (Field.mk "Tree" 26 2 false "" "" 40)]) := ⟨Tryd.underlying92⟩
instance : Inf Tryd.prog 92 3 64 (Value.agg #[(Value.slice none 0 0), (Value.string (ByteArray.mk #[])), (Value.slice none 0 0)]) := ⟨by kernel_rfl⟩
instance : Flat Tryd.prog 92 3 := ⟨_, Tryd.underlying92, by kernel_rfl, by kernel_rfl⟩
instance : Fld Tryd.prog 92 0 0 := Flat.fld (n := 3) (by decide)
instance : Fld Tryd.prog 92 1 1 := Flat.fld (n := 3) (by decide)
instance : Fld Tryd.prog 92 2 2 := Flat.fld (n := 3) (by decide)
instance : Und Tryd.prog 112 (TypeDesc.pointer 136) := ⟨Tryd.underlying112⟩
instance : Inf Tryd.prog 112 1 8 (Value.pointer none) := ⟨by kernel_rfl⟩
instance : Und Tryd.prog 120 (TypeDesc.struct #[(Field.mk "Name" 9 0 false "" "" 0), (Field.mk "At" 3 1 false "" "" 16)]) := ⟨Tryd.underlying120⟩
instance : Inf Tryd.prog 120 2 24 (Value.agg #[(Value.string (ByteArray.mk #[])), (Value.int IntKind.i64 0)]) := ⟨by kernel_rfl⟩
instance : Flat Tryd.prog 120 2 := ⟨_, Tryd.underlying120, by kernel_rfl, by kernel_rfl⟩
instance : Fld Tryd.prog 120 0 0 := Flat.fld (n := 2) (by decide)
instance : Fld Tryd.prog 120 1 1 := Flat.fld (n := 2) (by decide)
instance : Und Tryd.prog 121 (TypeDesc.struct #[(Field.mk "Name" 9 0 false "" "" 0), (Field.mk "At" 3 1 false "" "" 16)]) := ⟨Tryd.underlying121⟩
instance : Inf Tryd.prog 121 2 24 (Value.agg #[(Value.string (ByteArray.mk #[])), (Value.int IntKind.i64 0)]) := ⟨by kernel_rfl⟩
instance : Flat Tryd.prog 121 2 := ⟨_, Tryd.underlying121, by kernel_rfl, by kernel_rfl⟩
instance : Fld Tryd.prog 121 0 0 := Flat.fld (n := 2) (by decide)
instance : Fld Tryd.prog 121 1 1 := Flat.fld (n := 2) (by decide)
instance : Und Tryd.prog 123 (TypeDesc.struct #[(Field.mk "Name" 9 0 false "" "" 0), (Field.mk "At" 3 1 false "" "" 16)]) := ⟨Tryd.underlying123⟩
instance : Inf Tryd.prog 123 2 24 (Value.agg #[(Value.string (ByteArray.mk #[])), (Value.int IntKind.i64 0)]) := ⟨by kernel_rfl⟩
instance : Flat Tryd.prog 123 2 := ⟨_, Tryd.underlying123, by kernel_rfl, by kernel_rfl⟩
instance : Fld Tryd.prog 123 0 0 := Flat.fld (n := 2) (by decide)
instance : Fld Tryd.prog 123 1 1 := Flat.fld (n := 2) (by decide)
instance : Und Tryd.prog 135 (TypeDesc.struct #[(Field.mk "b" 61 0 false "" "loop.example/versioncontrol/spec" 0), (Field.mk "p" 3 1 false "" "loop.example/versioncontrol/spec" 24)]) := ⟨Tryd.underlying135⟩
instance : Inf Tryd.prog 135 2 32 (Value.agg #[(Value.slice none 0 0), (Value.int IntKind.i64 0)]) := ⟨by kernel_rfl⟩
instance : Flat Tryd.prog 135 2 := ⟨_, Tryd.underlying135, by kernel_rfl, by kernel_rfl⟩
instance : Fld Tryd.prog 135 0 0 := Flat.fld (n := 2) (by decide)
instance : Fld Tryd.prog 135 1 1 := Flat.fld (n := 2) (by decide)
instance : Und Tryd.prog 136 (TypeDesc.struct #[(Field.mk "b" 61 0 false "" "loop.example/versioncontrol/spec" 0), (Field.mk "p" 3 1 false "" "loop.example/versioncontrol/spec" 24)]) := ⟨Tryd.underlying136⟩
instance : Inf Tryd.prog 136 2 32 (Value.agg #[(Value.slice none 0 0), (Value.int IntKind.i64 0)]) := ⟨by kernel_rfl⟩
instance : Flat Tryd.prog 136 2 := ⟨_, Tryd.underlying136, by kernel_rfl, by kernel_rfl⟩
instance : Fld Tryd.prog 136 0 0 := Flat.fld (n := 2) (by decide)
instance : Fld Tryd.prog 136 1 1 := Flat.fld (n := 2) (by decide)
instance : Und Tryd.prog 139 (TypeDesc.pointer 141) := ⟨Tryd.underlying139⟩
instance : Inf Tryd.prog 139 1 8 (Value.pointer none) := ⟨by kernel_rfl⟩
instance : Und Tryd.prog 140 (TypeDesc.struct #[(Field.mk "addr" 139 0 false "" "strings" 0), (Field.mk "buf" 61 1 false "" "strings" 8)]) := ⟨Tryd.underlying140⟩
instance : Inf Tryd.prog 140 2 32 (Value.agg #[(Value.pointer none), (Value.slice none 0 0)]) := ⟨by kernel_rfl⟩
instance : Flat Tryd.prog 140 2 := ⟨_, Tryd.underlying140, by kernel_rfl, by kernel_rfl⟩
instance : Fld Tryd.prog 140 0 0 := Flat.fld (n := 2) (by decide)
instance : Fld Tryd.prog 140 1 1 := Flat.fld (n := 2) (by decide)
instance : Und Tryd.prog 141 (TypeDesc.struct #[(Field.mk "addr" 139 0 false "" "strings" 0), (Field.mk "buf" 61 1 false "" "strings" 8)]) := ⟨Tryd.underlying141⟩
instance : Inf Tryd.prog 141 2 32 (Value.agg #[(Value.pointer none), (Value.slice none 0 0)]) := ⟨by kernel_rfl⟩
instance : Flat Tryd.prog 141 2 := ⟨_, Tryd.underlying141, by kernel_rfl, by kernel_rfl⟩
instance : Fld Tryd.prog 141 0 0 := Flat.fld (n := 2) (by decide)
instance : Fld Tryd.prog 141 1 1 := Flat.fld (n := 2) (by decide)
instance : Und Tryd.prog 148 (TypeDesc.int IntKind.i64) := ⟨Tryd.underlying148⟩
instance : Inf Tryd.prog 148 1 8 (Value.int IntKind.i64 0) := ⟨by kernel_rfl⟩
instance : Und Tryd.prog 151 (TypeDesc.pointer 165) := ⟨Tryd.underlying151⟩
instance : Inf Tryd.prog 151 1 8 (Value.pointer none) := ⟨by kernel_rfl⟩
instance : Und Tryd.prog 154 (TypeDesc.pointer 5) := ⟨Tryd.underlying154⟩
instance : Inf Tryd.prog 154 1 8 (Value.pointer none) := ⟨by kernel_rfl⟩
instance : Und Tryd.prog 159 (TypeDesc.int IntKind.u64) := ⟨Tryd.underlying159⟩
instance : Inf Tryd.prog 159 1 8 (Value.int IntKind.u64 0) := ⟨by kernel_rfl⟩
instance : Und Tryd.prog 162 (TypeDesc.int IntKind.u64) := ⟨Tryd.underlying162⟩
instance : Inf Tryd.prog 162 1 8 (Value.int IntKind.u64 0) := ⟨by kernel_rfl⟩
instance : Und Tryd.prog 164 (TypeDesc.struct #[(Field.mk "Func" 9 0 false "" "" 0), (Field.mk "Num" 9 1 false "" "" 16), (Field.mk "Err" 107 2 false "" "" 32)]) := ⟨Tryd.underlying164⟩
instance : Inf Tryd.prog 164 3 48 (Value.agg #[(Value.string (ByteArray.mk #[])), (Value.string (ByteArray.mk #[])), Value.nilIface]) := ⟨by kernel_rfl⟩
instance : Flat Tryd.prog 164 3 := ⟨_, Tryd.underlying164, by kernel_rfl, by kernel_rfl⟩
instance : Fld Tryd.prog 164 0 0 := Flat.fld (n := 3) (by decide)
instance : Fld Tryd.prog 164 1 1 := Flat.fld (n := 3) (by decide)
instance : Fld Tryd.prog 164 2 2 := Flat.fld (n := 3) (by decide)
instance : Und Tryd.prog 165 (TypeDesc.struct #[(Field.mk "Func" 9 0 false "" "" 0), (Field.mk "Num" 9 1 false "" "" 16), (Field.mk "Err" 107 2 false "" "" 32)]) := ⟨Tryd.underlying165⟩
instance : Inf Tryd.prog 165 3 48 (Value.agg #[(Value.string (ByteArray.mk #[])), (Value.string (ByteArray.mk #[])), Value.nilIface]) := ⟨by kernel_rfl⟩
instance : Flat Tryd.prog 165 3 := ⟨_, Tryd.underlying165, by kernel_rfl, by kernel_rfl⟩
instance : Fld Tryd.prog 165 0 0 := Flat.fld (n := 3) (by decide)
instance : Fld Tryd.prog 165 1 1 := Flat.fld (n := 3) (by decide)
instance : Fld Tryd.prog 165 2 2 := Flat.fld (n := 3) (by decide)
instance : Und Tryd.prog 172 (TypeDesc.pointer 174) := ⟨Tryd.underlying172⟩
instance : Inf Tryd.prog 172 1 8 (Value.pointer none) := ⟨by kernel_rfl⟩
instance : Und Tryd.prog 173 (TypeDesc.struct #[(Field.mk "s" 9 0 false "" "errors" 0)]) := ⟨Tryd.underlying173⟩
instance : Inf Tryd.prog 173 1 16 (Value.agg #[(Value.string (ByteArray.mk #[]))]) := ⟨by kernel_rfl⟩
instance : Flat Tryd.prog 173 1 := ⟨_, Tryd.underlying173, by kernel_rfl, by kernel_rfl⟩
instance : Fld Tryd.prog 173 0 0 := Flat.fld (n := 1) (by decide)
instance : Und Tryd.prog 174 (TypeDesc.struct #[(Field.mk "s" 9 0 false "" "errors" 0)]) := ⟨Tryd.underlying174⟩
instance : Inf Tryd.prog 174 1 16 (Value.agg #[(Value.string (ByteArray.mk #[]))]) := ⟨by kernel_rfl⟩
instance : Flat Tryd.prog 174 1 := ⟨_, Tryd.underlying174, by kernel_rfl, by kernel_rfl⟩
instance : Fld Tryd.prog 174 0 0 := Flat.fld (n := 1) (by decide)
instance : Und Tryd.prog 180 (TypeDesc.int IntKind.u32) := ⟨Tryd.underlying180⟩
instance : Inf Tryd.prog 180 1 4 (Value.int IntKind.u32 0) := ⟨by kernel_rfl⟩
instance : Und Tryd.prog 185 (TypeDesc.struct #[(Field.mk "lo" 5 0 false "" "unicode/utf8" 0), (Field.mk "hi" 5 1 false "" "unicode/utf8" 1)]) := ⟨Tryd.underlying185⟩
instance : Inf Tryd.prog 185 2 2 (Value.agg #[(Value.int IntKind.u8 0), (Value.int IntKind.u8 0)]) := ⟨by kernel_rfl⟩
instance : Flat Tryd.prog 185 2 := ⟨_, Tryd.underlying185, by kernel_rfl, by kernel_rfl⟩
instance : Fld Tryd.prog 185 0 0 := Flat.fld (n := 2) (by decide)
instance : Fld Tryd.prog 185 1 1 := Flat.fld (n := 2) (by decide)
instance : Und Tryd.prog 186 (TypeDesc.struct #[(Field.mk "lo" 5 0 false "" "unicode/utf8" 0), (Field.mk "hi" 5 1 false "" "unicode/utf8" 1)]) := ⟨Tryd.underlying186⟩
instance : Inf Tryd.prog 186 2 2 (Value.agg #[(Value.int IntKind.u8 0), (Value.int IntKind.u8 0)]) := ⟨by kernel_rfl⟩
instance : Flat Tryd.prog 186 2 := ⟨_, Tryd.underlying186, by kernel_rfl, by kernel_rfl⟩
instance : Fld Tryd.prog 186 0 0 := Flat.fld (n := 2) (by decide)
instance : Fld Tryd.prog 186 1 1 := Flat.fld (n := 2) (by decide)
instance : Fun Tryd.prog 6 := ⟨_, Tryd.func6, by kernel_rfl, by kernel_rfl⟩
instance : Fun Tryd.prog 7 := ⟨_, Tryd.func7, by kernel_rfl, by kernel_rfl⟩
instance : Fun Tryd.prog 28 := ⟨_, Tryd.func28, by kernel_rfl, by kernel_rfl⟩
instance : Fun Tryd.prog 29 := ⟨_, Tryd.func29, by kernel_rfl, by kernel_rfl⟩
instance : Fun Tryd.prog 33 := ⟨_, Tryd.func33, by kernel_rfl, by kernel_rfl⟩
instance : Fun Tryd.prog 34 := ⟨_, Tryd.func34, by kernel_rfl, by kernel_rfl⟩
instance : Fun Tryd.prog 35 := ⟨_, Tryd.func35, by kernel_rfl, by kernel_rfl⟩
instance : Fun Tryd.prog 36 := ⟨_, Tryd.func36, by kernel_rfl, by kernel_rfl⟩
instance : Fun Tryd.prog 37 := ⟨_, Tryd.func37, by kernel_rfl, by kernel_rfl⟩
instance : Fun Tryd.prog 38 := ⟨_, Tryd.func38, by kernel_rfl, by kernel_rfl⟩
instance : Fun Tryd.prog 39 := ⟨_, Tryd.func39, by kernel_rfl, by kernel_rfl⟩
instance : Fun Tryd.prog 63 := ⟨_, Tryd.func63, by kernel_rfl, by kernel_rfl⟩
instance : Fun Tryd.prog 69 := ⟨_, Tryd.func69, by kernel_rfl, by kernel_rfl⟩
instance : Fun Tryd.prog 72 := ⟨_, Tryd.func72, by kernel_rfl, by kernel_rfl⟩
instance : Fun Tryd.prog 73 := ⟨_, Tryd.func73, by kernel_rfl, by kernel_rfl⟩
instance : Fun Tryd.prog 74 := ⟨_, Tryd.func74, by kernel_rfl, by kernel_rfl⟩
instance : Fun Tryd.prog 75 := ⟨_, Tryd.func75, by kernel_rfl, by kernel_rfl⟩
instance : Fun Tryd.prog 76 := ⟨_, Tryd.func76, by kernel_rfl, by kernel_rfl⟩
instance : Fun Tryd.prog 77 := ⟨_, Tryd.func77, by kernel_rfl, by kernel_rfl⟩
instance : Fun Tryd.prog 78 := ⟨_, Tryd.func78, by kernel_rfl, by kernel_rfl⟩
instance : Fun Tryd.prog 79 := ⟨_, Tryd.func79, by kernel_rfl, by kernel_rfl⟩
instance : Fun Tryd.prog 80 := ⟨_, Tryd.func80, by kernel_rfl, by kernel_rfl⟩
instance : Fun Tryd.prog 81 := ⟨_, Tryd.func81, by kernel_rfl, by kernel_rfl⟩
instance : Fun Tryd.prog 82 := ⟨_, Tryd.func82, by kernel_rfl, by kernel_rfl⟩
instance : Fun Tryd.prog 85 := ⟨_, Tryd.func85, by kernel_rfl, by kernel_rfl⟩
instance : Fun Tryd.prog 86 := ⟨_, Tryd.func86, by kernel_rfl, by kernel_rfl⟩
instance : Fun Tryd.prog 87 := ⟨_, Tryd.func87, by kernel_rfl, by kernel_rfl⟩
instance : Fun Tryd.prog 88 := ⟨_, Tryd.func88, by kernel_rfl, by kernel_rfl⟩
instance : Fun Tryd.prog 89 := ⟨_, Tryd.func89, by kernel_rfl, by kernel_rfl⟩
instance : Fun Tryd.prog 90 := ⟨_, Tryd.func90, by kernel_rfl, by kernel_rfl⟩
instance : Fun Tryd.prog 91 := ⟨_, Tryd.func91, by kernel_rfl, by kernel_rfl⟩
instance : Fun Tryd.prog 92 := ⟨_, Tryd.func92, by kernel_rfl, by kernel_rfl⟩
instance : Fun Tryd.prog 93 := ⟨_, Tryd.func93, by kernel_rfl, by kernel_rfl⟩
instance : Fun Tryd.prog 94 := ⟨_, Tryd.func94, by kernel_rfl, by kernel_rfl⟩
instance : Fun Tryd.prog 95 := ⟨_, Tryd.func95, by kernel_rfl, by kernel_rfl⟩
instance : Fun Tryd.prog 98 := ⟨_, Tryd.func98, by kernel_rfl, by kernel_rfl⟩
instance : Fun Tryd.prog 111 := ⟨_, Tryd.func111, by kernel_rfl, by kernel_rfl⟩
instance : Fun Tryd.prog 112 := ⟨_, Tryd.func112, by kernel_rfl, by kernel_rfl⟩
instance : Fun Tryd.prog 113 := ⟨_, Tryd.func113, by kernel_rfl, by kernel_rfl⟩
instance : Fun Tryd.prog 114 := ⟨_, Tryd.func114, by kernel_rfl, by kernel_rfl⟩
instance : Fun Tryd.prog 118 := ⟨_, Tryd.func118, by kernel_rfl, by kernel_rfl⟩
instance : Fun Tryd.prog 119 := ⟨_, Tryd.func119, by kernel_rfl, by kernel_rfl⟩
instance : Fun Tryd.prog 120 := ⟨_, Tryd.func120, by kernel_rfl, by kernel_rfl⟩
instance : Fun Tryd.prog 121 := ⟨_, Tryd.func121, by kernel_rfl, by kernel_rfl⟩
instance : Fun Tryd.prog 122 := ⟨_, Tryd.func122, by kernel_rfl, by kernel_rfl⟩
instance : Fun Tryd.prog 123 := ⟨_, Tryd.func123, by kernel_rfl, by kernel_rfl⟩
instance : Fun Tryd.prog 128 := ⟨_, Tryd.func128, by kernel_rfl, by kernel_rfl⟩
instance : Fun Tryd.prog 129 := ⟨_, Tryd.func129, by kernel_rfl, by kernel_rfl⟩
instance : Fun Tryd.prog 130 := ⟨_, Tryd.func130, by kernel_rfl, by kernel_rfl⟩
instance : Fun Tryd.prog 131 := ⟨_, Tryd.func131, by kernel_rfl, by kernel_rfl⟩
instance : Fun Tryd.prog 146 := ⟨_, Tryd.func146, by kernel_rfl, by kernel_rfl⟩
instance : Fun Tryd.prog 147 := ⟨_, Tryd.func147, by kernel_rfl, by kernel_rfl⟩
theorem mixed : Tryd.prog.follows .mixedOrders = true := by kernel_rfl
end Go.Sx
