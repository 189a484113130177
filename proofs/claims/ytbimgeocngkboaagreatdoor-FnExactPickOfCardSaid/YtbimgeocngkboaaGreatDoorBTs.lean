/- The seat's types and functions: what the rules must know of them, each fact closed. Conditions: none. -/
import Derived.Test.YtbimgeocngkboaaGreatDoorBLb
import Derived.Test.YtbimgeocngkboaaGreatDoorBLw
import Derived.Test.YtbimgeocngkboaaGreatDoorProg
namespace Go.Sx
open Go Go.Proofs Go.Vm Rp
abbrev Q0 (f : Nat) (l : List Value) (W : CW) (R : CW → Value → Prop) : Prop := CallR Tryz.prog f l.toArray W.w (Res W LL R)
abbrev Q1 (f : Nat) (l : List Value) (W : CW) (L : List Nat) (R : CW → Value → Prop) : Prop := CallR Tryz.prog f l.toArray W.w (Res W L R)
instance : Rp Int := Rp.atom 3 vI (fun _ => True) (fun _ => rfl) 52
instance (priority := high) : Rp Str := Rp.atom 9 (fun s => vS s) (fun _ => True) (fun _ => rfl) 100
instance : Rp Bool := Rp.atom 4 vB (fun _ => True) (fun _ => rfl) 82
instance : Rp Byte := Rp.atom 5 (fun b => .int .u8 (UInt8.toNat b)) (fun _ => True) (fun _ => rfl) 117
instance : Atm Int := ⟨fun h => ⟨rfl, h⟩⟩
instance : Atm Str := ⟨fun h => ⟨rfl, h⟩⟩
instance : Atm Bool := ⟨fun h => ⟨rfl, h⟩⟩
instance : Atm Byte := ⟨fun h => ⟨rfl, h⟩⟩
instance : Pl Int := ⟨fun h => h⟩
instance : Pl Str := ⟨fun h => h⟩
instance : Pl Bool := ⟨fun h => h⟩
instance : Pl Byte := ⟨fun h => h⟩
instance : Zr Int := ⟨0, [vI 0], ⟨rfl, rfl, trivial⟩⟩
instance : Zr Str := ⟨[], [vS []], ⟨rfl, rfl, trivial⟩⟩
instance : Zr Bool := ⟨false, [vB false], ⟨rfl, rfl, trivial⟩⟩
section
variable {W : CW} {K : List Nat} {v : Value} {p : Addr}
theorem Rd.str {s : Str} (h : Rd W K [v] s) : v = vS s := by simpa using h.1
theorem Rd.int {n : Int} (h : Rd W K [v] n) : v = vI n := by simpa using h.1
theorem Rd.bool {b : Bool} (h : Rd W K [v] b) : v = vB b := by simpa using h.1
theorem At.str {s : Str} (h : At W K p s) : W.w.cell? p = some (vS s) := by obtain ⟨v, hc, hr⟩ := h.cell rfl; rw [hr.str] at hc; exact hc
theorem At.int {n : Int} (h : At W K p n) : W.w.cell? p = some (vI n) := by obtain ⟨v, hc, hr⟩ := h.cell rfl; rw [hr.int] at hc; exact hc
theorem At.bool {b : Bool} (h : At W K p b) : W.w.cell? p = some (vB b) := by obtain ⟨v, hc, hr⟩ := h.cell rfl; rw [hr.bool] at hc; exact hc
theorem rdI (n : Int) : Rd W K [vI n] n := ⟨rfl, trivial⟩
theorem rdY (b : UInt8) : Rd (α := Byte) W K [.int .u8 (UInt8.toNat b : Int)] b := ⟨rfl, trivial⟩
theorem rdS (s : Str) : Rd W K [vS s] s := ⟨rfl, trivial⟩
theorem rdB (b : Bool) : Rd W K [vB b] b := ⟨rfl, trivial⟩
end
instance : Rp File := Rp.iso (β := Str × (List Str)) 102 (fun x => (x.Path, x.Text)) 53
instance : Zr File where
  z := Vm.File.mk [] []
  cs := Zr.cs (Str × (List Str))
  own := Zr.own (α := Str × (List Str))
theorem File.split {W : CW} {K : List Nat} {cs : List Value} {x : Vm.File} (h : Rd W K cs x) : ∃ c1 : Value, cs = [vS x.Path, c1] ∧ Rd W K [c1] x.Text := by
  replace h : Rd W K cs (x.Path, x.Text) := h
  obtain ⟨c0, d0, rfl, h0, k0⟩ := h.split
  obtain ⟨u0, rfl, _⟩ := Rd.one h0 rfl
  obtain ⟨u1, rfl, _⟩ := Rd.one k0 rfl
  obtain rfl := Rd.str h0
  exact ⟨u1, rfl, k0⟩
theorem File.at0 {W : CW} {K : List Nat} {p : Addr} {x : Vm.File} (h : At W K p x) : At W K (p.add 0) x.Path := by
  replace h : At W K p (x.Path, x.Text) := h
  replace h := h.fst
  exact (h_add0 p).symm ▸ h
theorem File.at1 {W : CW} {K : List Nat} {p : Addr} {x : Vm.File} (h : At W K p x) : At W K (p.add 1) x.Text := by
  replace h : At W K p (x.Path, x.Text) := h
  replace h := h.snd
  exact h
theorem File.own {W : CW} {K J1 : List Nat} {c1 : Value} (x0 : Str) (x1 : List Str) (h1 : OwS W J1 K [c1] x1) (d0 : disj ([]) (J1) = true := by rfl) : OwS W ([] ++ (J1)) K [vS x0, c1] (Vm.File.mk x0 x1) := (OwS.pair (OwS.atm (rdS x0)) h1 d0)
instance : Fs Vm.File (Str) 0 (fun x => x.Path) (fun x y => Vm.File.mk y x.Text) := ⟨(Fs.fst rfl : Fs (Str × (List Str)) (Str) 0 _ _).lt, fun h => (Fs.fst rfl : Fs (Str × (List Str)) (Str) 0 _ _).lens h⟩
instance : Fs Vm.File (List Str) 1 (fun x => x.Text) (fun x y => Vm.File.mk x.Path y) := ⟨(Fs.snd rfl (Fs.self rfl) : Fs (Str × (List Str)) (List Str) 1 _ _).lt, fun h => (Fs.snd rfl (Fs.self rfl) : Fs (Str × (List Str)) (List Str) 1 _ _).lens h⟩
instance : Fl Vm.File (List Str) 1 (fun x => x.Text) (fun x y => Vm.File.mk x.Path y) := ⟨fun h => (Fl.snd rfl (Fl.self rfl) : Fl (Str × (List Str)) (List Str) 1 _ _).lens h⟩
theorem File.rd {W : CW} {K : List Nat} {c1 : Value} (x0 : Str) (x1 : List Str) (h1 : Rd W K [c1] x1) : Rd W K [vS x0, c1] (Vm.File.mk x0 x1) := (Rd.join (rdS x0) h1)
instance : Rp Commit := Rp.iso (β := (List Int) × Str × (List File)) 55 (fun x => (x.Parents, x.Who, x.Tree)) 27
instance : Zr Commit where
  z := Vm.Commit.mk [] [] []
  cs := Zr.cs ((List Int) × Str × (List File))
  own := Zr.own (α := (List Int) × Str × (List File))
theorem Commit.split {W : CW} {K : List Nat} {cs : List Value} {x : Vm.Commit} (h : Rd W K cs x) : ∃ c0 c2 : Value, cs = [c0, vS x.Who, c2] ∧ Rd W K [c0] x.Parents ∧ Rd W K [c2] x.Tree := by
  replace h : Rd W K cs (x.Parents, x.Who, x.Tree) := h
  obtain ⟨c0, d0, rfl, h0, k0⟩ := h.split
  obtain ⟨c1, d1, rfl, h1, k1⟩ := Rd.split k0
  obtain ⟨u0, rfl, _⟩ := Rd.one h0 rfl
  obtain ⟨u1, rfl, _⟩ := Rd.one h1 rfl
  obtain ⟨u2, rfl, _⟩ := Rd.one k1 rfl
  obtain rfl := Rd.str h1
  exact ⟨u0, u2, rfl, h0, k1⟩
theorem Commit.at0 {W : CW} {K : List Nat} {p : Addr} {x : Vm.Commit} (h : At W K p x) : At W K (p.add 0) x.Parents := by
  replace h : At W K p (x.Parents, x.Who, x.Tree) := h
  replace h := h.fst
  exact (h_add0 p).symm ▸ h
theorem Commit.at1 {W : CW} {K : List Nat} {p : Addr} {x : Vm.Commit} (h : At W K p x) : At W K (p.add 1) x.Who := by
  replace h : At W K p (x.Parents, x.Who, x.Tree) := h
  replace h := h.snd
  replace h := h.fst
  exact h
theorem Commit.at2 {W : CW} {K : List Nat} {p : Addr} {x : Vm.Commit} (h : At W K p x) : At W K (p.add 2) x.Tree := by
  replace h : At W K p (x.Parents, x.Who, x.Tree) := h
  replace h := h.snd
  replace h := h.snd
  rw [add_add] at h
  exact h
theorem Commit.own {W : CW} {K J0 J2 : List Nat} {c0 c2 : Value} (x0 : List Int) (x1 : Str) (x2 : List File) (h0 : OwS W J0 K [c0] x0) (h2 : OwS W J2 K [c2] x2) (d0 : disj (J0) ([] ++ (J2)) = true := by rfl) (d1 : disj ([]) (J2) = true := by rfl) : OwS W (J0 ++ ([] ++ (J2))) K [c0, vS x1, c2] (Vm.Commit.mk x0 x1 x2) := (OwS.pair h0 (OwS.pair (OwS.atm (rdS x1)) h2 d1) d0)
instance : Fs Vm.Commit (List Int) 0 (fun x => x.Parents) (fun x y => Vm.Commit.mk y x.Who x.Tree) := ⟨(Fs.fst rfl : Fs ((List Int) × Str × (List File)) (List Int) 0 _ _).lt, fun h => (Fs.fst rfl : Fs ((List Int) × Str × (List File)) (List Int) 0 _ _).lens h⟩
instance : Fs Vm.Commit (Str) 1 (fun x => x.Who) (fun x y => Vm.Commit.mk x.Parents y x.Tree) := ⟨(Fs.snd rfl (Fs.fst rfl) : Fs ((List Int) × Str × (List File)) (Str) 1 _ _).lt, fun h => (Fs.snd rfl (Fs.fst rfl) : Fs ((List Int) × Str × (List File)) (Str) 1 _ _).lens h⟩
instance : Fs Vm.Commit (List File) 2 (fun x => x.Tree) (fun x y => Vm.Commit.mk x.Parents x.Who y) := ⟨(Fs.snd rfl (Fs.snd rfl (Fs.self rfl)) : Fs ((List Int) × Str × (List File)) (List File) 2 _ _).lt, fun h => (Fs.snd rfl (Fs.snd rfl (Fs.self rfl)) : Fs ((List Int) × Str × (List File)) (List File) 2 _ _).lens h⟩
instance : Fl Vm.Commit (List Int) 0 (fun x => x.Parents) (fun x y => Vm.Commit.mk y x.Who x.Tree) := ⟨fun h => (Fl.fst rfl : Fl ((List Int) × Str × (List File)) (List Int) 0 _ _).lens h⟩
instance : Fl Vm.Commit (List File) 2 (fun x => x.Tree) (fun x y => Vm.Commit.mk x.Parents x.Who y) := ⟨fun h => (Fl.snd rfl (Fl.snd rfl (Fl.self rfl)) : Fl ((List Int) × Str × (List File)) (List File) 2 _ _).lens h⟩
theorem Commit.rd {W : CW} {K : List Nat} {c0 c2 : Value} (x0 : List Int) (x1 : Str) (x2 : List File) (h0 : Rd W K [c0] x0) (h2 : Rd W K [c2] x2) : Rd W K [c0, vS x1, c2] (Vm.Commit.mk x0 x1 x2) := (Rd.join h0 (Rd.join (rdS x1) h2))
instance : Rp Head := Rp.iso (β := Str × Int) 66 (fun x => (x.Name, x.At)) 28
instance : Atm Head := ⟨fun h => Atm.own (α := Str × Int) h⟩
instance : Pl Head := ⟨fun h => Pl.pl (α := Str × Int) h⟩
instance : Zr Head where
  z := Vm.Head.mk [] 0
  cs := Zr.cs (Str × Int)
  own := Zr.own (α := Str × Int)
theorem Head.split {W : CW} {K : List Nat} {cs : List Value} {x : Vm.Head} (h : Rd W K cs x) : cs = [vS x.Name, vI x.At] := by
  replace h : Rd W K cs (x.Name, x.At) := h
  obtain ⟨c0, d0, rfl, h0, k0⟩ := h.split
  obtain ⟨u0, rfl, _⟩ := Rd.one h0 rfl
  obtain ⟨u1, rfl, _⟩ := Rd.one k0 rfl
  obtain rfl := Rd.str h0
  obtain rfl := Rd.int k0
  exact rfl
theorem Head.at0 {W : CW} {K : List Nat} {p : Addr} {x : Vm.Head} (h : At W K p x) : At W K (p.add 0) x.Name := by
  replace h : At W K p (x.Name, x.At) := h
  replace h := h.fst
  exact (h_add0 p).symm ▸ h
theorem Head.at1 {W : CW} {K : List Nat} {p : Addr} {x : Vm.Head} (h : At W K p x) : At W K (p.add 1) x.At := by
  replace h : At W K p (x.Name, x.At) := h
  replace h := h.snd
  exact h
instance : Fs Vm.Head (Str) 0 (fun x => x.Name) (fun x y => Vm.Head.mk y x.At) := ⟨(Fs.fst rfl : Fs (Str × Int) (Str) 0 _ _).lt, fun h => (Fs.fst rfl : Fs (Str × Int) (Str) 0 _ _).lens h⟩
instance : Fs Vm.Head (Int) 1 (fun x => x.At) (fun x y => Vm.Head.mk x.Name y) := ⟨(Fs.snd rfl (Fs.self rfl) : Fs (Str × Int) (Int) 1 _ _).lt, fun h => (Fs.snd rfl (Fs.self rfl) : Fs (Str × Int) (Int) 1 _ _).lens h⟩
theorem Head.rd {W : CW} {K : List Nat} (x0 : Str) (x1 : Int) : Rd W K [vS x0, vI x1] (Vm.Head.mk x0 x1) := (Rd.join (rdS x0) (rdI x1))
instance : Rp Repo := Rp.iso (β := (List Commit) × (List Head)) 30 (fun x => (x.Commits, x.Heads)) 0
instance : Zr Repo where
  z := Vm.Repo.mk [] []
  cs := Zr.cs ((List Commit) × (List Head))
  own := Zr.own (α := (List Commit) × (List Head))
theorem Repo.split {W : CW} {K : List Nat} {cs : List Value} {x : Vm.Repo} (h : Rd W K cs x) : ∃ c0 c1 : Value, cs = [c0, c1] ∧ Rd W K [c0] x.Commits ∧ Rd W K [c1] x.Heads := by
  replace h : Rd W K cs (x.Commits, x.Heads) := h
  obtain ⟨c0, d0, rfl, h0, k0⟩ := h.split
  obtain ⟨u0, rfl, _⟩ := Rd.one h0 rfl
  obtain ⟨u1, rfl, _⟩ := Rd.one k0 rfl
  exact ⟨u0, u1, rfl, h0, k0⟩
theorem Repo.at0 {W : CW} {K : List Nat} {p : Addr} {x : Vm.Repo} (h : At W K p x) : At W K (p.add 0) x.Commits := by
  replace h : At W K p (x.Commits, x.Heads) := h
  replace h := h.fst
  exact (h_add0 p).symm ▸ h
theorem Repo.at1 {W : CW} {K : List Nat} {p : Addr} {x : Vm.Repo} (h : At W K p x) : At W K (p.add 1) x.Heads := by
  replace h : At W K p (x.Commits, x.Heads) := h
  replace h := h.snd
  exact h
theorem Repo.own {W : CW} {K J0 J1 : List Nat} {c0 c1 : Value} (x0 : List Commit) (x1 : List Head) (h0 : OwS W J0 K [c0] x0) (h1 : OwS W J1 K [c1] x1) (d0 : disj (J0) (J1) = true := by rfl) : OwS W (J0 ++ (J1)) K [c0, c1] (Vm.Repo.mk x0 x1) := (OwS.pair h0 h1 d0)
instance : Fs Vm.Repo (List Commit) 0 (fun x => x.Commits) (fun x y => Vm.Repo.mk y x.Heads) := ⟨(Fs.fst rfl : Fs ((List Commit) × (List Head)) (List Commit) 0 _ _).lt, fun h => (Fs.fst rfl : Fs ((List Commit) × (List Head)) (List Commit) 0 _ _).lens h⟩
instance : Fs Vm.Repo (List Head) 1 (fun x => x.Heads) (fun x y => Vm.Repo.mk x.Commits y) := ⟨(Fs.snd rfl (Fs.self rfl) : Fs ((List Commit) × (List Head)) (List Head) 1 _ _).lt, fun h => (Fs.snd rfl (Fs.self rfl) : Fs ((List Commit) × (List Head)) (List Head) 1 _ _).lens h⟩
instance : Fl Vm.Repo (List Commit) 0 (fun x => x.Commits) (fun x y => Vm.Repo.mk y x.Heads) := ⟨fun h => (Fl.fst rfl : Fl ((List Commit) × (List Head)) (List Commit) 0 _ _).lens h⟩
instance : Fl Vm.Repo (List Head) 1 (fun x => x.Heads) (fun x y => Vm.Repo.mk x.Commits y) := ⟨fun h => (Fl.snd rfl (Fl.self rfl) : Fl ((List Commit) × (List Head)) (List Head) 1 _ _).lens h⟩
theorem Repo.rd {W : CW} {K : List Nat} {c0 c1 : Value} (x0 : List Commit) (x1 : List Head) (h0 : Rd W K [c0] x0) (h1 : Rd W K [c1] x1) : Rd W K [c0, c1] (Vm.Repo.mk x0 x1) := (Rd.join h0 h1)
instance : Rp Clash := Rp.iso (β := Str × Int) 107 (fun x => (x.Path, x.Kind)) 71
instance : Atm Clash := ⟨fun h => Atm.own (α := Str × Int) h⟩
instance : Pl Clash := ⟨fun h => Pl.pl (α := Str × Int) h⟩
instance : Zr Clash where
  z := Vm.Clash.mk [] 0
  cs := Zr.cs (Str × Int)
  own := Zr.own (α := Str × Int)
theorem Clash.split {W : CW} {K : List Nat} {cs : List Value} {x : Vm.Clash} (h : Rd W K cs x) : cs = [vS x.Path, vI x.Kind] := by
  replace h : Rd W K cs (x.Path, x.Kind) := h
  obtain ⟨c0, d0, rfl, h0, k0⟩ := h.split
  obtain ⟨u0, rfl, _⟩ := Rd.one h0 rfl
  obtain ⟨u1, rfl, _⟩ := Rd.one k0 rfl
  obtain rfl := Rd.str h0
  obtain rfl := Rd.int k0
  exact rfl
theorem Clash.at0 {W : CW} {K : List Nat} {p : Addr} {x : Vm.Clash} (h : At W K p x) : At W K (p.add 0) x.Path := by
  replace h : At W K p (x.Path, x.Kind) := h
  replace h := h.fst
  exact (h_add0 p).symm ▸ h
theorem Clash.at1 {W : CW} {K : List Nat} {p : Addr} {x : Vm.Clash} (h : At W K p x) : At W K (p.add 1) x.Kind := by
  replace h : At W K p (x.Path, x.Kind) := h
  replace h := h.snd
  exact h
instance : Fs Vm.Clash (Str) 0 (fun x => x.Path) (fun x y => Vm.Clash.mk y x.Kind) := ⟨(Fs.fst rfl : Fs (Str × Int) (Str) 0 _ _).lt, fun h => (Fs.fst rfl : Fs (Str × Int) (Str) 0 _ _).lens h⟩
instance : Fs Vm.Clash (Int) 1 (fun x => x.Kind) (fun x y => Vm.Clash.mk x.Path y) := ⟨(Fs.snd rfl (Fs.self rfl) : Fs (Str × Int) (Int) 1 _ _).lt, fun h => (Fs.snd rfl (Fs.self rfl) : Fs (Str × Int) (Int) 1 _ _).lens h⟩
theorem Clash.rd {W : CW} {K : List Nat} (x0 : Str) (x1 : Int) : Rd W K [vS x0, vI x1] (Vm.Clash.mk x0 x1) := (Rd.join (rdS x0) (rdI x1))
instance : Rp has := Rp.iso (β := (List Str) × Bool) 131 (fun x => (x.text, x.file)) 0
instance : Zr has where
  z := Vm.has.mk [] false
  cs := Zr.cs ((List Str) × Bool)
  own := Zr.own (α := (List Str) × Bool)
theorem has.split {W : CW} {K : List Nat} {cs : List Value} {x : Vm.has} (h : Rd W K cs x) : ∃ c0 : Value, cs = [c0, vB x.file] ∧ Rd W K [c0] x.text := by
  replace h : Rd W K cs (x.text, x.file) := h
  obtain ⟨c0, d0, rfl, h0, k0⟩ := h.split
  obtain ⟨u0, rfl, _⟩ := Rd.one h0 rfl
  obtain ⟨u1, rfl, _⟩ := Rd.one k0 rfl
  obtain rfl := Rd.bool k0
  exact ⟨u0, rfl, h0⟩
theorem has.at0 {W : CW} {K : List Nat} {p : Addr} {x : Vm.has} (h : At W K p x) : At W K (p.add 0) x.text := by
  replace h : At W K p (x.text, x.file) := h
  replace h := h.fst
  exact (h_add0 p).symm ▸ h
theorem has.at1 {W : CW} {K : List Nat} {p : Addr} {x : Vm.has} (h : At W K p x) : At W K (p.add 1) x.file := by
  replace h : At W K p (x.text, x.file) := h
  replace h := h.snd
  exact h
theorem has.own {W : CW} {K J0 : List Nat} {c0 : Value} (x0 : List Str) (x1 : Bool) (h0 : OwS W J0 K [c0] x0) (d0 : disj (J0) ([]) = true := by rfl) : OwS W (J0 ++ ([])) K [c0, vB x1] (Vm.has.mk x0 x1) := (OwS.pair h0 (OwS.atm (rdB x1)) d0)
instance : Fs Vm.has (List Str) 0 (fun x => x.text) (fun x y => Vm.has.mk y x.file) := ⟨(Fs.fst rfl : Fs ((List Str) × Bool) (List Str) 0 _ _).lt, fun h => (Fs.fst rfl : Fs ((List Str) × Bool) (List Str) 0 _ _).lens h⟩
instance : Fs Vm.has (Bool) 1 (fun x => x.file) (fun x y => Vm.has.mk x.text y) := ⟨(Fs.snd rfl (Fs.self rfl) : Fs ((List Str) × Bool) (Bool) 1 _ _).lt, fun h => (Fs.snd rfl (Fs.self rfl) : Fs ((List Str) × Bool) (Bool) 1 _ _).lens h⟩
instance : Fl Vm.has (List Str) 0 (fun x => x.text) (fun x y => Vm.has.mk y x.file) := ⟨fun h => (Fl.fst rfl : Fl ((List Str) × Bool) (List Str) 0 _ _).lens h⟩
theorem has.rd {W : CW} {K : List Nat} {c0 : Value} (x0 : List Str) (x1 : Bool) (h0 : Rd W K [c0] x0) : Rd W K [c0, vB x1] (Vm.has.mk x0 x1) := (Rd.join h0 (rdB x1))
instance : Rp Part := Rp.iso (β := Bool × (List Str) × (List Str) × (List Str) × (List Str)) 153 (fun x => (x.Clash, x.Lines, x.Old, x.One, x.Two)) 143
instance : Zr Part where
  z := Vm.Part.mk false [] [] [] []
  cs := Zr.cs (Bool × (List Str) × (List Str) × (List Str) × (List Str))
  own := Zr.own (α := Bool × (List Str) × (List Str) × (List Str) × (List Str))
theorem Part.split {W : CW} {K : List Nat} {cs : List Value} {x : Vm.Part} (h : Rd W K cs x) : ∃ c1 c2 c3 c4 : Value, cs = [vB x.Clash, c1, c2, c3, c4] ∧ Rd W K [c1] x.Lines ∧ Rd W K [c2] x.Old ∧ Rd W K [c3] x.One ∧ Rd W K [c4] x.Two := by
  replace h : Rd W K cs (x.Clash, x.Lines, x.Old, x.One, x.Two) := h
  obtain ⟨c0, d0, rfl, h0, k0⟩ := h.split
  obtain ⟨c1, d1, rfl, h1, k1⟩ := Rd.split k0
  obtain ⟨c2, d2, rfl, h2, k2⟩ := Rd.split k1
  obtain ⟨c3, d3, rfl, h3, k3⟩ := Rd.split k2
  obtain ⟨u0, rfl, _⟩ := Rd.one h0 rfl
  obtain ⟨u1, rfl, _⟩ := Rd.one h1 rfl
  obtain ⟨u2, rfl, _⟩ := Rd.one h2 rfl
  obtain ⟨u3, rfl, _⟩ := Rd.one h3 rfl
  obtain ⟨u4, rfl, _⟩ := Rd.one k3 rfl
  obtain rfl := Rd.bool h0
  exact ⟨u1, u2, u3, u4, rfl, h1, h2, h3, k3⟩
theorem Part.at0 {W : CW} {K : List Nat} {p : Addr} {x : Vm.Part} (h : At W K p x) : At W K (p.add 0) x.Clash := by
  replace h : At W K p (x.Clash, x.Lines, x.Old, x.One, x.Two) := h
  replace h := h.fst
  exact (h_add0 p).symm ▸ h
theorem Part.at1 {W : CW} {K : List Nat} {p : Addr} {x : Vm.Part} (h : At W K p x) : At W K (p.add 1) x.Lines := by
  replace h : At W K p (x.Clash, x.Lines, x.Old, x.One, x.Two) := h
  replace h := h.snd
  replace h := h.fst
  exact h
theorem Part.at2 {W : CW} {K : List Nat} {p : Addr} {x : Vm.Part} (h : At W K p x) : At W K (p.add 2) x.Old := by
  replace h : At W K p (x.Clash, x.Lines, x.Old, x.One, x.Two) := h
  replace h := h.snd
  replace h := h.snd
  replace h := h.fst
  rw [add_add] at h
  exact h
theorem Part.own {W : CW} {K J1 J2 J3 J4 : List Nat} {c1 c2 c3 c4 : Value} (x0 : Bool) (x1 : List Str) (x2 : List Str) (x3 : List Str) (x4 : List Str) (h1 : OwS W J1 K [c1] x1) (h2 : OwS W J2 K [c2] x2) (h3 : OwS W J3 K [c3] x3) (h4 : OwS W J4 K [c4] x4) (d0 : disj ([]) (J1 ++ (J2 ++ (J3 ++ (J4)))) = true := by rfl) (d1 : disj (J1) (J2 ++ (J3 ++ (J4))) = true := by rfl) (d2 : disj (J2) (J3 ++ (J4)) = true := by rfl) (d3 : disj (J3) (J4) = true := by rfl) : OwS W ([] ++ (J1 ++ (J2 ++ (J3 ++ (J4))))) K [vB x0, c1, c2, c3, c4] (Vm.Part.mk x0 x1 x2 x3 x4) := (OwS.pair (OwS.atm (rdB x0)) (OwS.pair h1 (OwS.pair h2 (OwS.pair h3 h4 d3) d2) d1) d0)
instance : Fs Vm.Part (Bool) 0 (fun x => x.Clash) (fun x y => Vm.Part.mk y x.Lines x.Old x.One x.Two) := ⟨(Fs.fst rfl : Fs (Bool × (List Str) × (List Str) × (List Str) × (List Str)) (Bool) 0 _ _).lt, fun h => (Fs.fst rfl : Fs (Bool × (List Str) × (List Str) × (List Str) × (List Str)) (Bool) 0 _ _).lens h⟩
instance : Fs Vm.Part (List Str) 1 (fun x => x.Lines) (fun x y => Vm.Part.mk x.Clash y x.Old x.One x.Two) := ⟨(Fs.snd rfl (Fs.fst rfl) : Fs (Bool × (List Str) × (List Str) × (List Str) × (List Str)) (List Str) 1 _ _).lt, fun h => (Fs.snd rfl (Fs.fst rfl) : Fs (Bool × (List Str) × (List Str) × (List Str) × (List Str)) (List Str) 1 _ _).lens h⟩
instance : Fs Vm.Part (List Str) 2 (fun x => x.Old) (fun x y => Vm.Part.mk x.Clash x.Lines y x.One x.Two) := ⟨(Fs.snd rfl (Fs.snd rfl (Fs.fst rfl)) : Fs (Bool × (List Str) × (List Str) × (List Str) × (List Str)) (List Str) 2 _ _).lt, fun h => (Fs.snd rfl (Fs.snd rfl (Fs.fst rfl)) : Fs (Bool × (List Str) × (List Str) × (List Str) × (List Str)) (List Str) 2 _ _).lens h⟩
instance : Fs Vm.Part (List Str) 3 (fun x => x.One) (fun x y => Vm.Part.mk x.Clash x.Lines x.Old y x.Two) := ⟨(Fs.snd rfl (Fs.snd rfl (Fs.snd rfl (Fs.fst rfl))) : Fs (Bool × (List Str) × (List Str) × (List Str) × (List Str)) (List Str) 3 _ _).lt, fun h => (Fs.snd rfl (Fs.snd rfl (Fs.snd rfl (Fs.fst rfl))) : Fs (Bool × (List Str) × (List Str) × (List Str) × (List Str)) (List Str) 3 _ _).lens h⟩
instance : Fs Vm.Part (List Str) 4 (fun x => x.Two) (fun x y => Vm.Part.mk x.Clash x.Lines x.Old x.One y) := ⟨(Fs.snd rfl (Fs.snd rfl (Fs.snd rfl (Fs.snd rfl (Fs.self rfl)))) : Fs (Bool × (List Str) × (List Str) × (List Str) × (List Str)) (List Str) 4 _ _).lt, fun h => (Fs.snd rfl (Fs.snd rfl (Fs.snd rfl (Fs.snd rfl (Fs.self rfl)))) : Fs (Bool × (List Str) × (List Str) × (List Str) × (List Str)) (List Str) 4 _ _).lens h⟩
instance : Fl Vm.Part (List Str) 1 (fun x => x.Lines) (fun x y => Vm.Part.mk x.Clash y x.Old x.One x.Two) := ⟨fun h => (Fl.snd rfl (Fl.fst rfl) : Fl (Bool × (List Str) × (List Str) × (List Str) × (List Str)) (List Str) 1 _ _).lens h⟩
instance : Fl Vm.Part (List Str) 2 (fun x => x.Old) (fun x y => Vm.Part.mk x.Clash x.Lines y x.One x.Two) := ⟨fun h => (Fl.snd rfl (Fl.snd rfl (Fl.fst rfl)) : Fl (Bool × (List Str) × (List Str) × (List Str) × (List Str)) (List Str) 2 _ _).lens h⟩
instance : Fl Vm.Part (List Str) 3 (fun x => x.One) (fun x y => Vm.Part.mk x.Clash x.Lines x.Old y x.Two) := ⟨fun h => (Fl.snd rfl (Fl.snd rfl (Fl.snd rfl (Fl.fst rfl))) : Fl (Bool × (List Str) × (List Str) × (List Str) × (List Str)) (List Str) 3 _ _).lens h⟩
instance : Fl Vm.Part (List Str) 4 (fun x => x.Two) (fun x y => Vm.Part.mk x.Clash x.Lines x.Old x.One y) := ⟨fun h => (Fl.snd rfl (Fl.snd rfl (Fl.snd rfl (Fl.snd rfl (Fl.self rfl)))) : Fl (Bool × (List Str) × (List Str) × (List Str) × (List Str)) (List Str) 4 _ _).lens h⟩
theorem Part.rd {W : CW} {K : List Nat} {c1 c2 c3 c4 : Value} (x0 : Bool) (x1 : List Str) (x2 : List Str) (x3 : List Str) (x4 : List Str) (h1 : Rd W K [c1] x1) (h2 : Rd W K [c2] x2) (h3 : Rd W K [c3] x3) (h4 : Rd W K [c4] x4) : Rd W K [vB x0, c1, c2, c3, c4] (Vm.Part.mk x0 x1 x2 x3 x4) := (Rd.join (rdB x0) (Rd.join h1 (Rd.join h2 (Rd.join h3 h4))))
instance : Und Tryz.prog 2 (TypeDesc.int IntKind.i64) := ⟨Tryz.underlying2⟩
instance : Inf Tryz.prog 2 1 8 (Value.int IntKind.i64 0) := ⟨by kernel_rfl⟩
instance : Und Tryz.prog 3 (TypeDesc.int IntKind.i64) := ⟨Tryz.underlying3⟩
instance : Inf Tryz.prog 3 1 8 (Value.int IntKind.i64 0) := ⟨by kernel_rfl⟩
instance : Und Tryz.prog 4 TypeDesc.bool := ⟨Tryz.underlying4⟩
instance : Inf Tryz.prog 4 1 1 (Value.bool false) := ⟨by kernel_rfl⟩
instance : Und Tryz.prog 5 (TypeDesc.int IntKind.u8) := ⟨Tryz.underlying5⟩
instance : Inf Tryz.prog 5 1 1 (Value.int IntKind.u8 0) := ⟨by kernel_rfl⟩
instance : Und Tryz.prog 9 TypeDesc.string := ⟨Tryz.underlying9⟩
instance : Inf Tryz.prog 9 1 16 (Value.string (ByteArray.mk #[])) := ⟨by kernel_rfl⟩
instance : Und Tryz.prog 12 (TypeDesc.int IntKind.u64) := ⟨Tryz.underlying12⟩
instance : Inf Tryz.prog 12 1 8 (Value.int IntKind.u64 0) := ⟨by kernel_rfl⟩
instance : Und Tryz.prog 13 (TypeDesc.struct #[(Field.mk "msg" 9 0 false "" "runtime" 0), (Field.mk "addr" 12 1 false "" "runtime" 16)]) := ⟨Tryz.underlying13⟩
instance : Inf Tryz.prog 13 2 24 (Value.agg #[(Value.string (ByteArray.mk #[])), (Value.int IntKind.u64 0)]) := ⟨by kernel_rfl⟩
instance : Flat Tryz.prog 13 2 := ⟨_, Tryz.underlying13, by kernel_rfl, by kernel_rfl⟩
instance : Fld Tryz.prog 13 0 0 := Flat.fld (n := 2) (by decide)
instance : Fld Tryz.prog 13 1 1 := Flat.fld (n := 2) (by decide)
instance : Und Tryz.prog 21 (TypeDesc.int IntKind.i32) := ⟨Tryz.underlying21⟩
instance : Inf Tryz.prog 21 1 4 (Value.int IntKind.i32 0) := ⟨by kernel_rfl⟩
instance : Und Tryz.prog 22 (TypeDesc.slice 61) := ⟨Tryz.underlying22⟩
instance : Inf Tryz.prog 22 1 24 (Value.slice none 0 0) := ⟨by kernel_rfl⟩
instance : Und Tryz.prog 23 (TypeDesc.slice 64) := ⟨Tryz.underlying23⟩
instance : Inf Tryz.prog 23 1 24 (Value.slice none 0 0) := ⟨by kernel_rfl⟩
instance : Und Tryz.prog 24 (TypeDesc.struct #[(Field.mk "Commits" 22 0 false "" "" 0), (Field.mk "Heads" 23 1 false "" "" 24)]) := ⟨Tryz.underlying24⟩
instance : Inf Tryz.prog 24 2 48 (Value.agg #[(Value.slice none 0 0), (Value.slice none 0 0)]) := ⟨by kernel_rfl⟩
instance : Flat Tryz.prog 24 2 := ⟨_, Tryz.underlying24, by kernel_rfl, by kernel_rfl⟩
instance : Fld Tryz.prog 24 0 0 := Flat.fld (n := 2) (by decide)
instance : Fld Tryz.prog 24 1 1 := Flat.fld (n := 2) (by decide)
instance : Und Tryz.prog 25 (TypeDesc.struct #[(Field.mk "Commits" 22 0 false "" "" 0), (Field.mk "Heads" 23 1 false "" "" 24)]) := ⟨Tryz.underlying25⟩
instance : Inf Tryz.prog 25 2 48 (Value.agg #[(Value.slice none 0 0), (Value.slice none 0 0)]) := ⟨by kernel_rfl⟩
instance : Flat Tryz.prog 25 2 := ⟨_, Tryz.underlying25, by kernel_rfl, by kernel_rfl⟩
instance : Fld Tryz.prog 25 0 0 := Flat.fld (n := 2) (by decide)
instance : Fld Tryz.prog 25 1 1 := Flat.fld (n := 2) (by decide)
instance : Und Tryz.prog 27 (TypeDesc.slice 55) := ⟨Tryz.underlying27⟩
instance : Inf Tryz.prog 27 1 24 (Value.slice none 0 0) := ⟨by kernel_rfl⟩
instance : Und Tryz.prog 28 (TypeDesc.slice 66) := ⟨Tryz.underlying28⟩
instance : Inf Tryz.prog 28 1 24 (Value.slice none 0 0) := ⟨by kernel_rfl⟩
instance : Und Tryz.prog 29 (TypeDesc.struct #[(Field.mk "Commits" 27 0 false "" "" 0), (Field.mk "Heads" 28 1 false "" "" 24)]) := ⟨Tryz.underlying29⟩
instance : Inf Tryz.prog 29 2 48 (Value.agg #[(Value.slice none 0 0), (Value.slice none 0 0)]) := ⟨by kernel_rfl⟩
instance : Flat Tryz.prog 29 2 := ⟨_, Tryz.underlying29, by kernel_rfl, by kernel_rfl⟩
instance : Fld Tryz.prog 29 0 0 := Flat.fld (n := 2) (by decide)
instance : Fld Tryz.prog 29 1 1 := Flat.fld (n := 2) (by decide)
instance : Und Tryz.prog 30 (TypeDesc.struct #[(Field.mk "Commits" 27 0 false "" "" 0), (Field.mk "Heads" 28 1 false "" "" 24)]) := ⟨Tryz.underlying30⟩
instance : Inf Tryz.prog 30 2 48 (Value.agg #[(Value.slice none 0 0), (Value.slice none 0 0)]) := ⟨by kernel_rfl⟩
instance : Flat Tryz.prog 30 2 := ⟨_, Tryz.underlying30, by kernel_rfl, by kernel_rfl⟩
instance : Fld Tryz.prog 30 0 0 := Flat.fld (n := 2) (by decide)
instance : Fld Tryz.prog 30 1 1 := Flat.fld (n := 2) (by decide)
instance : Und Tryz.prog 52 (TypeDesc.slice 3) := ⟨Tryz.underlying52⟩
instance : Inf Tryz.prog 52 1 24 (Value.slice none 0 0) := ⟨by kernel_rfl⟩
instance : Und Tryz.prog 53 (TypeDesc.slice 102) := ⟨Tryz.underlying53⟩
instance : Inf Tryz.prog 53 1 24 (Value.slice none 0 0) := ⟨by kernel_rfl⟩
instance : Und Tryz.prog 54 (TypeDesc.struct #[(Field.mk "Parents" 52 0 false "" "" 0), (Field.mk "Who" 9 1 false "" "" 24), (Field.mk "Tree" 53 2 false "" "" 40)]) := ⟨Tryz.underlying54⟩
instance : Inf Tryz.prog 54 3 64 (Value.agg #[(Value.slice none 0 0), (Value.string (ByteArray.mk #[])), (Value.slice none 0 0)]) := ⟨by kernel_rfl⟩
instance : Flat Tryz.prog 54 3 := ⟨_, Tryz.underlying54, by kernel_rfl, by kernel_rfl⟩
instance : Fld Tryz.prog 54 0 0 := Flat.fld (n := 3) (by decide)
instance : Fld Tryz.prog 54 1 1 := Flat.fld (n := 3) (by decide)
instance : Fld Tryz.prog 54 2 2 := Flat.fld (n := 3) (by decide)
instance : Und Tryz.prog 55 (TypeDesc.struct #[(Field.mk "Parents" 52 0 false "" "" 0), (Field.mk "Who" 9 1 false "" "" 24), (Field.mk "Tree" 53 2 false "" "" 40)]) := ⟨Tryz.underlying55⟩
instance : Inf Tryz.prog 55 3 64 (Value.agg #[(Value.slice none 0 0), (Value.string (ByteArray.mk #[])), (Value.slice none 0 0)]) := ⟨by kernel_rfl⟩
instance : Flat Tryz.prog 55 3 := ⟨_, Tryz.underlying55, by kernel_rfl, by kernel_rfl⟩
instance : Fld Tryz.prog 55 0 0 := Flat.fld (n := 3) (by decide)
instance : Fld Tryz.prog 55 1 1 := Flat.fld (n := 3) (by decide)
instance : Fld Tryz.prog 55 2 2 := Flat.fld (n := 3) (by decide)
instance : Und Tryz.prog 59 (TypeDesc.slice 120) := ⟨Tryz.underlying59⟩
instance : Inf Tryz.prog 59 1 24 (Value.slice none 0 0) := ⟨by kernel_rfl⟩
instance : Und Tryz.prog 60 (TypeDesc.struct #[(Field.mk "Parents" 52 0 false "" "" 0), (Field.mk "Who" 9 1 false "" "" 24), (Field.mk "Tree" 59 2 false "" "" 40)]) := ⟨Tryz.underlying60⟩
instance : Inf Tryz.prog 60 3 64 (Value.agg #[(Value.slice none 0 0), (Value.string (ByteArray.mk #[])), (Value.slice none 0 0)]) := ⟨by kernel_rfl⟩
instance : Flat Tryz.prog 60 3 := ⟨_, Tryz.underlying60, by kernel_rfl, by kernel_rfl⟩
instance : Fld Tryz.prog 60 0 0 := Flat.fld (n := 3) (by decide)
instance : Fld Tryz.prog 60 1 1 := Flat.fld (n := 3) (by decide)
instance : Fld Tryz.prog 60 2 2 := Flat.fld (n := 3) (by decide)
instance : Und Tryz.prog 61 (TypeDesc.struct #[(Field.mk "Parents" 52 0 false "" "" 0), (Field.mk "Who" 9 1 false "" "" 24), (Field.mk "Tree" 59 2 false "" "" 40)]) := ⟨Tryz.underlying61⟩
instance : Inf Tryz.prog 61 3 64 (Value.agg #[(Value.slice none 0 0), (Value.string (ByteArray.mk #[])), (Value.slice none 0 0)]) := ⟨by kernel_rfl⟩
instance : Flat Tryz.prog 61 3 := ⟨_, Tryz.underlying61, by kernel_rfl, by kernel_rfl⟩
instance : Fld Tryz.prog 61 0 0 := Flat.fld (n := 3) (by decide)
instance : Fld Tryz.prog 61 1 1 := Flat.fld (n := 3) (by decide)
instance : Fld Tryz.prog 61 2 2 := Flat.fld (n := 3) (by decide)
instance : Und Tryz.prog 63 (TypeDesc.struct #[(Field.mk "Name" 9 0 false "" "" 0), (Field.mk "At" 3 1 false "" "" 16)]) := ⟨Tryz.underlying63⟩
instance : Inf Tryz.prog 63 2 24 (Value.agg #[(Value.string (ByteArray.mk #[])), (Value.int IntKind.i64 0)]) := ⟨by kernel_rfl⟩
instance : Flat Tryz.prog 63 2 := ⟨_, Tryz.underlying63, by kernel_rfl, by kernel_rfl⟩
instance : Fld Tryz.prog 63 0 0 := Flat.fld (n := 2) (by decide)
instance : Fld Tryz.prog 63 1 1 := Flat.fld (n := 2) (by decide)
instance : Und Tryz.prog 64 (TypeDesc.struct #[(Field.mk "Name" 9 0 false "" "" 0), (Field.mk "At" 3 1 false "" "" 16)]) := ⟨Tryz.underlying64⟩
instance : Inf Tryz.prog 64 2 24 (Value.agg #[(Value.string (ByteArray.mk #[])), (Value.int IntKind.i64 0)]) := ⟨by kernel_rfl⟩
instance : Flat Tryz.prog 64 2 := ⟨_, Tryz.underlying64, by kernel_rfl, by kernel_rfl⟩
instance : Fld Tryz.prog 64 0 0 := Flat.fld (n := 2) (by decide)
instance : Fld Tryz.prog 64 1 1 := Flat.fld (n := 2) (by decide)
instance : Und Tryz.prog 66 (TypeDesc.struct #[(Field.mk "Name" 9 0 false "" "" 0), (Field.mk "At" 3 1 false "" "" 16)]) := ⟨Tryz.underlying66⟩
instance : Inf Tryz.prog 66 2 24 (Value.agg #[(Value.string (ByteArray.mk #[])), (Value.int IntKind.i64 0)]) := ⟨by kernel_rfl⟩
instance : Ssi Tryz.prog 66 := ⟨by kernel_rfl, by kernel_rfl, _, _, Tryz.underlying66, by decide, by decide, rfl, rfl, Tryz.underlying9, _, Tryz.underlying3⟩
instance : Flat Tryz.prog 66 2 := ⟨_, Tryz.underlying66, by kernel_rfl, by kernel_rfl⟩
instance : Fld Tryz.prog 66 0 0 := Flat.fld (n := 2) (by decide)
instance : Fld Tryz.prog 66 1 1 := Flat.fld (n := 2) (by decide)
instance : Und Tryz.prog 71 (TypeDesc.slice 107) := ⟨Tryz.underlying71⟩
instance : Inf Tryz.prog 71 1 24 (Value.slice none 0 0) := ⟨by kernel_rfl⟩
instance : Und Tryz.prog 82 (TypeDesc.slice 4) := ⟨Tryz.underlying82⟩
instance : Inf Tryz.prog 82 1 24 (Value.slice none 0 0) := ⟨by kernel_rfl⟩
instance : Und Tryz.prog 100 (TypeDesc.slice 9) := ⟨Tryz.underlying100⟩
instance : Inf Tryz.prog 100 1 24 (Value.slice none 0 0) := ⟨by kernel_rfl⟩
instance : Und Tryz.prog 101 (TypeDesc.struct #[(Field.mk "Path" 9 0 false "" "" 0), (Field.mk "Text" 100 1 false "" "" 16)]) := ⟨Tryz.underlying101⟩
instance : Inf Tryz.prog 101 2 40 (Value.agg #[(Value.string (ByteArray.mk #[])), (Value.slice none 0 0)]) := ⟨by kernel_rfl⟩
instance : Flat Tryz.prog 101 2 := ⟨_, Tryz.underlying101, by kernel_rfl, by kernel_rfl⟩
instance : Fld Tryz.prog 101 0 0 := Flat.fld (n := 2) (by decide)
instance : Fld Tryz.prog 101 1 1 := Flat.fld (n := 2) (by decide)
instance : Und Tryz.prog 102 (TypeDesc.struct #[(Field.mk "Path" 9 0 false "" "" 0), (Field.mk "Text" 100 1 false "" "" 16)]) := ⟨Tryz.underlying102⟩
instance : Inf Tryz.prog 102 2 40 (Value.agg #[(Value.string (ByteArray.mk #[])), (Value.slice none 0 0)]) := ⟨by kernel_rfl⟩
instance : Flat Tryz.prog 102 2 := ⟨_, Tryz.underlying102, by kernel_rfl, by kernel_rfl⟩
instance : Fld Tryz.prog 102 0 0 := Flat.fld (n := 2) (by decide)
instance : Fld Tryz.prog 102 1 1 := Flat.fld (n := 2) (by decide)
instance : Und Tryz.prog 106 (TypeDesc.struct #[(Field.mk "Path" 9 0 false "" "" 0), (Field.mk "Kind" 3 1 false "" "" 16)]) := ⟨Tryz.underlying106⟩
instance : Inf Tryz.prog 106 2 24 (Value.agg #[(Value.string (ByteArray.mk #[])), (Value.int IntKind.i64 0)]) := ⟨by kernel_rfl⟩
instance : Flat Tryz.prog 106 2 := ⟨_, Tryz.underlying106, by kernel_rfl, by kernel_rfl⟩
instance : Fld Tryz.prog 106 0 0 := Flat.fld (n := 2) (by decide)
instance : Fld Tryz.prog 106 1 1 := Flat.fld (n := 2) (by decide)
instance : Und Tryz.prog 107 (TypeDesc.struct #[(Field.mk "Path" 9 0 false "" "" 0), (Field.mk "Kind" 3 1 false "" "" 16)]) := ⟨Tryz.underlying107⟩
instance : Inf Tryz.prog 107 2 24 (Value.agg #[(Value.string (ByteArray.mk #[])), (Value.int IntKind.i64 0)]) := ⟨by kernel_rfl⟩
instance : Ssi Tryz.prog 107 := ⟨by kernel_rfl, by kernel_rfl, _, _, Tryz.underlying107, by decide, by decide, rfl, rfl, Tryz.underlying9, _, Tryz.underlying3⟩
instance : Flat Tryz.prog 107 2 := ⟨_, Tryz.underlying107, by kernel_rfl, by kernel_rfl⟩
instance : Fld Tryz.prog 107 0 0 := Flat.fld (n := 2) (by decide)
instance : Fld Tryz.prog 107 1 1 := Flat.fld (n := 2) (by decide)
instance : Und Tryz.prog 117 (TypeDesc.slice 5) := ⟨Tryz.underlying117⟩
instance : Inf Tryz.prog 117 1 24 (Value.slice none 0 0) := ⟨by kernel_rfl⟩
instance : Und Tryz.prog 120 (TypeDesc.struct #[(Field.mk "Path" 9 0 false "" "" 0), (Field.mk "Text" 100 1 false "" "" 16)]) := ⟨Tryz.underlying120⟩
instance : Inf Tryz.prog 120 2 40 (Value.agg #[(Value.string (ByteArray.mk #[])), (Value.slice none 0 0)]) := ⟨by kernel_rfl⟩
instance : Flat Tryz.prog 120 2 := ⟨_, Tryz.underlying120, by kernel_rfl, by kernel_rfl⟩
instance : Fld Tryz.prog 120 0 0 := Flat.fld (n := 2) (by decide)
instance : Fld Tryz.prog 120 1 1 := Flat.fld (n := 2) (by decide)
instance : Und Tryz.prog 130 (TypeDesc.struct #[(Field.mk "text" 100 0 false "" "loop.example/versioncontrol/impl" 0), (Field.mk "file" 4 1 false "" "loop.example/versioncontrol/impl" 24)]) := ⟨Tryz.underlying130⟩
instance : Inf Tryz.prog 130 2 32 (Value.agg #[(Value.slice none 0 0), (Value.bool false)]) := ⟨by kernel_rfl⟩
instance : Flat Tryz.prog 130 2 := ⟨_, Tryz.underlying130, by kernel_rfl, by kernel_rfl⟩
instance : Fld Tryz.prog 130 0 0 := Flat.fld (n := 2) (by decide)
instance : Fld Tryz.prog 130 1 1 := Flat.fld (n := 2) (by decide)
instance : Und Tryz.prog 131 (TypeDesc.struct #[(Field.mk "text" 100 0 false "" "loop.example/versioncontrol/impl" 0), (Field.mk "file" 4 1 false "" "loop.example/versioncontrol/impl" 24)]) := ⟨Tryz.underlying131⟩
instance : Inf Tryz.prog 131 2 32 (Value.agg #[(Value.slice none 0 0), (Value.bool false)]) := ⟨by kernel_rfl⟩
instance : Flat Tryz.prog 131 2 := ⟨_, Tryz.underlying131, by kernel_rfl, by kernel_rfl⟩
instance : Fld Tryz.prog 131 0 0 := Flat.fld (n := 2) (by decide)
instance : Fld Tryz.prog 131 1 1 := Flat.fld (n := 2) (by decide)
instance : Und Tryz.prog 143 (TypeDesc.slice 153) := ⟨Tryz.underlying143⟩
instance : Inf Tryz.prog 143 1 24 (Value.slice none 0 0) := ⟨by kernel_rfl⟩
instance : Und Tryz.prog 147 (TypeDesc.slice 53) := ⟨Tryz.underlying147⟩
instance : Inf Tryz.prog 147 1 24 (Value.slice none 0 0) := ⟨by kernel_rfl⟩
instance : Und Tryz.prog 152 (TypeDesc.struct #[(Field.mk "Clash" 4 0 false "" "" 0), (Field.mk "Lines" 100 1 false "" "" 8), (Field.mk "Old" 100 2 false "" "" 32), (Field.mk "One" 100 3 false "" "" 56), (Field.mk "Two" 100 4 false "" "" 80)]) := ⟨Tryz.underlying152⟩
instance : Inf Tryz.prog 152 5 104 (Value.agg #[(Value.bool false), (Value.slice none 0 0), (Value.slice none 0 0), (Value.slice none 0 0), (Value.slice none 0 0)]) := ⟨by kernel_rfl⟩
instance : Flat Tryz.prog 152 5 := ⟨_, Tryz.underlying152, by kernel_rfl, by kernel_rfl⟩
instance : Fld Tryz.prog 152 0 0 := Flat.fld (n := 5) (by decide)
instance : Fld Tryz.prog 152 1 1 := Flat.fld (n := 5) (by decide)
instance : Fld Tryz.prog 152 2 2 := Flat.fld (n := 5) (by decide)
instance : Fld Tryz.prog 152 3 3 := Flat.fld (n := 5) (by decide)
instance : Fld Tryz.prog 152 4 4 := Flat.fld (n := 5) (by decide)
instance : Und Tryz.prog 153 (TypeDesc.struct #[(Field.mk "Clash" 4 0 false "" "" 0), (Field.mk "Lines" 100 1 false "" "" 8), (Field.mk "Old" 100 2 false "" "" 32), (Field.mk "One" 100 3 false "" "" 56), (Field.mk "Two" 100 4 false "" "" 80)]) := ⟨Tryz.underlying153⟩
instance : Inf Tryz.prog 153 5 104 (Value.agg #[(Value.bool false), (Value.slice none 0 0), (Value.slice none 0 0), (Value.slice none 0 0), (Value.slice none 0 0)]) := ⟨by kernel_rfl⟩
instance : Flat Tryz.prog 153 5 := ⟨_, Tryz.underlying153, by kernel_rfl, by kernel_rfl⟩
instance : Fld Tryz.prog 153 0 0 := Flat.fld (n := 5) (by decide)
instance : Fld Tryz.prog 153 1 1 := Flat.fld (n := 5) (by decide)
instance : Fld Tryz.prog 153 2 2 := Flat.fld (n := 5) (by decide)
instance : Fld Tryz.prog 153 3 3 := Flat.fld (n := 5) (by decide)
instance : Fld Tryz.prog 153 4 4 := Flat.fld (n := 5) (by decide)
instance : Und Tryz.prog 161 (TypeDesc.int IntKind.u64) := ⟨Tryz.underlying161⟩
instance : Inf Tryz.prog 161 1 8 (Value.int IntKind.u64 0) := ⟨by kernel_rfl⟩
instance : Und Tryz.prog 164 (TypeDesc.slice 52) := ⟨Tryz.underlying164⟩
instance : Inf Tryz.prog 164 1 24 (Value.slice none 0 0) := ⟨by kernel_rfl⟩
instance : Und Tryz.prog 171 (TypeDesc.int IntKind.i64) := ⟨Tryz.underlying171⟩
instance : Inf Tryz.prog 171 1 8 (Value.int IntKind.i64 0) := ⟨by kernel_rfl⟩
instance : Und Tryz.prog 179 (TypeDesc.int IntKind.u32) := ⟨Tryz.underlying179⟩
instance : Inf Tryz.prog 179 1 4 (Value.int IntKind.u32 0) := ⟨by kernel_rfl⟩
instance : Und Tryz.prog 181 (TypeDesc.int IntKind.u64) := ⟨Tryz.underlying181⟩
instance : Inf Tryz.prog 181 1 8 (Value.int IntKind.u64 0) := ⟨by kernel_rfl⟩
instance : Und Tryz.prog 183 (TypeDesc.int IntKind.u64) := ⟨Tryz.underlying183⟩
instance : Inf Tryz.prog 183 1 8 (Value.int IntKind.u64 0) := ⟨by kernel_rfl⟩
instance : Und Tryz.prog 187 (TypeDesc.pointer 3) := ⟨Tryz.underlying187⟩
instance : Inf Tryz.prog 187 1 8 (Value.pointer none) := ⟨by kernel_rfl⟩
instance : Und Tryz.prog 190 (TypeDesc.struct #[(Field.mk "lo" 5 0 false "" "unicode/utf8" 0), (Field.mk "hi" 5 1 false "" "unicode/utf8" 1)]) := ⟨Tryz.underlying190⟩
instance : Inf Tryz.prog 190 2 2 (Value.agg #[(Value.int IntKind.u8 0), (Value.int IntKind.u8 0)]) := ⟨by kernel_rfl⟩
instance : Flat Tryz.prog 190 2 := ⟨_, Tryz.underlying190, by kernel_rfl, by kernel_rfl⟩
instance : Fld Tryz.prog 190 0 0 := Flat.fld (n := 2) (by decide)
instance : Fld Tryz.prog 190 1 1 := Flat.fld (n := 2) (by decide)
instance : Und Tryz.prog 191 (TypeDesc.struct #[(Field.mk "lo" 5 0 false "" "unicode/utf8" 0), (Field.mk "hi" 5 1 false "" "unicode/utf8" 1)]) := ⟨Tryz.underlying191⟩
instance : Inf Tryz.prog 191 2 2 (Value.agg #[(Value.int IntKind.u8 0), (Value.int IntKind.u8 0)]) := ⟨by kernel_rfl⟩
instance : Flat Tryz.prog 191 2 := ⟨_, Tryz.underlying191, by kernel_rfl, by kernel_rfl⟩
instance : Fld Tryz.prog 191 0 0 := Flat.fld (n := 2) (by decide)
instance : Fld Tryz.prog 191 1 1 := Flat.fld (n := 2) (by decide)
instance : Und Tryz.prog 195 (TypeDesc.pointer 183) := ⟨Tryz.underlying195⟩
instance : Inf Tryz.prog 195 1 8 (Value.pointer none) := ⟨by kernel_rfl⟩
instance : Und Tryz.prog 208 (TypeDesc.pointer 5) := ⟨Tryz.underlying208⟩
instance : Inf Tryz.prog 208 1 8 (Value.pointer none) := ⟨by kernel_rfl⟩
instance : Fun Tryz.prog 4 := ⟨_, Tryz.func4, by kernel_rfl, by kernel_rfl⟩
instance : Fun Tryz.prog 5 := ⟨_, Tryz.func5, by kernel_rfl, by kernel_rfl⟩
instance : Fun Tryz.prog 6 := ⟨_, Tryz.func6, by kernel_rfl, by kernel_rfl⟩
instance : Fun Tryz.prog 8 := ⟨_, Tryz.func8, by kernel_rfl, by kernel_rfl⟩
instance : Fun Tryz.prog 10 := ⟨_, Tryz.func10, by kernel_rfl, by kernel_rfl⟩
instance : Fun Tryz.prog 11 := ⟨_, Tryz.func11, by kernel_rfl, by kernel_rfl⟩
instance : Fun Tryz.prog 12 := ⟨_, Tryz.func12, by kernel_rfl, by kernel_rfl⟩
instance : Fun Tryz.prog 13 := ⟨_, Tryz.func13, by kernel_rfl, by kernel_rfl⟩
instance : Fun Tryz.prog 14 := ⟨_, Tryz.func14, by kernel_rfl, by kernel_rfl⟩
instance : Fun Tryz.prog 15 := ⟨_, Tryz.func15, by kernel_rfl, by kernel_rfl⟩
instance : Fun Tryz.prog 16 := ⟨_, Tryz.func16, by kernel_rfl, by kernel_rfl⟩
instance : Fun Tryz.prog 17 := ⟨_, Tryz.func17, by kernel_rfl, by kernel_rfl⟩
instance : Fun Tryz.prog 18 := ⟨_, Tryz.func18, by kernel_rfl, by kernel_rfl⟩
instance : Fun Tryz.prog 19 := ⟨_, Tryz.func19, by kernel_rfl, by kernel_rfl⟩
instance : Fun Tryz.prog 20 := ⟨_, Tryz.func20, by kernel_rfl, by kernel_rfl⟩
instance : Fun Tryz.prog 21 := ⟨_, Tryz.func21, by kernel_rfl, by kernel_rfl⟩
instance : Fun Tryz.prog 22 := ⟨_, Tryz.func22, by kernel_rfl, by kernel_rfl⟩
instance : Fun Tryz.prog 23 := ⟨_, Tryz.func23, by kernel_rfl, by kernel_rfl⟩
instance : Fun Tryz.prog 25 := ⟨_, Tryz.func25, by kernel_rfl, by kernel_rfl⟩
instance : Fun Tryz.prog 26 := ⟨_, Tryz.func26, by kernel_rfl, by kernel_rfl⟩
instance : Fun Tryz.prog 27 := ⟨_, Tryz.func27, by kernel_rfl, by kernel_rfl⟩
instance : Fun Tryz.prog 29 := ⟨_, Tryz.func29, by kernel_rfl, by kernel_rfl⟩
instance : Fun Tryz.prog 30 := ⟨_, Tryz.func30, by kernel_rfl, by kernel_rfl⟩
instance : Fun Tryz.prog 31 := ⟨_, Tryz.func31, by kernel_rfl, by kernel_rfl⟩
instance : Fun Tryz.prog 32 := ⟨_, Tryz.func32, by kernel_rfl, by kernel_rfl⟩
instance : Fun Tryz.prog 33 := ⟨_, Tryz.func33, by kernel_rfl, by kernel_rfl⟩
instance : Fun Tryz.prog 34 := ⟨_, Tryz.func34, by kernel_rfl, by kernel_rfl⟩
instance : Fun Tryz.prog 35 := ⟨_, Tryz.func35, by kernel_rfl, by kernel_rfl⟩
instance : Fun Tryz.prog 36 := ⟨_, Tryz.func36, by kernel_rfl, by kernel_rfl⟩
instance : Fun Tryz.prog 37 := ⟨_, Tryz.func37, by kernel_rfl, by kernel_rfl⟩
instance : Fun Tryz.prog 38 := ⟨_, Tryz.func38, by kernel_rfl, by kernel_rfl⟩
instance : Fun Tryz.prog 39 := ⟨_, Tryz.func39, by kernel_rfl, by kernel_rfl⟩
instance : Fun Tryz.prog 40 := ⟨_, Tryz.func40, by kernel_rfl, by kernel_rfl⟩
instance : Fun Tryz.prog 41 := ⟨_, Tryz.func41, by kernel_rfl, by kernel_rfl⟩
instance : Fun Tryz.prog 44 := ⟨_, Tryz.func44, by kernel_rfl, by kernel_rfl⟩
instance : Fun Tryz.prog 45 := ⟨_, Tryz.func45, by kernel_rfl, by kernel_rfl⟩
instance : Fun Tryz.prog 47 := ⟨_, Tryz.func47, by kernel_rfl, by kernel_rfl⟩
instance : Fun Tryz.prog 48 := ⟨_, Tryz.func48, by kernel_rfl, by kernel_rfl⟩
instance : Fun Tryz.prog 49 := ⟨_, Tryz.func49, by kernel_rfl, by kernel_rfl⟩
instance : Fun Tryz.prog 50 := ⟨_, Tryz.func50, by kernel_rfl, by kernel_rfl⟩
instance : Fun Tryz.prog 51 := ⟨_, Tryz.func51, by kernel_rfl, by kernel_rfl⟩
instance : Fun Tryz.prog 52 := ⟨_, Tryz.func52, by kernel_rfl, by kernel_rfl⟩
instance : Fun Tryz.prog 53 := ⟨_, Tryz.func53, by kernel_rfl, by kernel_rfl⟩
instance : Fun Tryz.prog 54 := ⟨_, Tryz.func54, by kernel_rfl, by kernel_rfl⟩
instance : Fun Tryz.prog 55 := ⟨_, Tryz.func55, by kernel_rfl, by kernel_rfl⟩
instance : Fun Tryz.prog 56 := ⟨_, Tryz.func56, by kernel_rfl, by kernel_rfl⟩
instance : Fun Tryz.prog 58 := ⟨_, Tryz.func58, by kernel_rfl, by kernel_rfl⟩
instance : Fun Tryz.prog 59 := ⟨_, Tryz.func59, by kernel_rfl, by kernel_rfl⟩
instance : Fun Tryz.prog 61 := ⟨_, Tryz.func61, by kernel_rfl, by kernel_rfl⟩
instance : Fun Tryz.prog 62 := ⟨_, Tryz.func62, by kernel_rfl, by kernel_rfl⟩
instance : Fun Tryz.prog 63 := ⟨_, Tryz.func63, by kernel_rfl, by kernel_rfl⟩
instance : Fun Tryz.prog 64 := ⟨_, Tryz.func64, by kernel_rfl, by kernel_rfl⟩
instance : Fun Tryz.prog 65 := ⟨_, Tryz.func65, by kernel_rfl, by kernel_rfl⟩
instance : Fun Tryz.prog 66 := ⟨_, Tryz.func66, by kernel_rfl, by kernel_rfl⟩
instance : Fun Tryz.prog 67 := ⟨_, Tryz.func67, by kernel_rfl, by kernel_rfl⟩
instance : Fun Tryz.prog 68 := ⟨_, Tryz.func68, by kernel_rfl, by kernel_rfl⟩
instance : Fun Tryz.prog 69 := ⟨_, Tryz.func69, by kernel_rfl, by kernel_rfl⟩
instance : Fun Tryz.prog 70 := ⟨_, Tryz.func70, by kernel_rfl, by kernel_rfl⟩
instance : Fun Tryz.prog 71 := ⟨_, Tryz.func71, by kernel_rfl, by kernel_rfl⟩
instance : Fun Tryz.prog 72 := ⟨_, Tryz.func72, by kernel_rfl, by kernel_rfl⟩
instance : Fun Tryz.prog 73 := ⟨_, Tryz.func73, by kernel_rfl, by kernel_rfl⟩
instance : Fun Tryz.prog 74 := ⟨_, Tryz.func74, by kernel_rfl, by kernel_rfl⟩
instance : Fun Tryz.prog 75 := ⟨_, Tryz.func75, by kernel_rfl, by kernel_rfl⟩
instance : Fun Tryz.prog 76 := ⟨_, Tryz.func76, by kernel_rfl, by kernel_rfl⟩
instance : Fun Tryz.prog 77 := ⟨_, Tryz.func77, by kernel_rfl, by kernel_rfl⟩
instance : Fun Tryz.prog 78 := ⟨_, Tryz.func78, by kernel_rfl, by kernel_rfl⟩
instance : Fun Tryz.prog 79 := ⟨_, Tryz.func79, by kernel_rfl, by kernel_rfl⟩
instance : Fun Tryz.prog 81 := ⟨_, Tryz.func81, by kernel_rfl, by kernel_rfl⟩
instance : Fun Tryz.prog 82 := ⟨_, Tryz.func82, by kernel_rfl, by kernel_rfl⟩
instance : Fun Tryz.prog 83 := ⟨_, Tryz.func83, by kernel_rfl, by kernel_rfl⟩
instance : Fun Tryz.prog 84 := ⟨_, Tryz.func84, by kernel_rfl, by kernel_rfl⟩
instance : Fun Tryz.prog 85 := ⟨_, Tryz.func85, by kernel_rfl, by kernel_rfl⟩
instance : Fun Tryz.prog 86 := ⟨_, Tryz.func86, by kernel_rfl, by kernel_rfl⟩
instance : Fun Tryz.prog 87 := ⟨_, Tryz.func87, by kernel_rfl, by kernel_rfl⟩
instance : Fun Tryz.prog 88 := ⟨_, Tryz.func88, by kernel_rfl, by kernel_rfl⟩
instance : Fun Tryz.prog 89 := ⟨_, Tryz.func89, by kernel_rfl, by kernel_rfl⟩
instance : Fun Tryz.prog 90 := ⟨_, Tryz.func90, by kernel_rfl, by kernel_rfl⟩
instance : Fun Tryz.prog 92 := ⟨_, Tryz.func92, by kernel_rfl, by kernel_rfl⟩
instance : Fun Tryz.prog 93 := ⟨_, Tryz.func93, by kernel_rfl, by kernel_rfl⟩
instance : Fun Tryz.prog 94 := ⟨_, Tryz.func94, by kernel_rfl, by kernel_rfl⟩
instance : Fun Tryz.prog 95 := ⟨_, Tryz.func95, by kernel_rfl, by kernel_rfl⟩
instance : Fun Tryz.prog 96 := ⟨_, Tryz.func96, by kernel_rfl, by kernel_rfl⟩
instance : Fun Tryz.prog 97 := ⟨_, Tryz.func97, by kernel_rfl, by kernel_rfl⟩
instance : Fun Tryz.prog 98 := ⟨_, Tryz.func98, by kernel_rfl, by kernel_rfl⟩
instance : Fun Tryz.prog 99 := ⟨_, Tryz.func99, by kernel_rfl, by kernel_rfl⟩
instance : Fun Tryz.prog 100 := ⟨_, Tryz.func100, by kernel_rfl, by kernel_rfl⟩
instance : Fun Tryz.prog 101 := ⟨_, Tryz.func101, by kernel_rfl, by kernel_rfl⟩
instance : Fun Tryz.prog 102 := ⟨_, Tryz.func102, by kernel_rfl, by kernel_rfl⟩
instance : Fun Tryz.prog 103 := ⟨_, Tryz.func103, by kernel_rfl, by kernel_rfl⟩
instance : Fun Tryz.prog 104 := ⟨_, Tryz.func104, by kernel_rfl, by kernel_rfl⟩
instance : Fun Tryz.prog 105 := ⟨_, Tryz.func105, by kernel_rfl, by kernel_rfl⟩
instance : Fun Tryz.prog 106 := ⟨_, Tryz.func106, by kernel_rfl, by kernel_rfl⟩
instance : Fun Tryz.prog 107 := ⟨_, Tryz.func107, by kernel_rfl, by kernel_rfl⟩
instance : Fun Tryz.prog 108 := ⟨_, Tryz.func108, by kernel_rfl, by kernel_rfl⟩
instance : Fun Tryz.prog 109 := ⟨_, Tryz.func109, by kernel_rfl, by kernel_rfl⟩
instance : Fun Tryz.prog 112 := ⟨_, Tryz.func112, by kernel_rfl, by kernel_rfl⟩
instance : Fun Tryz.prog 113 := ⟨_, Tryz.func113, by kernel_rfl, by kernel_rfl⟩
instance : Fun Tryz.prog 114 := ⟨_, Tryz.func114, by kernel_rfl, by kernel_rfl⟩
instance : Fun Tryz.prog 115 := ⟨_, Tryz.func115, by kernel_rfl, by kernel_rfl⟩
instance : Fun Tryz.prog 116 := ⟨_, Tryz.func116, by kernel_rfl, by kernel_rfl⟩
instance : Fun Tryz.prog 117 := ⟨_, Tryz.func117, by kernel_rfl, by kernel_rfl⟩
instance : Fun Tryz.prog 118 := ⟨_, Tryz.func118, by kernel_rfl, by kernel_rfl⟩
instance : Fun Tryz.prog 119 := ⟨_, Tryz.func119, by kernel_rfl, by kernel_rfl⟩
instance : Fun Tryz.prog 124 := ⟨_, Tryz.func124, by kernel_rfl, by kernel_rfl⟩
instance : Fun Tryz.prog 125 := ⟨_, Tryz.func125, by kernel_rfl, by kernel_rfl⟩
instance : Fun Tryz.prog 126 := ⟨_, Tryz.func126, by kernel_rfl, by kernel_rfl⟩
instance : Fun Tryz.prog 127 := ⟨_, Tryz.func127, by kernel_rfl, by kernel_rfl⟩
instance : Fun Tryz.prog 128 := ⟨_, Tryz.func128, by kernel_rfl, by kernel_rfl⟩
instance : Fun Tryz.prog 129 := ⟨_, Tryz.func129, by kernel_rfl, by kernel_rfl⟩
instance : Fun Tryz.prog 130 := ⟨_, Tryz.func130, by kernel_rfl, by kernel_rfl⟩
instance : Fun Tryz.prog 131 := ⟨_, Tryz.func131, by kernel_rfl, by kernel_rfl⟩
instance : Fun Tryz.prog 132 := ⟨_, Tryz.func132, by kernel_rfl, by kernel_rfl⟩
instance : Fun Tryz.prog 133 := ⟨_, Tryz.func133, by kernel_rfl, by kernel_rfl⟩
instance : Fun Tryz.prog 140 := ⟨_, Tryz.func140, by kernel_rfl, by kernel_rfl⟩
instance : Fun Tryz.prog 141 := ⟨_, Tryz.func141, by kernel_rfl, by kernel_rfl⟩
instance : Fun Tryz.prog 142 := ⟨_, Tryz.func142, by kernel_rfl, by kernel_rfl⟩
instance : Fun Tryz.prog 143 := ⟨_, Tryz.func143, by kernel_rfl, by kernel_rfl⟩
instance : Fun Tryz.prog 160 := ⟨_, Tryz.func160, by kernel_rfl, by kernel_rfl⟩
instance : Fun Tryz.prog 161 := ⟨_, Tryz.func161, by kernel_rfl, by kernel_rfl⟩
instance : Fun Tryz.prog 173 := ⟨_, Tryz.func173, by kernel_rfl, by kernel_rfl⟩
instance : Fun Tryz.prog 174 := ⟨_, Tryz.func174, by kernel_rfl, by kernel_rfl⟩
instance : Fun Tryz.prog 178 := ⟨_, Tryz.func178, by kernel_rfl, by kernel_rfl⟩
theorem mixed : Tryz.prog.follows .mixedOrders = true := by kernel_rfl
end Go.Sx
