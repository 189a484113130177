/- The seat's types and functions: what the rules must know of them, each fact closed. Conditions: none. -/
import Derived.Test.YtnjcbcngjmkajaaGreatDoorELb
import Derived.Test.YtnjcbcngjmkajaaGreatDoorELw
import Derived.Test.YtnjcbcngjmkajaaGreatDoorProg
namespace Go.Sx
open Go Go.Proofs Go.Vm Rp
abbrev Q0 (f : Nat) (l : List Value) (W : CW) (R : CW → Value → Prop) : Prop := zap Tryz.prog f l.toArray W.w (Res W LL R)
abbrev Q1 (f : Nat) (l : List Value) (W : CW) (L : List Nat) (R : CW → Value → Prop) : Prop := zap Tryz.prog f l.toArray W.w (Res W L R)
instance : Rp Int := Rp.atom 3 vI (fun _ => True) (fun _ => rfl) 37
instance (priority := high) : Rp Str := Rp.atom 9 (fun s => vS s) (fun _ => True) (fun _ => rfl) 33
instance : Rp Bool := Rp.atom 4 vB (fun _ => True) (fun _ => rfl) 171
instance : Rp Byte := Rp.atom 5 (fun b => .int .u8 (UInt8.toNat b)) (fun _ => True) (fun _ => rfl) 22
instance : Atm Int := ⟨fun h => ⟨rfl, h⟩⟩
instance : Atm Str := ⟨fun h => ⟨rfl, h⟩⟩
instance : Atm Bool := ⟨fun h => ⟨rfl, h⟩⟩
instance : Atm Byte := ⟨fun h => ⟨rfl, h⟩⟩
instance : Pl Int := ⟨fun h => h⟩
instance : Pl Str := ⟨fun h => h⟩
instance : Pl Bool := ⟨fun h => h⟩
instance : Pl Byte := ⟨fun h => h⟩
instance : Zr Int := ⟨0, [vI 0], ⟨rfl, rfl, trivial⟩⟩
instance : Zr Str := ⟨[], [vS []], ⟨rfl, rfl, trivial⟩⟩
instance : Zr Bool := ⟨false, [vB false], ⟨rfl, rfl, trivial⟩⟩
section
variable {W : CW} {K : List Nat} {v : Value} {p : Addr}
theorem Rd.str {s : Str} (h : Rd W K [v] s) : v = vS s := by simpa using h.1
theorem Rd.int {n : Int} (h : Rd W K [v] n) : v = vI n := by simpa using h.1
theorem Rd.bool {b : Bool} (h : Rd W K [v] b) : v = vB b := by simpa using h.1
theorem Rd.byte {b : Byte} (h : Rd W K [v] b) : v = .int .u8 (UInt8.toNat b) := by simpa using h.1
theorem At.str {s : Str} (h : At W K p s) : W.w.cell? p = some (vS s) := by obtain ⟨v, hc, hr⟩ := h.cell rfl; rw [hr.str] at hc; exact hc
theorem At.int {n : Int} (h : At W K p n) : W.w.cell? p = some (vI n) := by obtain ⟨v, hc, hr⟩ := h.cell rfl; rw [hr.int] at hc; exact hc
theorem At.bool {b : Bool} (h : At W K p b) : W.w.cell? p = some (vB b) := by obtain ⟨v, hc, hr⟩ := h.cell rfl; rw [hr.bool] at hc; exact hc
theorem At.byte {b : Byte} (h : At W K p b) : W.w.cell? p = some (.int .u8 (UInt8.toNat b)) := by obtain ⟨v, hc, hr⟩ := h.cell rfl; rw [hr.byte] at hc; exact hc
theorem rdI (n : Int) : Rd W K [vI n] n := ⟨rfl, trivial⟩
theorem rdS (s : Str) : Rd W K [vS s] s := ⟨rfl, trivial⟩
theorem rdB (b : Bool) : Rd W K [vB b] b := ⟨rfl, trivial⟩
end
instance : Rp File := Rp.iso (β := Str × (List Str)) 42 (fun x => (x.Path, x.Text)) 38
instance : Zr File where
  z := Vm.File.mk [] []
  cs := Zr.cs (Str × (List Str))
  own := Zr.own (α := Str × (List Str))
theorem File.split {W : CW} {K : List Nat} {cs : List Value} {x : Vm.File} (h : Rd W K cs x) : ∃ c1 : Value, cs = [vS x.Path, c1] ∧ Rd W K [c1] x.Text := by
  replace h : Rd W K cs (x.Path, x.Text) := h
  obtain ⟨c0, d0, rfl, h0, k0⟩ := h.split
  obtain ⟨u0, rfl, _⟩ := Rd.one h0 rfl
  obtain ⟨u1, rfl, _⟩ := Rd.one k0 rfl
  obtain rfl := Rd.str h0
  exact ⟨u1, rfl, k0⟩
theorem File.at0 {W : CW} {K : List Nat} {p : Addr} {x : Vm.File} (h : At W K p x) : At W K (p.add 0) x.Path := by
  replace h : At W K p (x.Path, x.Text) := h
  replace h := h.fst
  exact (zgP p).symm ▸ h
theorem File.at1 {W : CW} {K : List Nat} {p : Addr} {x : Vm.File} (h : At W K p x) : At W K (p.add 1) x.Text := by
  replace h : At W K p (x.Path, x.Text) := h
  replace h := h.snd
  exact h
theorem File.own {W : CW} {K J1 : List Nat} {c1 : Value} (x0 : Str) (x1 : List Str) (h1 : OwS W J1 K [c1] x1) (d0 : zen ([]) (J1) = true := by rfl) : OwS W ([] ++ (J1)) K [vS x0, c1] (Vm.File.mk x0 x1) := (OwS.pair (OwS.atm (rdS x0)) h1 d0)
instance : Fs Vm.File (Str) 0 (fun x => x.Path) (fun x y => Vm.File.mk y x.Text) := ⟨(Fs.fst rfl : Fs (Str × (List Str)) (Str) 0 _ _).lt, fun h => (Fs.fst rfl : Fs (Str × (List Str)) (Str) 0 _ _).lens h⟩
instance : Fs Vm.File (List Str) 1 (fun x => x.Text) (fun x y => Vm.File.mk x.Path y) := ⟨(Fs.snd rfl (Fs.self rfl) : Fs (Str × (List Str)) (List Str) 1 _ _).lt, fun h => (Fs.snd rfl (Fs.self rfl) : Fs (Str × (List Str)) (List Str) 1 _ _).lens h⟩
instance : Fl Vm.File (List Str) 1 (fun x => x.Text) (fun x y => Vm.File.mk x.Path y) := ⟨fun h => (Fl.snd rfl (Fl.self rfl) : Fl (Str × (List Str)) (List Str) 1 _ _).lens h⟩
theorem File.rd {W : CW} {K : List Nat} {c1 : Value} (x0 : Str) (x1 : List Str) (h1 : Rd W K [c1] x1) : Rd W K [vS x0, c1] (Vm.File.mk x0 x1) := (Rd.join (rdS x0) h1)
instance : Rp Commit := Rp.iso (β := (List Int) × Str × (List File)) 40 (fun x => (x.Parents, x.Who, x.Tree)) 23
instance : Zr Commit where
  z := Vm.Commit.mk [] [] []
  cs := Zr.cs ((List Int) × Str × (List File))
  own := Zr.own (α := (List Int) × Str × (List File))
theorem Commit.split {W : CW} {K : List Nat} {cs : List Value} {x : Vm.Commit} (h : Rd W K cs x) : ∃ c0 c2 : Value, cs = [c0, vS x.Who, c2] ∧ Rd W K [c0] x.Parents ∧ Rd W K [c2] x.Tree := by
  replace h : Rd W K cs (x.Parents, x.Who, x.Tree) := h
  obtain ⟨c0, d0, rfl, h0, k0⟩ := h.split
  obtain ⟨c1, d1, rfl, h1, k1⟩ := Rd.split k0
  obtain ⟨u0, rfl, _⟩ := Rd.one h0 rfl
  obtain ⟨u1, rfl, _⟩ := Rd.one h1 rfl
  obtain ⟨u2, rfl, _⟩ := Rd.one k1 rfl
  obtain rfl := Rd.str h1
  exact ⟨u0, u2, rfl, h0, k1⟩
theorem Commit.at0 {W : CW} {K : List Nat} {p : Addr} {x : Vm.Commit} (h : At W K p x) : At W K (p.add 0) x.Parents := by
  replace h : At W K p (x.Parents, x.Who, x.Tree) := h
  replace h := h.fst
  exact (zgP p).symm ▸ h
theorem Commit.at1 {W : CW} {K : List Nat} {p : Addr} {x : Vm.Commit} (h : At W K p x) : At W K (p.add 1) x.Who := by
  replace h : At W K p (x.Parents, x.Who, x.Tree) := h
  replace h := h.snd
  replace h := h.fst
  exact h
theorem Commit.at2 {W : CW} {K : List Nat} {p : Addr} {x : Vm.Commit} (h : At W K p x) : At W K (p.add 2) x.Tree := by
  replace h : At W K p (x.Parents, x.Who, x.Tree) := h
  replace h := h.snd
  replace h := h.snd
  rw [zfD] at h
  exact h
theorem Commit.own {W : CW} {K J0 J2 : List Nat} {c0 c2 : Value} (x0 : List Int) (x1 : Str) (x2 : List File) (h0 : OwS W J0 K [c0] x0) (h2 : OwS W J2 K [c2] x2) (d0 : zen (J0) ([] ++ (J2)) = true := by rfl) (d1 : zen ([]) (J2) = true := by rfl) : OwS W (J0 ++ ([] ++ (J2))) K [c0, vS x1, c2] (Vm.Commit.mk x0 x1 x2) := (OwS.pair h0 (OwS.pair (OwS.atm (rdS x1)) h2 d1) d0)
instance : Fs Vm.Commit (List Int) 0 (fun x => x.Parents) (fun x y => Vm.Commit.mk y x.Who x.Tree) := ⟨(Fs.fst rfl : Fs ((List Int) × Str × (List File)) (List Int) 0 _ _).lt, fun h => (Fs.fst rfl : Fs ((List Int) × Str × (List File)) (List Int) 0 _ _).lens h⟩
instance : Fs Vm.Commit (Str) 1 (fun x => x.Who) (fun x y => Vm.Commit.mk x.Parents y x.Tree) := ⟨(Fs.snd rfl (Fs.fst rfl) : Fs ((List Int) × Str × (List File)) (Str) 1 _ _).lt, fun h => (Fs.snd rfl (Fs.fst rfl) : Fs ((List Int) × Str × (List File)) (Str) 1 _ _).lens h⟩
instance : Fs Vm.Commit (List File) 2 (fun x => x.Tree) (fun x y => Vm.Commit.mk x.Parents x.Who y) := ⟨(Fs.snd rfl (Fs.snd rfl (Fs.self rfl)) : Fs ((List Int) × Str × (List File)) (List File) 2 _ _).lt, fun h => (Fs.snd rfl (Fs.snd rfl (Fs.self rfl)) : Fs ((List Int) × Str × (List File)) (List File) 2 _ _).lens h⟩
instance : Fl Vm.Commit (List Int) 0 (fun x => x.Parents) (fun x y => Vm.Commit.mk y x.Who x.Tree) := ⟨fun h => (Fl.fst rfl : Fl ((List Int) × Str × (List File)) (List Int) 0 _ _).lens h⟩
instance : Fl Vm.Commit (List File) 2 (fun x => x.Tree) (fun x y => Vm.Commit.mk x.Parents x.Who y) := ⟨fun h => (Fl.snd rfl (Fl.snd rfl (Fl.self rfl)) : Fl ((List Int) × Str × (List File)) (List File) 2 _ _).lens h⟩
theorem Commit.rd {W : CW} {K : List Nat} {c0 c2 : Value} (x0 : List Int) (x1 : Str) (x2 : List File) (h0 : Rd W K [c0] x0) (h2 : Rd W K [c2] x2) : Rd W K [c0, vS x1, c2] (Vm.Commit.mk x0 x1 x2) := (Rd.join h0 (Rd.join (rdS x1) h2))
instance : Rp Head := Rp.iso (β := Str × Int) 76 (fun x => (x.Name, x.At)) 24
instance : Atm Head := ⟨fun h => Atm.own (α := Str × Int) h⟩
instance : Pl Head := ⟨fun h => Pl.pl (α := Str × Int) h⟩
instance : Zr Head where
  z := Vm.Head.mk [] 0
  cs := Zr.cs (Str × Int)
  own := Zr.own (α := Str × Int)
theorem Head.split {W : CW} {K : List Nat} {cs : List Value} {x : Vm.Head} (h : Rd W K cs x) : cs = [vS x.Name, vI x.At] := by
  replace h : Rd W K cs (x.Name, x.At) := h
  obtain ⟨c0, d0, rfl, h0, k0⟩ := h.split
  obtain ⟨u0, rfl, _⟩ := Rd.one h0 rfl
  obtain ⟨u1, rfl, _⟩ := Rd.one k0 rfl
  obtain rfl := Rd.str h0
  obtain rfl := Rd.int k0
  exact rfl
theorem Head.at0 {W : CW} {K : List Nat} {p : Addr} {x : Vm.Head} (h : At W K p x) : At W K (p.add 0) x.Name := by
  replace h : At W K p (x.Name, x.At) := h
  replace h := h.fst
  exact (zgP p).symm ▸ h
theorem Head.at1 {W : CW} {K : List Nat} {p : Addr} {x : Vm.Head} (h : At W K p x) : At W K (p.add 1) x.At := by
  replace h : At W K p (x.Name, x.At) := h
  replace h := h.snd
  exact h
instance : Fs Vm.Head (Str) 0 (fun x => x.Name) (fun x y => Vm.Head.mk y x.At) := ⟨(Fs.fst rfl : Fs (Str × Int) (Str) 0 _ _).lt, fun h => (Fs.fst rfl : Fs (Str × Int) (Str) 0 _ _).lens h⟩
instance : Fs Vm.Head (Int) 1 (fun x => x.At) (fun x y => Vm.Head.mk x.Name y) := ⟨(Fs.snd rfl (Fs.self rfl) : Fs (Str × Int) (Int) 1 _ _).lt, fun h => (Fs.snd rfl (Fs.self rfl) : Fs (Str × Int) (Int) 1 _ _).lens h⟩
theorem Head.rd {W : CW} {K : List Nat} (x0 : Str) (x1 : Int) : Rd W K [vS x0, vI x1] (Vm.Head.mk x0 x1) := (Rd.join (rdS x0) (rdI x1))
instance : Rp Repo := Rp.iso (β := (List Commit) × (List Head)) 26 (fun x => (x.Commits, x.Heads)) 0
instance : Zr Repo where
  z := Vm.Repo.mk [] []
  cs := Zr.cs ((List Commit) × (List Head))
  own := Zr.own (α := (List Commit) × (List Head))
theorem Repo.split {W : CW} {K : List Nat} {cs : List Value} {x : Vm.Repo} (h : Rd W K cs x) : ∃ c0 c1 : Value, cs = [c0, c1] ∧ Rd W K [c0] x.Commits ∧ Rd W K [c1] x.Heads := by
  replace h : Rd W K cs (x.Commits, x.Heads) := h
  obtain ⟨c0, d0, rfl, h0, k0⟩ := h.split
  obtain ⟨u0, rfl, _⟩ := Rd.one h0 rfl
  obtain ⟨u1, rfl, _⟩ := Rd.one k0 rfl
  exact ⟨u0, u1, rfl, h0, k0⟩
theorem Repo.at0 {W : CW} {K : List Nat} {p : Addr} {x : Vm.Repo} (h : At W K p x) : At W K (p.add 0) x.Commits := by
  replace h : At W K p (x.Commits, x.Heads) := h
  replace h := h.fst
  exact (zgP p).symm ▸ h
theorem Repo.at1 {W : CW} {K : List Nat} {p : Addr} {x : Vm.Repo} (h : At W K p x) : At W K (p.add 1) x.Heads := by
  replace h : At W K p (x.Commits, x.Heads) := h
  replace h := h.snd
  exact h
theorem Repo.own {W : CW} {K J0 J1 : List Nat} {c0 c1 : Value} (x0 : List Commit) (x1 : List Head) (h0 : OwS W J0 K [c0] x0) (h1 : OwS W J1 K [c1] x1) (d0 : zen (J0) (J1) = true := by rfl) : OwS W (J0 ++ (J1)) K [c0, c1] (Vm.Repo.mk x0 x1) := (OwS.pair h0 h1 d0)
instance : Fs Vm.Repo (List Commit) 0 (fun x => x.Commits) (fun x y => Vm.Repo.mk y x.Heads) := ⟨(Fs.fst rfl : Fs ((List Commit) × (List Head)) (List Commit) 0 _ _).lt, fun h => (Fs.fst rfl : Fs ((List Commit) × (List Head)) (List Commit) 0 _ _).lens h⟩
instance : Fs Vm.Repo (List Head) 1 (fun x => x.Heads) (fun x y => Vm.Repo.mk x.Commits y) := ⟨(Fs.snd rfl (Fs.self rfl) : Fs ((List Commit) × (List Head)) (List Head) 1 _ _).lt, fun h => (Fs.snd rfl (Fs.self rfl) : Fs ((List Commit) × (List Head)) (List Head) 1 _ _).lens h⟩
instance : Fl Vm.Repo (List Commit) 0 (fun x => x.Commits) (fun x y => Vm.Repo.mk y x.Heads) := ⟨fun h => (Fl.fst rfl : Fl ((List Commit) × (List Head)) (List Commit) 0 _ _).lens h⟩
instance : Fl Vm.Repo (List Head) 1 (fun x => x.Heads) (fun x y => Vm.Repo.mk x.Commits y) := ⟨fun h => (Fl.snd rfl (Fl.self rfl) : Fl ((List Commit) × (List Head)) (List Head) 1 _ _).lens h⟩
theorem Repo.rd {W : CW} {K : List Nat} {c0 c1 : Value} (x0 : List Commit) (x1 : List Head) (h0 : Rd W K [c0] x0) (h1 : Rd W K [c1] x1) : Rd W K [c0, c1] (Vm.Repo.mk x0 x1) := (Rd.join h0 h1)
instance : Rp Share := Rp.iso (β := Str × Int) 51 (fun x => (x.Who, x.Many)) 46
instance : Atm Share := ⟨fun h => Atm.own (α := Str × Int) h⟩
instance : Pl Share := ⟨fun h => Pl.pl (α := Str × Int) h⟩
instance : Zr Share where
  z := Vm.Share.mk [] 0
  cs := Zr.cs (Str × Int)
  own := Zr.own (α := Str × Int)
theorem Share.split {W : CW} {K : List Nat} {cs : List Value} {x : Vm.Share} (h : Rd W K cs x) : cs = [vS x.Who, vI x.Many] := by
  replace h : Rd W K cs (x.Who, x.Many) := h
  obtain ⟨c0, d0, rfl, h0, k0⟩ := h.split
  obtain ⟨u0, rfl, _⟩ := Rd.one h0 rfl
  obtain ⟨u1, rfl, _⟩ := Rd.one k0 rfl
  obtain rfl := Rd.str h0
  obtain rfl := Rd.int k0
  exact rfl
theorem Share.at0 {W : CW} {K : List Nat} {p : Addr} {x : Vm.Share} (h : At W K p x) : At W K (p.add 0) x.Who := by
  replace h : At W K p (x.Who, x.Many) := h
  replace h := h.fst
  exact (zgP p).symm ▸ h
theorem Share.at1 {W : CW} {K : List Nat} {p : Addr} {x : Vm.Share} (h : At W K p x) : At W K (p.add 1) x.Many := by
  replace h : At W K p (x.Who, x.Many) := h
  replace h := h.snd
  exact h
instance : Fs Vm.Share (Str) 0 (fun x => x.Who) (fun x y => Vm.Share.mk y x.Many) := ⟨(Fs.fst rfl : Fs (Str × Int) (Str) 0 _ _).lt, fun h => (Fs.fst rfl : Fs (Str × Int) (Str) 0 _ _).lens h⟩
instance : Fs Vm.Share (Int) 1 (fun x => x.Many) (fun x y => Vm.Share.mk x.Who y) := ⟨(Fs.snd rfl (Fs.self rfl) : Fs (Str × Int) (Int) 1 _ _).lt, fun h => (Fs.snd rfl (Fs.self rfl) : Fs (Str × Int) (Int) 1 _ _).lens h⟩
theorem Share.rd {W : CW} {K : List Nat} (x0 : Str) (x1 : Int) : Rd W K [vS x0, vI x1] (Vm.Share.mk x0 x1) := (Rd.join (rdS x0) (rdI x1))
instance : Rp Delta := Rp.iso (β := Int × Int × (List Str)) 85 (fun x => (x.From, x.Many, x.Lines)) 59
instance : Zr Delta where
  z := Vm.Delta.mk 0 0 []
  cs := Zr.cs (Int × Int × (List Str))
  own := Zr.own (α := Int × Int × (List Str))
theorem Delta.split {W : CW} {K : List Nat} {cs : List Value} {x : Vm.Delta} (h : Rd W K cs x) : ∃ c2 : Value, cs = [vI x.From, vI x.Many, c2] ∧ Rd W K [c2] x.Lines := by
  replace h : Rd W K cs (x.From, x.Many, x.Lines) := h
  obtain ⟨c0, d0, rfl, h0, k0⟩ := h.split
  obtain ⟨c1, d1, rfl, h1, k1⟩ := Rd.split k0
  obtain ⟨u0, rfl, _⟩ := Rd.one h0 rfl
  obtain ⟨u1, rfl, _⟩ := Rd.one h1 rfl
  obtain ⟨u2, rfl, _⟩ := Rd.one k1 rfl
  obtain rfl := Rd.int h0
  obtain rfl := Rd.int h1
  exact ⟨u2, rfl, k1⟩
theorem Delta.at0 {W : CW} {K : List Nat} {p : Addr} {x : Vm.Delta} (h : At W K p x) : At W K (p.add 0) x.From := by
  replace h : At W K p (x.From, x.Many, x.Lines) := h
  replace h := h.fst
  exact (zgP p).symm ▸ h
theorem Delta.at1 {W : CW} {K : List Nat} {p : Addr} {x : Vm.Delta} (h : At W K p x) : At W K (p.add 1) x.Many := by
  replace h : At W K p (x.From, x.Many, x.Lines) := h
  replace h := h.snd
  replace h := h.fst
  exact h
theorem Delta.at2 {W : CW} {K : List Nat} {p : Addr} {x : Vm.Delta} (h : At W K p x) : At W K (p.add 2) x.Lines := by
  replace h : At W K p (x.From, x.Many, x.Lines) := h
  replace h := h.snd
  replace h := h.snd
  rw [zfD] at h
  exact h
theorem Delta.own {W : CW} {K J2 : List Nat} {c2 : Value} (x0 : Int) (x1 : Int) (x2 : List Str) (h2 : OwS W J2 K [c2] x2) (d0 : zen ([]) ([] ++ (J2)) = true := by rfl) (d1 : zen ([]) (J2) = true := by rfl) : OwS W ([] ++ ([] ++ (J2))) K [vI x0, vI x1, c2] (Vm.Delta.mk x0 x1 x2) := (OwS.pair (OwS.atm (rdI x0)) (OwS.pair (OwS.atm (rdI x1)) h2 d1) d0)
instance : Fs Vm.Delta (Int) 0 (fun x => x.From) (fun x y => Vm.Delta.mk y x.Many x.Lines) := ⟨(Fs.fst rfl : Fs (Int × Int × (List Str)) (Int) 0 _ _).lt, fun h => (Fs.fst rfl : Fs (Int × Int × (List Str)) (Int) 0 _ _).lens h⟩
instance : Fs Vm.Delta (Int) 1 (fun x => x.Many) (fun x y => Vm.Delta.mk x.From y x.Lines) := ⟨(Fs.snd rfl (Fs.fst rfl) : Fs (Int × Int × (List Str)) (Int) 1 _ _).lt, fun h => (Fs.snd rfl (Fs.fst rfl) : Fs (Int × Int × (List Str)) (Int) 1 _ _).lens h⟩
instance : Fs Vm.Delta (List Str) 2 (fun x => x.Lines) (fun x y => Vm.Delta.mk x.From x.Many y) := ⟨(Fs.snd rfl (Fs.snd rfl (Fs.self rfl)) : Fs (Int × Int × (List Str)) (List Str) 2 _ _).lt, fun h => (Fs.snd rfl (Fs.snd rfl (Fs.self rfl)) : Fs (Int × Int × (List Str)) (List Str) 2 _ _).lens h⟩
instance : Fl Vm.Delta (List Str) 2 (fun x => x.Lines) (fun x y => Vm.Delta.mk x.From x.Many y) := ⟨fun h => (Fl.snd rfl (Fl.snd rfl (Fl.self rfl)) : Fl (Int × Int × (List Str)) (List Str) 2 _ _).lens h⟩
theorem Delta.rd {W : CW} {K : List Nat} {c2 : Value} (x0 : Int) (x1 : Int) (x2 : List Str) (h2 : Rd W K [c2] x2) : Rd W K [vI x0, vI x1, c2] (Vm.Delta.mk x0 x1 x2) := (Rd.join (rdI x0) (Rd.join (rdI x1) h2))
instance : Rp Packed := Rp.iso (β := Int × (List Delta)) 62 (fun x => (x.Base, x.Delta)) 31
instance : Zr Packed where
  z := Vm.Packed.mk 0 []
  cs := Zr.cs (Int × (List Delta))
  own := Zr.own (α := Int × (List Delta))
theorem Packed.split {W : CW} {K : List Nat} {cs : List Value} {x : Vm.Packed} (h : Rd W K cs x) : ∃ c1 : Value, cs = [vI x.Base, c1] ∧ Rd W K [c1] x.Delta := by
  replace h : Rd W K cs (x.Base, x.Delta) := h
  obtain ⟨c0, d0, rfl, h0, k0⟩ := h.split
  obtain ⟨u0, rfl, _⟩ := Rd.one h0 rfl
  obtain ⟨u1, rfl, _⟩ := Rd.one k0 rfl
  obtain rfl := Rd.int h0
  exact ⟨u1, rfl, k0⟩
theorem Packed.at0 {W : CW} {K : List Nat} {p : Addr} {x : Vm.Packed} (h : At W K p x) : At W K (p.add 0) x.Base := by
  replace h : At W K p (x.Base, x.Delta) := h
  replace h := h.fst
  exact (zgP p).symm ▸ h
theorem Packed.at1 {W : CW} {K : List Nat} {p : Addr} {x : Vm.Packed} (h : At W K p x) : At W K (p.add 1) x.Delta := by
  replace h : At W K p (x.Base, x.Delta) := h
  replace h := h.snd
  exact h
theorem Packed.own {W : CW} {K J1 : List Nat} {c1 : Value} (x0 : Int) (x1 : List Delta) (h1 : OwS W J1 K [c1] x1) (d0 : zen ([]) (J1) = true := by rfl) : OwS W ([] ++ (J1)) K [vI x0, c1] (Vm.Packed.mk x0 x1) := (OwS.pair (OwS.atm (rdI x0)) h1 d0)
instance : Fs Vm.Packed (Int) 0 (fun x => x.Base) (fun x y => Vm.Packed.mk y x.Delta) := ⟨(Fs.fst rfl : Fs (Int × (List Delta)) (Int) 0 _ _).lt, fun h => (Fs.fst rfl : Fs (Int × (List Delta)) (Int) 0 _ _).lens h⟩
instance : Fs Vm.Packed (List Delta) 1 (fun x => x.Delta) (fun x y => Vm.Packed.mk x.Base y) := ⟨(Fs.snd rfl (Fs.self rfl) : Fs (Int × (List Delta)) (List Delta) 1 _ _).lt, fun h => (Fs.snd rfl (Fs.self rfl) : Fs (Int × (List Delta)) (List Delta) 1 _ _).lens h⟩
instance : Fl Vm.Packed (List Delta) 1 (fun x => x.Delta) (fun x y => Vm.Packed.mk x.Base y) := ⟨fun h => (Fl.snd rfl (Fl.self rfl) : Fl (Int × (List Delta)) (List Delta) 1 _ _).lens h⟩
theorem Packed.rd {W : CW} {K : List Nat} {c1 : Value} (x0 : Int) (x1 : List Delta) (h1 : Rd W K [c1] x1) : Rd W K [vI x0, c1] (Vm.Packed.mk x0 x1) := (Rd.join (rdI x0) h1)
instance : Rp l30Rd := Rp.iso (β := (List Byte) × Int) 78 (fun x => (x.b, x.p)) 0
instance : Zr l30Rd where
  z := Vm.l30Rd.mk [] 0
  cs := Zr.cs ((List Byte) × Int)
  own := Zr.own (α := (List Byte) × Int)
theorem l30Rd.split {W : CW} {K : List Nat} {cs : List Value} {x : Vm.l30Rd} (h : Rd W K cs x) : ∃ c0 : Value, cs = [c0, vI x.p] ∧ Rd W K [c0] x.b := by
  replace h : Rd W K cs (x.b, x.p) := h
  obtain ⟨c0, d0, rfl, h0, k0⟩ := h.split
  obtain ⟨u0, rfl, _⟩ := Rd.one h0 rfl
  obtain ⟨u1, rfl, _⟩ := Rd.one k0 rfl
  obtain rfl := Rd.int k0
  exact ⟨u0, rfl, h0⟩
theorem l30Rd.at0 {W : CW} {K : List Nat} {p : Addr} {x : Vm.l30Rd} (h : At W K p x) : At W K (p.add 0) x.b := by
  replace h : At W K p (x.b, x.p) := h
  replace h := h.fst
  exact (zgP p).symm ▸ h
theorem l30Rd.at1 {W : CW} {K : List Nat} {p : Addr} {x : Vm.l30Rd} (h : At W K p x) : At W K (p.add 1) x.p := by
  replace h : At W K p (x.b, x.p) := h
  replace h := h.snd
  exact h
theorem l30Rd.own {W : CW} {K J0 : List Nat} {c0 : Value} (x0 : List Byte) (x1 : Int) (h0 : OwS W J0 K [c0] x0) (d0 : zen (J0) ([]) = true := by rfl) : OwS W (J0 ++ ([])) K [c0, vI x1] (Vm.l30Rd.mk x0 x1) := (OwS.pair h0 (OwS.atm (rdI x1)) d0)
instance : Fs Vm.l30Rd (List Byte) 0 (fun x => x.b) (fun x y => Vm.l30Rd.mk y x.p) := ⟨(Fs.fst rfl : Fs ((List Byte) × Int) (List Byte) 0 _ _).lt, fun h => (Fs.fst rfl : Fs ((List Byte) × Int) (List Byte) 0 _ _).lens h⟩
instance : Fs Vm.l30Rd (Int) 1 (fun x => x.p) (fun x y => Vm.l30Rd.mk x.b y) := ⟨(Fs.snd rfl (Fs.self rfl) : Fs ((List Byte) × Int) (Int) 1 _ _).lt, fun h => (Fs.snd rfl (Fs.self rfl) : Fs ((List Byte) × Int) (Int) 1 _ _).lens h⟩
instance : Fl Vm.l30Rd (List Byte) 0 (fun x => x.b) (fun x y => Vm.l30Rd.mk y x.p) := ⟨fun h => (Fl.fst rfl : Fl ((List Byte) × Int) (List Byte) 0 _ _).lens h⟩
theorem l30Rd.rd {W : CW} {K : List Nat} {c0 : Value} (x0 : List Byte) (x1 : Int) (h0 : Rd W K [c0] x0) : Rd W K [c0, vI x1] (Vm.l30Rd.mk x0 x1) := (Rd.join h0 (rdI x1))
instance : Rp Vm.Op := Rp.iso (β := Int × Str × Str × Str × Str × Int × (List Str)) 112 (fun x => (x.Kind, x.Branch, x.Who, x.Path, x.To, x.At, x.Text)) 96
instance : Zr Vm.Op where
  z := Vm.Op.mk 0 [] [] [] [] 0 []
  cs := Zr.cs (Int × Str × Str × Str × Str × Int × (List Str))
  own := Zr.own (α := Int × Str × Str × Str × Str × Int × (List Str))
theorem Op.split {W : CW} {K : List Nat} {cs : List Value} {x : Vm.Op} (h : Rd W K cs x) : ∃ c6 : Value, cs = [vI x.Kind, vS x.Branch, vS x.Who, vS x.Path, vS x.To, vI x.At, c6] ∧ Rd W K [c6] x.Text := by
  replace h : Rd W K cs (x.Kind, x.Branch, x.Who, x.Path, x.To, x.At, x.Text) := h
  obtain ⟨c0, d0, rfl, h0, k0⟩ := h.split
  obtain ⟨c1, d1, rfl, h1, k1⟩ := Rd.split k0
  obtain ⟨c2, d2, rfl, h2, k2⟩ := Rd.split k1
  obtain ⟨c3, d3, rfl, h3, k3⟩ := Rd.split k2
  obtain ⟨c4, d4, rfl, h4, k4⟩ := Rd.split k3
  obtain ⟨c5, d5, rfl, h5, k5⟩ := Rd.split k4
  obtain ⟨u0, rfl, _⟩ := Rd.one h0 rfl
  obtain ⟨u1, rfl, _⟩ := Rd.one h1 rfl
  obtain ⟨u2, rfl, _⟩ := Rd.one h2 rfl
  obtain ⟨u3, rfl, _⟩ := Rd.one h3 rfl
  obtain ⟨u4, rfl, _⟩ := Rd.one h4 rfl
  obtain ⟨u5, rfl, _⟩ := Rd.one h5 rfl
  obtain ⟨u6, rfl, _⟩ := Rd.one k5 rfl
  obtain rfl := Rd.int h0
  obtain rfl := Rd.str h1
  obtain rfl := Rd.str h2
  obtain rfl := Rd.str h3
  obtain rfl := Rd.str h4
  obtain rfl := Rd.int h5
  exact ⟨u6, rfl, k5⟩
theorem Op.at0 {W : CW} {K : List Nat} {p : Addr} {x : Vm.Op} (h : At W K p x) : At W K (p.add 0) x.Kind := by
  replace h : At W K p (x.Kind, x.Branch, x.Who, x.Path, x.To, x.At, x.Text) := h
  replace h := h.fst
  exact (zgP p).symm ▸ h
theorem Op.at1 {W : CW} {K : List Nat} {p : Addr} {x : Vm.Op} (h : At W K p x) : At W K (p.add 1) x.Branch := by
  replace h : At W K p (x.Kind, x.Branch, x.Who, x.Path, x.To, x.At, x.Text) := h
  replace h := h.snd
  replace h := h.fst
  exact h
theorem Op.at2 {W : CW} {K : List Nat} {p : Addr} {x : Vm.Op} (h : At W K p x) : At W K (p.add 2) x.Who := by
  replace h : At W K p (x.Kind, x.Branch, x.Who, x.Path, x.To, x.At, x.Text) := h
  replace h := h.snd
  replace h := h.snd
  replace h := h.fst
  rw [zfD] at h
  exact h
theorem Op.own {W : CW} {K J6 : List Nat} {c6 : Value} (x0 : Int) (x1 : Str) (x2 : Str) (x3 : Str) (x4 : Str) (x5 : Int) (x6 : List Str) (h6 : OwS W J6 K [c6] x6) (d0 : zen ([]) ([] ++ ([] ++ ([] ++ ([] ++ ([] ++ (J6)))))) = true := by rfl) (d1 : zen ([]) ([] ++ ([] ++ ([] ++ ([] ++ (J6))))) = true := by rfl) (d2 : zen ([]) ([] ++ ([] ++ ([] ++ (J6)))) = true := by rfl) (d3 : zen ([]) ([] ++ ([] ++ (J6))) = true := by rfl) (d4 : zen ([]) ([] ++ (J6)) = true := by rfl) (d5 : zen ([]) (J6) = true := by rfl) : OwS W ([] ++ ([] ++ ([] ++ ([] ++ ([] ++ ([] ++ (J6))))))) K [vI x0, vS x1, vS x2, vS x3, vS x4, vI x5, c6] (Vm.Op.mk x0 x1 x2 x3 x4 x5 x6) := (OwS.pair (OwS.atm (rdI x0)) (OwS.pair (OwS.atm (rdS x1)) (OwS.pair (OwS.atm (rdS x2)) (OwS.pair (OwS.atm (rdS x3)) (OwS.pair (OwS.atm (rdS x4)) (OwS.pair (OwS.atm (rdI x5)) h6 d5) d4) d3) d2) d1) d0)
instance : Fs Vm.Op (Int) 0 (fun x => x.Kind) (fun x y => Vm.Op.mk y x.Branch x.Who x.Path x.To x.At x.Text) := ⟨(Fs.fst rfl : Fs (Int × Str × Str × Str × Str × Int × (List Str)) (Int) 0 _ _).lt, fun h => (Fs.fst rfl : Fs (Int × Str × Str × Str × Str × Int × (List Str)) (Int) 0 _ _).lens h⟩
instance : Fs Vm.Op (Str) 1 (fun x => x.Branch) (fun x y => Vm.Op.mk x.Kind y x.Who x.Path x.To x.At x.Text) := ⟨(Fs.snd rfl (Fs.fst rfl) : Fs (Int × Str × Str × Str × Str × Int × (List Str)) (Str) 1 _ _).lt, fun h => (Fs.snd rfl (Fs.fst rfl) : Fs (Int × Str × Str × Str × Str × Int × (List Str)) (Str) 1 _ _).lens h⟩
instance : Fs Vm.Op (Str) 2 (fun x => x.Who) (fun x y => Vm.Op.mk x.Kind x.Branch y x.Path x.To x.At x.Text) := ⟨(Fs.snd rfl (Fs.snd rfl (Fs.fst rfl)) : Fs (Int × Str × Str × Str × Str × Int × (List Str)) (Str) 2 _ _).lt, fun h => (Fs.snd rfl (Fs.snd rfl (Fs.fst rfl)) : Fs (Int × Str × Str × Str × Str × Int × (List Str)) (Str) 2 _ _).lens h⟩
instance : Fs Vm.Op (Str) 3 (fun x => x.Path) (fun x y => Vm.Op.mk x.Kind x.Branch x.Who y x.To x.At x.Text) := ⟨(Fs.snd rfl (Fs.snd rfl (Fs.snd rfl (Fs.fst rfl))) : Fs (Int × Str × Str × Str × Str × Int × (List Str)) (Str) 3 _ _).lt, fun h => (Fs.snd rfl (Fs.snd rfl (Fs.snd rfl (Fs.fst rfl))) : Fs (Int × Str × Str × Str × Str × Int × (List Str)) (Str) 3 _ _).lens h⟩
instance : Fs Vm.Op (Str) 4 (fun x => x.To) (fun x y => Vm.Op.mk x.Kind x.Branch x.Who x.Path y x.At x.Text) := ⟨(Fs.snd rfl (Fs.snd rfl (Fs.snd rfl (Fs.snd rfl (Fs.fst rfl)))) : Fs (Int × Str × Str × Str × Str × Int × (List Str)) (Str) 4 _ _).lt, fun h => (Fs.snd rfl (Fs.snd rfl (Fs.snd rfl (Fs.snd rfl (Fs.fst rfl)))) : Fs (Int × Str × Str × Str × Str × Int × (List Str)) (Str) 4 _ _).lens h⟩
instance : Fs Vm.Op (Int) 5 (fun x => x.At) (fun x y => Vm.Op.mk x.Kind x.Branch x.Who x.Path x.To y x.Text) := ⟨(Fs.snd rfl (Fs.snd rfl (Fs.snd rfl (Fs.snd rfl (Fs.snd rfl (Fs.fst rfl))))) : Fs (Int × Str × Str × Str × Str × Int × (List Str)) (Int) 5 _ _).lt, fun h => (Fs.snd rfl (Fs.snd rfl (Fs.snd rfl (Fs.snd rfl (Fs.snd rfl (Fs.fst rfl))))) : Fs (Int × Str × Str × Str × Str × Int × (List Str)) (Int) 5 _ _).lens h⟩
instance : Fs Vm.Op (List Str) 6 (fun x => x.Text) (fun x y => Vm.Op.mk x.Kind x.Branch x.Who x.Path x.To x.At y) := ⟨(Fs.snd rfl (Fs.snd rfl (Fs.snd rfl (Fs.snd rfl (Fs.snd rfl (Fs.snd rfl (Fs.self rfl)))))) : Fs (Int × Str × Str × Str × Str × Int × (List Str)) (List Str) 6 _ _).lt, fun h => (Fs.snd rfl (Fs.snd rfl (Fs.snd rfl (Fs.snd rfl (Fs.snd rfl (Fs.snd rfl (Fs.self rfl)))))) : Fs (Int × Str × Str × Str × Str × Int × (List Str)) (List Str) 6 _ _).lens h⟩
instance : Fl Vm.Op (List Str) 6 (fun x => x.Text) (fun x y => Vm.Op.mk x.Kind x.Branch x.Who x.Path x.To x.At y) := ⟨fun h => (Fl.snd rfl (Fl.snd rfl (Fl.snd rfl (Fl.snd rfl (Fl.snd rfl (Fl.snd rfl (Fl.self rfl)))))) : Fl (Int × Str × Str × Str × Str × Int × (List Str)) (List Str) 6 _ _).lens h⟩
theorem Op.rd {W : CW} {K : List Nat} {c6 : Value} (x0 : Int) (x1 : Str) (x2 : Str) (x3 : Str) (x4 : Str) (x5 : Int) (x6 : List Str) (h6 : Rd W K [c6] x6) : Rd W K [vI x0, vS x1, vS x2, vS x3, vS x4, vI x5, c6] (Vm.Op.mk x0 x1 x2 x3 x4 x5 x6) := (Rd.join (rdI x0) (Rd.join (rdS x1) (Rd.join (rdS x2) (Rd.join (rdS x3) (Rd.join (rdS x4) (Rd.join (rdI x5) h6))))))
instance : Rp Clash := Rp.iso (β := Str × Int) 173 (fun x => (x.Path, x.Kind)) 163
instance : Atm Clash := ⟨fun h => Atm.own (α := Str × Int) h⟩
instance : Pl Clash := ⟨fun h => Pl.pl (α := Str × Int) h⟩
instance : Zr Clash where
  z := Vm.Clash.mk [] 0
  cs := Zr.cs (Str × Int)
  own := Zr.own (α := Str × Int)
theorem Clash.split {W : CW} {K : List Nat} {cs : List Value} {x : Vm.Clash} (h : Rd W K cs x) : cs = [vS x.Path, vI x.Kind] := by
  replace h : Rd W K cs (x.Path, x.Kind) := h
  obtain ⟨c0, d0, rfl, h0, k0⟩ := h.split
  obtain ⟨u0, rfl, _⟩ := Rd.one h0 rfl
  obtain ⟨u1, rfl, _⟩ := Rd.one k0 rfl
  obtain rfl := Rd.str h0
  obtain rfl := Rd.int k0
  exact rfl
theorem Clash.at0 {W : CW} {K : List Nat} {p : Addr} {x : Vm.Clash} (h : At W K p x) : At W K (p.add 0) x.Path := by
  replace h : At W K p (x.Path, x.Kind) := h
  replace h := h.fst
  exact (zgP p).symm ▸ h
theorem Clash.at1 {W : CW} {K : List Nat} {p : Addr} {x : Vm.Clash} (h : At W K p x) : At W K (p.add 1) x.Kind := by
  replace h : At W K p (x.Path, x.Kind) := h
  replace h := h.snd
  exact h
instance : Fs Vm.Clash (Str) 0 (fun x => x.Path) (fun x y => Vm.Clash.mk y x.Kind) := ⟨(Fs.fst rfl : Fs (Str × Int) (Str) 0 _ _).lt, fun h => (Fs.fst rfl : Fs (Str × Int) (Str) 0 _ _).lens h⟩
instance : Fs Vm.Clash (Int) 1 (fun x => x.Kind) (fun x y => Vm.Clash.mk x.Path y) := ⟨(Fs.snd rfl (Fs.self rfl) : Fs (Str × Int) (Int) 1 _ _).lt, fun h => (Fs.snd rfl (Fs.self rfl) : Fs (Str × Int) (Int) 1 _ _).lens h⟩
theorem Clash.rd {W : CW} {K : List Nat} (x0 : Str) (x1 : Int) : Rd W K [vS x0, vI x1] (Vm.Clash.mk x0 x1) := (Rd.join (rdS x0) (rdI x1))
instance : Rp Part := Rp.iso (β := Bool × (List Str) × (List Str) × (List Str) × (List Str)) 190 (fun x => (x.Clash, x.Lines, x.Old, x.One, x.Two)) 187
instance : Zr Part where
  z := Vm.Part.mk false [] [] [] []
  cs := Zr.cs (Bool × (List Str) × (List Str) × (List Str) × (List Str))
  own := Zr.own (α := Bool × (List Str) × (List Str) × (List Str) × (List Str))
theorem Part.split {W : CW} {K : List Nat} {cs : List Value} {x : Vm.Part} (h : Rd W K cs x) : ∃ c1 c2 c3 c4 : Value, cs = [vB x.Clash, c1, c2, c3, c4] ∧ Rd W K [c1] x.Lines ∧ Rd W K [c2] x.Old ∧ Rd W K [c3] x.One ∧ Rd W K [c4] x.Two := by
  replace h : Rd W K cs (x.Clash, x.Lines, x.Old, x.One, x.Two) := h
  obtain ⟨c0, d0, rfl, h0, k0⟩ := h.split
  obtain ⟨c1, d1, rfl, h1, k1⟩ := Rd.split k0
  obtain ⟨c2, d2, rfl, h2, k2⟩ := Rd.split k1
  obtain ⟨c3, d3, rfl, h3, k3⟩ := Rd.split k2
  obtain ⟨u0, rfl, _⟩ := Rd.one h0 rfl
  obtain ⟨u1, rfl, _⟩ := Rd.one h1 rfl
  obtain ⟨u2, rfl, _⟩ := Rd.one h2 rfl
  obtain ⟨u3, rfl, _⟩ := Rd.one h3 rfl
  obtain ⟨u4, rfl, _⟩ := Rd.one k3 rfl
  obtain rfl := Rd.bool h0
  exact ⟨u1, u2, u3, u4, rfl, h1, h2, h3, k3⟩
theorem Part.at0 {W : CW} {K : List Nat} {p : Addr} {x : Vm.Part} (h : At W K p x) : At W K (p.add 0) x.Clash := by
  replace h : At W K p (x.Clash, x.Lines, x.Old, x.One, x.Two) := h
  replace h := h.fst
  exact (zgP p).symm ▸ h
theorem Part.at1 {W : CW} {K : List Nat} {p : Addr} {x : Vm.Part} (h : At W K p x) : At W K (p.add 1) x.Lines := by
  replace h : At W K p (x.Clash, x.Lines, x.Old, x.One, x.Two) := h
  replace h := h.snd
  replace h := h.fst
  exact h
theorem Part.at2 {W : CW} {K : List Nat} {p : Addr} {x : Vm.Part} (h : At W K p x) : At W K (p.add 2) x.Old := by
  replace h : At W K p (x.Clash, x.Lines, x.Old, x.One, x.Two) := h
  replace h := h.snd
  replace h := h.snd
  replace h := h.fst
  rw [zfD] at h
  exact h
theorem Part.own {W : CW} {K J1 J2 J3 J4 : List Nat} {c1 c2 c3 c4 : Value} (x0 : Bool) (x1 : List Str) (x2 : List Str) (x3 : List Str) (x4 : List Str) (h1 : OwS W J1 K [c1] x1) (h2 : OwS W J2 K [c2] x2) (h3 : OwS W J3 K [c3] x3) (h4 : OwS W J4 K [c4] x4) (d0 : zen ([]) (J1 ++ (J2 ++ (J3 ++ (J4)))) = true := by rfl) (d1 : zen (J1) (J2 ++ (J3 ++ (J4))) = true := by rfl) (d2 : zen (J2) (J3 ++ (J4)) = true := by rfl) (d3 : zen (J3) (J4) = true := by rfl) : OwS W ([] ++ (J1 ++ (J2 ++ (J3 ++ (J4))))) K [vB x0, c1, c2, c3, c4] (Vm.Part.mk x0 x1 x2 x3 x4) := (OwS.pair (OwS.atm (rdB x0)) (OwS.pair h1 (OwS.pair h2 (OwS.pair h3 h4 d3) d2) d1) d0)
instance : Fs Vm.Part (Bool) 0 (fun x => x.Clash) (fun x y => Vm.Part.mk y x.Lines x.Old x.One x.Two) := ⟨(Fs.fst rfl : Fs (Bool × (List Str) × (List Str) × (List Str) × (List Str)) (Bool) 0 _ _).lt, fun h => (Fs.fst rfl : Fs (Bool × (List Str) × (List Str) × (List Str) × (List Str)) (Bool) 0 _ _).lens h⟩
instance : Fs Vm.Part (List Str) 1 (fun x => x.Lines) (fun x y => Vm.Part.mk x.Clash y x.Old x.One x.Two) := ⟨(Fs.snd rfl (Fs.fst rfl) : Fs (Bool × (List Str) × (List Str) × (List Str) × (List Str)) (List Str) 1 _ _).lt, fun h => (Fs.snd rfl (Fs.fst rfl) : Fs (Bool × (List Str) × (List Str) × (List Str) × (List Str)) (List Str) 1 _ _).lens h⟩
instance : Fs Vm.Part (List Str) 2 (fun x => x.Old) (fun x y => Vm.Part.mk x.Clash x.Lines y x.One x.Two) := ⟨(Fs.snd rfl (Fs.snd rfl (Fs.fst rfl)) : Fs (Bool × (List Str) × (List Str) × (List Str) × (List Str)) (List Str) 2 _ _).lt, fun h => (Fs.snd rfl (Fs.snd rfl (Fs.fst rfl)) : Fs (Bool × (List Str) × (List Str) × (List Str) × (List Str)) (List Str) 2 _ _).lens h⟩
instance : Fs Vm.Part (List Str) 3 (fun x => x.One) (fun x y => Vm.Part.mk x.Clash x.Lines x.Old y x.Two) := ⟨(Fs.snd rfl (Fs.snd rfl (Fs.snd rfl (Fs.fst rfl))) : Fs (Bool × (List Str) × (List Str) × (List Str) × (List Str)) (List Str) 3 _ _).lt, fun h => (Fs.snd rfl (Fs.snd rfl (Fs.snd rfl (Fs.fst rfl))) : Fs (Bool × (List Str) × (List Str) × (List Str) × (List Str)) (List Str) 3 _ _).lens h⟩
instance : Fs Vm.Part (List Str) 4 (fun x => x.Two) (fun x y => Vm.Part.mk x.Clash x.Lines x.Old x.One y) := ⟨(Fs.snd rfl (Fs.snd rfl (Fs.snd rfl (Fs.snd rfl (Fs.self rfl)))) : Fs (Bool × (List Str) × (List Str) × (List Str) × (List Str)) (List Str) 4 _ _).lt, fun h => (Fs.snd rfl (Fs.snd rfl (Fs.snd rfl (Fs.snd rfl (Fs.self rfl)))) : Fs (Bool × (List Str) × (List Str) × (List Str) × (List Str)) (List Str) 4 _ _).lens h⟩
instance : Fl Vm.Part (List Str) 1 (fun x => x.Lines) (fun x y => Vm.Part.mk x.Clash y x.Old x.One x.Two) := ⟨fun h => (Fl.snd rfl (Fl.fst rfl) : Fl (Bool × (List Str) × (List Str) × (List Str) × (List Str)) (List Str) 1 _ _).lens h⟩
instance : Fl Vm.Part (List Str) 2 (fun x => x.Old) (fun x y => Vm.Part.mk x.Clash x.Lines y x.One x.Two) := ⟨fun h => (Fl.snd rfl (Fl.snd rfl (Fl.fst rfl)) : Fl (Bool × (List Str) × (List Str) × (List Str) × (List Str)) (List Str) 2 _ _).lens h⟩
instance : Fl Vm.Part (List Str) 3 (fun x => x.One) (fun x y => Vm.Part.mk x.Clash x.Lines x.Old y x.Two) := ⟨fun h => (Fl.snd rfl (Fl.snd rfl (Fl.snd rfl (Fl.fst rfl))) : Fl (Bool × (List Str) × (List Str) × (List Str) × (List Str)) (List Str) 3 _ _).lens h⟩
instance : Fl Vm.Part (List Str) 4 (fun x => x.Two) (fun x y => Vm.Part.mk x.Clash x.Lines x.Old x.One y) := ⟨fun h => (Fl.snd rfl (Fl.snd rfl (Fl.snd rfl (Fl.snd rfl (Fl.self rfl)))) : Fl (Bool × (List Str) × (List Str) × (List Str) × (List Str)) (List Str) 4 _ _).lens h⟩
theorem Part.rd {W : CW} {K : List Nat} {c1 c2 c3 c4 : Value} (x0 : Bool) (x1 : List Str) (x2 : List Str) (x3 : List Str) (x4 : List Str) (h1 : Rd W K [c1] x1) (h2 : Rd W K [c2] x2) (h3 : Rd W K [c3] x3) (h4 : Rd W K [c4] x4) : Rd W K [vB x0, c1, c2, c3, c4] (Vm.Part.mk x0 x1 x2 x3 x4) := (Rd.join (rdB x0) (Rd.join h1 (Rd.join h2 (Rd.join h3 h4))))
instance : Und Tryz.prog 2 (TypeDesc.int IntKind.i64) := ⟨Tryz.underlying2⟩
instance : Inf Tryz.prog 2 1 8 (Value.int IntKind.i64 0) := ⟨by kernel_rfl⟩
instance : Und Tryz.prog 3 (TypeDesc.int IntKind.i64) := ⟨Tryz.underlying3⟩
instance : Inf Tryz.prog 3 1 8 (Value.int IntKind.i64 0) := ⟨by kernel_rfl⟩
instance : Und Tryz.prog 4 TypeDesc.bool := ⟨Tryz.underlying4⟩
instance : Inf Tryz.prog 4 1 1 (Value.bool false) := ⟨by kernel_rfl⟩
instance : Und Tryz.prog 5 (TypeDesc.int IntKind.u8) := ⟨Tryz.underlying5⟩
instance : Inf Tryz.prog 5 1 1 (Value.int IntKind.u8 0) := ⟨by kernel_rfl⟩
instance : Und Tryz.prog 9 TypeDesc.string := ⟨Tryz.underlying9⟩
instance : Inf Tryz.prog 9 1 16 (Value.string (ByteArray.mk #[])) := ⟨by kernel_rfl⟩
instance : Und Tryz.prog 12 (TypeDesc.int IntKind.u64) := ⟨Tryz.underlying12⟩
instance : Inf Tryz.prog 12 1 8 (Value.int IntKind.u64 0) := ⟨by kernel_rfl⟩
instance : Und Tryz.prog 13 (TypeDesc.struct #[(Field.mk "msg" 9 0 false "" "runtime" 0), (Field.mk "addr" 12 1 false "" "runtime" 16)]) := ⟨Tryz.underlying13⟩
instance : Inf Tryz.prog 13 2 24 (Value.agg #[(Value.string (ByteArray.mk #[])), (Value.int IntKind.u64 0)]) := ⟨by kernel_rfl⟩
instance : Flat Tryz.prog 13 2 := ⟨_, Tryz.underlying13, by kernel_rfl, by kernel_rfl⟩
instance : Fld Tryz.prog 13 0 0 := Flat.fld (n := 2) (by decide)
instance : Fld Tryz.prog 13 1 1 := Flat.fld (n := 2) (by decide)
instance : Und Tryz.prog 21 (TypeDesc.int IntKind.i32) := ⟨Tryz.underlying21⟩
instance : Inf Tryz.prog 21 1 4 (Value.int IntKind.i32 0) := ⟨by kernel_rfl⟩
instance : Und Tryz.prog 22 (TypeDesc.slice 5) := ⟨Tryz.underlying22⟩
instance : Inf Tryz.prog 22 1 24 (Value.slice none 0 0) := ⟨by kernel_rfl⟩
instance : Und Tryz.prog 23 (TypeDesc.slice 40) := ⟨Tryz.underlying23⟩
instance : Inf Tryz.prog 23 1 24 (Value.slice none 0 0) := ⟨by kernel_rfl⟩
instance : Und Tryz.prog 24 (TypeDesc.slice 76) := ⟨Tryz.underlying24⟩
instance : Inf Tryz.prog 24 1 24 (Value.slice none 0 0) := ⟨by kernel_rfl⟩
instance : Und Tryz.prog 25 (TypeDesc.struct #[(Field.mk "Commits" 23 0 false "" "" 0), (Field.mk "Heads" 24 1 false "" "" 24)]) := ⟨Tryz.underlying25⟩
instance : Inf Tryz.prog 25 2 48 (Value.agg #[(Value.slice none 0 0), (Value.slice none 0 0)]) := ⟨by kernel_rfl⟩
instance : Flat Tryz.prog 25 2 := ⟨_, Tryz.underlying25, by kernel_rfl, by kernel_rfl⟩
instance : Fld Tryz.prog 25 0 0 := Flat.fld (n := 2) (by decide)
instance : Fld Tryz.prog 25 1 1 := Flat.fld (n := 2) (by decide)
instance : Und Tryz.prog 26 (TypeDesc.struct #[(Field.mk "Commits" 23 0 false "" "" 0), (Field.mk "Heads" 24 1 false "" "" 24)]) := ⟨Tryz.underlying26⟩
instance : Inf Tryz.prog 26 2 48 (Value.agg #[(Value.slice none 0 0), (Value.slice none 0 0)]) := ⟨by kernel_rfl⟩
instance : Flat Tryz.prog 26 2 := ⟨_, Tryz.underlying26, by kernel_rfl, by kernel_rfl⟩
instance : Fld Tryz.prog 26 0 0 := Flat.fld (n := 2) (by decide)
instance : Fld Tryz.prog 26 1 1 := Flat.fld (n := 2) (by decide)
instance : Und Tryz.prog 28 (TypeDesc.slice 33) := ⟨Tryz.underlying28⟩
instance : Inf Tryz.prog 28 1 24 (Value.slice none 0 0) := ⟨by kernel_rfl⟩
instance : Und Tryz.prog 31 (TypeDesc.slice 62) := ⟨Tryz.underlying31⟩
instance : Inf Tryz.prog 31 1 24 (Value.slice none 0 0) := ⟨by kernel_rfl⟩
instance : Und Tryz.prog 33 (TypeDesc.slice 9) := ⟨Tryz.underlying33⟩
instance : Inf Tryz.prog 33 1 24 (Value.slice none 0 0) := ⟨by kernel_rfl⟩
instance : Und Tryz.prog 37 (TypeDesc.slice 3) := ⟨Tryz.underlying37⟩
instance : Inf Tryz.prog 37 1 24 (Value.slice none 0 0) := ⟨by kernel_rfl⟩
instance : Und Tryz.prog 38 (TypeDesc.slice 42) := ⟨Tryz.underlying38⟩
instance : Inf Tryz.prog 38 1 24 (Value.slice none 0 0) := ⟨by kernel_rfl⟩
instance : Und Tryz.prog 39 (TypeDesc.struct #[(Field.mk "Parents" 37 0 false "" "" 0), (Field.mk "Who" 9 1 false "" "" 24), (Field.mk "Tree" 38 2 false "" "" 40)]) := ⟨Tryz.underlying39⟩
instance : Inf Tryz.prog 39 3 64 (Value.agg #[(Value.slice none 0 0), (Value.string (ByteArray.mk #[])), (Value.slice none 0 0)]) := ⟨by kernel_rfl⟩
instance : Flat Tryz.prog 39 3 := ⟨_, Tryz.underlying39, by kernel_rfl, by kernel_rfl⟩
instance : Fld Tryz.prog 39 0 0 := Flat.fld (n := 3) (by decide)
instance : Fld Tryz.prog 39 1 1 := Flat.fld (n := 3) (by decide)
instance : Fld Tryz.prog 39 2 2 := Flat.fld (n := 3) (by decide)
instance : Und Tryz.prog 40 (TypeDesc.struct #[(Field.mk "Parents" 37 0 false "" "" 0), (Field.mk "Who" 9 1 false "" "" 24), (Field.mk "Tree" 38 2 false "" "" 40)]) := ⟨Tryz.underlying40⟩
instance : Inf Tryz.prog 40 3 64 (Value.agg #[(Value.slice none 0 0), (Value.string (ByteArray.mk #[])), (Value.slice none 0 0)]) := ⟨by kernel_rfl⟩
instance : Flat Tryz.prog 40 3 := ⟨_, Tryz.underlying40, by kernel_rfl, by kernel_rfl⟩
instance : Fld Tryz.prog 40 0 0 := Flat.fld (n := 3) (by decide)
instance : Fld Tryz.prog 40 1 1 := Flat.fld (n := 3) (by decide)
instance : Fld Tryz.prog 40 2 2 := Flat.fld (n := 3) (by decide)
instance : Und Tryz.prog 41 (TypeDesc.struct #[(Field.mk "Path" 9 0 false "" "" 0), (Field.mk "Text" 33 1 false "" "" 16)]) := ⟨Tryz.underlying41⟩
instance : Inf Tryz.prog 41 2 40 (Value.agg #[(Value.string (ByteArray.mk #[])), (Value.slice none 0 0)]) := ⟨by kernel_rfl⟩
instance : Flat Tryz.prog 41 2 := ⟨_, Tryz.underlying41, by kernel_rfl, by kernel_rfl⟩
instance : Fld Tryz.prog 41 0 0 := Flat.fld (n := 2) (by decide)
instance : Fld Tryz.prog 41 1 1 := Flat.fld (n := 2) (by decide)
instance : Und Tryz.prog 42 (TypeDesc.struct #[(Field.mk "Path" 9 0 false "" "" 0), (Field.mk "Text" 33 1 false "" "" 16)]) := ⟨Tryz.underlying42⟩
instance : Inf Tryz.prog 42 2 40 (Value.agg #[(Value.string (ByteArray.mk #[])), (Value.slice none 0 0)]) := ⟨by kernel_rfl⟩
instance : Flat Tryz.prog 42 2 := ⟨_, Tryz.underlying42, by kernel_rfl, by kernel_rfl⟩
instance : Fld Tryz.prog 42 0 0 := Flat.fld (n := 2) (by decide)
instance : Fld Tryz.prog 42 1 1 := Flat.fld (n := 2) (by decide)
instance : Und Tryz.prog 46 (TypeDesc.slice 51) := ⟨Tryz.underlying46⟩
instance : Inf Tryz.prog 46 1 24 (Value.slice none 0 0) := ⟨by kernel_rfl⟩
instance : Und Tryz.prog 50 (TypeDesc.struct #[(Field.mk "Who" 9 0 false "" "" 0), (Field.mk "Many" 3 1 false "" "" 16)]) := ⟨Tryz.underlying50⟩
instance : Inf Tryz.prog 50 2 24 (Value.agg #[(Value.string (ByteArray.mk #[])), (Value.int IntKind.i64 0)]) := ⟨by kernel_rfl⟩
instance : Flat Tryz.prog 50 2 := ⟨_, Tryz.underlying50, by kernel_rfl, by kernel_rfl⟩
instance : Fld Tryz.prog 50 0 0 := Flat.fld (n := 2) (by decide)
instance : Fld Tryz.prog 50 1 1 := Flat.fld (n := 2) (by decide)
instance : Und Tryz.prog 51 (TypeDesc.struct #[(Field.mk "Who" 9 0 false "" "" 0), (Field.mk "Many" 3 1 false "" "" 16)]) := ⟨Tryz.underlying51⟩
instance : Inf Tryz.prog 51 2 24 (Value.agg #[(Value.string (ByteArray.mk #[])), (Value.int IntKind.i64 0)]) := ⟨by kernel_rfl⟩
instance : Ssi Tryz.prog 51 := ⟨by kernel_rfl, by kernel_rfl, _, _, Tryz.underlying51, by decide, by decide, rfl, rfl, Tryz.underlying9, _, Tryz.underlying3⟩
instance : Flat Tryz.prog 51 2 := ⟨_, Tryz.underlying51, by kernel_rfl, by kernel_rfl⟩
instance : Fld Tryz.prog 51 0 0 := Flat.fld (n := 2) (by decide)
instance : Fld Tryz.prog 51 1 1 := Flat.fld (n := 2) (by decide)
instance : Und Tryz.prog 53 (TypeDesc.pointer 78) := ⟨Tryz.underlying53⟩
instance : Inf Tryz.prog 53 1 8 (Value.pointer none) := ⟨by kernel_rfl⟩
instance : Und Tryz.prog 59 (TypeDesc.slice 85) := ⟨Tryz.underlying59⟩
instance : Inf Tryz.prog 59 1 24 (Value.slice none 0 0) := ⟨by kernel_rfl⟩
instance : Und Tryz.prog 61 (TypeDesc.struct #[(Field.mk "Base" 3 0 false "" "" 0), (Field.mk "Delta" 59 1 false "" "" 8)]) := ⟨Tryz.underlying61⟩
instance : Inf Tryz.prog 61 2 32 (Value.agg #[(Value.int IntKind.i64 0), (Value.slice none 0 0)]) := ⟨by kernel_rfl⟩
instance : Flat Tryz.prog 61 2 := ⟨_, Tryz.underlying61, by kernel_rfl, by kernel_rfl⟩
instance : Fld Tryz.prog 61 0 0 := Flat.fld (n := 2) (by decide)
instance : Fld Tryz.prog 61 1 1 := Flat.fld (n := 2) (by decide)
instance : Und Tryz.prog 62 (TypeDesc.struct #[(Field.mk "Base" 3 0 false "" "" 0), (Field.mk "Delta" 59 1 false "" "" 8)]) := ⟨Tryz.underlying62⟩
instance : Inf Tryz.prog 62 2 32 (Value.agg #[(Value.int IntKind.i64 0), (Value.slice none 0 0)]) := ⟨by kernel_rfl⟩
instance : Flat Tryz.prog 62 2 := ⟨_, Tryz.underlying62, by kernel_rfl, by kernel_rfl⟩
instance : Fld Tryz.prog 62 0 0 := Flat.fld (n := 2) (by decide)
instance : Fld Tryz.prog 62 1 1 := Flat.fld (n := 2) (by decide)
instance : Und Tryz.prog 75 (TypeDesc.struct #[(Field.mk "Name" 9 0 false "" "" 0), (Field.mk "At" 3 1 false "" "" 16)]) := ⟨Tryz.underlying75⟩
instance : Inf Tryz.prog 75 2 24 (Value.agg #[(Value.string (ByteArray.mk #[])), (Value.int IntKind.i64 0)]) := ⟨by kernel_rfl⟩
instance : Flat Tryz.prog 75 2 := ⟨_, Tryz.underlying75, by kernel_rfl, by kernel_rfl⟩
instance : Fld Tryz.prog 75 0 0 := Flat.fld (n := 2) (by decide)
instance : Fld Tryz.prog 75 1 1 := Flat.fld (n := 2) (by decide)
instance : Und Tryz.prog 76 (TypeDesc.struct #[(Field.mk "Name" 9 0 false "" "" 0), (Field.mk "At" 3 1 false "" "" 16)]) := ⟨Tryz.underlying76⟩
instance : Inf Tryz.prog 76 2 24 (Value.agg #[(Value.string (ByteArray.mk #[])), (Value.int IntKind.i64 0)]) := ⟨by kernel_rfl⟩
instance : Ssi Tryz.prog 76 := ⟨by kernel_rfl, by kernel_rfl, _, _, Tryz.underlying76, by decide, by decide, rfl, rfl, Tryz.underlying9, _, Tryz.underlying3⟩
instance : Flat Tryz.prog 76 2 := ⟨_, Tryz.underlying76, by kernel_rfl, by kernel_rfl⟩
instance : Fld Tryz.prog 76 0 0 := Flat.fld (n := 2) (by decide)
instance : Fld Tryz.prog 76 1 1 := Flat.fld (n := 2) (by decide)
instance : Und Tryz.prog 77 (TypeDesc.struct #[(Field.mk "b" 22 0 false "" "loop.example/versioncontrol/spec" 0), (Field.mk "p" 3 1 false "" "loop.example/versioncontrol/spec" 24)]) := ⟨Tryz.underlying77⟩
instance : Inf Tryz.prog 77 2 32 (Value.agg #[(Value.slice none 0 0), (Value.int IntKind.i64 0)]) := ⟨by kernel_rfl⟩
instance : Flat Tryz.prog 77 2 := ⟨_, Tryz.underlying77, by kernel_rfl, by kernel_rfl⟩
instance : Fld Tryz.prog 77 0 0 := Flat.fld (n := 2) (by decide)
instance : Fld Tryz.prog 77 1 1 := Flat.fld (n := 2) (by decide)
instance : Und Tryz.prog 78 (TypeDesc.struct #[(Field.mk "b" 22 0 false "" "loop.example/versioncontrol/spec" 0), (Field.mk "p" 3 1 false "" "loop.example/versioncontrol/spec" 24)]) := ⟨Tryz.underlying78⟩
instance : Inf Tryz.prog 78 2 32 (Value.agg #[(Value.slice none 0 0), (Value.int IntKind.i64 0)]) := ⟨by kernel_rfl⟩
instance : Flat Tryz.prog 78 2 := ⟨_, Tryz.underlying78, by kernel_rfl, by kernel_rfl⟩
instance : Fld Tryz.prog 78 0 0 := Flat.fld (n := 2) (by decide)
instance : Fld Tryz.prog 78 1 1 := Flat.fld (n := 2) (by decide)
instance : Und Tryz.prog 84 (TypeDesc.struct #[(Field.mk "From" 3 0 false "" "" 0), (Field.mk "Many" 3 1 false "" "" 8), (Field.mk "Lines" 33 2 false "" "" 16)]) := ⟨Tryz.underlying84⟩
instance : Inf Tryz.prog 84 3 40 (Value.agg #[(Value.int IntKind.i64 0), (Value.int IntKind.i64 0), (Value.slice none 0 0)]) := ⟨by kernel_rfl⟩
instance : Flat Tryz.prog 84 3 := ⟨_, Tryz.underlying84, by kernel_rfl, by kernel_rfl⟩
instance : Fld Tryz.prog 84 0 0 := Flat.fld (n := 3) (by decide)
instance : Fld Tryz.prog 84 1 1 := Flat.fld (n := 3) (by decide)
instance : Fld Tryz.prog 84 2 2 := Flat.fld (n := 3) (by decide)
instance : Und Tryz.prog 85 (TypeDesc.struct #[(Field.mk "From" 3 0 false "" "" 0), (Field.mk "Many" 3 1 false "" "" 8), (Field.mk "Lines" 33 2 false "" "" 16)]) := ⟨Tryz.underlying85⟩
instance : Inf Tryz.prog 85 3 40 (Value.agg #[(Value.int IntKind.i64 0), (Value.int IntKind.i64 0), (Value.slice none 0 0)]) := ⟨by kernel_rfl⟩
instance : Flat Tryz.prog 85 3 := ⟨_, Tryz.underlying85, by kernel_rfl, by kernel_rfl⟩
instance : Fld Tryz.prog 85 0 0 := Flat.fld (n := 3) (by decide)
instance : Fld Tryz.prog 85 1 1 := Flat.fld (n := 3) (by decide)
instance : Fld Tryz.prog 85 2 2 := Flat.fld (n := 3) (by decide)
instance : Und Tryz.prog 96 (TypeDesc.slice 112) := ⟨Tryz.underlying96⟩
instance : Inf Tryz.prog 96 1 24 (Value.slice none 0 0) := ⟨by kernel_rfl⟩
instance : Und Tryz.prog 106 (TypeDesc.int IntKind.u64) := ⟨Tryz.underlying106⟩
instance : Inf Tryz.prog 106 1 8 (Value.int IntKind.u64 0) := ⟨by kernel_rfl⟩
instance : Und Tryz.prog 107 (TypeDesc.slice 37) := ⟨Tryz.underlying107⟩
instance : Inf Tryz.prog 107 1 24 (Value.slice none 0 0) := ⟨by kernel_rfl⟩
instance : Und Tryz.prog 111 (TypeDesc.struct #[(Field.mk "Kind" 3 0 false "" "" 0), (Field.mk "Branch" 9 1 false "" "" 8), (Field.mk "Who" 9 2 false "" "" 24), (Field.mk "Path" 9 3 false "" "" 40), (Field.mk "To" 9 4 false "" "" 56), (Field.mk "At" 3 5 false "" "" 72), (Field.mk "Text" 33 6 false "" "" 80)]) := ⟨Tryz.underlying111⟩
instance : Inf Tryz.prog 111 7 104 (Value.agg #[(Value.int IntKind.i64 0), (Value.string (ByteArray.mk #[])), (Value.string (ByteArray.mk #[])), (Value.string (ByteArray.mk #[])), (Value.string (ByteArray.mk #[])), (Value.int IntKind.i64 0), (Value.slice none 0 0)]) := ⟨by kernel_rfl⟩
instance : Flat Tryz.prog 111 7 := ⟨_, Tryz.underlying111, by kernel_rfl, by kernel_rfl⟩
instance : Fld Tryz.prog 111 0 0 := Flat.fld (n := 7) (by decide)
instance : Fld Tryz.prog 111 1 1 := Flat.fld (n := 7) (by decide)
instance : Fld Tryz.prog 111 2 2 := Flat.fld (n := 7) (by decide)
instance : Fld Tryz.prog 111 3 3 := Flat.fld (n := 7) (by decide)
instance : Fld Tryz.prog 111 4 4 := Flat.fld (n := 7) (by decide)
instance : Fld Tryz.prog 111 5 5 := Flat.fld (n := 7) (by decide)
instance : Fld Tryz.prog 111 6 6 := Flat.fld (n := 7) (by decide)
instance : Und Tryz.prog 112 (TypeDesc.struct #[(Field.mk "Kind" 3 0 false "" "" 0), (Field.mk "Branch" 9 1 false "" "" 8), (Field.mk "Who" 9 2 false "" "" 24), (Field.mk "Path" 9 3 false "" "" 40), (Field.mk "To" 9 4 false "" "" 56), (Field.mk "At" 3 5 false "" "" 72), (Field.mk "Text" 33 6 false "" "" 80)]) := ⟨Tryz.underlying112⟩
instance : Inf Tryz.prog 112 7 104 (Value.agg #[(Value.int IntKind.i64 0), (Value.string (ByteArray.mk #[])), (Value.string (ByteArray.mk #[])), (Value.string (ByteArray.mk #[])), (Value.string (ByteArray.mk #[])), (Value.int IntKind.i64 0), (Value.slice none 0 0)]) := ⟨by kernel_rfl⟩
instance : Flat Tryz.prog 112 7 := ⟨_, Tryz.underlying112, by kernel_rfl, by kernel_rfl⟩
instance : Fld Tryz.prog 112 0 0 := Flat.fld (n := 7) (by decide)
instance : Fld Tryz.prog 112 1 1 := Flat.fld (n := 7) (by decide)
instance : Fld Tryz.prog 112 2 2 := Flat.fld (n := 7) (by decide)
instance : Fld Tryz.prog 112 3 3 := Flat.fld (n := 7) (by decide)
instance : Fld Tryz.prog 112 4 4 := Flat.fld (n := 7) (by decide)
instance : Fld Tryz.prog 112 5 5 := Flat.fld (n := 7) (by decide)
instance : Fld Tryz.prog 112 6 6 := Flat.fld (n := 7) (by decide)
instance : Und Tryz.prog 119 (TypeDesc.int IntKind.i64) := ⟨Tryz.underlying119⟩
instance : Inf Tryz.prog 119 1 8 (Value.int IntKind.i64 0) := ⟨by kernel_rfl⟩
instance : Und Tryz.prog 127 (TypeDesc.int IntKind.u32) := ⟨Tryz.underlying127⟩
instance : Inf Tryz.prog 127 1 4 (Value.int IntKind.u32 0) := ⟨by kernel_rfl⟩
instance : Und Tryz.prog 129 (TypeDesc.int IntKind.u64) := ⟨Tryz.underlying129⟩
instance : Inf Tryz.prog 129 1 8 (Value.int IntKind.u64 0) := ⟨by kernel_rfl⟩
instance : Und Tryz.prog 143 (TypeDesc.int IntKind.u64) := ⟨Tryz.underlying143⟩
instance : Inf Tryz.prog 143 1 8 (Value.int IntKind.u64 0) := ⟨by kernel_rfl⟩
instance : Und Tryz.prog 147 (TypeDesc.pointer 3) := ⟨Tryz.underlying147⟩
instance : Inf Tryz.prog 147 1 8 (Value.pointer none) := ⟨by kernel_rfl⟩
instance : Und Tryz.prog 157 (TypeDesc.pointer 143) := ⟨Tryz.underlying157⟩
instance : Inf Tryz.prog 157 1 8 (Value.pointer none) := ⟨by kernel_rfl⟩
instance : Und Tryz.prog 163 (TypeDesc.slice 173) := ⟨Tryz.underlying163⟩
instance : Inf Tryz.prog 163 1 24 (Value.slice none 0 0) := ⟨by kernel_rfl⟩
instance : Und Tryz.prog 171 (TypeDesc.slice 4) := ⟨Tryz.underlying171⟩
instance : Inf Tryz.prog 171 1 24 (Value.slice none 0 0) := ⟨by kernel_rfl⟩
instance : Und Tryz.prog 172 (TypeDesc.struct #[(Field.mk "Path" 9 0 false "" "" 0), (Field.mk "Kind" 3 1 false "" "" 16)]) := ⟨Tryz.underlying172⟩
instance : Inf Tryz.prog 172 2 24 (Value.agg #[(Value.string (ByteArray.mk #[])), (Value.int IntKind.i64 0)]) := ⟨by kernel_rfl⟩
instance : Flat Tryz.prog 172 2 := ⟨_, Tryz.underlying172, by kernel_rfl, by kernel_rfl⟩
instance : Fld Tryz.prog 172 0 0 := Flat.fld (n := 2) (by decide)
instance : Fld Tryz.prog 172 1 1 := Flat.fld (n := 2) (by decide)
instance : Und Tryz.prog 173 (TypeDesc.struct #[(Field.mk "Path" 9 0 false "" "" 0), (Field.mk "Kind" 3 1 false "" "" 16)]) := ⟨Tryz.underlying173⟩
instance : Inf Tryz.prog 173 2 24 (Value.agg #[(Value.string (ByteArray.mk #[])), (Value.int IntKind.i64 0)]) := ⟨by kernel_rfl⟩
instance : Ssi Tryz.prog 173 := ⟨by kernel_rfl, by kernel_rfl, _, _, Tryz.underlying173, by decide, by decide, rfl, rfl, Tryz.underlying9, _, Tryz.underlying3⟩
instance : Flat Tryz.prog 173 2 := ⟨_, Tryz.underlying173, by kernel_rfl, by kernel_rfl⟩
instance : Fld Tryz.prog 173 0 0 := Flat.fld (n := 2) (by decide)
instance : Fld Tryz.prog 173 1 1 := Flat.fld (n := 2) (by decide)
instance : Und Tryz.prog 179 (TypeDesc.struct #[(Field.mk "lo" 5 0 false "" "unicode/utf8" 0), (Field.mk "hi" 5 1 false "" "unicode/utf8" 1)]) := ⟨Tryz.underlying179⟩
instance : Inf Tryz.prog 179 2 2 (Value.agg #[(Value.int IntKind.u8 0), (Value.int IntKind.u8 0)]) := ⟨by kernel_rfl⟩
instance : Flat Tryz.prog 179 2 := ⟨_, Tryz.underlying179, by kernel_rfl, by kernel_rfl⟩
instance : Fld Tryz.prog 179 0 0 := Flat.fld (n := 2) (by decide)
instance : Fld Tryz.prog 179 1 1 := Flat.fld (n := 2) (by decide)
instance : Und Tryz.prog 180 (TypeDesc.struct #[(Field.mk "lo" 5 0 false "" "unicode/utf8" 0), (Field.mk "hi" 5 1 false "" "unicode/utf8" 1)]) := ⟨Tryz.underlying180⟩
instance : Inf Tryz.prog 180 2 2 (Value.agg #[(Value.int IntKind.u8 0), (Value.int IntKind.u8 0)]) := ⟨by kernel_rfl⟩
instance : Flat Tryz.prog 180 2 := ⟨_, Tryz.underlying180, by kernel_rfl, by kernel_rfl⟩
instance : Fld Tryz.prog 180 0 0 := Flat.fld (n := 2) (by decide)
instance : Fld Tryz.prog 180 1 1 := Flat.fld (n := 2) (by decide)
instance : Und Tryz.prog 187 (TypeDesc.slice 190) := ⟨Tryz.underlying187⟩
instance : Inf Tryz.prog 187 1 24 (Value.slice none 0 0) := ⟨by kernel_rfl⟩
instance : Und Tryz.prog 189 (TypeDesc.struct #[(Field.mk "Clash" 4 0 false "" "" 0), (Field.mk "Lines" 33 1 false "" "" 8), (Field.mk "Old" 33 2 false "" "" 32), (Field.mk "One" 33 3 false "" "" 56), (Field.mk "Two" 33 4 false "" "" 80)]) := ⟨Tryz.underlying189⟩
instance : Inf Tryz.prog 189 5 104 (Value.agg #[(Value.bool false), (Value.slice none 0 0), (Value.slice none 0 0), (Value.slice none 0 0), (Value.slice none 0 0)]) := ⟨by kernel_rfl⟩
instance : Flat Tryz.prog 189 5 := ⟨_, Tryz.underlying189, by kernel_rfl, by kernel_rfl⟩
instance : Fld Tryz.prog 189 0 0 := Flat.fld (n := 5) (by decide)
instance : Fld Tryz.prog 189 1 1 := Flat.fld (n := 5) (by decide)
instance : Fld Tryz.prog 189 2 2 := Flat.fld (n := 5) (by decide)
instance : Fld Tryz.prog 189 3 3 := Flat.fld (n := 5) (by decide)
instance : Fld Tryz.prog 189 4 4 := Flat.fld (n := 5) (by decide)
instance : Und Tryz.prog 190 (TypeDesc.struct #[(Field.mk "Clash" 4 0 false "" "" 0), (Field.mk "Lines" 33 1 false "" "" 8), (Field.mk "Old" 33 2 false "" "" 32), (Field.mk "One" 33 3 false "" "" 56), (Field.mk "Two" 33 4 false "" "" 80)]) := ⟨Tryz.underlying190⟩
instance : Inf Tryz.prog 190 5 104 (Value.agg #[(Value.bool false), (Value.slice none 0 0), (Value.slice none 0 0), (Value.slice none 0 0), (Value.slice none 0 0)]) := ⟨by kernel_rfl⟩
instance : Flat Tryz.prog 190 5 := ⟨_, Tryz.underlying190, by kernel_rfl, by kernel_rfl⟩
instance : Fld Tryz.prog 190 0 0 := Flat.fld (n := 5) (by decide)
instance : Fld Tryz.prog 190 1 1 := Flat.fld (n := 5) (by decide)
instance : Fld Tryz.prog 190 2 2 := Flat.fld (n := 5) (by decide)
instance : Fld Tryz.prog 190 3 3 := Flat.fld (n := 5) (by decide)
instance : Fld Tryz.prog 190 4 4 := Flat.fld (n := 5) (by decide)
instance : Und Tryz.prog 203 (TypeDesc.pointer 5) := ⟨Tryz.underlying203⟩
instance : Inf Tryz.prog 203 1 8 (Value.pointer none) := ⟨by kernel_rfl⟩
instance : Fun Tryz.prog 3 := ⟨_, Tryz.func3, by kernel_rfl, by kernel_rfl⟩
instance : Fun Tryz.prog 5 := ⟨_, Tryz.func5, by kernel_rfl, by kernel_rfl⟩
instance : Fun Tryz.prog 6 := ⟨_, Tryz.func6, by kernel_rfl, by kernel_rfl⟩
instance : Fun Tryz.prog 7 := ⟨_, Tryz.func7, by kernel_rfl, by kernel_rfl⟩
instance : Fun Tryz.prog 8 := ⟨_, Tryz.func8, by kernel_rfl, by kernel_rfl⟩
instance : Fun Tryz.prog 9 := ⟨_, Tryz.func9, by kernel_rfl, by kernel_rfl⟩
instance : Fun Tryz.prog 10 := ⟨_, Tryz.func10, by kernel_rfl, by kernel_rfl⟩
instance : Fun Tryz.prog 16 := ⟨_, Tryz.func16, by kernel_rfl, by kernel_rfl⟩
instance : Fun Tryz.prog 17 := ⟨_, Tryz.func17, by kernel_rfl, by kernel_rfl⟩
instance : Fun Tryz.prog 18 := ⟨_, Tryz.func18, by kernel_rfl, by kernel_rfl⟩
instance : Fun Tryz.prog 19 := ⟨_, Tryz.func19, by kernel_rfl, by kernel_rfl⟩
instance : Fun Tryz.prog 20 := ⟨_, Tryz.func20, by kernel_rfl, by kernel_rfl⟩
instance : Fun Tryz.prog 21 := ⟨_, Tryz.func21, by kernel_rfl, by kernel_rfl⟩
instance : Fun Tryz.prog 22 := ⟨_, Tryz.func22, by kernel_rfl, by kernel_rfl⟩
instance : Fun Tryz.prog 23 := ⟨_, Tryz.func23, by kernel_rfl, by kernel_rfl⟩
instance : Fun Tryz.prog 24 := ⟨_, Tryz.func24, by kernel_rfl, by kernel_rfl⟩
instance : Fun Tryz.prog 25 := ⟨_, Tryz.func25, by kernel_rfl, by kernel_rfl⟩
instance : Fun Tryz.prog 26 := ⟨_, Tryz.func26, by kernel_rfl, by kernel_rfl⟩
instance : Fun Tryz.prog 27 := ⟨_, Tryz.func27, by kernel_rfl, by kernel_rfl⟩
instance : Fun Tryz.prog 28 := ⟨_, Tryz.func28, by kernel_rfl, by kernel_rfl⟩
instance : Fun Tryz.prog 29 := ⟨_, Tryz.func29, by kernel_rfl, by kernel_rfl⟩
instance : Fun Tryz.prog 36 := ⟨_, Tryz.func36, by kernel_rfl, by kernel_rfl⟩
instance : Fun Tryz.prog 37 := ⟨_, Tryz.func37, by kernel_rfl, by kernel_rfl⟩
instance : Fun Tryz.prog 38 := ⟨_, Tryz.func38, by kernel_rfl, by kernel_rfl⟩
instance : Fun Tryz.prog 39 := ⟨_, Tryz.func39, by kernel_rfl, by kernel_rfl⟩
instance : Fun Tryz.prog 40 := ⟨_, Tryz.func40, by kernel_rfl, by kernel_rfl⟩
instance : Fun Tryz.prog 41 := ⟨_, Tryz.func41, by kernel_rfl, by kernel_rfl⟩
instance : Fun Tryz.prog 42 := ⟨_, Tryz.func42, by kernel_rfl, by kernel_rfl⟩
instance : Fun Tryz.prog 43 := ⟨_, Tryz.func43, by kernel_rfl, by kernel_rfl⟩
instance : Fun Tryz.prog 44 := ⟨_, Tryz.func44, by kernel_rfl, by kernel_rfl⟩
instance : Fun Tryz.prog 45 := ⟨_, Tryz.func45, by kernel_rfl, by kernel_rfl⟩
instance : Fun Tryz.prog 46 := ⟨_, Tryz.func46, by kernel_rfl, by kernel_rfl⟩
instance : Fun Tryz.prog 47 := ⟨_, Tryz.func47, by kernel_rfl, by kernel_rfl⟩
instance : Fun Tryz.prog 49 := ⟨_, Tryz.func49, by kernel_rfl, by kernel_rfl⟩
instance : Fun Tryz.prog 54 := ⟨_, Tryz.func54, by kernel_rfl, by kernel_rfl⟩
instance : Fun Tryz.prog 59 := ⟨_, Tryz.func59, by kernel_rfl, by kernel_rfl⟩
instance : Fun Tryz.prog 60 := ⟨_, Tryz.func60, by kernel_rfl, by kernel_rfl⟩
instance : Fun Tryz.prog 61 := ⟨_, Tryz.func61, by kernel_rfl, by kernel_rfl⟩
instance : Fun Tryz.prog 62 := ⟨_, Tryz.func62, by kernel_rfl, by kernel_rfl⟩
instance : Fun Tryz.prog 63 := ⟨_, Tryz.func63, by kernel_rfl, by kernel_rfl⟩
instance : Fun Tryz.prog 64 := ⟨_, Tryz.func64, by kernel_rfl, by kernel_rfl⟩
instance : Fun Tryz.prog 65 := ⟨_, Tryz.func65, by kernel_rfl, by kernel_rfl⟩
instance : Fun Tryz.prog 66 := ⟨_, Tryz.func66, by kernel_rfl, by kernel_rfl⟩
instance : Fun Tryz.prog 67 := ⟨_, Tryz.func67, by kernel_rfl, by kernel_rfl⟩
instance : Fun Tryz.prog 68 := ⟨_, Tryz.func68, by kernel_rfl, by kernel_rfl⟩
instance : Fun Tryz.prog 69 := ⟨_, Tryz.func69, by kernel_rfl, by kernel_rfl⟩
instance : Fun Tryz.prog 70 := ⟨_, Tryz.func70, by kernel_rfl, by kernel_rfl⟩
instance : Fun Tryz.prog 74 := ⟨_, Tryz.func74, by kernel_rfl, by kernel_rfl⟩
instance : Fun Tryz.prog 75 := ⟨_, Tryz.func75, by kernel_rfl, by kernel_rfl⟩
instance : Fun Tryz.prog 77 := ⟨_, Tryz.func77, by kernel_rfl, by kernel_rfl⟩
instance : Fun Tryz.prog 78 := ⟨_, Tryz.func78, by kernel_rfl, by kernel_rfl⟩
instance : Fun Tryz.prog 79 := ⟨_, Tryz.func79, by kernel_rfl, by kernel_rfl⟩
instance : Fun Tryz.prog 80 := ⟨_, Tryz.func80, by kernel_rfl, by kernel_rfl⟩
instance : Fun Tryz.prog 81 := ⟨_, Tryz.func81, by kernel_rfl, by kernel_rfl⟩
instance : Fun Tryz.prog 82 := ⟨_, Tryz.func82, by kernel_rfl, by kernel_rfl⟩
instance : Fun Tryz.prog 83 := ⟨_, Tryz.func83, by kernel_rfl, by kernel_rfl⟩
instance : Fun Tryz.prog 84 := ⟨_, Tryz.func84, by kernel_rfl, by kernel_rfl⟩
instance : Fun Tryz.prog 96 := ⟨_, Tryz.func96, by kernel_rfl, by kernel_rfl⟩
instance : Fun Tryz.prog 97 := ⟨_, Tryz.func97, by kernel_rfl, by kernel_rfl⟩
instance : Fun Tryz.prog 98 := ⟨_, Tryz.func98, by kernel_rfl, by kernel_rfl⟩
instance : Fun Tryz.prog 99 := ⟨_, Tryz.func99, by kernel_rfl, by kernel_rfl⟩
instance : Fun Tryz.prog 100 := ⟨_, Tryz.func100, by kernel_rfl, by kernel_rfl⟩
instance : Fun Tryz.prog 101 := ⟨_, Tryz.func101, by kernel_rfl, by kernel_rfl⟩
instance : Fun Tryz.prog 102 := ⟨_, Tryz.func102, by kernel_rfl, by kernel_rfl⟩
instance : Fun Tryz.prog 103 := ⟨_, Tryz.func103, by kernel_rfl, by kernel_rfl⟩
instance : Fun Tryz.prog 104 := ⟨_, Tryz.func104, by kernel_rfl, by kernel_rfl⟩
instance : Fun Tryz.prog 105 := ⟨_, Tryz.func105, by kernel_rfl, by kernel_rfl⟩
instance : Fun Tryz.prog 106 := ⟨_, Tryz.func106, by kernel_rfl, by kernel_rfl⟩
instance : Fun Tryz.prog 107 := ⟨_, Tryz.func107, by kernel_rfl, by kernel_rfl⟩
instance : Fun Tryz.prog 108 := ⟨_, Tryz.func108, by kernel_rfl, by kernel_rfl⟩
instance : Fun Tryz.prog 109 := ⟨_, Tryz.func109, by kernel_rfl, by kernel_rfl⟩
instance : Fun Tryz.prog 110 := ⟨_, Tryz.func110, by kernel_rfl, by kernel_rfl⟩
instance : Fun Tryz.prog 119 := ⟨_, Tryz.func119, by kernel_rfl, by kernel_rfl⟩
instance : Fun Tryz.prog 120 := ⟨_, Tryz.func120, by kernel_rfl, by kernel_rfl⟩
instance : Fun Tryz.prog 121 := ⟨_, Tryz.func121, by kernel_rfl, by kernel_rfl⟩
instance : Fun Tryz.prog 122 := ⟨_, Tryz.func122, by kernel_rfl, by kernel_rfl⟩
instance : Fun Tryz.prog 123 := ⟨_, Tryz.func123, by kernel_rfl, by kernel_rfl⟩
instance : Fun Tryz.prog 124 := ⟨_, Tryz.func124, by kernel_rfl, by kernel_rfl⟩
instance : Fun Tryz.prog 125 := ⟨_, Tryz.func125, by kernel_rfl, by kernel_rfl⟩
instance : Fun Tryz.prog 126 := ⟨_, Tryz.func126, by kernel_rfl, by kernel_rfl⟩
instance : Fun Tryz.prog 131 := ⟨_, Tryz.func131, by kernel_rfl, by kernel_rfl⟩
instance : Fun Tryz.prog 132 := ⟨_, Tryz.func132, by kernel_rfl, by kernel_rfl⟩
instance : Fun Tryz.prog 133 := ⟨_, Tryz.func133, by kernel_rfl, by kernel_rfl⟩
instance : Fun Tryz.prog 134 := ⟨_, Tryz.func134, by kernel_rfl, by kernel_rfl⟩
instance : Fun Tryz.prog 135 := ⟨_, Tryz.func135, by kernel_rfl, by kernel_rfl⟩
instance : Fun Tryz.prog 140 := ⟨_, Tryz.func140, by kernel_rfl, by kernel_rfl⟩
instance : Fun Tryz.prog 141 := ⟨_, Tryz.func141, by kernel_rfl, by kernel_rfl⟩
instance : Fun Tryz.prog 147 := ⟨_, Tryz.func147, by kernel_rfl, by kernel_rfl⟩
instance : Fun Tryz.prog 148 := ⟨_, Tryz.func148, by kernel_rfl, by kernel_rfl⟩
instance : Fun Tryz.prog 151 := ⟨_, Tryz.func151, by kernel_rfl, by kernel_rfl⟩
instance : Fun Tryz.prog 152 := ⟨_, Tryz.func152, by kernel_rfl, by kernel_rfl⟩
instance : Fun Tryz.prog 153 := ⟨_, Tryz.func153, by kernel_rfl, by kernel_rfl⟩
instance : Fun Tryz.prog 154 := ⟨_, Tryz.func154, by kernel_rfl, by kernel_rfl⟩
instance : Fun Tryz.prog 155 := ⟨_, Tryz.func155, by kernel_rfl, by kernel_rfl⟩
instance : Fun Tryz.prog 156 := ⟨_, Tryz.func156, by kernel_rfl, by kernel_rfl⟩
theorem mixed : Tryz.prog.follows .mixedOrders = true := by kernel_rfl
end Go.Sx
