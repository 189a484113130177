/- The seat's types and functions: what the rules must know of them, each fact closed. Conditions: none. -/
import Derived.Test.YtmjjhnahdmlmaaaXSq
import Derived.Test.YtmjjhnahdmlmaaaXTy
import Derived.Test.YtmjjhnahdmlmaaaProg
namespace Go.Sx
open Go Go.Proofs Go.Vm Rp

instance : Rp Int := Rp.atom 3 vI (fun _ => True) (fun _ => rfl) 0
instance (priority := high) : Rp Str := Rp.atom 9 (fun s => vS s) (fun _ => True) (fun _ => rfl) 22
instance : Rp Bool := Rp.atom 4 vB (fun _ => True) (fun _ => rfl) 0
instance : Rp Byte := Rp.atom 5 (fun b => .int .u8 (UInt8.toNat b)) (fun _ => True) (fun _ => rfl) 47
instance : Atm Int := ⟨fun h => ⟨rfl, h⟩⟩
instance : Atm Str := ⟨fun h => ⟨rfl, h⟩⟩
instance : Atm Bool := ⟨fun h => ⟨rfl, h⟩⟩
instance : Atm Byte := ⟨fun h => ⟨rfl, h⟩⟩
instance : Pl Int := ⟨fun h => h⟩
instance : Pl Str := ⟨fun h => h⟩
instance : Pl Bool := ⟨fun h => h⟩
instance : Pl Byte := ⟨fun h => h⟩
instance : Zr Int := ⟨0, [vI 0], ⟨rfl, rfl, trivial⟩⟩
instance : Zr Str := ⟨[], [vS []], ⟨rfl, rfl, trivial⟩⟩
instance : Zr Bool := ⟨false, [vB false], ⟨rfl, rfl, trivial⟩⟩
section
variable {W : CW} {K : List Nat} {v : Value} {p : Addr}
theorem Rd.str {s : Str} (h : Rd W K [v] s) : v = vS s := by simpa using h.1
theorem Rd.int {n : Int} (h : Rd W K [v] n) : v = vI n := by simpa using h.1
theorem Rd.bool {b : Bool} (h : Rd W K [v] b) : v = vB b := by simpa using h.1
theorem Rd.byte {b : Byte} (h : Rd W K [v] b) : v = .int .u8 (UInt8.toNat b) := by simpa using h.1
theorem At.str {s : Str} (h : At W K p s) : W.w.cell? p = some (vS s) := by obtain ⟨v, hc, hr⟩ := h.cell rfl; rw [hr.str] at hc; exact hc
theorem At.int {n : Int} (h : At W K p n) : W.w.cell? p = some (vI n) := by obtain ⟨v, hc, hr⟩ := h.cell rfl; rw [hr.int] at hc; exact hc
theorem At.bool {b : Bool} (h : At W K p b) : W.w.cell? p = some (vB b) := by obtain ⟨v, hc, hr⟩ := h.cell rfl; rw [hr.bool] at hc; exact hc
theorem At.byte {b : Byte} (h : At W K p b) : W.w.cell? p = some (.int .u8 (UInt8.toNat b)) := by obtain ⟨v, hc, hr⟩ := h.cell rfl; rw [hr.byte] at hc; exact hc
theorem rdI (n : Int) : Rd W K [vI n] n := ⟨rfl, trivial⟩
theorem rdY (b : UInt8) : Rd (α := Byte) W K [.int .u8 (UInt8.toNat b : Int)] b := ⟨rfl, trivial⟩
theorem rdS (s : Str) : Rd W K [vS s] s := ⟨rfl, trivial⟩
theorem rdB (b : Bool) : Rd W K [vB b] b := ⟨rfl, trivial⟩
end
instance : Rp Review := Rp.iso (β := Str × Str × Str × (List Str)) 26 (fun x => (x.Branch, x.Into, x.By, x.Yes)) 0
instance : Zr Review where
  z := Vm.Review.mk [] [] [] []
  cs := Zr.cs (Str × Str × Str × (List Str))
  own := Zr.own (α := Str × Str × Str × (List Str))
theorem Review.split {W : CW} {K : List Nat} {cs : List Value} {x : Vm.Review} (h : Rd W K cs x) : ∃ c3 : Value, cs = [vS x.Branch, vS x.Into, vS x.By, c3] ∧ Rd W K [c3] x.Yes := by
  replace h : Rd W K cs (x.Branch, x.Into, x.By, x.Yes) := h
  obtain ⟨c0, d0, rfl, h0, k0⟩ := h.split
  obtain ⟨c1, d1, rfl, h1, k1⟩ := Rd.split k0
  obtain ⟨c2, d2, rfl, h2, k2⟩ := Rd.split k1
  obtain ⟨u0, rfl, _⟩ := Rd.one h0 rfl
  obtain ⟨u1, rfl, _⟩ := Rd.one h1 rfl
  obtain ⟨u2, rfl, _⟩ := Rd.one h2 rfl
  obtain ⟨u3, rfl, _⟩ := Rd.one k2 rfl
  obtain rfl := Rd.str h0
  obtain rfl := Rd.str h1
  obtain rfl := Rd.str h2
  exact ⟨u3, rfl, k2⟩
theorem Review.at0 {W : CW} {K : List Nat} {p : Addr} {x : Vm.Review} (h : At W K p x) : At W K (p.add 0) x.Branch := by
  replace h : At W K p (x.Branch, x.Into, x.By, x.Yes) := h
  replace h := h.fst
  exact (h_add0 p).symm ▸ h
theorem Review.at1 {W : CW} {K : List Nat} {p : Addr} {x : Vm.Review} (h : At W K p x) : At W K (p.add 1) x.Into := by
  replace h : At W K p (x.Branch, x.Into, x.By, x.Yes) := h
  replace h := h.snd
  replace h := h.fst
  exact h
theorem Review.at2 {W : CW} {K : List Nat} {p : Addr} {x : Vm.Review} (h : At W K p x) : At W K (p.add 2) x.By := by
  replace h : At W K p (x.Branch, x.Into, x.By, x.Yes) := h
  replace h := h.snd
  replace h := h.snd
  replace h := h.fst
  rw [add_add] at h
  exact h
theorem Review.at3 {W : CW} {K : List Nat} {p : Addr} {x : Vm.Review} (h : At W K p x) : At W K (p.add 3) x.Yes := by
  replace h : At W K p (x.Branch, x.Into, x.By, x.Yes) := h
  replace h := h.snd
  replace h := h.snd
  replace h := h.snd
  rw [add_add] at h
  rw [add_add] at h
  exact h
theorem Review.own {W : CW} {K J3 : List Nat} {c3 : Value} (x0 : Str) (x1 : Str) (x2 : Str) (x3 : List Str) (h3 : OwS W J3 K [c3] x3) (d0 : disj ([]) ([] ++ ([] ++ (J3))) = true := by rfl) (d1 : disj ([]) ([] ++ (J3)) = true := by rfl) (d2 : disj ([]) (J3) = true := by rfl) : OwS W ([] ++ ([] ++ ([] ++ (J3)))) K [vS x0, vS x1, vS x2, c3] (Vm.Review.mk x0 x1 x2 x3) := (OwS.pair (OwS.atm (rdS x0)) (OwS.pair (OwS.atm (rdS x1)) (OwS.pair (OwS.atm (rdS x2)) h3 d2) d1) d0)
instance : Fs Vm.Review (Str) 0 (fun x => x.Branch) (fun x y => Vm.Review.mk y x.Into x.By x.Yes) := ⟨(Fs.fst rfl : Fs (Str × Str × Str × (List Str)) (Str) 0 _ _).lt, fun h => (Fs.fst rfl : Fs (Str × Str × Str × (List Str)) (Str) 0 _ _).lens h⟩
instance : Fs Vm.Review (Str) 1 (fun x => x.Into) (fun x y => Vm.Review.mk x.Branch y x.By x.Yes) := ⟨(Fs.snd rfl (Fs.fst rfl) : Fs (Str × Str × Str × (List Str)) (Str) 1 _ _).lt, fun h => (Fs.snd rfl (Fs.fst rfl) : Fs (Str × Str × Str × (List Str)) (Str) 1 _ _).lens h⟩
instance : Fs Vm.Review (Str) 2 (fun x => x.By) (fun x y => Vm.Review.mk x.Branch x.Into y x.Yes) := ⟨(Fs.snd rfl (Fs.snd rfl (Fs.fst rfl)) : Fs (Str × Str × Str × (List Str)) (Str) 2 _ _).lt, fun h => (Fs.snd rfl (Fs.snd rfl (Fs.fst rfl)) : Fs (Str × Str × Str × (List Str)) (Str) 2 _ _).lens h⟩
instance : Fs Vm.Review (List Str) 3 (fun x => x.Yes) (fun x y => Vm.Review.mk x.Branch x.Into x.By y) := ⟨(Fs.snd rfl (Fs.snd rfl (Fs.snd rfl (Fs.self rfl))) : Fs (Str × Str × Str × (List Str)) (List Str) 3 _ _).lt, fun h => (Fs.snd rfl (Fs.snd rfl (Fs.snd rfl (Fs.self rfl))) : Fs (Str × Str × Str × (List Str)) (List Str) 3 _ _).lens h⟩
instance : Fl Vm.Review (List Str) 3 (fun x => x.Yes) (fun x y => Vm.Review.mk x.Branch x.Into x.By y) := ⟨fun h => (Fl.snd rfl (Fl.snd rfl (Fl.snd rfl (Fl.self rfl))) : Fl (Str × Str × Str × (List Str)) (List Str) 3 _ _).lens h⟩
theorem Review.rd {W : CW} {K : List Nat} {c3 : Value} (x0 : Str) (x1 : Str) (x2 : Str) (x3 : List Str) (h3 : Rd W K [c3] x3) : Rd W K [vS x0, vS x1, vS x2, c3] (Vm.Review.mk x0 x1 x2 x3) := (Rd.join (rdS x0) (Rd.join (rdS x1) (Rd.join (rdS x2) h3)))
instance : Und Try.prog 2 (TypeDesc.int IntKind.i64) := ⟨Try.underlying2⟩
instance : Inf Try.prog 2 1 8 (Value.int IntKind.i64 0) := ⟨by kernel_rfl⟩
instance : Und Try.prog 3 (TypeDesc.int IntKind.i64) := ⟨Try.underlying3⟩
instance : Inf Try.prog 3 1 8 (Value.int IntKind.i64 0) := ⟨by kernel_rfl⟩
instance : Und Try.prog 4 TypeDesc.bool := ⟨Try.underlying4⟩
instance : Inf Try.prog 4 1 1 (Value.bool false) := ⟨by kernel_rfl⟩
instance : Und Try.prog 5 (TypeDesc.int IntKind.u8) := ⟨Try.underlying5⟩
instance : Inf Try.prog 5 1 1 (Value.int IntKind.u8 0) := ⟨by kernel_rfl⟩
instance : Und Try.prog 9 TypeDesc.string := ⟨Try.underlying9⟩
instance : Inf Try.prog 9 1 16 (Value.string (ByteArray.mk #[])) := ⟨by kernel_rfl⟩
instance : Und Try.prog 12 (TypeDesc.int IntKind.u64) := ⟨Try.underlying12⟩
instance : Inf Try.prog 12 1 8 (Value.int IntKind.u64 0) := ⟨by kernel_rfl⟩
instance : Und Try.prog 13 (TypeDesc.struct #[(Field.mk "msg" 9 0 false "" "runtime" 0), (Field.mk "addr" 12 1 false "" "runtime" 16)]) := ⟨Try.underlying13⟩
instance : Inf Try.prog 13 2 24 (Value.agg #[(Value.string (ByteArray.mk #[])), (Value.int IntKind.u64 0)]) := ⟨by kernel_rfl⟩
instance : Flat Try.prog 13 2 := ⟨_, Try.underlying13, by kernel_rfl, by kernel_rfl⟩
instance : Fld Try.prog 13 0 0 := Flat.fld (n := 2) (by decide)
instance : Fld Try.prog 13 1 1 := Flat.fld (n := 2) (by decide)
instance : Und Try.prog 21 (TypeDesc.int IntKind.i32) := ⟨Try.underlying21⟩
instance : Inf Try.prog 21 1 4 (Value.int IntKind.i32 0) := ⟨by kernel_rfl⟩
instance : Und Try.prog 22 (TypeDesc.slice 9) := ⟨Try.underlying22⟩
instance : Inf Try.prog 22 1 24 (Value.slice none 0 0) := ⟨by kernel_rfl⟩
instance : Und Try.prog 23 (TypeDesc.struct #[(Field.mk "Branch" 9 0 false "" "" 0), (Field.mk "Into" 9 1 false "" "" 16), (Field.mk "By" 9 2 false "" "" 32), (Field.mk "Yes" 22 3 false "" "" 48)]) := ⟨Try.underlying23⟩
instance : Inf Try.prog 23 4 72 (Value.agg #[(Value.string (ByteArray.mk #[])), (Value.string (ByteArray.mk #[])), (Value.string (ByteArray.mk #[])), (Value.slice none 0 0)]) := ⟨by kernel_rfl⟩
instance : Flat Try.prog 23 4 := ⟨_, Try.underlying23, by kernel_rfl, by kernel_rfl⟩
instance : Fld Try.prog 23 0 0 := Flat.fld (n := 4) (by decide)
instance : Fld Try.prog 23 1 1 := Flat.fld (n := 4) (by decide)
instance : Fld Try.prog 23 2 2 := Flat.fld (n := 4) (by decide)
instance : Fld Try.prog 23 3 3 := Flat.fld (n := 4) (by decide)
instance : Und Try.prog 24 (TypeDesc.struct #[(Field.mk "Branch" 9 0 false "" "" 0), (Field.mk "Into" 9 1 false "" "" 16), (Field.mk "By" 9 2 false "" "" 32), (Field.mk "Yes" 22 3 false "" "" 48)]) := ⟨Try.underlying24⟩
instance : Inf Try.prog 24 4 72 (Value.agg #[(Value.string (ByteArray.mk #[])), (Value.string (ByteArray.mk #[])), (Value.string (ByteArray.mk #[])), (Value.slice none 0 0)]) := ⟨by kernel_rfl⟩
instance : Flat Try.prog 24 4 := ⟨_, Try.underlying24, by kernel_rfl, by kernel_rfl⟩
instance : Fld Try.prog 24 0 0 := Flat.fld (n := 4) (by decide)
instance : Fld Try.prog 24 1 1 := Flat.fld (n := 4) (by decide)
instance : Fld Try.prog 24 2 2 := Flat.fld (n := 4) (by decide)
instance : Fld Try.prog 24 3 3 := Flat.fld (n := 4) (by decide)
instance : Und Try.prog 26 (TypeDesc.struct #[(Field.mk "Branch" 9 0 false "" "" 0), (Field.mk "Into" 9 1 false "" "" 16), (Field.mk "By" 9 2 false "" "" 32), (Field.mk "Yes" 22 3 false "" "" 48)]) := ⟨Try.underlying26⟩
instance : Inf Try.prog 26 4 72 (Value.agg #[(Value.string (ByteArray.mk #[])), (Value.string (ByteArray.mk #[])), (Value.string (ByteArray.mk #[])), (Value.slice none 0 0)]) := ⟨by kernel_rfl⟩
instance : Flat Try.prog 26 4 := ⟨_, Try.underlying26, by kernel_rfl, by kernel_rfl⟩
instance : Fld Try.prog 26 0 0 := Flat.fld (n := 4) (by decide)
instance : Fld Try.prog 26 1 1 := Flat.fld (n := 4) (by decide)
instance : Fld Try.prog 26 2 2 := Flat.fld (n := 4) (by decide)
instance : Fld Try.prog 26 3 3 := Flat.fld (n := 4) (by decide)
instance : Und Try.prog 46 (TypeDesc.int IntKind.u64) := ⟨Try.underlying46⟩
instance : Inf Try.prog 46 1 8 (Value.int IntKind.u64 0) := ⟨by kernel_rfl⟩
instance : Und Try.prog 47 (TypeDesc.slice 5) := ⟨Try.underlying47⟩
instance : Inf Try.prog 47 1 24 (Value.slice none 0 0) := ⟨by kernel_rfl⟩
instance : Und Try.prog 49 (TypeDesc.int IntKind.i64) := ⟨Try.underlying49⟩
instance : Inf Try.prog 49 1 8 (Value.int IntKind.i64 0) := ⟨by kernel_rfl⟩
instance : Und Try.prog 58 (TypeDesc.int IntKind.u32) := ⟨Try.underlying58⟩
instance : Inf Try.prog 58 1 4 (Value.int IntKind.u32 0) := ⟨by kernel_rfl⟩
instance : Und Try.prog 60 (TypeDesc.int IntKind.u64) := ⟨Try.underlying60⟩
instance : Inf Try.prog 60 1 8 (Value.int IntKind.u64 0) := ⟨by kernel_rfl⟩
instance : Und Try.prog 61 (TypeDesc.int IntKind.u64) := ⟨Try.underlying61⟩
instance : Inf Try.prog 61 1 8 (Value.int IntKind.u64 0) := ⟨by kernel_rfl⟩
instance : Und Try.prog 65 (TypeDesc.pointer 3) := ⟨Try.underlying65⟩
instance : Inf Try.prog 65 1 8 (Value.pointer none) := ⟨by kernel_rfl⟩
instance : Und Try.prog 67 (TypeDesc.pointer 61) := ⟨Try.underlying67⟩
instance : Inf Try.prog 67 1 8 (Value.pointer none) := ⟨by kernel_rfl⟩
instance : Und Try.prog 80 (TypeDesc.pointer 5) := ⟨Try.underlying80⟩
instance : Inf Try.prog 80 1 8 (Value.pointer none) := ⟨by kernel_rfl⟩
instance : Fun Try.prog 3 := ⟨_, Try.func3, by kernel_rfl, by kernel_rfl⟩
instance : Fun Try.prog 4 := ⟨_, Try.func4, by kernel_rfl, by kernel_rfl⟩
instance : Fun Try.prog 5 := ⟨_, Try.func5, by kernel_rfl, by kernel_rfl⟩
instance : Fun Try.prog 6 := ⟨_, Try.func6, by kernel_rfl, by kernel_rfl⟩
instance : Fun Try.prog 7 := ⟨_, Try.func7, by kernel_rfl, by kernel_rfl⟩
instance : Fun Try.prog 8 := ⟨_, Try.func8, by kernel_rfl, by kernel_rfl⟩
instance : Fun Try.prog 9 := ⟨_, Try.func9, by kernel_rfl, by kernel_rfl⟩
instance : Fun Try.prog 10 := ⟨_, Try.func10, by kernel_rfl, by kernel_rfl⟩
instance : Fun Try.prog 11 := ⟨_, Try.func11, by kernel_rfl, by kernel_rfl⟩
instance : Fun Try.prog 12 := ⟨_, Try.func12, by kernel_rfl, by kernel_rfl⟩
instance : Fun Try.prog 13 := ⟨_, Try.func13, by kernel_rfl, by kernel_rfl⟩
instance : Fun Try.prog 14 := ⟨_, Try.func14, by kernel_rfl, by kernel_rfl⟩
instance : Fun Try.prog 15 := ⟨_, Try.func15, by kernel_rfl, by kernel_rfl⟩
instance : Fun Try.prog 16 := ⟨_, Try.func16, by kernel_rfl, by kernel_rfl⟩
instance : Fun Try.prog 17 := ⟨_, Try.func17, by kernel_rfl, by kernel_rfl⟩
instance : Fun Try.prog 18 := ⟨_, Try.func18, by kernel_rfl, by kernel_rfl⟩
instance : Fun Try.prog 19 := ⟨_, Try.func19, by kernel_rfl, by kernel_rfl⟩
instance : Fun Try.prog 20 := ⟨_, Try.func20, by kernel_rfl, by kernel_rfl⟩
instance : Fun Try.prog 21 := ⟨_, Try.func21, by kernel_rfl, by kernel_rfl⟩
instance : Fun Try.prog 22 := ⟨_, Try.func22, by kernel_rfl, by kernel_rfl⟩
instance : Fun Try.prog 23 := ⟨_, Try.func23, by kernel_rfl, by kernel_rfl⟩
instance : Fun Try.prog 24 := ⟨_, Try.func24, by kernel_rfl, by kernel_rfl⟩
instance : Fun Try.prog 25 := ⟨_, Try.func25, by kernel_rfl, by kernel_rfl⟩
instance : Fun Try.prog 26 := ⟨_, Try.func26, by kernel_rfl, by kernel_rfl⟩
instance : Fun Try.prog 27 := ⟨_, Try.func27, by kernel_rfl, by kernel_rfl⟩
instance : Fun Try.prog 28 := ⟨_, Try.func28, by kernel_rfl, by kernel_rfl⟩
instance : Fun Try.prog 29 := ⟨_, Try.func29, by kernel_rfl, by kernel_rfl⟩
instance : Fun Try.prog 30 := ⟨_, Try.func30, by kernel_rfl, by kernel_rfl⟩
instance : Fun Try.prog 31 := ⟨_, Try.func31, by kernel_rfl, by kernel_rfl⟩
instance : Fun Try.prog 32 := ⟨_, Try.func32, by kernel_rfl, by kernel_rfl⟩
instance : Fun Try.prog 33 := ⟨_, Try.func33, by kernel_rfl, by kernel_rfl⟩
instance : Fun Try.prog 34 := ⟨_, Try.func34, by kernel_rfl, by kernel_rfl⟩
instance : Fun Try.prog 35 := ⟨_, Try.func35, by kernel_rfl, by kernel_rfl⟩
instance : Fun Try.prog 36 := ⟨_, Try.func36, by kernel_rfl, by kernel_rfl⟩
instance : Fun Try.prog 37 := ⟨_, Try.func37, by kernel_rfl, by kernel_rfl⟩
instance : Fun Try.prog 38 := ⟨_, Try.func38, by kernel_rfl, by kernel_rfl⟩
instance : Fun Try.prog 39 := ⟨_, Try.func39, by kernel_rfl, by kernel_rfl⟩
instance : Fun Try.prog 40 := ⟨_, Try.func40, by kernel_rfl, by kernel_rfl⟩
instance : Fun Try.prog 41 := ⟨_, Try.func41, by kernel_rfl, by kernel_rfl⟩
instance : Fun Try.prog 42 := ⟨_, Try.func42, by kernel_rfl, by kernel_rfl⟩
instance : Fun Try.prog 43 := ⟨_, Try.func43, by kernel_rfl, by kernel_rfl⟩
instance : Fun Try.prog 44 := ⟨_, Try.func44, by kernel_rfl, by kernel_rfl⟩
instance : Fun Try.prog 45 := ⟨_, Try.func45, by kernel_rfl, by kernel_rfl⟩
instance : Fun Try.prog 46 := ⟨_, Try.func46, by kernel_rfl, by kernel_rfl⟩
instance : Fun Try.prog 47 := ⟨_, Try.func47, by kernel_rfl, by kernel_rfl⟩
instance : Fun Try.prog 48 := ⟨_, Try.func48, by kernel_rfl, by kernel_rfl⟩
theorem mixed : Try.prog.follows .mixedOrders = true := by kernel_rfl
end Go.Sx
