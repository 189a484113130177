/- Walks: each function answers as its model, printed by a program of ours. Conditions: the arguments read as they are given. -/
import Derived.Test.YtjdljoplpcakpaaXTs
import Derived.Test.YtjdljoplpcakpaaXMd
import Derived.Test.YtjdljoplpcakpaaXW0
import Derived.Test.YtjdljoplpcakpaaXW1
import Derived.Test.YtjdljoplpcakpaaXW2
import Derived.Test.YtjdljoplpcakpaaXW3
import Derived.Test.YtjdljoplpcakpaaXW6
import Derived.Test.YtjdljoplpcakpaaXW8
namespace Go.Sx
open Go Go.Proofs Go.Vm Rp
set_option linter.unusedVariables false
set_option linter.unusedSimpArgs false

theorem c106 {V : CW} {x0 : Vm.l30Rd} {g0_ : Nat} {v0_0_ : Value} {x1 : List Int} {v1_ : Value} {r : Int × Int} (hB0 : Bx V 2 g0_ [v0_0_, vI x0.p]) (h0_0 : Rd V [0] [v0_0_] x0.b) (h1 : Rd V [0] [v1_] x1) (hm : Vm.spec_l30Rd_one x0 x1 = some r) : CallR Try.prog 106 [ptr (bx g0_), v1_].toArray V.w (Res V LL fun Wf v => v = vI r.1 ∧ Bx Wf 2 g0_ [v0_0_, vI r.2]) := by
 unfold Vm.spec_l30Rd_one at hm
 obtain ⟨W0, hW0⟩ : ∃ W, W = V := ⟨V, rfl⟩
 subst hW0
 refine CallR.of Try.func106 rfl rfl rfl rfl (Cw.seq (Cw.region (Lw.g (vI 0) rfl (Lw.nil (Cw.seq (Cw.region (Lw.m v1_ rfl (Lw.m (ptr (bx g0_)) rfl (Lw.m v1_ rfl (Lw.ln x1 h1 rfl ?_))))))))))
 obtain ⟨z1, e2, hm⟩ := ob hm
 refine Lw.t rfl (T.call rfl (p79 (K := [0])  (c0 := 2) (x0 := x0) hB0 h0_0 rfl e2)) ?_
 rintro _ _ ⟨W3, rfl, l3, ⟨rfl, f3_0⟩⟩
 have a4 := l3.s rfl
 obtain ⟨u5, e6, hm⟩ := ob hm
 refine Lw.r rfl (R.ix (α := Int) (h1.ul a4) e6 rfl rfl rfl) (Lw.r rfl (R.ld rfl rfl ((h1.ul a4).at_ e6).int) (Lw.g (vI u5) rfl (Lw.nil ?_)))
 cases hm
 exact Cw.ret (ret1 rfl (Res.mk a4 ⟨rfl, f3_0⟩))

theorem p106 {W : CW} {K : List Nat} {x0 : Vm.l30Rd} {g0_ : Nat} {v0_0_ : Value} {x1 : List Int} {v1_ : Value} {c0 : Nat} {r : Int × Int} (hB0 : Bx W c0 g0_ [v0_0_, vI x0.p]) (h0_0 : Rd W K [v0_0_] x0.b) (h1 : Rd W K [v1_] x1) (hJ : okJ K [c0] = true) (hm : Vm.spec_l30Rd_one x0 x1 = some r) : CallR Try.prog 106 [ptr (bx g0_), v1_].toArray W.w (Res W [c0] fun W' v => v = vI r.1 ∧ Bx W' c0 g0_ [v0_0_, vI r.2]) :=
 CallR.adJ (J := [c0]) (fun c => bif Nat.beq c 0 then 0 else bif Nat.beq c 2 then c0 else 0) (c106 (V := W.view K [c0]) (hB0.viewJ 0 hJ) (h0_0.view _) (h1.view _) hm) fun _ _ ⟨e, f0⟩ => ⟨e, Bx.backJ 0 f0 rfl⟩

theorem c83 {V : CW} {x0 : Vm.l30Rd} {g0_ : Nat} {v0_0_ : Value} {x1 : List Str} {v1_ : Value} {r : Str × Int} (hB0 : Bx V 2 g0_ [v0_0_, vI x0.p]) (h0_0 : Rd V [0] [v0_0_] x0.b) (h1 : Rd V [0] [v1_] x1) (hm : Vm.spec_l30Rd_of x0 x1 = some r) : CallR Try.prog 83 [ptr (bx g0_), v1_].toArray V.w (Res V LL fun Wf v => v = vS r.1 ∧ Bx Wf 2 g0_ [v0_0_, vI r.2]) := by
 unfold Vm.spec_l30Rd_of at hm
 obtain ⟨W0, hW0⟩ : ∃ W, W = V := ⟨V, rfl⟩
 subst hW0
 refine CallR.of Try.func83 rfl rfl rfl rfl (Cw.seq (Cw.region (Lw.g (vS ([] : Str)) rfl (Lw.nil (Cw.seq (Cw.region (Lw.m v1_ rfl (Lw.m (ptr (bx g0_)) rfl (Lw.m v1_ rfl (Lw.ln x1 h1 rfl ?_))))))))))
 obtain ⟨z1, e2, hm⟩ := ob hm
 refine Lw.t rfl (T.call rfl (p79 (K := [0])  (c0 := 2) (x0 := x0) hB0 h0_0 rfl e2)) ?_
 rintro _ _ ⟨W3, rfl, l3, ⟨rfl, f3_0⟩⟩
 have a4 := l3.s rfl
 obtain ⟨u5, e6, hm⟩ := ob hm
 refine Lw.r rfl (R.ix (α := Str) (h1.ul a4) e6 rfl rfl rfl) (Lw.r rfl (R.ld rfl rfl ((h1.ul a4).at_ e6).str) (Lw.g (vS u5) rfl (Lw.nil ?_)))
 cases hm
 exact Cw.ret (ret1 rfl (Res.mk a4 ⟨rfl, f3_0⟩))

theorem p83 {W : CW} {K : List Nat} {x0 : Vm.l30Rd} {g0_ : Nat} {v0_0_ : Value} {x1 : List Str} {v1_ : Value} {c0 : Nat} {r : Str × Int} (hB0 : Bx W c0 g0_ [v0_0_, vI x0.p]) (h0_0 : Rd W K [v0_0_] x0.b) (h1 : Rd W K [v1_] x1) (hJ : okJ K [c0] = true) (hm : Vm.spec_l30Rd_of x0 x1 = some r) : CallR Try.prog 83 [ptr (bx g0_), v1_].toArray W.w (Res W [c0] fun W' v => v = vS r.1 ∧ Bx W' c0 g0_ [v0_0_, vI r.2]) :=
 CallR.adJ (J := [c0]) (fun c => bif Nat.beq c 0 then 0 else bif Nat.beq c 2 then c0 else 0) (c83 (V := W.view K [c0]) (hB0.viewJ 0 hJ) (h0_0.view _) (h1.view _) hm) fun _ _ ⟨e, f0⟩ => ⟨e, Bx.backJ 0 f0 rfl⟩

theorem c99 {V : CW} {x0 : Vm.l30Rd} {g0_ : Nat} {v0_0_ : Value} {r : Str × Int} (hB0 : Bx V 2 g0_ [v0_0_, vI x0.p]) (h0_0 : Rd V [0] [v0_0_] x0.b) (hm : Vm.spec_l30Line x0 = some r) : CallR Try.prog 99 [ptr (bx g0_)].toArray V.w (Res V LL fun Wf v => v = vS r.1 ∧ Bx Wf 2 g0_ [v0_0_, vI r.2]) := by
 unfold Vm.spec_l30Line at hm
 obtain ⟨W0, hW0⟩ : ∃ W, W = V := ⟨V, rfl⟩
 subst hW0
 refine CallR.of Try.func99 rfl rfl rfl rfl (Cw.seq (Cw.region (Lw.g (vS ([] : Str)) rfl (Lw.nil (Cw.seq (Cw.region (Lw.m (ptr (bx g0_)) rfl (Lw.t rfl (T.bsS (α := Str) (xs := [([97] : Str), ([98] : Str), ([99] : Str), ([100] : Str), ([] : Str), ([120, 32, 121] : Str), ([115, 101, 101, 32, 97] : Str), ([115, 101, 101, 32, 100, 47, 101] : Str), ([101, 110, 100] : Str)]) 3 [] (W := W0) [vS ([97] : Str), vS ([98] : Str), vS ([99] : Str), vS ([100] : Str), vS ([] : Str), vS ([120, 32, 121] : Str), vS ([115, 101, 101, 32, 97] : Str), vS ([115, 101, 101, 32, 100, 47, 101] : Str), vS ([101, 110, 100] : Str)] (Each.cons ((rdS _)) (Each.cons ((rdS _)) (Each.cons ((rdS _)) (Each.cons ((rdS _)) (Each.cons ((rdS _)) (Each.cons ((rdS _)) (Each.cons ((rdS _)) (Each.cons ((rdS _)) (Each.cons ((rdS _)) Each.nil))))))))) rfl) ?_))))))))
 rintro v1 _ ⟨W1, rfl, l1, o1⟩
 have a2 := l1.o
 have b3 := hB0.up l1 rfl
 obtain ⟨z5, e6, hm⟩ := ob hm
 refine Lw.t rfl (T.call rfl (p83 (K := [0, 3])  (c0 := 2) (x0 := x0) b3 ((h0_0.ul a2).sub (M := [0, 3]) rfl) (o1.rd.sub (M := [0, 3]) rfl) rfl e6)) ?_
 rintro _ _ ⟨W7, rfl, l7, ⟨rfl, f7_0⟩⟩
 have a8 := a2.t l7 rfl
 refine Lw.g (vS z5.1) rfl (Lw.nil ?_)
 cases hm
 exact Cw.ret (ret1 rfl (Res.mk a8 ⟨rfl, f7_0⟩))

theorem p99 {W : CW} {K : List Nat} {x0 : Vm.l30Rd} {g0_ : Nat} {v0_0_ : Value} {c0 : Nat} {r : Str × Int} (hB0 : Bx W c0 g0_ [v0_0_, vI x0.p]) (h0_0 : Rd W K [v0_0_] x0.b) (hJ : okJ K [c0] = true) (hm : Vm.spec_l30Line x0 = some r) : CallR Try.prog 99 [ptr (bx g0_)].toArray W.w (Res W [c0] fun W' v => v = vS r.1 ∧ Bx W' c0 g0_ [v0_0_, vI r.2]) :=
 CallR.adJ (J := [c0]) (fun c => bif Nat.beq c 0 then 0 else bif Nat.beq c 2 then c0 else 0) (c99 (V := W.view K [c0]) (hB0.viewJ 0 hJ) (h0_0.view _) hm) fun _ _ ⟨e, f0⟩ => ⟨e, Bx.backJ 0 f0 rfl⟩

theorem c98 {V : CW} {x0 : Vm.l30Rd} {g0_ : Nat} {v0_0_ : Value} {r : (List Str) × Int} (hB0 : Bx V 2 g0_ [v0_0_, vI x0.p]) (h0_0 : Rd V [0] [v0_0_] x0.b) (hm : Vm.spec_l30Text x0 = some r) : CallR Try.prog 98 [ptr (bx g0_)].toArray V.w (Res V LL fun Wf v => ∃ (u0 : Value), v = u0 ∧ OwS Wf [31] [] [u0] r.1 ∧ Bx Wf 2 g0_ [v0_0_, vI r.2]) := by
 unfold Vm.spec_l30Text at hm
 obtain ⟨W0, hW0⟩ : ∃ W, W = V := ⟨V, rfl⟩
 subst hW0
 refine CallR.of Try.func98 rfl rfl rfl rfl (Cw.seq (Cw.region (Lw.g (.slice none 0 0) rfl (Lw.nil (Cw.seq (Cw.region (Lw.t rfl (T.lit0 (α := Str) 3 []) ?_)))))))
 rintro v1 _ ⟨W1, rfl, l1, o1⟩
 have a2 := l1.o
 have b3 := hB0.up l1 rfl
 refine Lw.g v1 rfl (Lw.nil (Cw.seq (Cw.seq (Cw.region (Lw.m (ptr (bx g0_)) rfl (Lw.t rfl (T.bsS (α := Int) (xs := [0, 1, 3, 5, 8]) 4 [] (W := W1) [vI 0, vI 1, vI 3, vI 5, vI 8] (Each.cons ((rdI _)) (Each.cons ((rdI _)) (Each.cons ((rdI _)) (Each.cons ((rdI _)) (Each.cons ((rdI _)) Each.nil))))) rfl) ?_))))))
 rintro v4 _ ⟨W4, rfl, l4, o4⟩
 have a5 := a2.n l4
 obtain ⟨z9, e10, hm⟩ := ob hm
 refine Lw.t rfl (T.call rfl (p106 (K := [0, 4])  (c0 := 2) (x0 := x0) (b3.up l4 rfl) ((h0_0.ul a5).sub (M := [0, 4]) rfl) (o4.rd.sub (M := [0, 4]) rfl) rfl e10)) ?_
 rintro _ _ ⟨W11, rfl, l11, ⟨rfl, f11_0⟩⟩
 have a12 := a5.t l11 rfl
 refine Lw.g (vI z9.1) rfl (Lw.nil (Cw.block ?_))
 obtain ⟨K22, hK22, hm⟩ := jn_e hm
 refine Cw.loop 9 17 [3, 4] (fun m l w => ∃ (y15 : List Str) (y18 : Int) (y19 : Int) (v16 : Value) (W21 : CW), W21.w = w ∧ Le [2, 3] W11 W21 ∧ l = [v16, vI y18] ∧ Ow W21 3 [] [v16] y15 ∧ Bx W21 2 g0_ [v0_0_, vI y19] ∧ Vm.spec_l30Text_l1 x0 K22 m y15 y18 y19 = some r) ((z9.1 - 0).toNat + 1) ⟨([] : List Str), z9.1, z9.2, v1, W11, rfl, Le.refl _ _, rfl, ((o1.up l4 rfl).up l11 rfl), f11_0, hm⟩ ?_
 rintro m23 _ _ σ ⟨y15, y18, y19, v16, W21, rfl, l21, rfl, o17, b20, hm⟩
 obtain _ | m23 := m23
 ·cases hm
 unfold Vm.spec_l30Text_l1 at hm
 have a24 := a12.t l21 rfl
 refine Cw.seq (Cw.seq (Cw.region (Lw.m (vI y18) rfl (Lw.gt rfl (Lw.nil (Cw.cond (b := decide ((0 : Int) < (y18 : Int))) rfl (fun hc26 => ?_) (fun hc26 => ?_)))))))
 ·replace hm := bt hm hc26
  refine Cw.skip (Cw.seq (Cw.block (Cw.region (Lw.m v16 rfl (Lw.m (ptr (bx g0_)) rfl ?_)))))
  obtain ⟨z28, e29, hm⟩ := ob hm
  refine Lw.t rfl (T.call rfl (p99 (K := [0])  (c0 := 2) (x0 := (Vm.l30Rd.mk x0.b y19)) b20 (h0_0.ul a24) rfl e29)) ?_
  rintro _ _ ⟨W30, rfl, l30, ⟨rfl, f30_0⟩⟩
  refine Lw.t rfl (T.bs 5 [vS z28.1] (cs := [vS z28.1]) rfl rfl (bsv rfl)) ?_
  rintro _ _ ⟨g34, W34, rfl, rfl, l34, b34⟩
  obtain ⟨q39, e40, hm⟩ := ob hm
  refine Lw.t rfl (T.app1S (α := Str) (K' := []) ((o17.up l30 rfl).up l34 rfl) b34 (rdS _) rfl rfl e40) ?_
  rintro v41 _ ⟨W41, rfl, l41, o41⟩
  refine Lw.g v41 rfl (Lw.nil (Cw.region (Lw.m (vI y18) rfl (Lw.sub rfl (Lw.g (vI (w64 (y18 - 1))) rfl (Lw.nil (⟨?_, m23, Nat.lt_succ_self m23, ⟨q39, w64 (y18 - 1), z28.2, v41, W41, rfl, (l21.trans ((l30.sub rfl).trans ((l34.sub rfl).trans (l41.sub rfl)))), rfl, o41, ((f30_0.up l34 rfl).up l41 rfl), hm⟩⟩)))))))
  iterate 11 (refine Agree.up rfl ?_)
  iterate 2 (refine Agree.up rfl ?_)
  exact Agree.base
 ·replace hm := bf hm hc26
  refine Cw.exit ?_
  rw [hK22] at hm
  refine Cw.seq (Cw.region (Lw.m v16 rfl (Lw.g v16 rfl (Lw.nil ?_))))
  obtain ⟨W46, ew46, l46, o46⟩ := o17.dyeO 31
  have a47 := a24.t l46 rfl
  cases hm
  rw [← ew46]
  exact Cw.ret (ret1 rfl (Res.mk a47 ⟨v16, rfl, o46.s, (b20.up l46 rfl)⟩))

theorem p98 {W : CW} {K : List Nat} {x0 : Vm.l30Rd} {g0_ : Nat} {v0_0_ : Value} {k0 : Nat} {c0 : Nat} {r : (List Str) × Int} (hB0 : Bx W c0 g0_ [v0_0_, vI x0.p]) (h0_0 : Rd W K [v0_0_] x0.b) (hJ : okJ K [c0] = true) (hm : Vm.spec_l30Text x0 = some r) : CallR Try.prog 98 [ptr (bx g0_)].toArray W.w (Res W [c0] fun W' v => ∃ (u0 : Value), v = u0 ∧ Ow W' k0 [] [u0] r.1 ∧ Bx W' c0 g0_ [v0_0_, vI r.2]) :=
 CallR.adJ (J := [c0]) (fun c => bif Nat.beq c 0 then 0 else bif Nat.beq c 2 then c0 else bif Nat.beq c 31 then k0 else 0) (c98 (V := W.view K [c0]) (hB0.viewJ 0 hJ) (h0_0.view _) hm) fun _ _ ⟨u0, e, f0, f1⟩ => ⟨u0, e, f0.one1.backN rfl, Bx.backJ 0 f1 rfl⟩

theorem c77 {V : CW} {x0 : Vm.l30Rd} {g0_ : Nat} {v0_0_ : Value} {r : (List Str) × Int} (hB0 : Bx V 2 g0_ [v0_0_, vI x0.p]) (h0_0 : Rd V [0] [v0_0_] x0.b) (hm : Vm.spec_l30AnyText x0 = some r) : CallR Try.prog 77 [ptr (bx g0_)].toArray V.w (Res V LL fun Wf v => ∃ (u0 : Value), v = u0 ∧ OwS Wf [31] [] [u0] r.1 ∧ Bx Wf 2 g0_ [v0_0_, vI r.2]) := by
 unfold Vm.spec_l30AnyText at hm
 obtain ⟨W0, hW0⟩ : ∃ W, W = V := ⟨V, rfl⟩
 subst hW0
 refine CallR.of Try.func77 rfl rfl rfl rfl (Cw.seq (Cw.region (Lw.g (.slice none 0 0) rfl (Lw.nil (Cw.seq (Cw.region (Lw.m (ptr (bx g0_)) rfl ?_)))))))
 obtain ⟨z1, e2, hm⟩ := ob hm
 refine Lw.t rfl (T.call rfl (p98 (K := [0]) (k0 := 3) (c0 := 2) (x0 := x0) hB0 h0_0 rfl e2)) ?_
 rintro v0_3 _ ⟨W3, rfl, l3, ⟨_, rfl, f3_0, f3_1⟩⟩
 have a4 := l3.s rfl
 refine Lw.g v0_3 rfl (Lw.nil (Cw.seq (Cw.seq (Cw.region (Lw.m (ptr (bx g0_)) rfl ?_)))))
 obtain ⟨z6, e7, hm⟩ := ob hm
 refine Lw.t rfl (T.call rfl (p79 (K := [0])  (c0 := 2) (x0 := (Vm.l30Rd.mk x0.b z1.2)) f3_1 (h0_0.ul a4) rfl e7)) ?_
 rintro _ _ ⟨W8, rfl, l8, ⟨rfl, f8_0⟩⟩
 have a9 := a4.t l8 rfl
 have o10 := f3_0.up l8 rfl
 refine Lw.nil (Cw.block (Cw.seq (Cw.region (Lw.eq rfl (Lw.g (vB ((z6.1 : Int) == (0 : Int))) rfl (Lw.nil (Cw.cond (b := ((z6.1 : Int) == (0 : Int))) rfl (fun hc11 => ?_) (fun hc11 => ?_))))))))
 ·replace hm := bt hm hc11
  refine Cw.seq (Cw.region (Lw.m v0_3 rfl (Lw.m (ptr (bx g0_)) rfl (Lw.t rfl (T.bsS (α := Str) (xs := [([97, 32, 108, 105, 110, 101, 32, 116, 111, 111, 32, 108, 111, 110, 103] : Str), ([120, 10, 121] : Str), ([255] : Str)]) 4 [] (W := W8) [vS ([97, 32, 108, 105, 110, 101, 32, 116, 111, 111, 32, 108, 111, 110, 103] : Str), vS ([120, 10, 121] : Str), vS ([255] : Str)] (Each.cons ((rdS _)) (Each.cons ((rdS _)) (Each.cons ((rdS _)) Each.nil))) rfl) ?_))))
  rintro v12 _ ⟨W12, rfl, l12, o12⟩
  have a13 := a9.n l12
  obtain ⟨z17, e18, hm⟩ := ob hm
  refine Lw.t rfl (T.call rfl (p83 (K := [0, 4])  (c0 := 2) (x0 := (Vm.l30Rd.mk x0.b z6.2)) (f8_0.up l12 rfl) ((h0_0.ul a13).sub (M := [0, 4]) rfl) (o12.rd.sub (M := [0, 4]) rfl) rfl e18)) ?_
  rintro _ _ ⟨W19, rfl, l19, ⟨rfl, f19_0⟩⟩
  have a20 := a13.t l19 rfl
  refine Lw.t rfl (T.bs 5 [vS z17.1] (cs := [vS z17.1]) rfl rfl (bsv rfl)) ?_
  rintro _ _ ⟨g23, W23, rfl, rfl, l23, b23⟩
  have a24 := a20.n l23
  obtain ⟨q28, e29, hm⟩ := ob hm
  refine Lw.t rfl (T.app1S (α := Str) (K' := []) (((o10.up l12 rfl).up l19 rfl).up l23 rfl) b23 (rdS _) rfl rfl e29) ?_
  rintro v30 _ ⟨W30, rfl, l30, o30⟩
  have a31 := a24.t l30 rfl
  refine Lw.g v30 rfl (Lw.nil ?_)
  obtain ⟨W35, ew35, l35, o35⟩ := o30.dyeO 31
  have a36 := a31.t l35 rfl
  cases hm
  rw [← ew35]
  exact Cw.ret (ret1 rfl (Res.mk a36 ⟨v30, rfl, o35.s, (((f19_0.up l23 rfl).up l30 rfl).up l35 rfl)⟩))
 ·replace hm := bf hm hc11
  refine Cw.seq (Cw.region (Lw.eq rfl (Lw.g (vB ((z6.1 : Int) == (1 : Int))) rfl (Lw.nil (Cw.cond (b := ((z6.1 : Int) == (1 : Int))) rfl (fun hc40 => ?_) (fun hc40 => ?_))))))
  ·replace hm := bt hm hc40
   refine Cw.seq (Cw.region (Lw.m v0_3 rfl (Lw.t rfl (T.bsS (α := Str) (xs := [([49] : Str), ([50] : Str), ([51] : Str), ([52] : Str), ([53] : Str), ([54] : Str), ([55] : Str), ([56] : Str), ([57] : Str), ([49, 48] : Str)]) 6 [] (W := W8) [vS ([49] : Str), vS ([50] : Str), vS ([51] : Str), vS ([52] : Str), vS ([53] : Str), vS ([54] : Str), vS ([55] : Str), vS ([56] : Str), vS ([57] : Str), vS ([49, 48] : Str)] (Each.cons ((rdS _)) (Each.cons ((rdS _)) (Each.cons ((rdS _)) (Each.cons ((rdS _)) (Each.cons ((rdS _)) (Each.cons ((rdS _)) (Each.cons ((rdS _)) (Each.cons ((rdS _)) (Each.cons ((rdS _)) (Each.cons ((rdS _)) Each.nil)))))))))) rfl) ?_)))
   rintro v41 _ ⟨W41, rfl, l41, o41⟩
   have a42 := a9.n l41
   obtain ⟨q45, e46, hm⟩ := ob hm
   refine Lw.t rfl (T.appP (α := Str) (o10.up l41 rfl) o41.rd rfl rfl e46) ?_
   rintro v47 _ ⟨W47, rfl, l47, o47⟩
   have a48 := a42.t l47 rfl
   refine Lw.g v47 rfl (Lw.nil ?_)
   obtain ⟨W51, ew51, l51, o51⟩ := o47.dyeO 31
   have a52 := a48.t l51 rfl
   cases hm
   rw [← ew51]
   exact Cw.ret (ret1 rfl (Res.mk a52 ⟨v47, rfl, o51.s, (((f8_0.up l41 rfl).up l47 rfl).up l51 rfl)⟩))
  ·replace hm := bf hm hc40
   refine Cw.skip (Cw.seq (Cw.region (Lw.m v0_3 rfl (Lw.g v0_3 rfl (Lw.nil ?_)))))
   obtain ⟨W55, ew55, l55, o55⟩ := o10.dyeO 31
   have a56 := a9.t l55 rfl
   cases hm
   rw [← ew55]
   exact Cw.ret (ret1 rfl (Res.mk a56 ⟨v0_3, rfl, o55.s, (f8_0.up l55 rfl)⟩))

theorem p77 {W : CW} {K : List Nat} {x0 : Vm.l30Rd} {g0_ : Nat} {v0_0_ : Value} {k0 : Nat} {c0 : Nat} {r : (List Str) × Int} (hB0 : Bx W c0 g0_ [v0_0_, vI x0.p]) (h0_0 : Rd W K [v0_0_] x0.b) (hJ : okJ K [c0] = true) (hm : Vm.spec_l30AnyText x0 = some r) : CallR Try.prog 77 [ptr (bx g0_)].toArray W.w (Res W [c0] fun W' v => ∃ (u0 : Value), v = u0 ∧ Ow W' k0 [] [u0] r.1 ∧ Bx W' c0 g0_ [v0_0_, vI r.2]) :=
 CallR.adJ (J := [c0]) (fun c => bif Nat.beq c 0 then 0 else bif Nat.beq c 2 then c0 else bif Nat.beq c 31 then k0 else 0) (c77 (V := W.view K [c0]) (hB0.viewJ 0 hJ) (h0_0.view _) hm) fun _ _ ⟨u0, e, f0, f1⟩ => ⟨u0, e, f0.one1.backN rfl, Bx.backJ 0 f1 rfl⟩

theorem c78 {V : CW} {x0 : Vm.l30Rd} {g0_ : Nat} {v0_0_ : Value} {x1 : List Str} {v1_ : Value} {r : (List Str) × Int} (hB0 : Bx V 2 g0_ [v0_0_, vI x0.p]) (h0_0 : Rd V [0] [v0_0_] x0.b) (h1 : Rd V [0] [v1_] x1) (hm : Vm.spec_l30Turn x0 x1 = some r) : CallR Try.prog 78 [ptr (bx g0_), v1_].toArray V.w (Res V LL fun Wf v => ∃ (u0 : Value), v = u0 ∧ OwS Wf [31] [] [u0] r.1 ∧ Bx Wf 2 g0_ [v0_0_, vI r.2]) := by
 unfold Vm.spec_l30Turn at hm
 obtain ⟨W0, hW0⟩ : ∃ W, W = V := ⟨V, rfl⟩
 subst hW0
 refine CallR.of Try.func78 rfl rfl rfl rfl (Cw.seq (Cw.region (Lw.g (.slice none 0 0) rfl (Lw.nil (Cw.seq (Cw.region (Lw.t rfl (T.lit0 (α := Str) 3 []) ?_)))))))
 rintro v1 _ ⟨W1, rfl, l1, o1⟩
 have a2 := l1.o
 have b3 := hB0.up l1 rfl
 refine Lw.m v1_ rfl ?_
 obtain ⟨q4, e5, hm⟩ := ob hm
 refine Lw.t rfl (T.appP (α := Str) o1 (h1.ul a2) rfl rfl e5) ?_
 rintro v6 _ ⟨W6, rfl, l6, o6⟩
 have a8 := a2.t l6 rfl
 refine Lw.g v6 rfl (Lw.nil (Cw.seq (Cw.seq (Cw.region (Lw.m (ptr (bx g0_)) rfl ?_)))))
 obtain ⟨z11, e12, hm⟩ := ob hm
 refine Lw.t rfl (T.call rfl (p79 (K := [0])  (c0 := 2) (x0 := x0) (b3.up l6 rfl) (h0_0.ul a8) rfl e12)) ?_
 rintro _ _ ⟨W13, rfl, l13, ⟨rfl, f13_0⟩⟩
 have a14 := a8.t l13 rfl
 refine Lw.g (vI z11.1) rfl (Lw.nil (Cw.block ?_))
 obtain ⟨K25, hK25, hm⟩ := jn_e hm
 refine Cw.loop 14 69 [5, 6, 7, 8] (fun m l w => ∃ (y16 : List Str) (y19 : Int) (y22 : Int) (v17 j20 j21 : Value) (W24 : CW), W24.w = w ∧ Le [2, 3, 4, 6] W13 W24 ∧ l = [v17, vI y19, j20, j21] ∧ Ow W24 3 [] [v17] y16 ∧ Bx W24 2 g0_ [v0_0_, vI y22] ∧ Vm.spec_l30Turn_l1 x0 K25 m y16 y19 y22 = some r) ((z11.1 - 0).toNat + 1) ⟨q4, z11.1, z11.2, v6, undef, undef, W13, rfl, Le.refl _ _, rfl, (o6.up l13 rfl), f13_0, hm⟩ ?_
 rintro m26 _ _ σ ⟨y16, y19, y22, v17, j20, j21, W24, rfl, l24, rfl, o18, b23, hm⟩
 obtain _ | m26 := m26
 ·cases hm
 unfold Vm.spec_l30Turn_l1 at hm
 have a27 := a14.t l24 rfl
 refine Cw.seq (Cw.seq (Cw.region (Lw.m (vI y19) rfl (Lw.gt rfl (Lw.nil (Cw.cond (b := decide ((0 : Int) < (y19 : Int))) rfl (fun hc28 => ?_) (fun hc28 => ?_)))))))
 ·replace hm := bt hm hc28
  refine Cw.skip ?_
  obtain ⟨K37, hK37, hm⟩ := jn_e hm
  refine Cw.join 18 69 [5, 7, 8] (fun l w => ∃ (y29 : List Str) (y34 : Int) (v30 j32 j33 : Value) (W36 : CW), W36.w = w ∧ Le [2, 3, 4, 6] W24 W36 ∧ l = [v30, j32, j33] ∧ Ow W36 3 [] [v30] y29 ∧ Bx W36 2 g0_ [v0_0_, vI y34] ∧ K37 y29 y34 = some r) ?_ ?_
  ·rintro _ _ σ ⟨y29, y34, v30, j32, j33, W36, rfl, l36, rfl, o31, b35, hm⟩
   rw [hK37] at hm
   refine Cw.region (Lw.m (vI y19) rfl (Lw.sub rfl (Lw.g (vI (w64 (y19 - 1))) rfl (Lw.nil (⟨?_, m26, Nat.lt_succ_self m26, ⟨y29, w64 (y19 - 1), y34, v30, j32, j33, W36, rfl, (l24.trans l36), rfl, o31, b35, hm⟩⟩)))))
   iterate 3 (refine Agree.up rfl ?_)
   iterate 3 (refine Agree.up rfl ?_)
   refine Agree.ov0 rfl ?_
   iterate 2 (refine Agree.up rfl ?_)
   iterate 4 (refine Agree.up rfl ?_)
   exact Agree.base
  ·refine Cw.block (Cw.seq (Cw.region (Lw.m (ptr (bx g0_)) rfl (Lw.m v17 rfl (Lw.ln y16 o18.rd rfl (Lw.add rfl ?_))))))
   obtain ⟨z40, e41, hm⟩ := ob hm
   refine Lw.t rfl (T.call rfl (p79 (K := [0])  (c0 := 2) (x0 := (Vm.l30Rd.mk x0.b y22)) b23 (h0_0.ul a27) rfl e41)) ?_
   rintro _ _ ⟨W42, rfl, l42, ⟨rfl, f42_0⟩⟩
   have a43 := a27.t l42 rfl
   refine Lw.g (vI z40.1) rfl (Lw.nil (Cw.seq (Cw.region (Lw.m (ptr (bx g0_)) rfl ?_))))
   obtain ⟨z46, e47, hm⟩ := ob hm
   refine Lw.t rfl (T.call rfl (p79 (K := [0])  (c0 := 2) (x0 := (Vm.l30Rd.mk x0.b z40.2)) f42_0 (h0_0.ul a43) rfl e47)) ?_
   rintro _ _ ⟨W48, rfl, l48, ⟨rfl, f48_0⟩⟩
   have a49 := a43.t l48 rfl
   have o50 := (o18.up l42 rfl).up l48 rfl
   refine Lw.nil (Cw.block (Cw.seq (Cw.region (Lw.eq rfl (Lw.g (vB ((z46.1 : Int) == (0 : Int))) rfl (Lw.nil (Cw.cond (b := ((z46.1 : Int) == (0 : Int))) rfl (fun hc51 => ?_) (fun hc51 => ?_))))))))
   ·replace hm := bt hm hc51
    refine Cw.seq (Cw.region (Lw.m v17 rfl (Lw.ln y16 o50.rd rfl (Lw.lt rfl (Lw.nil (Cw.cond (b := decide (((y16.length : Int) : Int) < (10 : Int))) rfl (fun hc52 => ?_) (fun hc52 => ?_)))))))
    ·replace hm := bt hm hc52
     refine Cw.seq (Cw.region (Lw.t rfl (T.lit0 (α := Str) 4 []) ?_))
     rintro v53 _ ⟨W53, rfl, l53, o53⟩
     have a54 := a49.n l53
     have o55 := o50.up l53 rfl
     refine Lw.m v17 rfl (Lw.m (vI z40.1) rfl ?_)
     obtain ⟨q57, e58, hm⟩ := ob hm
     have r60 := o55.rd.cutV e58
     refine Lw.r rfl (R.sl o55.rd e58 rfl (.inl ⟨rfl, rfl⟩) (.inr rfl)) ?_
     obtain ⟨q61, e62, hm⟩ := ob hm
     refine Lw.t rfl (T.appP (α := Str) o53 r60 rfl rfl e62) ?_
     rintro v63 _ ⟨W63, rfl, l63, o63⟩
     have a64 := a54.t l63 rfl
     refine Lw.g v63 rfl (Lw.nil (Cw.seq (Cw.region (Lw.m v63 rfl (Lw.m (ptr (bx g0_)) rfl ?_)))))
     obtain ⟨z68, e69, hm⟩ := ob hm
     refine Lw.t rfl (T.call rfl (p99 (K := [0])  (c0 := 2) (x0 := (Vm.l30Rd.mk x0.b z46.2)) ((f48_0.up l53 rfl).up l63 rfl) (h0_0.ul a64) rfl e69)) ?_
     rintro _ _ ⟨W70, rfl, l70, ⟨rfl, f70_0⟩⟩
     refine Lw.t rfl (T.bs 5 [vS z68.1] (cs := [vS z68.1]) rfl rfl (bsv rfl)) ?_
     rintro _ _ ⟨g74, W74, rfl, rfl, l74, b74⟩
     obtain ⟨q79, e80, hm⟩ := ob hm
     refine Lw.t rfl (T.app1S (α := Str) (K' := []) ((o63.up l70 rfl).up l74 rfl) b74 (rdS _) rfl rfl e80) ?_
     rintro v81 _ ⟨W81, rfl, l81, o81⟩
     have o83 := (((o55.up l63 rfl).up l70 rfl).up l74 rfl).up l81 rfl
     refine Lw.g v81 rfl (Lw.nil (Cw.region (Lw.m v81 rfl (Lw.m v17 rfl (Lw.m (vI z40.1) rfl ?_)))))
     obtain ⟨q86, e87, hm⟩ := ob hm
     have r89 := o83.rd.cutV e87
     refine Lw.r rfl (R.sl o83.rd e87 rfl (.inr rfl) (.inl ⟨rfl, rfl⟩)) ?_
     obtain ⟨q90, e91, hm⟩ := ob hm
     refine Lw.t rfl (T.appP (α := Str) o81 r89 rfl rfl e91) ?_
     rintro v92 _ ⟨W92, rfl, l92, o92⟩
     refine Lw.g v92 rfl (Lw.nil ?_)
     obtain ⟨W97, ew97, l97, o97⟩ := o92.dyeO 3
     refine ⟨?_, ⟨q90, z68.2, v92, vI z40.1, v81, W97, ew97, ((l42.sub rfl).trans ((l48.sub rfl).trans ((l53.sub rfl).trans ((l63.sub rfl).trans ((l70.sub rfl).trans ((l74.sub rfl).trans ((l81.sub rfl).trans ((l92.sub rfl).trans (l97.sub rfl))))))))), rfl, o97, ((((f70_0.up l74 rfl).up l81 rfl).up l92 rfl).up l97 rfl), hm⟩⟩
     iterate 31 (refine Agree.up rfl ?_)
     exact Agree.refl _
    ·replace hm := bf hm hc52
     refine Cw.skip (⟨?_, ⟨y16, z46.2, v17, vI z40.1, j21, W48, rfl, ((l42.sub rfl).trans (l48.sub rfl)), rfl, o50, f48_0, hm⟩⟩)
     iterate 13 (refine Agree.up rfl ?_)
     exact Agree.refl _
   ·replace hm := bf hm hc51
    refine Cw.seq (Cw.region (Lw.eq rfl (Lw.g (vB ((z46.1 : Int) == (1 : Int))) rfl (Lw.nil (Cw.cond (b := ((z46.1 : Int) == (1 : Int))) rfl (fun hc101 => ?_) (fun hc101 => ?_))))))
    ·replace hm := bt hm hc101
     refine Cw.seq (Cw.region (Lw.m (vI z40.1) rfl (Lw.m v17 rfl (Lw.ln y16 o50.rd rfl (Lw.lt rfl (Lw.nil (Cw.cond (b := decide ((z40.1 : Int) < ((y16.length : Int) : Int))) rfl (fun hc102 => ?_) (fun hc102 => ?_))))))))
     ·replace hm := bt hm hc102
      refine Cw.draw [] [(1, 0), (2, 0), (3, 0), (5, 0), (6, 0), (7, 0), (8, 0), (0, 3), (4, 3), (9, 3), (10, 0)] mixed (by kernel_rfl) fun W103 l103 => ?_
      have o105 := o50.up l103 rfl
      refine Mw.p rfl rfl (fun _ => R.mv (v := v17) rfl) (Mw.p rfl rfl (fun _ => R.mv (v := vI z40.1) rfl) ?_)
      obtain ⟨q107, e108, hm⟩ := ob hm
      have r110 := o105.rd.cutV e108
      refine Mw.p rfl rfl (fun _ => R.sl o105.rd e108 rfl (.inl ⟨rfl, rfl⟩) (.inr rfl)) (Mw.p rfl rfl (fun _ => R.mv (v := v17) rfl) (Mw.p rfl rfl (fun _ => R.mv (v := vI z40.1) rfl) (Mw.p rfl rfl (fun _ => R.add rfl rfl) ?_)))
      obtain ⟨q111, e112, hm⟩ := ob hm
      have r114 := o105.rd.cutV e112
      refine Mw.p rfl rfl (fun _ => R.sl o105.rd e112 rfl (.inr rfl) (.inl ⟨rfl, rfl⟩)) (Mw.l rfl rfl (T.lit0 (α := Str) 6 []) ?_)
      rintro v115 _ ⟨W115, rfl, l115, o115⟩
      obtain ⟨q119, e120, hm⟩ := ob hm
      have s122 := r110.up (l115.sub (M := []) rfl) rfl
      refine Mw.l rfl rfl (T.appP (α := Str) o115 s122 rfl rfl e120) ?_
      rintro v121 _ ⟨W121, rfl, l121, o121⟩
      obtain ⟨q126, e127, hm⟩ := ob hm
      have s129 := r114.up ((l115.sub (M := [6]) rfl).trans (l121.sub (M := [6]) rfl)) rfl
      refine Mw.l rfl rfl (T.appP (α := Str) o121 s129 rfl rfl e127) ?_
      rintro v128 _ ⟨W128, rfl, l128, o128⟩
      refine Mw.p rfl rfl (fun _ => R.as (v := v128) rfl) (Mw.nil ?_)
      obtain ⟨W133, ew133, l133, o133⟩ := o128.dyeO 3
      refine ⟨?_, ⟨q126, z46.2, v128, vI z40.1, j21, W133, ew133, ((l42.sub rfl).trans ((l48.sub rfl).trans ((l103.sub rfl).trans ((l115.sub rfl).trans ((l121.sub rfl).trans ((l128.sub rfl).trans (l133.sub rfl))))))), rfl, o133, (((((f48_0.up l103 rfl).up l115 rfl).up l121 rfl).up l128 rfl).up l133 rfl), hm⟩⟩
      iterate 27 (refine Agree.up rfl ?_)
      exact Agree.refl _
     ·replace hm := bf hm hc102
      refine Cw.skip (⟨?_, ⟨y16, z46.2, v17, vI z40.1, j21, W48, rfl, ((l42.sub rfl).trans (l48.sub rfl)), rfl, o50, f48_0, hm⟩⟩)
      iterate 16 (refine Agree.up rfl ?_)
      exact Agree.refl _
    ·replace hm := bf hm hc101
     refine Cw.seq (Cw.region (Lw.m (vI z40.1) rfl (Lw.m v17 rfl (Lw.ln y16 o50.rd rfl (Lw.lt rfl (Lw.nil (Cw.cond (b := decide ((z40.1 : Int) < ((y16.length : Int) : Int))) rfl (fun hc136 => ?_) (fun hc136 => ?_))))))))
     ·replace hm := bt hm hc136
      refine Cw.region (Lw.m v17 rfl (Lw.m (vI z40.1) rfl (Lw.m (ptr (bx g0_)) rfl ?_)))
      obtain ⟨z138, e139, hm⟩ := ob hm
      refine Lw.t rfl (T.call rfl (p99 (K := [0])  (c0 := 2) (x0 := (Vm.l30Rd.mk x0.b z46.2)) f48_0 (h0_0.ul a49) rfl e139)) ?_
      rintro _ _ ⟨W140, rfl, l140, ⟨rfl, f140_0⟩⟩
      obtain ⟨u143, e144, hm⟩ := ob hm
      refine Lw.r rfl (R.ix (α := Str) (o50.up l140 rfl).rd e144 rfl rfl rfl) ?_
      obtain ⟨q146, e147, hm⟩ := ob hm
      refine Lw.u (T.stS (K' := []) (o50.up l140 rfl) (rdS _) e147 rfl rfl rfl) ?_
      rintro _ _ ⟨W145, rfl, l145, o145⟩
      refine Lw.nil (⟨?_, ⟨q146, z138.2, v17, vI z40.1, j21, W145, rfl, ((l42.sub rfl).trans ((l48.sub rfl).trans ((l140.sub rfl).trans (l145.sub rfl)))), rfl, o145, (f140_0.up l145 rfl), hm⟩⟩)
      iterate 21 (refine Agree.up rfl ?_)
      exact Agree.refl _
     ·replace hm := bf hm hc136
      refine Cw.skip (⟨?_, ⟨y16, z46.2, v17, vI z40.1, j21, W48, rfl, ((l42.sub rfl).trans (l48.sub rfl)), rfl, o50, f48_0, hm⟩⟩)
      iterate 16 (refine Agree.up rfl ?_)
      exact Agree.refl _
 ·replace hm := bf hm hc28
  refine Cw.exit ?_
  rw [hK25] at hm
  refine Cw.seq (Cw.region (Lw.m v17 rfl (Lw.g v17 rfl (Lw.nil ?_))))
  obtain ⟨W150, ew150, l150, o150⟩ := o18.dyeO 31
  have a151 := a27.t l150 rfl
  cases hm
  rw [← ew150]
  exact Cw.ret (ret1 rfl (Res.mk a151 ⟨v17, rfl, o150.s, (b23.up l150 rfl)⟩))

theorem p78 {W : CW} {K : List Nat} {x0 : Vm.l30Rd} {g0_ : Nat} {v0_0_ : Value} {x1 : List Str} {v1_ : Value} {k0 : Nat} {c0 : Nat} {r : (List Str) × Int} (hB0 : Bx W c0 g0_ [v0_0_, vI x0.p]) (h0_0 : Rd W K [v0_0_] x0.b) (h1 : Rd W K [v1_] x1) (hJ : okJ K [c0] = true) (hm : Vm.spec_l30Turn x0 x1 = some r) : CallR Try.prog 78 [ptr (bx g0_), v1_].toArray W.w (Res W [c0] fun W' v => ∃ (u0 : Value), v = u0 ∧ Ow W' k0 [] [u0] r.1 ∧ Bx W' c0 g0_ [v0_0_, vI r.2]) :=
 CallR.adJ (J := [c0]) (fun c => bif Nat.beq c 0 then 0 else bif Nat.beq c 2 then c0 else bif Nat.beq c 31 then k0 else 0) (c78 (V := W.view K [c0]) (hB0.viewJ 0 hJ) (h0_0.view _) (h1.view _) hm) fun _ _ ⟨u0, e, f0, f1⟩ => ⟨u0, e, f0.one1.backN rfl, Bx.backJ 0 f1 rfl⟩

theorem c71 {V : CW} {x0 : List Byte} {v0_ : Value} {r : (List Str) × (List Str) × (List Str)} (h0 : Rd V [0] [v0_] x0) (hm : Vm.spec_l30Three x0 = some r) : CallR Try.prog 71 [v0_].toArray V.w (Res V LL fun Wf v => ∃ (u0 : Value) (u1 : Value) (u2 : Value), v = .tuple [u0, u1, u2].toArray ∧ OwS Wf LL [] [u0] r.1 ∧ Rd Wf [0] [u1] r.2.1 ∧ Rd Wf [0] [u2] r.2.2) := by
 unfold Vm.spec_l30Three at hm
 obtain ⟨W0, hW0⟩ : ∃ W, W = V := ⟨V, rfl⟩
 subst hW0
 refine CallR.of Try.func71 rfl rfl rfl rfl (Cw.seq (Cw.region (Lw.g (.slice none 0 0) rfl (Lw.g (.slice none 0 0) rfl (Lw.g (.slice none 0 0) rfl (Lw.nil (Cw.seq (Cw.region (Lw.m v0_ rfl ?_)))))))))
 obtain ⟨z1, e2, hm⟩ := ob hm
 refine Lw.t rfl (T.call rfl (p58 (K := [0]) (k0 := 2) h0 e2)) ?_
 rintro _ _ ⟨W3, rfl, l3, ⟨g0_3, v0_0_3, rfl, f3_0, f3_1⟩⟩
 have s4 := f3_1.sub (M := [0]) rfl
 have a5 := l3.o
 refine Lw.g (ptr (bx g0_3)) rfl (Lw.nil (Cw.seq (Cw.region (Lw.m (ptr (bx g0_3)) rfl ?_))))
 obtain ⟨z6, e7, hm⟩ := ob hm
 refine Lw.t rfl (T.call rfl (p77 (K := [0]) (k0 := 3) (c0 := 2) (x0 := z1) f3_0 s4 rfl e7)) ?_
 rintro v0_8 _ ⟨W8, rfl, l8, ⟨_, rfl, f8_0, f8_1⟩⟩
 have a9 := l8.s rfl
 refine Lw.g v0_8 rfl (Lw.nil (Cw.seq (Cw.region (Lw.m (ptr (bx g0_3)) rfl (Lw.m v0_8 rfl ?_)))))
 obtain ⟨z11, e12, hm⟩ := ob hm
 refine Lw.t rfl (T.call rfl (p78 (K := [0, 3]) (k0 := 4) (c0 := 2) (x0 := (Vm.l30Rd.mk z1.b z6.2)) f8_1 ((s4.ul a9).sub (M := [0, 3]) rfl) (f8_0.rd.sub (M := [0, 3]) rfl) rfl e12)) ?_
 rintro v0_13 _ ⟨W13, rfl, l13, ⟨_, rfl, f13_0, f13_1⟩⟩
 have a14 := l13.s rfl
 refine Lw.g v0_13 rfl (Lw.nil (Cw.seq (Cw.seq (Cw.region (Lw.m (ptr (bx g0_3)) rfl ?_)))))
 obtain ⟨z17, e18, hm⟩ := ob hm
 refine Lw.t rfl (T.call rfl (p79 (K := [0])  (c0 := 2) (x0 := (Vm.l30Rd.mk z1.b z11.2)) f13_1 (s4.ul (a9.trans a14)) rfl e18)) ?_
 rintro _ _ ⟨W19, rfl, l19, ⟨rfl, f19_0⟩⟩
 have a20 := l19.s rfl
 have o21 := (f8_0.up l13 rfl).up l19 rfl
 refine Lw.eq rfl (Lw.nil (Cw.cond (b := ((z17.1 : Int) == (0 : Int))) rfl (fun hc23 => ?_) (fun hc23 => ?_)))
 ·replace hm := bt hm hc23
  refine Cw.seq (Cw.region (Lw.m v0_8 rfl (Lw.m v0_13 rfl (Lw.m v0_13 rfl (Lw.g v0_8 rfl (Lw.g v0_13 rfl (Lw.g v0_13 rfl (Lw.nil ?_))))))))
  obtain ⟨W24, ew24, l24, dj24⟩ := dyeE _ 4
  have s25 : Rd (α := List Str) W24 [0] [v0_13] z11.1 := by rw [dj24]; exact ((f13_0.up l19 rfl).rd.dye 4).sub (M := [0]) rfl
  have a26 := (((a5.trans a9).trans a14).trans a20).t l24 rfl
  cases hm
  rw [← ew24]
  exact Cw.ret (ret3 rfl rfl rfl (Res.mk a26 ⟨v0_8, v0_13, v0_13, rfl, (o21.up l24 rfl).s.sub rfl rfl, s25, s25⟩))
 ·replace hm := bf hm hc23
  refine Cw.skip (Cw.seq (Cw.region (Lw.m v0_8 rfl (Lw.m v0_13 rfl (Lw.m (ptr (bx g0_3)) rfl (Lw.m v0_8 rfl ?_))))))
  obtain ⟨z30, e31, hm⟩ := ob hm
  refine Lw.t rfl (T.call rfl (p78 (K := [0, 3]) (k0 := 5) (c0 := 2) (x0 := (Vm.l30Rd.mk z1.b z17.2)) f19_0 ((s4.ul ((a9.trans a14).trans a20)).sub (M := [0, 3]) rfl) (o21.rd.sub (M := [0, 3]) rfl) rfl e31)) ?_
  rintro v0_32 _ ⟨W32, rfl, l32, ⟨_, rfl, f32_0, f32_1⟩⟩
  have a33 := (((a5.trans a9).trans a14).trans a20).t l32 rfl
  refine Lw.g v0_8 rfl (Lw.g v0_13 rfl (Lw.g v0_32 rfl (Lw.nil ?_)))
  obtain ⟨W36, ew36, l36, dj36⟩ := dyeE _ 4
  have s37 : Rd (α := List Str) W36 [0] [v0_13] z11.1 := by rw [dj36]; exact (((f13_0.up l19 rfl).up l32 rfl).rd.dye 4).sub (M := [0]) rfl
  have a38 := a33.t l36 rfl
  obtain ⟨W42, ew42, l42, dj42⟩ := dyeE _ 5
  have s43 : Rd (α := List Str) W42 [0] [v0_32] z30.1 := by rw [dj42]; exact ((f32_0.up l36 rfl).rd.dye 5).sub (M := [0]) rfl
  have a44 := l42.s rfl
  cases hm
  rw [← ew42.trans (ew36)]
  exact Cw.ret (ret3 rfl rfl rfl (Res.mk (a38.trans a44) ⟨v0_8, v0_13, v0_32, rfl, (((o21.up l32 rfl).up l36 rfl).up l42 rfl).s.sub rfl rfl, (s37.ul a44), s43⟩))

theorem p71 {W : CW} {K : List Nat} {x0 : List Byte} {v0_ : Value} {k0 : Nat} {r : (List Str) × (List Str) × (List Str)} (h0 : Rd W K [v0_] x0) (hm : Vm.spec_l30Three x0 = some r) : CallR Try.prog 71 [v0_].toArray W.w (Res W [] fun W' v => ∃ (u0 : Value) (u1 : Value) (u2 : Value), v = .tuple [u0, u1, u2].toArray ∧ Ow W' k0 [] [u0] r.1 ∧ Rd W' (0 :: K) [u1] r.2.1 ∧ Rd W' (0 :: K) [u2] r.2.2) :=
 (c71 (V := W.view K []) (h0.view _) hm).ad (fk k0) fun _ _ ⟨u0, u1, u2, e, f0, f1, f2⟩ => ⟨u0, u1, u2, e, f0.back (fk_LL _), f1.back rfl, f2.back rfl⟩

theorem c32 {V : CW} {x0 : List Byte} {v0_ : Value} {r : (List Str) × (List Str) × (List Str)} (h0 : Rd V [0] [v0_] x0) (hm : Vm.spec_DrawMergeOf x0 = some r) : CallR Try.prog 32 [v0_].toArray V.w (Res V LL fun Wf v => ∃ (u0 : Value) (u1 : Value) (u2 : Value), v = .tuple [u0, u1, u2].toArray ∧ OwS Wf LL [] [u0] r.1 ∧ Rd Wf [0] [u1] r.2.1 ∧ Rd Wf [0] [u2] r.2.2) := by
 unfold Vm.spec_DrawMergeOf at hm
 obtain ⟨W0, hW0⟩ : ∃ W, W = V := ⟨V, rfl⟩
 subst hW0
 refine CallR.of Try.func32 rfl rfl rfl rfl (Cw.seq (Cw.region (Lw.g (.slice none 0 0) rfl (Lw.g (.slice none 0 0) rfl (Lw.g (.slice none 0 0) rfl (Lw.nil (Cw.seq (Cw.region (Lw.m v0_ rfl ?_)))))))))
 obtain ⟨z1, e2, hm⟩ := ob hm
 refine Lw.t rfl (T.call rfl (p71 (K := [0]) (k0 := 2) h0 e2)) ?_
 rintro _ _ ⟨W3, rfl, l3, ⟨v0_3, v1_3, v2_3, rfl, f3_0, f3_1, f3_2⟩⟩
 have s4 := f3_1.sub (M := [0]) rfl
 have s5 := f3_2.sub (M := [0]) rfl
 have a6 := l3.o
 refine Lw.r rfl (R.ext (vs := [v0_3, v1_3, v2_3]) (v := v0_3) rfl rfl) (Lw.r rfl (R.ext (vs := [v0_3, v1_3, v2_3]) (v := v1_3) rfl rfl) (Lw.r rfl (R.ext (vs := [v0_3, v1_3, v2_3]) (v := v2_3) rfl rfl) (Lw.g v0_3 rfl (Lw.g v1_3 rfl (Lw.g v2_3 rfl (Lw.nil ?_))))))
 cases hm
 exact Cw.ret (ret3 rfl rfl rfl (Res.mk a6 ⟨v0_3, v1_3, v2_3, rfl, f3_0.s.sub rfl rfl, s4, s5⟩))

theorem p32 {W : CW} {K : List Nat} {x0 : List Byte} {v0_ : Value} {k0 : Nat} {r : (List Str) × (List Str) × (List Str)} (h0 : Rd W K [v0_] x0) (hm : Vm.spec_DrawMergeOf x0 = some r) : CallR Try.prog 32 [v0_].toArray W.w (Res W [] fun W' v => ∃ (u0 : Value) (u1 : Value) (u2 : Value), v = .tuple [u0, u1, u2].toArray ∧ Ow W' k0 [] [u0] r.1 ∧ Rd W' (0 :: K) [u1] r.2.1 ∧ Rd W' (0 :: K) [u2] r.2.2) :=
 (c32 (V := W.view K []) (h0.view _) hm).ad (fk k0) fun _ _ ⟨u0, u1, u2, e, f0, f1, f2⟩ => ⟨u0, u1, u2, e, f0.back (fk_LL _), f1.back rfl, f2.back rfl⟩

theorem c33 {V : CW} {x0 : List Str} {v0_ : Value} {x1 : List Str} {v1_ : Value} {x2 : List Str} {v2_ : Value} {r : (List Vm.Part)} (h0 : Rd V [0] [v0_] x0) (h1 : Rd V [0] [v1_] x1) (h2 : Rd V [0] [v2_] x2) (hm : Vm.impl_MergeOf x0 x1 x2 = some r) : CallR Try.prog 33 [v0_, v1_, v2_].toArray V.w (Res V LL fun Wf v => ∃ (u0 : Value), v = u0 ∧ OwS Wf LL [] [u0] r) := by
 unfold Vm.impl_MergeOf at hm
 obtain ⟨W0, hW0⟩ : ∃ W, W = V := ⟨V, rfl⟩
 subst hW0
 refine CallR.of Try.func33 rfl rfl rfl rfl (Cw.seq (Cw.region (Lw.g (.slice none 0 0) rfl (Lw.nil (Cw.seq (Cw.seq (Cw.region (Lw.m v0_ rfl (Lw.m v1_ rfl (Lw.m v2_ rfl ?_))))))))))
 obtain ⟨z1, e2, hm⟩ := ob hm
 refine Lw.t rfl (T.call rfl (p54 (K := [0])  h0 h1 h2 e2)) ?_
 rintro _ _ ⟨W3, rfl, l3, rfl⟩
 have a4 := l3.o
 refine Lw.r rfl (R.not rfl) (Lw.nil (Cw.cond (b := (!z1)) rfl (fun hc5 => ?_) (fun hc5 => ?_)))
 ·replace hm := bt hm hc5
  refine Cw.seq (Cw.region (Lw.g (.slice none 0 0) rfl (Lw.nil ?_)))
  cases hm
  exact Cw.ret (ret1 rfl (Res.mk a4 ⟨.slice none 0 0, rfl, (owsN []).sub rfl rfl⟩))
 ·replace hm := bf hm hc5
  refine Cw.skip (Cw.seq (Cw.region (Lw.m v0_ rfl (Lw.m v1_ rfl (Lw.m v2_ rfl ?_)))))
  obtain ⟨z9, e10, hm⟩ := ob hm
  refine Lw.t rfl (T.call rfl (p69 (K := [0]) (k0 := 2) (h0.ul a4) (h1.ul a4) (h2.ul a4) e10)) ?_
  rintro v0_11 _ ⟨W11, rfl, l11, ⟨_, rfl, f11_0⟩⟩
  have a12 := a4.n l11
  refine Lw.g v0_11 rfl (Lw.nil ?_)
  cases hm
  exact Cw.ret (ret1 rfl (Res.mk a12 ⟨v0_11, rfl, f11_0.s.sub rfl rfl⟩))

theorem p33 {W : CW} {K : List Nat} {x0 : List Str} {v0_ : Value} {x1 : List Str} {v1_ : Value} {x2 : List Str} {v2_ : Value} {k0 : Nat} {r : (List Vm.Part)} (h0 : Rd W K [v0_] x0) (h1 : Rd W K [v1_] x1) (h2 : Rd W K [v2_] x2) (hm : Vm.impl_MergeOf x0 x1 x2 = some r) : CallR Try.prog 33 [v0_, v1_, v2_].toArray W.w (Res W [] fun W' v => ∃ (u0 : Value), v = u0 ∧ Ow W' k0 [] [u0] r) :=
 (c33 (V := W.view K []) (h0.view _) (h1.view _) (h2.view _) hm).ad (fk k0) fun _ _ ⟨u0, e, f0⟩ => ⟨u0, e, f0.back (fk_LL _)⟩

theorem c35 {V : CW} {x0 : List Str} {v0_ : Value} {x1 : List Str} {v1_ : Value} {x2 : List Str} {v2_ : Value} {r : (List Vm.Part)} (h0 : Rd V [0] [v0_] x0) (h1 : Rd V [0] [v1_] x1) (h2 : Rd V [0] [v2_] x2) (hm : Vm.spec_MergeOf x0 x1 x2 = some r) : CallR Try.prog 35 [v0_, v1_, v2_].toArray V.w (Res V LL fun Wf v => ∃ (u0 : Value), v = u0 ∧ OwS Wf LL [] [u0] r) := by
 unfold Vm.spec_MergeOf at hm
 obtain ⟨W0, hW0⟩ : ∃ W, W = V := ⟨V, rfl⟩
 subst hW0
 refine CallR.of Try.func35 rfl rfl rfl rfl (Cw.seq (Cw.region (Lw.g (.slice none 0 0) rfl (Lw.nil (Cw.seq ?_)))))
 obtain ⟨K3, hK3, hm⟩ := jn_e hm
 refine Cw.join 7 19 [19] (fun l w => ∃ (y1 : Bool) (W2 : CW), W2.w = w ∧ Le [] W0 W2 ∧ l = [vB y1] ∧ K3 y1 = some r) ?_ ?_
 ·rintro _ _ σ ⟨y1, W2, rfl, l2, rfl, hm⟩
  rw [hK3] at hm
  have a4 := l2.o
  refine Cw.cond (b := y1) rfl (fun hc5 => ?_) (fun hc5 => ?_)
  ·replace hm := bt hm hc5
   refine Cw.seq (Cw.region (Lw.g (.slice none 0 0) rfl (Lw.nil ?_)))
   cases hm
   exact Cw.ret (ret1 rfl (Res.mk a4 ⟨.slice none 0 0, rfl, (owsN []).sub rfl rfl⟩))
  ·replace hm := bf hm hc5
   refine Cw.skip (Cw.seq (Cw.region (Lw.m v0_ rfl (Lw.m v1_ rfl (Lw.m v2_ rfl ?_)))))
   obtain ⟨z9, e10, hm⟩ := ob hm
   refine Lw.t rfl (T.call rfl (p67 (K := [0]) (k0 := 2) (h0.ul a4) (h1.ul a4) (h2.ul a4) e10)) ?_
   rintro v0_11 _ ⟨W11, rfl, l11, ⟨_, rfl, f11_0⟩⟩
   have a12 := a4.n l11
   refine Lw.g v0_11 rfl (Lw.nil ?_)
   cases hm
   exact Cw.ret (ret1 rfl (Res.mk a12 ⟨v0_11, rfl, f11_0.s.sub rfl rfl⟩))
 ·refine Cw.region (Lw.m v0_ rfl ?_)
  obtain ⟨z13, e14, hm⟩ := ob hm
  refine Lw.t rfl (T.call rfl (p66 (K := [0])  h0 e14)) ?_
  rintro _ _ ⟨W15, rfl, l15, rfl⟩
  have a16 := l15.o
  refine Lw.r rfl (R.not rfl) (Lw.m (vB (!z13)) rfl (bsplit (!z13) (fun hc17 => ?_) (fun hc17 => ?_)))
  ·replace hm := bt hm hc17
   refine Lw.pass' hc17 rfl rfl rfl rfl rfl rfl rfl (Lw.pass' hc17 rfl rfl rfl rfl rfl rfl rfl (Lw.pass' hc17 rfl rfl rfl rfl rfl rfl rfl (Lw.p hc17 (vB true) rfl (Lw.m (vB true) rfl (Lw.pass' rfl rfl rfl rfl rfl rfl rfl rfl (Lw.pass' rfl rfl rfl rfl rfl rfl rfl rfl (Lw.pass' rfl rfl rfl rfl rfl rfl rfl rfl (Lw.p rfl (vB true) rfl (Lw.nil (⟨?_, ⟨true, W15, rfl, l15, rfl, hm⟩⟩))))))))))
   iterate 13 (refine Agree.up rfl ?_)
   exact Agree.refl _
  ·replace hm := bf hm hc17
   refine Lw.want' hc17 rfl rfl rfl rfl (Lw.m v1_ rfl (Lw.want' hc17 rfl rfl rfl rfl ?_))
   obtain ⟨z19, e20, hm⟩ := ob hm
   refine Lw.t rfl (T.call rfl (p66 (K := [0])  (h1.ul a16) e20)) ?_
   rintro _ _ ⟨W21, rfl, l21, rfl⟩
   have a22 := a16.n l21
   refine Lw.want' hc17 rfl rfl rfl rfl (Lw.r rfl (R.not rfl) (Lw.p hc17 (vB (!z19)) rfl (Lw.m (vB (!z19)) rfl (bsplit (!z19) (fun hc23 => ?_) (fun hc23 => ?_)))))
   ·replace hm := bt hm hc23
    refine Lw.pass' hc23 rfl rfl rfl rfl rfl rfl rfl (Lw.pass' hc23 rfl rfl rfl rfl rfl rfl rfl (Lw.pass' hc23 rfl rfl rfl rfl rfl rfl rfl (Lw.p hc23 (vB true) rfl (Lw.nil (⟨?_, ⟨true, W21, rfl, (l15.trans l21), rfl, hm⟩⟩)))))
    iterate 13 (refine Agree.up rfl ?_)
    exact Agree.refl _
   ·replace hm := bf hm hc23
    refine Lw.want' hc23 rfl rfl rfl rfl (Lw.m v2_ rfl (Lw.want' hc23 rfl rfl rfl rfl ?_))
    obtain ⟨z25, e26, hm⟩ := ob hm
    refine Lw.t rfl (T.call rfl (p66 (K := [0])  (h2.ul a22) e26)) ?_
    rintro _ _ ⟨W27, rfl, l27, rfl⟩
    refine Lw.want' hc23 rfl rfl rfl rfl (Lw.r rfl (R.not rfl) (Lw.p hc23 (vB (!z25)) rfl (Lw.nil (⟨?_, ⟨(!z25), W27, rfl, (l15.trans (l21.trans l27)), rfl, hm⟩⟩))))
    iterate 13 (refine Agree.up rfl ?_)
    exact Agree.refl _

theorem p35 {W : CW} {K : List Nat} {x0 : List Str} {v0_ : Value} {x1 : List Str} {v1_ : Value} {x2 : List Str} {v2_ : Value} {k0 : Nat} {r : (List Vm.Part)} (h0 : Rd W K [v0_] x0) (h1 : Rd W K [v1_] x1) (h2 : Rd W K [v2_] x2) (hm : Vm.spec_MergeOf x0 x1 x2 = some r) : CallR Try.prog 35 [v0_, v1_, v2_].toArray W.w (Res W [] fun W' v => ∃ (u0 : Value), v = u0 ∧ Ow W' k0 [] [u0] r) :=
 (c35 (V := W.view K []) (h0.view _) (h1.view _) (h2.view _) hm).ad (fk k0) fun _ _ ⟨u0, e, f0⟩ => ⟨u0, e, f0.back (fk_LL _)⟩

theorem c34 {V : CW} {x0 : List Vm.Part} {v0_ : Value} {x1 : List Vm.Part} {v1_ : Value} {r : Bool} (h0 : Rd V [0] [v0_] x0) (h1 : Rd V [0] [v1_] x1) (hm : Vm.laws_smParts x0 x1 = some r) : CallR Try.prog 34 [v0_, v1_].toArray V.w (Res V LL fun Wf v => v = vB r) := by
 unfold Vm.laws_smParts at hm
 obtain ⟨W0, hW0⟩ : ∃ W, W = V := ⟨V, rfl⟩
 subst hW0
 refine CallR.of Try.func34 rfl rfl rfl rfl (Cw.seq (Cw.region (Lw.g (vB false) rfl (Lw.nil (Cw.seq (Cw.seq (Cw.region (Lw.m v0_ rfl (Lw.ln x0 h0 rfl (Lw.m v1_ rfl (Lw.ln x1 h1 rfl (Lw.ne rfl (Lw.nil (Cw.cond (b := (((x0.length : Int) : Int) != ((x1.length : Int) : Int))) rfl (fun hc1 => ?_) (fun hc1 => ?_)))))))))))))))
 ·replace hm := bt hm hc1
  refine Cw.seq (Cw.region (Lw.g (vB false) rfl (Lw.nil ?_)))
  cases hm
  exact Cw.ret (ret1 rfl (Res.mk (Le.refl _ _) rfl))
 ·replace hm := bf hm hc1
  refine Cw.skip (Cw.seq (Cw.seq (Cw.region (Lw.g (vI 0) rfl (Lw.nil (Cw.block ?_))))))
  obtain ⟨K5, hK5, hm⟩ := jn_e hm
  refine Cw.loop 11 83 [4, 5] (fun m l w => ∃ (y2 : Bool) (y3 : Int) (W4 : CW), W4.w = w ∧ Le [] W0 W4 ∧ l = [vB y2, vI y3] ∧ Vm.laws_smParts_l1 x0 x1 K5 m y2 y3 = some r) (((x0.length : Int) - 0).toNat + 1) ⟨false, 0, W0, rfl, Le.refl _ _, rfl, hm⟩ ?_
  rintro m6 _ _ σ ⟨y2, y3, W4, rfl, l4, rfl, hm⟩
  obtain _ | m6 := m6
  ·cases hm
  unfold Vm.laws_smParts_l1 at hm
  have a7 := l4.o
  refine Cw.seq (Cw.seq (Cw.region (Lw.m (vI y3) rfl (Lw.m v0_ rfl (Lw.ln x0 (h0.ul a7) rfl (Lw.lt rfl (Lw.nil (Cw.cond (b := decide ((y3 : Int) < ((x0.length : Int) : Int))) rfl (fun hc9 => ?_) (fun hc9 => ?_)))))))))
  ·replace hm := bt hm hc9
   refine Cw.skip (Cw.seq (Cw.block ?_))
   obtain ⟨K12, hK12, hm⟩ := jn_e hm
   refine Cw.join 17 83 [83] (fun l w => ∃ (y10 : Bool) (W11 : CW), W11.w = w ∧ Le [] W4 W11 ∧ l = [vB y10] ∧ K12 y10 = some r) ?_ ?_
   ·rintro _ _ σ ⟨y10, W11, rfl, l11, rfl, hm⟩
    rw [hK12] at hm
    have a13 := a7.n l11
    refine Cw.cond (b := y10) rfl (fun hc14 => ?_) (fun hc14 => ?_)
    ·replace hm := bt hm hc14
     refine Cw.seq (Cw.region (Lw.g (vB false) rfl (Lw.nil ?_)))
     cases hm
     exact Cw.ret (ret1 rfl (Res.mk a13 rfl))
    ·replace hm := bf hm hc14
     refine Cw.skip (Cw.region (Lw.m (vI y3) rfl (Lw.add rfl (Lw.g (vI (w64 (y3 + 1))) rfl (Lw.nil (⟨?_, m6, Nat.lt_succ_self m6, ⟨y2, w64 (y3 + 1), W11, rfl, (l4.trans l11), rfl, hm⟩⟩))))))
     iterate 3 (refine Agree.up rfl ?_)
     iterate 1 (refine Agree.up rfl ?_)
     refine Agree.ov0 rfl ?_
     iterate 4 (refine Agree.up rfl ?_)
     iterate 2 (refine Agree.up rfl ?_)
     exact Agree.base
   ·refine Cw.draw [] [(0, 0), (1, 0), (2, 0), (3, 0), (4, 1), (5, 0), (6, 0), (7, 0), (8, 0), (9, 1), (10, 0), (11, 0), (12, 0), (13, 0), (14, 0), (15, 0), (16, 1), (17, 0), (18, 0), (19, 0), (20, 0), (21, 1), (22, 2), (23, 0), (24, 0), (25, 0), (26, 0), (27, 0), (28, 0), (29, 0), (30, 1), (31, 0), (32, 0), (33, 0), (34, 0), (35, 1), (36, 2), (37, 0), (38, 0), (39, 0), (40, 0), (41, 0), (42, 0), (43, 0), (44, 1), (45, 0), (46, 0), (47, 0), (48, 0), (49, 1), (50, 2), (51, 0), (52, 0), (53, 0), (54, 0), (55, 0), (56, 0), (57, 0), (58, 1), (59, 0), (60, 0), (61, 0), (62, 0), (63, 1), (64, 2), (65, 0), (66, 0)] mixed (by kernel_rfl) fun W15 l15 => ?_
    have a16 := a7.n l15
    refine Mw.p rfl rfl (fun _ => R.mv (v := v0_) rfl) (Mw.p rfl rfl (fun _ => R.mv (v := vI y3) rfl) ?_)
    obtain ⟨u17, e18, hm⟩ := ob hm
    have s19 := h0.ul a16
    refine Mw.p rfl rfl (fun _ => R.ix (α := Part) s19 e18 rfl rfl rfl) (Mw.p rfl rfl (fun _ => R.fa rfl) (Mw.q rfl rfl (fun _ c => R.ld rfl rfl (cl_cell (Part.at0 (s19.at_ e18)).1 rfl (Part.at0 (s19.at_ e18)).bool c)) (Mw.p rfl rfl (fun _ => R.mv (v := v1_) rfl) (Mw.p rfl rfl (fun _ => R.mv (v := vI y3) rfl) ?_))))
    obtain ⟨u20, e21, hm⟩ := ob hm
    have s22 := h1.ul a16
    refine Mw.p rfl rfl (fun _ => R.ix (α := Part) s22 e21 rfl rfl rfl) (Mw.p rfl rfl (fun _ => R.fa rfl) (Mw.q rfl rfl (fun _ c => R.ld rfl rfl (cl_cell (Part.at0 (s22.at_ e21)).1 rfl (Part.at0 (s22.at_ e21)).bool c)) (Mw.p rfl rfl (fun _ => R.bne rfl rfl) (Mw.p rfl rfl (fun _ => R.mv (v := vB (u17.Clash != u20.Clash)) rfl) (bsplit (u17.Clash != u20.Clash) (fun hc23 => ?_) (fun hc23 => ?_))))))
    ·replace hm := bt hm hc23
     refine Mw.pass' hc23 rfl rfl rfl rfl rfl rfl (Mw.pass' hc23 rfl rfl rfl rfl rfl rfl (Mw.pass' hc23 rfl rfl rfl rfl rfl rfl (Mw.pass' hc23 rfl rfl rfl rfl rfl rfl (Mw.pass' hc23 rfl rfl rfl rfl rfl rfl (Mw.pass' hc23 rfl rfl rfl rfl rfl rfl (Mw.pass' hc23 rfl rfl rfl rfl rfl rfl (Mw.pass' hc23 rfl rfl rfl rfl rfl rfl (Mw.pass' hc23 rfl rfl rfl rfl rfl rfl (Mw.pass' hc23 rfl rfl rfl rfl rfl rfl (Mw.pass' hc23 rfl rfl rfl rfl rfl rfl (Mw.pass' hc23 rfl rfl rfl rfl rfl rfl (Mw.p rfl rfl (fun _ => R.pk hc23 rfl (v := vB true) rfl) (Mw.p rfl rfl (fun _ => R.mv (v := vB true) rfl) (Mw.pass' rfl rfl rfl rfl rfl rfl rfl (Mw.pass' rfl rfl rfl rfl rfl rfl rfl (Mw.pass' rfl rfl rfl rfl rfl rfl rfl (Mw.pass' rfl rfl rfl rfl rfl rfl rfl (Mw.pass' rfl rfl rfl rfl rfl rfl rfl (Mw.pass' rfl rfl rfl rfl rfl rfl rfl (Mw.pass' rfl rfl rfl rfl rfl rfl rfl (Mw.pass' rfl rfl rfl rfl rfl rfl rfl (Mw.pass' rfl rfl rfl rfl rfl rfl rfl (Mw.pass' rfl rfl rfl rfl rfl rfl rfl (Mw.pass' rfl rfl rfl rfl rfl rfl rfl (Mw.pass' rfl rfl rfl rfl rfl rfl rfl (Mw.p rfl rfl (fun _ => R.pk rfl rfl (v := vB true) rfl) (Mw.p rfl rfl (fun _ => R.mv (v := vB true) rfl) (Mw.pass' rfl rfl rfl rfl rfl rfl rfl (Mw.pass' rfl rfl rfl rfl rfl rfl rfl (Mw.pass' rfl rfl rfl rfl rfl rfl rfl (Mw.pass' rfl rfl rfl rfl rfl rfl rfl (Mw.pass' rfl rfl rfl rfl rfl rfl rfl (Mw.pass' rfl rfl rfl rfl rfl rfl rfl (Mw.pass' rfl rfl rfl rfl rfl rfl rfl ?_))))))))))))))))))))))))))))))))))
     refine Mw.pass' rfl rfl rfl rfl rfl rfl rfl (Mw.pass' rfl rfl rfl rfl rfl rfl rfl (Mw.pass' rfl rfl rfl rfl rfl rfl rfl (Mw.pass' rfl rfl rfl rfl rfl rfl rfl (Mw.pass' rfl rfl rfl rfl rfl rfl rfl (Mw.p rfl rfl (fun _ => R.pk rfl rfl (v := vB true) rfl) (Mw.p rfl rfl (fun _ => R.mv (v := vB true) rfl) (Mw.pass' rfl rfl rfl rfl rfl rfl rfl (Mw.pass' rfl rfl rfl rfl rfl rfl rfl (Mw.pass' rfl rfl rfl rfl rfl rfl rfl (Mw.pass' rfl rfl rfl rfl rfl rfl rfl (Mw.pass' rfl rfl rfl rfl rfl rfl rfl (Mw.pass' rfl rfl rfl rfl rfl rfl rfl (Mw.pass' rfl rfl rfl rfl rfl rfl rfl (Mw.pass' rfl rfl rfl rfl rfl rfl rfl (Mw.pass' rfl rfl rfl rfl rfl rfl rfl (Mw.pass' rfl rfl rfl rfl rfl rfl rfl (Mw.pass' rfl rfl rfl rfl rfl rfl rfl (Mw.pass' rfl rfl rfl rfl rfl rfl rfl (Mw.p rfl rfl (fun _ => R.pk rfl rfl (v := vB true) rfl) (Mw.nil (⟨?_, ⟨true, W15, rfl, l15, rfl, hm⟩⟩)))))))))))))))))))))
     iterate 67 (refine Agree.up rfl ?_)
     exact Agree.refl _
    ·replace hm := bf hm hc23
     refine Mw.gp hc23 rfl rfl rfl rfl rfl (fun _ => R.mv (v := v0_) rfl) (Mw.gp hc23 rfl rfl rfl rfl rfl (fun _ => R.mv (v := vI y3) rfl) ?_)
     obtain ⟨u24, e25, hm⟩ := ob hm
     refine Mw.gp hc23 rfl rfl rfl rfl rfl (fun _ => R.ix (α := Part) s19 e25 rfl rfl rfl) (Mw.gp hc23 rfl rfl rfl rfl rfl (fun _ => R.fa rfl) ?_)
     obtain ⟨v26, c27, r28⟩ := (Part.at1 (s19.at_ e25)).cell rfl
     refine Mw.gq hc23 rfl rfl rfl rfl rfl (fun _ c => R.ld rfl rfl (cl_cell (Part.at1 (s19.at_ e25)).1 rfl c27 c)) (Mw.gp hc23 rfl rfl rfl rfl rfl (fun _ => R.mv (v := v1_) rfl) (Mw.gp hc23 rfl rfl rfl rfl rfl (fun _ => R.mv (v := vI y3) rfl) ?_))
     obtain ⟨u29, e30, hm⟩ := ob hm
     refine Mw.gp hc23 rfl rfl rfl rfl rfl (fun _ => R.ix (α := Part) s22 e30 rfl rfl rfl) (Mw.gp hc23 rfl rfl rfl rfl rfl (fun _ => R.fa rfl) ?_)
     obtain ⟨v31, c32, r33⟩ := (Part.at1 (s22.at_ e30)).cell rfl
     refine Mw.gq hc23 rfl rfl rfl rfl rfl (fun _ c => R.ld rfl rfl (cl_cell (Part.at1 (s22.at_ e30)).1 rfl c32 c)) ?_
     obtain ⟨z34, e35, hm⟩ := ob hm
     refine Mw.gt hc23 rfl rfl rfl rfl rfl (T.call rfl (p39 (K := [0])  r28 r33 e35)) ?_
     rintro _ _ ⟨W36, rfl, l36, rfl⟩
     have a37 := l36.o
     refine ⟨⟨_, rfl, (l36.sub (M := []) rfl)⟩, ?_⟩
     refine Mw.gp hc23 rfl rfl rfl rfl rfl (fun _ => R.not rfl) (Mw.p rfl rfl (fun _ => R.pk hc23 rfl (v := vB (!z34)) rfl) (Mw.p rfl rfl (fun _ => R.mv (v := vB (!z34)) rfl) (bsplit (!z34) (fun hc38 => ?_) (fun hc38 => ?_))))
     ·replace hm := bt hm hc38
      refine Mw.pass' hc38 rfl rfl rfl rfl rfl rfl (Mw.pass' hc38 rfl rfl rfl rfl rfl rfl (Mw.pass' hc38 rfl rfl rfl rfl rfl rfl (Mw.pass' hc38 rfl rfl rfl rfl rfl rfl (Mw.pass' hc38 rfl rfl rfl rfl rfl rfl (Mw.pass' hc38 rfl rfl rfl rfl rfl rfl (Mw.pass' hc38 rfl rfl rfl rfl rfl rfl (Mw.pass' hc38 rfl rfl rfl rfl rfl rfl (Mw.pass' hc38 rfl rfl rfl rfl rfl rfl (Mw.pass' hc38 rfl rfl rfl rfl rfl rfl (Mw.pass' hc38 rfl rfl rfl rfl rfl rfl (Mw.pass' hc38 rfl rfl rfl rfl rfl rfl (Mw.p rfl rfl (fun _ => R.pk hc38 rfl (v := vB true) rfl) (Mw.p rfl rfl (fun _ => R.mv (v := vB true) rfl) (Mw.pass' rfl rfl rfl rfl rfl rfl rfl (Mw.pass' rfl rfl rfl rfl rfl rfl rfl (Mw.pass' rfl rfl rfl rfl rfl rfl rfl (Mw.pass' rfl rfl rfl rfl rfl rfl rfl (Mw.pass' rfl rfl rfl rfl rfl rfl rfl (Mw.pass' rfl rfl rfl rfl rfl rfl rfl (Mw.pass' rfl rfl rfl rfl rfl rfl rfl (Mw.pass' rfl rfl rfl rfl rfl rfl rfl (Mw.pass' rfl rfl rfl rfl rfl rfl rfl (Mw.pass' rfl rfl rfl rfl rfl rfl rfl (Mw.pass' rfl rfl rfl rfl rfl rfl rfl (Mw.pass' rfl rfl rfl rfl rfl rfl rfl (Mw.p rfl rfl (fun _ => R.pk rfl rfl (v := vB true) rfl) (Mw.p rfl rfl (fun _ => R.mv (v := vB true) rfl) (Mw.pass' rfl rfl rfl rfl rfl rfl rfl (Mw.pass' rfl rfl rfl rfl rfl rfl rfl (Mw.pass' rfl rfl rfl rfl rfl rfl rfl (Mw.pass' rfl rfl rfl rfl rfl rfl rfl (Mw.pass' rfl rfl rfl rfl rfl rfl rfl (Mw.pass' rfl rfl rfl rfl rfl rfl rfl (Mw.pass' rfl rfl rfl rfl rfl rfl rfl ?_))))))))))))))))))))))))))))))))))
      refine Mw.pass' rfl rfl rfl rfl rfl rfl rfl (Mw.pass' rfl rfl rfl rfl rfl rfl rfl (Mw.pass' rfl rfl rfl rfl rfl rfl rfl (Mw.pass' rfl rfl rfl rfl rfl rfl rfl (Mw.pass' rfl rfl rfl rfl rfl rfl rfl (Mw.p rfl rfl (fun _ => R.pk rfl rfl (v := vB true) rfl) (Mw.nil (⟨?_, ⟨true, W36, rfl, (l15.trans l36), rfl, hm⟩⟩)))))))
      iterate 67 (refine Agree.up rfl ?_)
      exact Agree.refl _
     ·replace hm := bf hm hc38
      refine Mw.gp hc38 rfl rfl rfl rfl rfl (fun _ => R.mv (v := v0_) rfl) (Mw.gp hc38 rfl rfl rfl rfl rfl (fun _ => R.mv (v := vI y3) rfl) ?_)
      obtain ⟨u39, e40, hm⟩ := ob hm
      refine Mw.gp hc38 rfl rfl rfl rfl rfl (fun _ => R.ix (α := Part) s19 e40 rfl rfl rfl) (Mw.gp hc38 rfl rfl rfl rfl rfl (fun _ => R.fa rfl) ?_)
      obtain ⟨v41, c42, r43⟩ := (Part.at2 (s19.at_ e40)).cell rfl
      refine Mw.gq hc38 rfl rfl rfl rfl rfl (fun _ c => R.ld rfl rfl (cl_cell (Part.at2 (s19.at_ e40)).1 rfl c42 c)) (Mw.gp hc38 rfl rfl rfl rfl rfl (fun _ => R.mv (v := v1_) rfl) (Mw.gp hc38 rfl rfl rfl rfl rfl (fun _ => R.mv (v := vI y3) rfl) ?_))
      obtain ⟨u44, e45, hm⟩ := ob hm
      refine Mw.gp hc38 rfl rfl rfl rfl rfl (fun _ => R.ix (α := Part) s22 e45 rfl rfl rfl) (Mw.gp hc38 rfl rfl rfl rfl rfl (fun _ => R.fa rfl) ?_)
      obtain ⟨v46, c47, r48⟩ := (Part.at2 (s22.at_ e45)).cell rfl
      refine Mw.gq hc38 rfl rfl rfl rfl rfl (fun _ c => R.ld rfl rfl (cl_cell (Part.at2 (s22.at_ e45)).1 rfl c47 c)) ?_
      obtain ⟨z51, e52, hm⟩ := ob hm
      refine Mw.gt hc38 rfl rfl rfl rfl rfl (T.call rfl (p39 (K := [0])  (r43.ul a37) (r48.ul a37) e52)) ?_
      rintro _ _ ⟨W53, rfl, l53, rfl⟩
      have a54 := a37.n l53
      refine ⟨⟨_, rfl, ((l36.sub (M := []) rfl).trans (l53.sub (M := []) rfl))⟩, ?_⟩
      refine Mw.gp hc38 rfl rfl rfl rfl rfl (fun _ => R.not rfl) (Mw.p rfl rfl (fun _ => R.pk hc38 rfl (v := vB (!z51)) rfl) (Mw.p rfl rfl (fun _ => R.mv (v := vB (!z51)) rfl) (bsplit (!z51) (fun hc55 => ?_) (fun hc55 => ?_))))
      ·replace hm := bt hm hc55
       refine Mw.pass' hc55 rfl rfl rfl rfl rfl rfl (Mw.pass' hc55 rfl rfl rfl rfl rfl rfl (Mw.pass' hc55 rfl rfl rfl rfl rfl rfl (Mw.pass' hc55 rfl rfl rfl rfl rfl rfl (Mw.pass' hc55 rfl rfl rfl rfl rfl rfl (Mw.pass' hc55 rfl rfl rfl rfl rfl rfl (Mw.pass' hc55 rfl rfl rfl rfl rfl rfl (Mw.pass' hc55 rfl rfl rfl rfl rfl rfl (Mw.pass' hc55 rfl rfl rfl rfl rfl rfl (Mw.pass' hc55 rfl rfl rfl rfl rfl rfl (Mw.pass' hc55 rfl rfl rfl rfl rfl rfl (Mw.pass' hc55 rfl rfl rfl rfl rfl rfl (Mw.p rfl rfl (fun _ => R.pk hc55 rfl (v := vB true) rfl) (Mw.p rfl rfl (fun _ => R.mv (v := vB true) rfl) (Mw.pass' rfl rfl rfl rfl rfl rfl rfl (Mw.pass' rfl rfl rfl rfl rfl rfl rfl (Mw.pass' rfl rfl rfl rfl rfl rfl rfl (Mw.pass' rfl rfl rfl rfl rfl rfl rfl (Mw.pass' rfl rfl rfl rfl rfl rfl rfl (Mw.pass' rfl rfl rfl rfl rfl rfl rfl (Mw.pass' rfl rfl rfl rfl rfl rfl rfl (Mw.pass' rfl rfl rfl rfl rfl rfl rfl (Mw.pass' rfl rfl rfl rfl rfl rfl rfl (Mw.pass' rfl rfl rfl rfl rfl rfl rfl (Mw.pass' rfl rfl rfl rfl rfl rfl rfl (Mw.pass' rfl rfl rfl rfl rfl rfl rfl (Mw.p rfl rfl (fun _ => R.pk rfl rfl (v := vB true) rfl) (Mw.nil (⟨?_, ⟨true, W53, rfl, (l15.trans (l36.trans l53)), rfl, hm⟩⟩))))))))))))))))))))))))))))
       iterate 67 (refine Agree.up rfl ?_)
       exact Agree.refl _
      ·replace hm := bf hm hc55
       refine Mw.gp hc55 rfl rfl rfl rfl rfl (fun _ => R.mv (v := v0_) rfl) (Mw.gp hc55 rfl rfl rfl rfl rfl (fun _ => R.mv (v := vI y3) rfl) ?_)
       obtain ⟨u56, e57, hm⟩ := ob hm
       refine Mw.gp hc55 rfl rfl rfl rfl rfl (fun _ => R.ix (α := Part) s19 e57 rfl rfl rfl) (Mw.gp hc55 rfl rfl rfl rfl rfl (fun _ => R.fa rfl) ?_)
       obtain ⟨v58, c59, r60⟩ := (Part.at3 (s19.at_ e57)).cell rfl
       refine Mw.gq hc55 rfl rfl rfl rfl rfl (fun _ c => R.ld rfl rfl (cl_cell (Part.at3 (s19.at_ e57)).1 rfl c59 c)) (Mw.gp hc55 rfl rfl rfl rfl rfl (fun _ => R.mv (v := v1_) rfl) (Mw.gp hc55 rfl rfl rfl rfl rfl (fun _ => R.mv (v := vI y3) rfl) ?_))
       obtain ⟨u61, e62, hm⟩ := ob hm
       refine Mw.gp hc55 rfl rfl rfl rfl rfl (fun _ => R.ix (α := Part) s22 e62 rfl rfl rfl) (Mw.gp hc55 rfl rfl rfl rfl rfl (fun _ => R.fa rfl) ?_)
       obtain ⟨v63, c64, r65⟩ := (Part.at3 (s22.at_ e62)).cell rfl
       refine Mw.gq hc55 rfl rfl rfl rfl rfl (fun _ c => R.ld rfl rfl (cl_cell (Part.at3 (s22.at_ e62)).1 rfl c64 c)) ?_
       obtain ⟨z68, e69, hm⟩ := ob hm
       refine Mw.gt hc55 rfl rfl rfl rfl rfl (T.call rfl (p39 (K := [0])  (r60.ul a54) (r65.ul a54) e69)) ?_
       rintro _ _ ⟨W70, rfl, l70, rfl⟩
       have a71 := a54.n l70
       refine ⟨⟨_, rfl, ((l36.sub (M := []) rfl).trans ((l53.sub (M := []) rfl).trans (l70.sub (M := []) rfl)))⟩, ?_⟩
       refine Mw.gp hc55 rfl rfl rfl rfl rfl (fun _ => R.not rfl) (Mw.p rfl rfl (fun _ => R.pk hc55 rfl (v := vB (!z68)) rfl) (Mw.p rfl rfl (fun _ => R.mv (v := vB (!z68)) rfl) (bsplit (!z68) (fun hc72 => ?_) (fun hc72 => ?_))))
       ·replace hm := bt hm hc72
        refine Mw.pass' hc72 rfl rfl rfl rfl rfl rfl (Mw.pass' hc72 rfl rfl rfl rfl rfl rfl (Mw.pass' hc72 rfl rfl rfl rfl rfl rfl (Mw.pass' hc72 rfl rfl rfl rfl rfl rfl (Mw.pass' hc72 rfl rfl rfl rfl rfl rfl (Mw.pass' hc72 rfl rfl rfl rfl rfl rfl (Mw.pass' hc72 rfl rfl rfl rfl rfl rfl (Mw.pass' hc72 rfl rfl rfl rfl rfl rfl (Mw.pass' hc72 rfl rfl rfl rfl rfl rfl (Mw.pass' hc72 rfl rfl rfl rfl rfl rfl (Mw.pass' hc72 rfl rfl rfl rfl rfl rfl (Mw.pass' hc72 rfl rfl rfl rfl rfl rfl (Mw.p rfl rfl (fun _ => R.pk hc72 rfl (v := vB true) rfl) (Mw.nil (⟨?_, ⟨true, W70, rfl, (l15.trans (l36.trans (l53.trans l70))), rfl, hm⟩⟩))))))))))))))
        iterate 67 (refine Agree.up rfl ?_)
        exact Agree.refl _
       ·replace hm := bf hm hc72
        refine Mw.gp hc72 rfl rfl rfl rfl rfl (fun _ => R.mv (v := v0_) rfl) (Mw.gp hc72 rfl rfl rfl rfl rfl (fun _ => R.mv (v := vI y3) rfl) ?_)
        obtain ⟨u73, e74, hm⟩ := ob hm
        refine Mw.gp hc72 rfl rfl rfl rfl rfl (fun _ => R.ix (α := Part) s19 e74 rfl rfl rfl) (Mw.gp hc72 rfl rfl rfl rfl rfl (fun _ => R.fa rfl) ?_)
        obtain ⟨v75, c76, r77⟩ := (Part.at4 (s19.at_ e74)).cell rfl
        refine Mw.gq hc72 rfl rfl rfl rfl rfl (fun _ c => R.ld rfl rfl (cl_cell (Part.at4 (s19.at_ e74)).1 rfl c76 c)) (Mw.gp hc72 rfl rfl rfl rfl rfl (fun _ => R.mv (v := v1_) rfl) (Mw.gp hc72 rfl rfl rfl rfl rfl (fun _ => R.mv (v := vI y3) rfl) ?_))
        obtain ⟨u78, e79, hm⟩ := ob hm
        refine Mw.gp hc72 rfl rfl rfl rfl rfl (fun _ => R.ix (α := Part) s22 e79 rfl rfl rfl) (Mw.gp hc72 rfl rfl rfl rfl rfl (fun _ => R.fa rfl) ?_)
        obtain ⟨v80, c81, r82⟩ := (Part.at4 (s22.at_ e79)).cell rfl
        refine Mw.gq hc72 rfl rfl rfl rfl rfl (fun _ c => R.ld rfl rfl (cl_cell (Part.at4 (s22.at_ e79)).1 rfl c81 c)) ?_
        obtain ⟨z85, e86, hm⟩ := ob hm
        refine Mw.gt hc72 rfl rfl rfl rfl rfl (T.call rfl (p39 (K := [0])  (r77.ul a71) (r82.ul a71) e86)) ?_
        rintro _ _ ⟨W87, rfl, l87, rfl⟩
        refine ⟨⟨_, rfl, ((l36.sub (M := []) rfl).trans ((l53.sub (M := []) rfl).trans ((l70.sub (M := []) rfl).trans (l87.sub (M := []) rfl))))⟩, ?_⟩
        refine Mw.gp hc72 rfl rfl rfl rfl rfl (fun _ => R.not rfl) (Mw.p rfl rfl (fun _ => R.pk hc72 rfl (v := vB (!z85)) rfl) (Mw.nil (⟨?_, ⟨(!z85), W87, rfl, (l15.trans (l36.trans (l53.trans (l70.trans l87)))), rfl, hm⟩⟩)))
        iterate 67 (refine Agree.up rfl ?_)
        exact Agree.refl _
  ·replace hm := bf hm hc9
   refine Cw.exit ?_
   rw [hK5] at hm
   refine Cw.seq (Cw.region (Lw.g (vB true) rfl (Lw.nil ?_)))
   cases hm
   exact Cw.ret (ret1 rfl (Res.mk a7 rfl))

theorem p34 {W : CW} {K : List Nat} {x0 : List Vm.Part} {v0_ : Value} {x1 : List Vm.Part} {v1_ : Value} {r : Bool} (h0 : Rd W K [v0_] x0) (h1 : Rd W K [v1_] x1) (hm : Vm.laws_smParts x0 x1 = some r) : CallR Try.prog 34 [v0_, v1_].toArray W.w (Res W [] fun W' v => v = vB r) :=
 (c34 (V := W.view K []) (h0.view _) (h1.view _) hm).ad (fk 0) fun _ _ e => e

end Go.Sx
