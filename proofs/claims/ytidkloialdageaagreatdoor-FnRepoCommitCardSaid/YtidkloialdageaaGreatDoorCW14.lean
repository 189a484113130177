/- Walks: each function answers as its model, printed by a program of ours. Conditions: the arguments read as they are given. -/
import Derived.Test.YtidkloialdageaaGreatDoorCTs
import Derived.Test.YtidkloialdageaaGreatDoorCM7
import Derived.Test.YtidkloialdageaaGreatDoorCW0
import Derived.Test.YtidkloialdageaaGreatDoorCW1
import Derived.Test.YtidkloialdageaaGreatDoorCW6
import Derived.Test.YtidkloialdageaaGreatDoorCE
namespace Go.Sx
open Go Go.Proofs Go.Vm Rp
set_option linter.unusedVariables false
set_option linter.unusedSimpArgs false
variable {W W0 : CW} {K : List Nat}
theorem c158 {x0 g0_ v0_0_ r} (hB0 : Bx W0 2 g0_ [v0_0_, vI x0.p]) (h0_0 : Rd W0 [0] [v0_0_] x0.b) (hm : Vm.spec_l30Tree x0 = some r) : Q0 158 [ptr (bx g0_)] W0 fun Wf v => ∃ u0, v = u0 ∧ OwS Wf [31] [] [u0] r.1 ∧ Bx Wf 2 g0_ [v0_0_, vI r.2] := by
 unfold Vm.spec_l30Tree at hm
 refine CallR.of Tryz.func158 rfl rfl rfl rfl (sr (Nv (.slice none 0 0) rfl (sr (Lw.t rfl (T.lit0 (α := File) 3 []) ?_))))
 rintro v1 _ ⟨W1, rfl, l1, o1⟩
 have a2 := l1.o
 have b3 := hB0.up l1
 refine Nv v1 rfl (ssr (mp rfl (cr hm (fun _ => p85 (c0 := 2) (x0 := x0) b3 (h0_0.ul a2) rfl) ?_)))
 rintro z5 _ W7 hm l7 ⟨rfl, f7_0⟩
 have a8 := a2.t l7
 refine Ni rfl (Cw.block ?_)
 obtain ⟨K19, hK19, hm⟩ := jn_e hm
 obtain ⟨W20, ew20, l20, o20⟩ := (o1.up l7).toSh
 have a21 := a8.t l20
 rw [← ew20]
 refine Cw.loop 10 24 [3, 4, 5, 6] (fun m l w => ∃ (y10 : List Vm.File) (y13 : Int) (y16 : Int) (v11 j14 j15 : Value) (W18 : CW), W18.w = w ∧ Le [2, 3, 4, 5] W20 W18 ∧ l = [v11, vI y13, j14, j15] ∧ Ow (α := List (Sh Vm.File)) W18 3 [0] [v11] y10 ∧ Bx W18 2 g0_ [v0_0_, vI y16] ∧ Vm.spec_l30Tree_l1 x0 K19 m y10 y13 y16 = some r) _ ⟨([] : List File), z5.1, z5.2, v1, undef, undef, W20, rfl, Le.refl _ _, rfl, o20, (f7_0.up l20), hm⟩ ?_
 rintro (_ | m23) _ _ σ ⟨y10, y13, y16, v11, j14, j15, W18, rfl, l18, rfl, o12, b17, hm⟩
 ·cases hm
 unfold Vm.spec_l30Tree_l1 at hm
 have a24 := a21.t l18
 refine ssr (mi rfl (Lw.gt rfl (nl (cn hm (fun hm => ?_) fun hm => ?_))))
 ·refine sk (Cw.seq (Cw.block (sr (mv v11 rfl (mp rfl (cr hm (fun _ => p86 (c0 := 2) (x0 := (Vm.l30Rd.mk x0.b y16)) b17 (h0_0.ul a24) rfl) ?_))))))
  rintro z27 _ W29 hm l29 ⟨rfl, f29_0⟩
  have a30 := a24.t l29
  refine mp rfl (cr hm (fun _ => p175 (k0 := 4) (c0 := 2) (x0 := (Vm.l30Rd.mk x0.b z27.2)) f29_0 (h0_0.ul a30) rfl) ?_)
  rintro z33 v0_35 W35 hm l35 ⟨_, rfl, f35_0, f35_1⟩
  have o37 := (o12.up l29).up l35
  refine Lw.r rfl (R.bd (zs := [vS ([] : Str), .slice none 0 0]) (cs := [vS z27.1, v0_35]) [(0, vS z27.1), (1, v0_35)] rfl rfl rfl (bp_cons rfl rfl (bp_cons f35_0.oc rfl bp_nil))) ?_
  have s38 : Rd (α := List Vm.File) W35 [3, 0] [v11] y10 := Ow.rdSh o37
  refine cr hm (fun _ => p174 (K := [0, 3, 4]) (k0 := 5) (x1 := (Vm.File.mk z27.1 z33.1)) (s38.sub (M := [0, 3, 4]) rfl) ((File.rd (K := [4]) z27.1 z33.1 f35_0.rd).sub (M := [0, 3, 4]) rfl)) ?_
  rintro z39 _ W41 hm l41 ⟨v0_41, rfl, f41_0⟩
  have o42 : Ow (α := List (Sh Vm.File)) W41 5 [0, 3, 4] [v0_41] z39.1 := f41_0.sub rfl
  refine mv (.tuple [v0_41, vB z39.2].toArray) rfl (Lw.r rfl (R.ext (vs := [v0_41, vB z39.2]) (v := v0_41) rfl rfl) (Lw.r rfl (R.ext (vs := [v0_41, vB z39.2]) (v := vB z39.2) rfl rfl) (Gv v0_41 rfl (Nb rfl (rg (mv v0_41 rfl (Nv v0_41 rfl (rg (mi rfl (Lw.sub rfl (Ni rfl ?_)))))))))))
  obtain ⟨W47, ew47, l47, dj47⟩ := dyeE _ 3
  have s48 : Rd (α := List Vm.File) W47 [0] [v11] y10 := by rw [dj47]; exact ((o37.up l41).rd.dye 3).sub (M := [0]) rfl
  have o49 : Ow (α := List (Sh Vm.File)) W47 5 [0, 4] [v0_41] z39.1 := by rw [dj47]; exact (o42.dyeA 3 rfl).sub rfl
  obtain ⟨W53, ew53, l53, dj53⟩ := dyeE _ 4
  have s54 : Rd (α := List Str) W53 [0] [v0_35] z33.1 := by rw [dj53]; exact (((f35_0.up l41).up l47).rd.dye 4).sub (M := [0]) rfl
  have o55 : Ow (α := List (Sh Vm.File)) W53 5 [0] [v0_41] z39.1 := by rw [dj53]; exact (o49.dyeA 4 rfl).sub rfl
  obtain ⟨W58, ew58, l58, o58⟩ := o55.dyeO 3
  exact (agm) ⟨z39.1, w64 (y13 - 1), z33.2, v0_41, v0_41, vB z39.2, W58, ew58.trans (ew53.trans (ew47)), ((((((l18.j l29).j l35).j l41).j l47).j l53).j l58).w, rfl, o58, ((((f35_1.up l41).up l47).up l53).up l58), hm⟩
 ·refine Cw.exit ?_
  rw [hK19] at hm
  refine sr (mv v11 rfl ?_)
  have s61 : Rd (α := List Vm.File) W18 [3, 0] [v11] y10 := Ow.rdSh o12
  refine cr hm (fun _ => p133 (K := [0, 3]) (k0 := 6) (s61.sub (M := [0, 3]) rfl)) ?_
  rintro z62 v0_64 W64 hm l64 ⟨_, rfl, f64_0⟩
  have a65 := a24.n l64
  refine Nv v0_64 rfl ?_
  obtain ⟨W68, ew68, l68, o68⟩ := f64_0.dyeO 31
  have a69 := a65.t l68
  cases hm
  rw [← ew68]
  exact Cw.ret (ret1 rfl (Res.mk a69 ⟨v0_64, rfl, o68.s, ((b17.up l64).up l68)⟩))
theorem p158 {x0 g0_ v0_0_ k0 c0 r} (hB0 : Bx W c0 g0_ [v0_0_, vI x0.p]) (h0_0 : Rd W K [v0_0_] x0.b) (hJ : okJ K [c0] = true) (hm : Vm.spec_l30Tree x0 = some r) : Q1 158 [ptr (bx g0_)] W [c0] fun W' v => ∃ u0, v = u0 ∧ Ow W' k0 [] [u0] r.1 ∧ Bx W' c0 g0_ [v0_0_, vI r.2] :=
 CallR.adJ (J := [c0]) (fun c => bif Nat.beq c 0 then 0 else bif Nat.beq c 2 then c0 else bif Nat.beq c 31 then k0 else 0) (c158 (hB0.viewJ 0 hJ) (h0_0.view _) hm) fun _ _ ⟨u0, e, f0, f1⟩ => ⟨u0, e, f0.one1.backN rfl, Bx.backJ 0 f1 rfl⟩
theorem c159 {x0 g0_ v0_0_ r} (hB0 : Bx W0 2 g0_ [v0_0_, vI x0.p]) (h0_0 : Rd W0 [0] [v0_0_] x0.b) (hm : Vm.spec_l30AnyPath x0 = some r) : Q0 159 [ptr (bx g0_)] W0 fun Wf v => v = vS r.1 ∧ Bx Wf 2 g0_ [v0_0_, vI r.2] := by
 unfold Vm.spec_l30AnyPath at hm
 refine CallR.of Tryz.func159 rfl rfl rfl rfl (sr (Ns rfl (ssr (mp rfl (cr hm (fun _ => p85 (c0 := 2) (x0 := x0) hB0 h0_0 rfl) ?_)))))
 rintro z1 _ W3 hm l3 ⟨rfl, f3_0⟩
 have a4 := l3.s
 refine Lw.eq rfl (nl (cn hm (fun hm => ?_) fun hm => ?_))
 ·refine sr (mp rfl (Lw.t rfl (T.bsS (α := Str) (xs := [([] : Str), ([100] : Str), ([103] : Str), ([65] : Str), ([97, 47] : Str), ([97, 47, 98, 47, 99, 47, 100] : Str), ([116, 111, 111, 108, 111, 110, 103] : Str), ([103, 47, 104] : Str), ([100, 47, 101, 47, 102] : Str)]) 3 [] (W := W3) [vS ([] : Str), vS ([100] : Str), vS ([103] : Str), vS ([65] : Str), vS ([97, 47] : Str), vS ([97, 47, 98, 47, 99, 47, 100] : Str), vS ([116, 111, 111, 108, 111, 110, 103] : Str), vS ([103, 47, 104] : Str), vS ([100, 47, 101, 47, 102] : Str)] (Each.cons ((rdS _)) (Each.cons ((rdS _)) (Each.cons ((rdS _)) (Each.cons ((rdS _)) (Each.cons ((rdS _)) (Each.cons ((rdS _)) (Each.cons ((rdS _)) (Each.cons ((rdS _)) (Each.cons ((rdS _)) Each.nil))))))))) rfl) ?_))
  rintro v6 _ ⟨W6, rfl, l6, o6⟩
  have a7 := a4.n l6
  refine cr hm (fun _ => p102 (K := [0, 3]) (c0 := 2) (x0 := (Vm.l30Rd.mk x0.b z1.2)) (f3_0.up l6) ((h0_0.ul a7).sub (M := [0, 3]) rfl) (o6.rd.sub (M := [0, 3]) rfl) rfl) ?_
  rintro z10 _ W12 hm l12 ⟨rfl, f12_0⟩
  have a13 := a7.t l12
  refine Ns rfl ?_
  cases hm
  exact Cw.ret (ret1 rfl (Res.mk a13 ⟨rfl, f12_0⟩))
 ·refine sk (sr (mp rfl (cr hm (fun _ => p86 (c0 := 2) (x0 := (Vm.l30Rd.mk x0.b z1.2)) f3_0 (h0_0.ul a4) rfl) ?_)))
  rintro z16 _ W18 hm l18 ⟨rfl, f18_0⟩
  have a19 := a4.t l18
  refine Ns rfl ?_
  cases hm
  exact Cw.ret (ret1 rfl (Res.mk a19 ⟨rfl, f18_0⟩))
theorem p159 {x0 g0_ v0_0_ c0 r} (hB0 : Bx W c0 g0_ [v0_0_, vI x0.p]) (h0_0 : Rd W K [v0_0_] x0.b) (hJ : okJ K [c0] = true) (hm : Vm.spec_l30AnyPath x0 = some r) : Q1 159 [ptr (bx g0_)] W [c0] fun W' v => v = vS r.1 ∧ Bx W' c0 g0_ [v0_0_, vI r.2] :=
 CallR.adJ (J := [c0]) (fun c => bif Nat.beq c 0 then 0 else bif Nat.beq c 2 then c0 else 0) (c159 (hB0.viewJ 0 hJ) (h0_0.view _) hm) fun _ _ ⟨e, f0⟩ => ⟨e, Bx.backJ 0 f0 rfl⟩
theorem c160 {x0 g0_ v0_0_ r} (hB0 : Bx W0 2 g0_ [v0_0_, vI x0.p]) (h0_0 : Rd W0 [0] [v0_0_] x0.b) (hm : Vm.spec_l30AnyText x0 = some r) : Q0 160 [ptr (bx g0_)] W0 fun Wf v => ∃ u0, v = u0 ∧ OwS Wf [31] [] [u0] r.1 ∧ Bx Wf 2 g0_ [v0_0_, vI r.2] := by
 unfold Vm.spec_l30AnyText at hm
 refine CallR.of Tryz.func160 rfl rfl rfl rfl (sr (Nv (.slice none 0 0) rfl (sr (mp rfl (cr hm (fun _ => p175 (k0 := 3) (c0 := 2) (x0 := x0) hB0 h0_0 rfl) ?_)))))
 rintro z1 v0_3 W3 hm l3 ⟨_, rfl, f3_0, f3_1⟩
 have a4 := l3.s
 refine Nv v0_3 rfl (ssr (mp rfl (cr hm (fun _ => p85 (c0 := 2) (x0 := (Vm.l30Rd.mk x0.b z1.2)) f3_1 (h0_0.ul a4) rfl) ?_)))
 rintro z6 _ W8 hm l8 ⟨rfl, f8_0⟩
 have a9 := a4.t l8
 have o10 := f3_0.up l8
 refine nl (Cw.block (sr (Lw.eq rfl (Nb rfl (cn hm (fun hm => ?_) fun hm => ?_)))))
 ·refine sr (mv v0_3 rfl (mp rfl (Lw.t rfl (T.bsS (α := Str) (xs := [([97, 32, 108, 105, 110, 101, 32, 116, 111, 111, 32, 108, 111, 110, 103] : Str), ([120, 10, 121] : Str), ([255] : Str)]) 4 [] (W := W8) [vS ([97, 32, 108, 105, 110, 101, 32, 116, 111, 111, 32, 108, 111, 110, 103] : Str), vS ([120, 10, 121] : Str), vS ([255] : Str)] (Each.cons ((rdS _)) (Each.cons ((rdS _)) (Each.cons ((rdS _)) Each.nil))) rfl) ?_)))
  rintro v12 _ ⟨W12, rfl, l12, o12⟩
  have a13 := a9.n l12
  refine cr hm (fun _ => p102 (K := [0, 4]) (c0 := 2) (x0 := (Vm.l30Rd.mk x0.b z6.2)) (f8_0.up l12) ((h0_0.ul a13).sub (M := [0, 4]) rfl) (o12.rd.sub (M := [0, 4]) rfl) rfl) ?_
  rintro z17 _ W19 hm l19 ⟨rfl, f19_0⟩
  have a20 := a13.t l19
  refine Lw.t rfl (T.bs 5 [vS z17.1] (cs := [vS z17.1]) rfl rfl (bsv rfl)) ?_
  rintro _ _ ⟨g23, W23, rfl, rfl, l23, b23⟩
  have a24 := a20.n l23
  obtain ⟨q28, e29, hm⟩ := ob hm
  refine Lw.t rfl (T.app1S (α := Str) (K' := []) (((o10.up l12).up l19).up l23) b23 (rdS _) rfl rfl e29) ?_
  rintro v30 _ ⟨W30, rfl, l30, o30⟩
  have a31 := a24.t l30
  refine Nv v30 rfl ?_
  obtain ⟨W35, ew35, l35, o35⟩ := o30.dyeO 31
  have a36 := a31.t l35
  cases hm
  rw [← ew35]
  exact Cw.ret (ret1 rfl (Res.mk a36 ⟨v30, rfl, o35.s, (((f19_0.up l23).up l30).up l35)⟩))
 ·refine sr (Lw.eq rfl (Nb rfl (cn hm (fun hm => ?_) fun hm => ?_)))
  ·refine sr (mv v0_3 rfl (Lw.t rfl (T.bsS (α := Str) (xs := [([49] : Str), ([50] : Str), ([51] : Str), ([52] : Str), ([53] : Str), ([54] : Str), ([55] : Str), ([56] : Str), ([57] : Str), ([49, 48] : Str)]) 6 [] (W := W8) [vS ([49] : Str), vS ([50] : Str), vS ([51] : Str), vS ([52] : Str), vS ([53] : Str), vS ([54] : Str), vS ([55] : Str), vS ([56] : Str), vS ([57] : Str), vS ([49, 48] : Str)] (Each.cons ((rdS _)) (Each.cons ((rdS _)) (Each.cons ((rdS _)) (Each.cons ((rdS _)) (Each.cons ((rdS _)) (Each.cons ((rdS _)) (Each.cons ((rdS _)) (Each.cons ((rdS _)) (Each.cons ((rdS _)) (Each.cons ((rdS _)) Each.nil)))))))))) rfl) ?_))
   rintro v41 _ ⟨W41, rfl, l41, o41⟩
   have a42 := a9.n l41
   obtain ⟨q45, e46, hm⟩ := ob hm
   refine Lw.t rfl (T.appP (α := Str) (o10.up l41) o41.rd rfl rfl e46) ?_
   rintro v47 _ ⟨W47, rfl, l47, o47⟩
   have a48 := a42.t l47
   refine Nv v47 rfl ?_
   obtain ⟨W51, ew51, l51, o51⟩ := o47.dyeO 31
   have a52 := a48.t l51
   cases hm
   rw [← ew51]
   exact Cw.ret (ret1 rfl (Res.mk a52 ⟨v47, rfl, o51.s, (((f8_0.up l41).up l47).up l51)⟩))
  ·refine sk (sr (mv v0_3 rfl (Nv v0_3 rfl ?_)))
   obtain ⟨W55, ew55, l55, o55⟩ := o10.dyeO 31
   have a56 := a9.t l55
   cases hm
   rw [← ew55]
   exact Cw.ret (ret1 rfl (Res.mk a56 ⟨v0_3, rfl, o55.s, (f8_0.up l55)⟩))
theorem p160 {x0 g0_ v0_0_ k0 c0 r} (hB0 : Bx W c0 g0_ [v0_0_, vI x0.p]) (h0_0 : Rd W K [v0_0_] x0.b) (hJ : okJ K [c0] = true) (hm : Vm.spec_l30AnyText x0 = some r) : Q1 160 [ptr (bx g0_)] W [c0] fun W' v => ∃ u0, v = u0 ∧ Ow W' k0 [] [u0] r.1 ∧ Bx W' c0 g0_ [v0_0_, vI r.2] :=
 CallR.adJ (J := [c0]) (fun c => bif Nat.beq c 0 then 0 else bif Nat.beq c 2 then c0 else bif Nat.beq c 31 then k0 else 0) (c160 (hB0.viewJ 0 hJ) (h0_0.view _) hm) fun _ _ ⟨u0, e, f0, f1⟩ => ⟨u0, e, f0.one1.backN rfl, Bx.backJ 0 f1 rfl⟩
theorem c131 {x0 g0_ v0_0_ r} (hB0 : Bx W0 2 g0_ [v0_0_, vI x0.p]) (h0_0 : Rd W0 [0] [v0_0_] x0.b) (hm : Vm.spec_l30AnyTree x0 = some r) : Q0 131 [ptr (bx g0_)] W0 fun Wf v => ∃ u0, v = u0 ∧ OwS (α := List (Sh Vm.File)) Wf [31] [0] [u0] r.1 ∧ Bx Wf 2 g0_ [v0_0_, vI r.2] := by
 unfold Vm.spec_l30AnyTree at hm
 refine CallR.of Tryz.func131 rfl rfl rfl rfl (sr (Nv (.slice none 0 0) rfl (sr (mp rfl (cr hm (fun _ => p158 (k0 := 3) (c0 := 2) (x0 := x0) hB0 h0_0 rfl) ?_)))))
 rintro z1 v0_3 W3 hm l3 ⟨_, rfl, f3_0, f3_1⟩
 have a4 := l3.s
 refine Nv v0_3 rfl ?_
 obtain ⟨K14, hK14, hm⟩ := jn_e hm
 refine Cw.join 7 40 [2, 4] (fun l w => ∃ y5 y9 y11 v6 j8 W13, CW.w W13 = w ∧ Le [2, 3, 5] W3 W13 ∧ l = [v6, j8] ∧ Ow W13 4 [] [v6] y5 ∧ Bx W13 2 g0_ [v0_0_, vI y9] ∧ Ow W13 3 [] [v0_3] y11 ∧ K14 y5 y9 y11 = some r) ?_ ?_
 ·rintro _ _ σ ⟨y5, y9, y11, v6, j8, W13, rfl, l13, rfl, o7, b10, o12, hm⟩
  rw [hK14] at hm
  have a15 := a4.t l13
  refine sr (mv v0_3 rfl (Nv v0_3 rfl ?_))
  obtain ⟨W16, ew16, l16, o16⟩ := o12.toSh
  have a17 := a15.t l16
  obtain ⟨W20, ew20, l20, o20⟩ := o16.dyeO 31
  have a21 := a17.t l20
  cases hm
  rw [← ew20.trans (ew16)]
  exact Cw.ret (ret1 rfl (Res.mk a21 ⟨v0_3, rfl, o20.s, ((b10.up l16).up l20)⟩))
 ·refine sr (mv v0_3 rfl (Lw.ln z1.1 f3_0.rd rfl (Lw.gt rfl (nl (cn hm (fun hm => ?_) fun hm => ?_)))))
  ·refine sr (mp rfl (mv v0_3 rfl (Lw.ln z1.1 f3_0.rd rfl (cr hm (fun _ => p85 (c0 := 2) (x0 := (Vm.l30Rd.mk x0.b z1.2)) f3_1 (h0_0.ul a4) rfl) ?_))))
   rintro z26 _ W28 hm l28 ⟨rfl, f28_0⟩
   have a29 := a4.t l28
   refine Ni rfl (sr (mp rfl (cr hm (fun _ => p85 (c0 := 2) (x0 := (Vm.l30Rd.mk x0.b z26.2)) f28_0 (h0_0.ul a29) rfl) ?_)))
   rintro z32 _ W34 hm l34 ⟨rfl, f34_0⟩
   have a35 := a29.t l34
   have o36 := (f3_0.up l28).up l34
   refine nl (Cw.block (sr (Lw.eq rfl (Nb rfl (cn hm (fun hm => ?_) fun hm => ?_)))))
   ·refine rg (mv v0_3 rfl (mi rfl (mp rfl (cr hm (fun _ => p159 (c0 := 2) (x0 := (Vm.l30Rd.mk x0.b z32.2)) f34_0 (h0_0.ul a35) rfl) ?_))))
    rintro z39 _ W41 hm l41 ⟨rfl, f41_0⟩
    obtain ⟨u44, e45, hm⟩ := ob hm
    refine Lw.r rfl (R.ix (α := File) (o36.up l41).rd e45 rfl rfl rfl) (Lw.fa rfl ?_)
    obtain ⟨q47, e48, hm⟩ := ob hm
    refine Lw.u (T.stH (α := File) (β := Str) (J := []) (Ow.hole (α := File) (β := Str) (jf := 0) (o36.up l41) e45) (OwS.atm (K := []) (rdS _)) e48 rfl rfl rfl rfl) ?_
    rintro _ _ ⟨W46, rfl, l46, o46⟩
    exact nl ((ag) ⟨([] : List File), z39.2, q47, .slice none 0 0, vI z26.1, W46, rfl, (((l28.j l34).j l41).j l46).w, rfl, owN 4 [], (f41_0.up l46), o46, hm⟩)
   ·refine sr (Lw.eq rfl (Nb rfl (cn hm (fun hm => ?_) fun hm => ?_)))
    ·refine rg (mv v0_3 rfl (mi rfl (mp rfl (cr hm (fun _ => p160 (k0 := 5) (c0 := 2) (x0 := (Vm.l30Rd.mk x0.b z32.2)) f34_0 (h0_0.ul a35) rfl) ?_))))
     rintro z53 v0_55 W55 hm l55 ⟨_, rfl, f55_0, f55_1⟩
     obtain ⟨u58, e59, hm⟩ := ob hm
     refine Lw.r rfl (R.ix (α := File) (o36.up l55).rd e59 rfl rfl rfl) (Lw.fa rfl ?_)
     obtain ⟨q61, e62, hm⟩ := ob hm
     refine Lw.u (T.stH (α := File) (β := List Str) (J := [5]) (Ow.hole (α := File) (β := List Str) (jf := 1) (o36.up l55) e59) f55_0.s e62 rfl rfl rfl rfl) ?_
     rintro _ _ ⟨W60, rfl, l60, o60⟩
     exact nl ((ag) ⟨([] : List File), z53.2, q61, .slice none 0 0, vI z26.1, W60, rfl, (((l28.j l34).j l55).j l60).w, rfl, owN 4 [], (f55_1.up l60), o60, hm⟩)
    ·refine sr (Lw.eq rfl (Nb rfl (cn hm (fun hm => ?_) fun hm => ?_)))
     ·refine sr (mv v0_3 rfl (mv v0_3 rfl (mi rfl ?_)))
      obtain ⟨u66, e67, hm⟩ := ob hm
      refine Lw.r rfl (R.ix (α := File) o36.rd e67 rfl rfl rfl) ?_
      obtain ⟨W68, ew68, l68, o68⟩ := o36.toSh
      rw [← ew68]
      have a69 := a35.t l68
      obtain ⟨x71, c72, _, r73⟩ := Ow.cellsSh (α := Vm.File) o68 e67
      obtain ⟨v74, rfl, r75⟩ := File.split r73
      refine Lw.r rfl (R.lda c72 rfl rfl) (Lw.t rfl (T.bs 6 [.agg [vS u66.Path, v74].toArray] (cs := [vS u66.Path, v74]) rfl rfl (bsA rfl)) ?_)
      rintro _ _ ⟨g76, W76, rfl, rfl, l76, b76⟩
      have a77 := l76.o
      obtain ⟨q81, e82, hm⟩ := ob hm
      refine Lw.t rfl (T.app1S (α := Sh Vm.File) (K' := [0]) (o68.up l76) b76 (File.rd (K := [0]) u66.Path u66.Text (r75.ul a77)).sh1 rfl rfl e82) ?_
      rintro v83 _ ⟨W83, rfl, l83, o83⟩
      have a84 := (a69.trans a77).t l83
      refine Nv v83 rfl ?_
      obtain ⟨W87, ew87, l87, o87⟩ := o83.dyeO 31
      have a88 := a84.t l87
      cases hm
      rw [← ew87]
      exact Cw.ret (ret1 rfl (Res.mk a88 ⟨v83, rfl, o87.s, ((((f34_0.up l68).up l76).up l83).up l87)⟩))
     ·exact sk ((ag) ⟨([] : List File), z32.2, z1.1, .slice none 0 0, vI z26.1, W34, rfl, (l28.j l34).w, rfl, owN 4 [], f34_0, o36, hm⟩)
  ·exact sk ((ag) ⟨([] : List File), z1.2, z1.1, .slice none 0 0, undef, W3, rfl, Le.refl _ _, rfl, owN 4 [], f3_1, f3_0, hm⟩)
theorem p131 {x0 g0_ v0_0_ k0 c0 r} (hB0 : Bx W c0 g0_ [v0_0_, vI x0.p]) (h0_0 : Rd W K [v0_0_] x0.b) (hJ : okJ K [c0] = true) (hm : Vm.spec_l30AnyTree x0 = some r) : Q1 131 [ptr (bx g0_)] W [c0] fun W' v => ∃ u0, v = u0 ∧ Ow (α := List (Sh Vm.File)) W' k0 (0 :: K) [u0] r.1 ∧ Bx W' c0 g0_ [v0_0_, vI r.2] :=
 CallR.adJ (J := [c0]) (fun c => bif Nat.beq c 0 then 0 else bif Nat.beq c 2 then c0 else bif Nat.beq c 31 then k0 else 0) (c131 (hB0.viewJ 0 hJ) (h0_0.view _) hm) fun _ _ ⟨u0, e, f0, f1⟩ => ⟨u0, e, f0.one1.backNS rfl rfl, Bx.backJ 0 f1 rfl⟩
theorem c61 {x0 v0_ r} (h0 : Rd W0 [0] [v0_] x0) (hm : Vm.spec_DrawRepoCommit x0 = some r) : Q0 61 [v0_] W0 fun Wf v => ∃ u0_0 u0_1 u3, v = .tuple [.agg [u0_0, u0_1].toArray, vS r.2.1, vS r.2.2.1, u3].toArray ∧ OwS Wf [31] [] [u0_0] r.1.Commits ∧ OwS Wf [32] [] [u0_1] r.1.Heads ∧ OwS (α := List (Sh Vm.File)) Wf [33] [0] [u3] r.2.2.2 := by
 unfold Vm.spec_DrawRepoCommit at hm
 refine CallR.of Tryz.func61 rfl rfl rfl rfl (sr (al 2 [.slice none 0 0, .slice none 0 0] fun g1 W1 l1 b1 => ?_))
 have a2 := l1.o
 refine Gs rfl (Gs rfl (Nv (.slice none 0 0) rfl (sr (mv v0_ rfl (cr hm (fun _ => p81 (k0 := 3) (h0.ul a2)) ?_)))))
 rintro z4 _ W6 hm l6 ⟨g0_6, v0_0_6, rfl, f6_0, f6_1⟩
 have s7 := f6_1.sub (M := [0]) rfl
 have a8 := a2.n l6
 refine Np rfl (sr (mp rfl (cr hm (fun _ => p82 (k0 := 4) (k1 := 5) (c0 := 3) (x0 := z4) f6_0 s7 rfl) ?_)))
 rintro z10 _ W12 hm l12 ⟨v0_0_12, v0_1_12, rfl, f12_0, f12_1, f12_2⟩
 have a13 := l12.s
 refine al 6 [.slice none 0 0, .slice none 0 0] fun g15 W15 l15 b15 => ?_
 have a16 := l15.o
 refine sta b15 (oc_cons (f12_0.up l15).oc (oc_cons (f12_1.up l15).oc oc_nil)) fun W21 l21 b21 => ?_
 have a22 := l21.s
 refine nl (Cw.seq ?_)
 obtain ⟨z42, e43, hm⟩ := ob hm
 obtain ⟨z60, e61, hm⟩ := ob hm
 obtain ⟨z71, e72, hm⟩ := ob hm
 refine Cw.par [[], [], [], [1, 2], [], [], [1, 2, 3, 4, 5], [], [1, 2, 3, 4, 5, 6, 7], [0, 1, 2, 3, 4, 5, 6, 7, 8], [0, 1, 2, 3, 4, 5, 6, 7, 8, 9], [0, 1, 2, 3, 4, 5, 6, 7, 8, 9, 10], [0, 1, 2, 3, 4, 5, 6, 7, 8, 9, 10, 11]] [[], [14], [], [1, 2, 14], [], [], [3, 4, 5], [], [6, 7], [0, 13], [8], [8], [8]] [[], [], [], [3], [], [], [3], [], [3], [2], [], [], []] [[0], [1], [2], [3], [4], [5], [3, 6], [7], [3, 6, 8], [], [10], [11], [8, 12], [], []] [[], [], [7], [3], [], [8], [3], [], [0, 3, 9], [2], [], [], [], [2], [3]] [0, 1, 2, 4, 5, 7, 8, 9, 10, 11, 12] [2, 3] [fun vs W => (vs 0) = .agg [v0_0_12, v0_1_12].toArray, fun vs W => (vs 1) = ptr (bx g0_6), fun vs W => Ow W 7 [] [(vs 2)] ([([109, 97, 105, 110] : Str), ([115, 105, 100, 101] : Str), ([110, 101, 119] : Str), ([66, 97, 100] : Str)] : List Str), fun vs W => (vs 3) = vS z42.1 ∧ Bx W 3 g0_6 [v0_0_6, vI z42.2], fun vs W => (vs 4) = ptr (bx g0_6), fun vs W => Ow W 8 [] [(vs 5)] ([([97, 110, 110] : Str), ([98, 111, 98] : Str), ([] : Str)] : List Str), fun vs W => (vs 6) = vS z60.1 ∧ (vs 3) = vS z42.1 ∧ Bx W 3 g0_6 [v0_0_6, vI z60.2], fun vs W => (vs 7) = ptr (bx g0_6), fun vs W => (vs 3) = vS z42.1 ∧ (vs 6) = vS z60.1 ∧ Ow (α := List (Sh Vm.File)) W 9 [0] [(vs 8)] z71.1 ∧ Bx W 3 g0_6 [v0_0_6, vI z71.2], fun vs W => Bx W 2 g1 [v0_0_12, v0_1_12], fun vs W => (vs 10) = vS z42.1, fun vs W => (vs 11) = vS z60.1, fun vs W => (vs 12) = (vs 8)] [fun _ W => Bx W 2 g1 [.slice none 0 0, .slice none 0 0], fun _ W => Bx W 3 g0_6 [v0_0_6, vI z10.2]] mixed (by kernel_rfl) rfl (AllF.cons (fun _ _ l => ((((b1.up l6).up l12).up l15).up l21).up l rfl) (AllF.cons (fun _ _ l => ((f12_2.up l15).up l21).up l rfl) AllF.nil)) ?_
 intro W91 l91
 have a92 := l91.o
 have o93 := ((f12_0.up l15).up l21).up l91
 have o94 := ((f12_1.up l15).up l21).up l91
 refine ⟨(Steps.cons ?_ (Steps.cons ?_ (Steps.cons ?_ (Steps.cons ?_ (Steps.cons ?_ (Steps.cons ?_ (Steps.cons ?_ (Steps.cons ?_ (Steps.cons ?_ (Steps.cons ?_ (Steps.cons ?_ (Steps.cons ?_ (Steps.cons ?_ Steps.nil))))))))))))), (Sups.cons (fun vs vs' W W' _ hv l hd h => by (show (vs' 0) = .agg [v0_0_12, v0_1_12].toArray); rw [hv 0 (anyb rfl)]; exact h) (Sups.cons (fun vs vs' W W' _ hv l hd h => by (show (vs' 1) = ptr (bx g0_6)); rw [hv 1 (anyb rfl)]; exact h) (Sups.cons (fun vs vs' W W' _ hv l hd h => by (show Ow W' 7 [] [(vs' 2)] ([([109, 97, 105, 110] : Str), ([115, 105, 100, 101] : Str), ([110, 101, 119] : Str), ([66, 97, 100] : Str)] : List Str)); rw [hv 2 (anyb rfl)]; exact h.upv l (disj_mem hd (c := 7) rfl)) (Sups.cons (fun vs vs' W W' _ hv l hd h => by (show (vs' 3) = vS z42.1 ∧ Bx W' 3 g0_6 [v0_0_6, vI z42.2]); rw [hv 3 (anyb rfl)]; exact ⟨h.1, h.2.up l (disj_mem hd (c := 3) rfl)⟩) (Sups.cons (fun vs vs' W W' _ hv l hd h => by (show (vs' 4) = ptr (bx g0_6)); rw [hv 4 (anyb rfl)]; exact h) (Sups.cons (fun vs vs' W W' _ hv l hd h => by (show Ow W' 8 [] [(vs' 5)] ([([97, 110, 110] : Str), ([98, 111, 98] : Str), ([] : Str)] : List Str)); rw [hv 5 (anyb rfl)]; exact h.upv l (disj_mem hd (c := 8) rfl)) (Sups.cons (fun vs vs' W W' _ hv l hd h => by (show (vs' 6) = vS z60.1 ∧ (vs' 3) = vS z42.1 ∧ Bx W' 3 g0_6 [v0_0_6, vI z60.2]); rw [hv 3 (anyb rfl), hv 6 (anyb rfl)]; exact ⟨h.1, h.2.1, h.2.2.up l (disj_mem hd (c := 3) rfl)⟩) (Sups.cons (fun vs vs' W W' _ hv l hd h => by (show (vs' 7) = ptr (bx g0_6)); rw [hv 7 (anyb rfl)]; exact h) (Sups.cons (fun vs vs' W W' _ hv l hd h => by (show (vs' 3) = vS z42.1 ∧ (vs' 6) = vS z60.1 ∧ Ow (α := List (Sh Vm.File)) W' 9 [0] [(vs' 8)] z71.1 ∧ Bx W' 3 g0_6 [v0_0_6, vI z71.2]); rw [hv 3 (anyb rfl), hv 6 (anyb rfl), hv 8 (anyb rfl)]; exact ⟨h.1, h.2.1, h.2.2.1.up l (disj_sub hd (K := [9, 0]) rfl), h.2.2.2.up l (disj_mem hd (c := 3) rfl)⟩) (Sups.cons (fun vs vs' W W' _ hv l hd h => by (show Bx W' 2 g1 [v0_0_12, v0_1_12]); exact h.up l (disj_mem hd (c := 2) rfl)) (Sups.cons (fun vs vs' W W' _ hv l hd h => by (show (vs' 10) = vS z42.1); rw [hv 10 (anyb rfl)]; exact h) (Sups.cons (fun vs vs' W W' _ hv l hd h => by (show (vs' 11) = vS z60.1); rw [hv 11 (anyb rfl)]; exact h) (Sups.cons (fun vs vs' W W' _ hv l hd h => by (show (vs' 12) = (vs' 8)); rw [hv 8 (anyb rfl), hv 12 (anyb rfl)]; exact h) (Sups.cons (fun _ _ _ _ _ _ l hd h => h.up l (disj_mem hd (c := 2) rfl)) (Sups.cons (fun _ _ _ _ _ _ l hd h => h.up l (disj_mem hd (c := 3) rfl)) Sups.nil))))))))))))))), ?_⟩
 ·intro vs W lW hN
  obtain ⟨W98, hW98⟩ : ∃ X, X = W := ⟨W, rfl⟩
  subst hW98
  refine Tr.mono (Run.tr (R.lda (cs := [v0_0_12, v0_1_12]) ((b21.up l91).up lW rfl).cells rfl rfl)) ?_
  rintro _ _ ⟨hu, rfl⟩
  obtain rfl := hu.symm
  exact ⟨W98, rfl, Le.refl _ _, (show (.agg [v0_0_12, v0_1_12].toArray : Value) = .agg [v0_0_12, v0_1_12].toArray from rfl)⟩
 ·intro vs W lW hN
  obtain ⟨W103, hW103⟩ : ∃ X, X = W := ⟨W, rfl⟩
  subst hW103
  have o108 : Bx W103 3 g0_6 [v0_0_6, vI z10.2] := hN 14 (anyb rfl)
  refine Tr.mono (Run.tr (R.mv (v := ptr (bx g0_6)) rfl)) ?_
  rintro _ _ ⟨hu, rfl⟩
  obtain rfl := hu.symm
  exact ⟨W103, rfl, Le.refl _ _, (show (ptr (bx g0_6) : Value) = ptr (bx g0_6) from rfl)⟩
 ·intro vs W lW hN
  obtain ⟨W109, hW109⟩ : ∃ X, X = W := ⟨W, rfl⟩
  subst hW109
  refine Tr.mono (T.bsS (α := Str) (xs := [([109, 97, 105, 110] : Str), ([115, 105, 100, 101] : Str), ([110, 101, 119] : Str), ([66, 97, 100] : Str)]) 7 [] (W := W109) [vS ([109, 97, 105, 110] : Str), vS ([115, 105, 100, 101] : Str), vS ([110, 101, 119] : Str), vS ([66, 97, 100] : Str)] (Each.cons ((rdS _)) (Each.cons ((rdS _)) (Each.cons ((rdS _)) (Each.cons ((rdS _)) Each.nil)))) rfl) ?_
  rintro v114 _ ⟨W114, rfl, l114, o114⟩
  exact ⟨W114, rfl, l114, (show Ow W114 7 [] [v114] ([([109, 97, 105, 110] : Str), ([115, 105, 100, 101] : Str), ([110, 101, 119] : Str), ([66, 97, 100] : Str)] : List Str) from o114)⟩
 ·intro vs W lW hN
  obtain ⟨W119, hW119⟩ : ∃ X, X = W := ⟨W, rfl⟩
  subst hW119
  have a120 := (((a13.trans a16).trans a22).trans a92).t lW rfl
  have e1_ : vs 1 = ptr (bx g0_6) := (hN 1 (anyb rfl))
  obtain ⟨vs, rfl⟩ := up_eq e1_
  obtain ⟨pv2, e2_⟩ : ∃ v, vs 2 = v := ⟨_, rfl⟩
  obtain ⟨vs, rfl⟩ := up_eq e2_
  have o124 : Ow W119 7 [] [pv2] ([([109, 97, 105, 110] : Str), ([115, 105, 100, 101] : Str), ([110, 101, 119] : Str), ([66, 97, 100] : Str)] : List Str) := (hN 2 (anyb rfl))
  have o125 : Bx W119 3 g0_6 [v0_0_6, vI z10.2] := hN 14 (anyb rfl)
  refine Tr.mono (T.call rfl (p102 (K := [0, 7])  (c0 := 3) (x0 := (Vm.l30Rd.mk z4.b z10.2)) o125 ((s7.ul a120).sub (M := [0, 7]) rfl) (o124.rd.sub (M := [0, 7]) rfl) rfl e43)) ?_
  rintro _ _ ⟨W127, rfl, l127, ⟨rfl, f127_0⟩⟩
  exact ⟨W127, rfl, l127, (show (vS z42.1 : Value) = vS z42.1 ∧ Bx W127 3 g0_6 [v0_0_6, vI z42.2] from ⟨rfl, f127_0⟩)⟩
 ·intro vs W lW hN
  obtain ⟨W133, hW133⟩ : ∃ X, X = W := ⟨W, rfl⟩
  subst hW133
  refine Tr.mono (Run.tr (R.mv (v := ptr (bx g0_6)) rfl)) ?_
  rintro _ _ ⟨hu, rfl⟩
  obtain rfl := hu.symm
  exact ⟨W133, rfl, Le.refl _ _, (show (ptr (bx g0_6) : Value) = ptr (bx g0_6) from rfl)⟩
 ·intro vs W lW hN
  obtain ⟨W138, hW138⟩ : ∃ X, X = W := ⟨W, rfl⟩
  subst hW138
  refine Tr.mono (T.bsS (α := Str) (xs := [([97, 110, 110] : Str), ([98, 111, 98] : Str), ([] : Str)]) 8 [] (W := W138) [vS ([97, 110, 110] : Str), vS ([98, 111, 98] : Str), vS ([] : Str)] (Each.cons ((rdS _)) (Each.cons ((rdS _)) (Each.cons ((rdS _)) Each.nil))) rfl) ?_
  rintro v143 _ ⟨W143, rfl, l143, o143⟩
  exact ⟨W143, rfl, l143, (show Ow W143 8 [] [v143] ([([97, 110, 110] : Str), ([98, 111, 98] : Str), ([] : Str)] : List Str) from o143)⟩
 ·intro vs W lW hN
  obtain ⟨W148, hW148⟩ : ∃ X, X = W := ⟨W, rfl⟩
  subst hW148
  have a149 := (((a13.trans a16).trans a22).trans a92).t lW rfl
  have e3_ : vs 3 = vS z42.1 := (hN 3 (anyb rfl)).1
  obtain ⟨vs, rfl⟩ := up_eq e3_
  have o153 : Bx W148 3 g0_6 [v0_0_6, vI z42.2] := (hN 3 (anyb rfl)).2
  have e4_ : vs 4 = ptr (bx g0_6) := (hN 4 (anyb rfl))
  obtain ⟨vs, rfl⟩ := up_eq e4_
  obtain ⟨pv5, e5_⟩ : ∃ v, vs 5 = v := ⟨_, rfl⟩
  obtain ⟨vs, rfl⟩ := up_eq e5_
  have o154 : Ow W148 8 [] [pv5] ([([97, 110, 110] : Str), ([98, 111, 98] : Str), ([] : Str)] : List Str) := (hN 5 (anyb rfl))
  refine Tr.mono (T.call rfl (p102 (K := [0, 8])  (c0 := 3) (x0 := (Vm.l30Rd.mk z4.b z42.2)) o153 ((s7.ul a149).sub (M := [0, 8]) rfl) (o154.rd.sub (M := [0, 8]) rfl) rfl e61)) ?_
  rintro _ _ ⟨W156, rfl, l156, ⟨rfl, f156_0⟩⟩
  exact ⟨W156, rfl, l156, (show (vS z60.1 : Value) = vS z60.1 ∧ (vS z42.1) = vS z42.1 ∧ Bx W156 3 g0_6 [v0_0_6, vI z60.2] from ⟨rfl, rfl, f156_0⟩)⟩
 ·intro vs W lW hN
  obtain ⟨W162, hW162⟩ : ∃ X, X = W := ⟨W, rfl⟩
  subst hW162
  refine Tr.mono (Run.tr (R.mv (v := ptr (bx g0_6)) rfl)) ?_
  rintro _ _ ⟨hu, rfl⟩
  obtain rfl := hu.symm
  exact ⟨W162, rfl, Le.refl _ _, (show (ptr (bx g0_6) : Value) = ptr (bx g0_6) from rfl)⟩
 ·intro vs W lW hN
  obtain ⟨W167, hW167⟩ : ∃ X, X = W := ⟨W, rfl⟩
  subst hW167
  have a168 := (((a13.trans a16).trans a22).trans a92).t lW rfl
  have e3_ : vs 3 = vS z42.1 := (hN 6 (anyb rfl)).2.1
  obtain ⟨vs, rfl⟩ := up_eq e3_
  have e6_ : vs 6 = vS z60.1 := (hN 6 (anyb rfl)).1
  obtain ⟨vs, rfl⟩ := up_eq e6_
  have o172 : Bx W167 3 g0_6 [v0_0_6, vI z60.2] := (hN 6 (anyb rfl)).2.2
  have e7_ : vs 7 = ptr (bx g0_6) := (hN 7 (anyb rfl))
  obtain ⟨vs, rfl⟩ := up_eq e7_
  refine Tr.mono (T.call rfl (p131 (k0 := 9) (c0 := 3) (x0 := (Vm.l30Rd.mk z4.b z60.2)) o172 (s7.ul a168) rfl e72)) ?_
  rintro v0_174 _ ⟨W174, rfl, l174, ⟨_, rfl, f174_0, f174_1⟩⟩
  have o175 : Ow (α := List (Sh Vm.File)) W174 9 [0] [v0_174] z71.1 := f174_0.sub rfl
  exact ⟨W174, rfl, l174, (show (vS z42.1) = vS z42.1 ∧ (vS z60.1) = vS z60.1 ∧ Ow (α := List (Sh Vm.File)) W174 9 [0] [v0_174] z71.1 ∧ Bx W174 3 g0_6 [v0_0_6, vI z71.2] from ⟨rfl, rfl, o175, f174_1⟩)⟩
 ·intro vs W lW hN
  obtain ⟨W180, hW180⟩ : ∃ X, X = W := ⟨W, rfl⟩
  subst hW180
  have e0_ : vs 0 = .agg [v0_0_12, v0_1_12].toArray := (hN 0 (anyb rfl))
  obtain ⟨vs, rfl⟩ := up_eq e0_
  have o185 : Bx W180 2 g1 [.slice none 0 0, .slice none 0 0] := hN 13 (anyb rfl)
  refine Tr.mono (T.sta (vs := [v0_0_12, v0_1_12]) o185 rfl rfl (oc_cons (o93.up lW rfl).oc (oc_cons (o94.up lW rfl).oc oc_nil)) rfl rfl) ?_
  rintro _ _ ⟨W186, rfl, l186, b186⟩
  exact ⟨W186, rfl, l186, (show Bx W186 2 g1 [v0_0_12, v0_1_12] from b186)⟩
 ·intro vs W lW hN
  obtain ⟨W191, hW191⟩ : ∃ X, X = W := ⟨W, rfl⟩
  subst hW191
  have e3_ : vs 3 = vS z42.1 := (hN 8 (anyb rfl)).1
  obtain ⟨vs, rfl⟩ := up_eq e3_
  have e6_ : vs 6 = vS z60.1 := (hN 8 (anyb rfl)).2.1
  obtain ⟨vs, rfl⟩ := up_eq e6_
  obtain ⟨pv8, e8_⟩ : ∃ v, vs 8 = v := ⟨_, rfl⟩
  obtain ⟨vs, rfl⟩ := up_eq e8_
  have o196 : Ow (α := List (Sh Vm.File)) W191 9 [0] [pv8] z71.1 := (hN 8 (anyb rfl)).2.2.1
  have o197 : Bx W191 3 g0_6 [v0_0_6, vI z71.2] := (hN 8 (anyb rfl)).2.2.2
  refine Tr.mono (Run.tr (R.as (v := vS z42.1) rfl)) ?_
  rintro _ _ ⟨hu, rfl⟩
  obtain rfl := hu.symm
  exact ⟨W191, rfl, Le.refl _ _, (show (vS z42.1 : Value) = vS z42.1 from rfl)⟩
 ·intro vs W lW hN
  obtain ⟨W198, hW198⟩ : ∃ X, X = W := ⟨W, rfl⟩
  subst hW198
  have e3_ : vs 3 = vS z42.1 := (hN 8 (anyb rfl)).1
  obtain ⟨vs, rfl⟩ := up_eq e3_
  have e6_ : vs 6 = vS z60.1 := (hN 8 (anyb rfl)).2.1
  obtain ⟨vs, rfl⟩ := up_eq e6_
  obtain ⟨pv8, e8_⟩ : ∃ v, vs 8 = v := ⟨_, rfl⟩
  obtain ⟨vs, rfl⟩ := up_eq e8_
  have o203 : Ow (α := List (Sh Vm.File)) W198 9 [0] [pv8] z71.1 := (hN 8 (anyb rfl)).2.2.1
  have o204 : Bx W198 3 g0_6 [v0_0_6, vI z71.2] := (hN 8 (anyb rfl)).2.2.2
  refine Tr.mono (Run.tr (R.as (v := vS z60.1) rfl)) ?_
  rintro _ _ ⟨hu, rfl⟩
  obtain rfl := hu.symm
  exact ⟨W198, rfl, Le.refl _ _, (show (vS z60.1 : Value) = vS z60.1 from rfl)⟩
 ·intro vs W lW hN
  obtain ⟨W205, hW205⟩ : ∃ X, X = W := ⟨W, rfl⟩
  subst hW205
  have e3_ : vs 3 = vS z42.1 := (hN 8 (anyb rfl)).1
  obtain ⟨vs, rfl⟩ := up_eq e3_
  have e6_ : vs 6 = vS z60.1 := (hN 8 (anyb rfl)).2.1
  obtain ⟨vs, rfl⟩ := up_eq e6_
  obtain ⟨pv8, e8_⟩ : ∃ v, vs 8 = v := ⟨_, rfl⟩
  obtain ⟨vs, rfl⟩ := up_eq e8_
  have o210 : Ow (α := List (Sh Vm.File)) W205 9 [0] [pv8] z71.1 := (hN 8 (anyb rfl)).2.2.1
  have o211 : Bx W205 3 g0_6 [v0_0_6, vI z71.2] := (hN 8 (anyb rfl)).2.2.2
  refine Tr.mono (Run.tr (R.as (v := pv8) rfl)) ?_
  rintro _ _ ⟨hu, rfl⟩
  obtain rfl := hu.symm
  exact ⟨W205, rfl, Le.refl _ _, (show (pv8 : Value) = pv8 from rfl)⟩
 ·intro vs W lW hN
  obtain ⟨W212, hW212⟩ : ∃ X, X = W := ⟨W, rfl⟩
  subst hW212
  have a213 := ((((a8.trans a13).trans a16).trans a22).trans a92).t lW rfl
  obtain ⟨l212, hl212⟩ : ∃ x, x = lW := ⟨lW, rfl⟩
  have e0_ : vs 0 = .agg [v0_0_12, v0_1_12].toArray := (hN 0 (anyb rfl))
  obtain ⟨vs, rfl⟩ := up_eq e0_
  have e1_ : vs 1 = ptr (bx g0_6) := (hN 1 (anyb rfl))
  obtain ⟨vs, rfl⟩ := up_eq e1_
  obtain ⟨pv2, e2_⟩ : ∃ v, vs 2 = v := ⟨_, rfl⟩
  obtain ⟨vs, rfl⟩ := up_eq e2_
  have o217 : Ow W212 7 [] [pv2] ([([109, 97, 105, 110] : Str), ([115, 105, 100, 101] : Str), ([110, 101, 119] : Str), ([66, 97, 100] : Str)] : List Str) := (hN 2 (anyb rfl))
  have e4_ : vs 4 = ptr (bx g0_6) := (hN 4 (anyb rfl))
  obtain ⟨vs, rfl⟩ := up_eq e4_
  obtain ⟨pv5, e5_⟩ : ∃ v, vs 5 = v := ⟨_, rfl⟩
  obtain ⟨vs, rfl⟩ := up_eq e5_
  have o218 : Ow W212 8 [] [pv5] ([([97, 110, 110] : Str), ([98, 111, 98] : Str), ([] : Str)] : List Str) := (hN 5 (anyb rfl))
  have e7_ : vs 7 = ptr (bx g0_6) := (hN 7 (anyb rfl))
  obtain ⟨vs, rfl⟩ := up_eq e7_
  have e3_ : vs 3 = vS z42.1 := (hN 8 (anyb rfl)).1
  obtain ⟨vs, rfl⟩ := up_eq e3_
  have e6_ : vs 6 = vS z60.1 := (hN 8 (anyb rfl)).2.1
  obtain ⟨vs, rfl⟩ := up_eq e6_
  obtain ⟨pv8, e8_⟩ : ∃ v, vs 8 = v := ⟨_, rfl⟩
  obtain ⟨vs, rfl⟩ := up_eq e8_
  have o219 : Ow (α := List (Sh Vm.File)) W212 9 [0] [pv8] z71.1 := (hN 8 (anyb rfl)).2.2.1
  have o220 : Bx W212 3 g0_6 [v0_0_6, vI z71.2] := (hN 8 (anyb rfl)).2.2.2
  have o221 : Bx W212 2 g1 [v0_0_12, v0_1_12] := (hN 9 (anyb rfl))
  have e10_ : vs 10 = vS z42.1 := (hN 10 (anyb rfl))
  obtain ⟨vs, rfl⟩ := up_eq e10_
  have e11_ : vs 11 = vS z60.1 := (hN 11 (anyb rfl))
  obtain ⟨vs, rfl⟩ := up_eq e11_
  have e12_ : vs 12 = pv8 := (hN 12 (anyb rfl))
  obtain ⟨vs, rfl⟩ := up_eq e12_
  obtain ⟨W222, ew222, l222, o222⟩ := (o93.up lW rfl).dyeO 31
  have a223 := a213.t l222
  obtain ⟨W231, ew231, l231, o231⟩ := ((o94.up lW rfl).up l222).dyeO 32
  have a232 := a223.t l231
  obtain ⟨W240, ew240, l240, o240⟩ := ((o219.up l222).up l231).dyeO 33
  have a241 := a232.t l240
  cases hm
  rw [← ew240.trans (ew231.trans (ew222))]
  exact Cw.ret (retG (ResOk.c rfl (((o221.up l222).up l231).up l240) (ResOk.t rfl (ResOk.t rfl (ResOk.t rfl ResOk.n)))) (Res.mk a241 ⟨v0_0_12, v0_1_12, pv8, rfl, ((o222.up l231).up l240).s, (o231.up l240).s, o240.s⟩))
theorem p61 {x0 v0_ k0 k1 k2 r} (h0 : Rd W K [v0_] x0) (hm : Vm.spec_DrawRepoCommit x0 = some r) : Q1 61 [v0_] W [] fun W' v => ∃ u0_0 u0_1 u3, v = .tuple [.agg [u0_0, u0_1].toArray, vS r.2.1, vS r.2.2.1, u3].toArray ∧ Ow W' k0 [] [u0_0] r.1.Commits ∧ Ow W' k1 [] [u0_1] r.1.Heads ∧ Ow (α := List (Sh Vm.File)) W' k2 (0 :: K) [u3] r.2.2.2 :=
 CallR.adJ (J := []) (fun c => bif Nat.beq c 0 then 0 else bif Nat.beq c 31 then k0 else bif Nat.beq c 32 then k1 else bif Nat.beq c 33 then k2 else 0) (c61 (h0.view _) hm) fun _ _ ⟨u0_0, u0_1, u3, e, f0, f1, f2⟩ => ⟨u0_0, u0_1, u3, e, f0.one1.backN rfl, f1.one1.backN rfl, f2.one1.backNS rfl rfl⟩
theorem c80 {x0 v0_0_ v0_1_ x1 r} (h0 : Rd W0 [0] [v0_0_, v0_1_] x0) (hm : Vm.impl_Repo_at x0 x1 = some r) : Q0 80 [.agg [v0_0_, v0_1_].toArray, vS x1] W0 fun Wf v => v = vI r := by
 unfold Vm.impl_Repo_at at hm
 obtain ⟨w0_0, w0_1, he0, h0_0, h0_1⟩ := Repo.split h0
 simp only [List.cons.injEq, and_true, true_and] at he0
 obtain ⟨rfl, rfl⟩ := he0
 refine CallR.of Tryz.func80 rfl rfl rfl rfl (sr (bo 2 rfl fun g1 W1 l1 b1 => ?_))
 have a2 := l1.o
 refine Ni rfl (ssr (fl b1 rfl (Lw.ln x0.Heads (h0_1.ul a2) rfl (mi rfl (nl (Cw.block ?_))))))
 obtain ⟨K8, hK8, hm⟩ := jn_e hm
 refine Cw.loop 10 20 [4, 6, 10] (fun m l w => ∃ y4 y6 j5 W7, CW.w W7 = w ∧ Le [3] W1 W7 ∧ l = [vI y4, j5, vI y6] ∧ Vm.impl_Repo_at_l1 x0 x1 K8 m y4 y6 = some r) _ ⟨0, 0, undef, W1, rfl, Le.refl _ _, rfl, hm⟩ ?_
 rintro (_ | m9) _ _ σ ⟨y4, y6, j5, W7, rfl, l7, rfl, hm⟩
 ·cases hm
 unfold Vm.impl_Repo_at_l1 at hm
 have a10 := a2.t l7
 refine sr (Lw.lt rfl (nl (Cw.seq (cn hm (fun hm => ?_) fun hm => ?_))))
 ·refine sk (Cw.seq (Cw.block (sr ?_)))
  obtain ⟨u13, e14, hm⟩ := ob hm
  refine Lw.r rfl (R.ix (α := Head) (h0_1.ul a10) e14 rfl rfl rfl) ?_
  obtain ⟨x16, c17, _, r18⟩ := ((h0_1.ul a10).at_ e14).cells
  obtain rfl := Head.split r18
  refine Lw.r rfl (R.lda c17 rfl rfl) (al 3 [vS ([] : Str), vI 0] fun g19 W19 l19 b19 => ?_)
  have a20 := a10.n l19
  refine sta b19 (oc_cons rfl (oc_cons rfl oc_nil)) fun W22 l22 b22 => ?_
  have a23 := a20.t l22
  refine nl (sr (fl b22 rfl (ms rfl (Lw.seq rfl (nl (cn hm (fun hm => ?_) fun hm => ?_))))))
  ·exact sr (fl b22 rfl (Ni rfl (.ret (rt hm a23))))
  ·exact sk (rg (Lw.add rfl (mi rfl (nl ((agm) ⟨y4, w64 (y6 + 1), ptr (bx g19), W22, rfl, ((l7.j l19).j l22).w, rfl, hm⟩)))))
 ·refine Cw.exit ?_
  rw [hK8] at hm
  exact sr (Ni rfl (.ret (rt hm a10)))
theorem p80 {x0 v0_0_ v0_1_ x1 r} (h0 : Rd W K [v0_0_, v0_1_] x0) (hm : Vm.impl_Repo_at x0 x1 = some r) : Q1 80 [.agg [v0_0_, v0_1_].toArray, vS x1] W [] fun W' v => v = vI r :=
 (c80 (h0.view _) hm).ad (fk 0) fun _ _ e => e
theorem c114 {x0 v0_ r} (h0 : Rd W0 [0] [v0_] x0) (hm : Vm.impl_copyTree x0 = some r) : Q0 114 [v0_] W0 fun Wf v => ∃ u0, v = u0 ∧ OwS Wf LL [] [u0] r := by
 unfold Vm.impl_copyTree at hm
 refine CallR.of Tryz.func114 rfl rfl rfl rfl (sr (Nv (.slice none 0 0) rfl (sr (Nv (.slice none 0 0) rfl (ssr (mv v0_ rfl (Lw.ln x0 h0 rfl (mi rfl (nl (Cw.block ?_))))))))))
 obtain ⟨K7, hK7, hm⟩ := jn_e hm
 refine Cw.loop 8 21 [3, 5, 8] (fun m l w => ∃ y1 y5 v2 j4 W6, CW.w W6 = w ∧ Le [2, 3, 4] W0 W6 ∧ l = [v2, j4, vI y5] ∧ Ow W6 2 [] [v2] y1 ∧ Vm.impl_copyTree_l1 x0 K7 m y1 y5 = some r) _ ⟨([] : List File), 0, .slice none 0 0, undef, W0, rfl, Le.refl _ _, rfl, owN 2 [], hm⟩ ?_
 rintro (_ | m8) _ _ σ ⟨y1, y5, v2, j4, W6, rfl, l6, rfl, o3, hm⟩
 ·cases hm
 unfold Vm.impl_copyTree_l1 at hm
 have a9 := l6.s
 refine sr (Lw.lt rfl (nl (Cw.seq (cn hm (fun hm => ?_) fun hm => ?_))))
 ·refine sk (Cw.seq (Cw.block (sr ?_)))
  obtain ⟨u11, e12, hm⟩ := ob hm
  refine Lw.r rfl (R.ix (α := File) (h0.ul a9) e12 rfl rfl rfl) ?_
  obtain ⟨x14, c15, _, r16⟩ := ((h0.ul a9).at_ e12).cells
  obtain ⟨v17, rfl, r18⟩ := File.split r16
  refine Lw.r rfl (R.lda c15 rfl rfl) (al 3 [vS ([] : Str), .slice none 0 0] fun g19 W19 l19 b19 => ?_)
  have a20 := l19.o
  refine sta b19 (oc_cons rfl (oc_cons r18.oc oc_nil)) fun W22 l22 b22 => ?_
  have a23 := a20.t l22
  refine nl (Cw.draw [2, 4] [(0, 0), (1, 0), (2, 1), (3, 0), (4, 1), (5, 2), (6, 0), (7, 2), (8, 2), (9, 0)] mixed (by kernel_rfl) fun W25 l25 => ?_)
  have a26 := a23.n l25
  refine Dv v2 rfl (Dfl (b22.up l25) rfl rfl rfl (Dfl (b22.up l25) rfl rfl rfl (Dc hm (Le.refl _ _) (fun _ => p97 (k0 := 4) (r18.ul a26)) rfl ?_)))
  rintro z30 v0_32 W32 hm l32 ⟨_, rfl, f32_0⟩ d32
  refine Mw.p rfl rfl (fun _ => R.bd (zs := [vS ([] : Str), .slice none 0 0]) (cs := [vS u11.Path, v0_32]) [(0, vS u11.Path), (1, v0_32)] rfl rfl rfl (bp_cons rfl rfl (bp_cons f32_0.oc rfl bp_nil))) (Mw.t rfl rfl (T.bs 5 [.agg [vS u11.Path, v0_32].toArray] (cs := [vS u11.Path, v0_32]) rfl rfl (bsA rfl)) ?_)
  rintro _ _ ⟨g36, W36, rfl, rfl, l36, b36⟩
  refine mc d32 l36 fun d36 => ?_
  obtain ⟨q41, e42, hm⟩ := ob hm
  refine Mw.t rfl rfl (T.app1 (α := File) (J := [4]) (K' := []) (((((o3.up l19).up l22).up l25).up l32).up l36) b36 (File.own u11.Path z30 (f32_0.up l36).s) rfl rfl e42) ?_
  rintro v43 _ ⟨W43, rfl, l43, o43⟩
  exact mc d36 l43 fun d43 => Hv v43 rfl (Mw.nil (rg (Lw.add rfl (mi rfl (nl ((agm) ⟨q41, w64 (y5 + 1), v43, ptr (bx g19), W43, rfl, ((((((l6.j l19).j l22).j l25).j l32).j l36).j l43).w, rfl, o43, hm⟩))))))
 ·refine Cw.exit ?_
  rw [hK7] at hm
  refine sr (mv v2 rfl (Nv v2 rfl ?_))
  cases hm
  exact Cw.ret (ret1 rfl (Res.mk a9 ⟨v2, rfl, o3.s.sub rfl rfl⟩))
theorem p114 {x0 v0_ k0 r} (h0 : Rd W K [v0_] x0) (hm : Vm.impl_copyTree x0 = some r) : Q1 114 [v0_] W [] fun W' v => ∃ u0, v = u0 ∧ Ow W' k0 [] [u0] r :=
 (c114 (h0.view _) hm).ad (fk k0) fun _ _ ⟨u0, e, f0⟩ => ⟨u0, e, f0.back (fk_LL _)⟩
theorem c71 {x0 v0_0_ v0_1_ r} (h0 : Rd W0 [0] [v0_0_, v0_1_] x0) (hm : Vm.impl_Repo_own x0 = some r) : Q0 71 [.agg [v0_0_, v0_1_].toArray] W0 fun Wf v => ∃ u0_0 u0_1, v = .agg [u0_0, u0_1].toArray ∧ OwS Wf [31] [] [u0_0] r.Commits ∧ OwS Wf [32] [] [u0_1] r.Heads := by
 unfold Vm.impl_Repo_own at hm
 obtain ⟨w0_0, w0_1, he0, h0_0, h0_1⟩ := Repo.split h0
 simp only [List.cons.injEq, and_true, true_and] at he0
 obtain ⟨rfl, rfl⟩ := he0
 refine CallR.of Tryz.func71 rfl rfl rfl rfl (sr (bo 2 rfl fun g1 W1 l1 b1 => ?_))
 have a2 := l1.o
 refine al 3 [.slice none 0 0, .slice none 0 0] fun g3 W3 l3 b3 => ?_
 have a4 := a2.n l3
 refine nl (sr (Lw.t rfl (T.lit0 (α := Head) 4 []) ?_))
 rintro v6 _ ⟨W6, rfl, l6, o6⟩
 have a7 := a4.n l6
 have b8 := (b1.up l3).up l6
 refine fl b8 rfl ?_
 obtain ⟨q10, e11, hm⟩ := ob hm
 refine Lw.t rfl (T.appP (α := Head) o6 (h0_1.ul a7) rfl rfl e11) ?_
 rintro v12 _ ⟨W12, rfl, l12, o12⟩
 have a14 := a7.t l12
 refine Lw.r rfl (R.bd (zs := [.slice none 0 0, .slice none 0 0]) (cs := [.slice none 0 0, v12]) [(1, v12)] rfl rfl rfl (bp_cons o12.oc rfl bp_nil)) (al 5 [.slice none 0 0, .slice none 0 0] fun g17 W17 l17 b17 => ?_)
 have a18 := a14.n l17
 refine sta b17 (oc_cons rfl (oc_cons (o12.up l17).oc oc_nil)) fun W22 l22 b22 => ?_
 have a23 := a18.t l22
 refine nl (ssr (fl (((b8.up l12).up l17).up l22) rfl (Lw.ln x0.Commits (h0_0.ul a23) rfl (mi rfl (nl (Cw.block ?_))))))
 obtain ⟨K38, hK38, hm⟩ := jn_e hm
 refine Cw.loop 14 33 [5, 14] (fun m l w => ∃ y29 y30 y33 j28 v31 v34 W37, CW.w W37 = w ∧ Le [5, 6, 7, 8, 9] W22 W37 ∧ l = [j28, vI y29] ∧ Ow W37 6 [] [v31] y30 ∧ Ow W37 4 [] [v34] y33 ∧ Bx W37 5 g17 [v31, v34] ∧ Vm.impl_Repo_own_l1 x0 K38 m y29 y30 y33 = some r) _ ⟨0, ([] : List Commit), q10, undef, .slice none 0 0, v12, W22, rfl, Le.refl _ _, rfl, owN 6 [], ((o12.up l17).up l22), b22, hm⟩ ?_
 rintro (_ | m39) _ _ σ ⟨y29, y30, y33, j28, v31, v34, W37, rfl, l37, rfl, o32, o35, b36, hm⟩
 ·cases hm
 unfold Vm.impl_Repo_own_l1 at hm
 have a40 := a23.t l37
 refine sr (Lw.lt rfl (nl (Cw.seq (cn hm (fun hm => ?_) fun hm => ?_))))
 ·refine sk (Cw.seq (Cw.block (sr ?_)))
  obtain ⟨u44, e45, hm⟩ := ob hm
  refine Lw.r rfl (R.ix (α := Commit) (h0_0.ul a40) e45 rfl rfl rfl) ?_
  obtain ⟨x47, c48, _, r49⟩ := ((h0_0.ul a40).at_ e45).cells
  obtain ⟨v50, v52, rfl, r51, r53⟩ := Commit.split r49
  refine Lw.r rfl (R.lda c48 rfl rfl) (al 7 [.slice none 0 0, vS ([] : Str), .slice none 0 0] fun g54 W54 l54 b54 => ?_)
  have a55 := l54.o
  refine sta b54 (oc_cons r51.oc (oc_cons rfl (oc_cons r53.oc oc_nil))) fun W61 l61 b61 => ?_
  have a62 := a55.t l61
  refine nl (Cw.draw [6, 8, 9] [(0, 0), (1, 1), (3, 0), (4, 1), (6, 0), (7, 1), (8, 0), (9, 1), (2, 2), (5, 2), (10, 2), (11, 0), (12, 2), (13, 2), (14, 0), (15, 3)] mixed (by kernel_rfl) fun W68 l68 => ?_)
  have a69 := a62.n l68
  have b74 := ((b36.up l54).up l61).up l68
  have b75 := b61.up l68
  refine Dfl b74 rfl rfl rfl (Dfl b75 rfl rfl rfl (Dfl b75 rfl rfl rfl (Dfl b75 rfl rfl rfl (Mw.t rfl rfl (T.lit0 (α := Int) 8 []) ?_))))
  rintro v76 _ ⟨W76, rfl, l76, o76⟩
  have a77 := a69.n l76
  refine m0 l76 fun d76 => ?_
  obtain ⟨q84, e85, hm⟩ := ob hm
  refine Mw.t rfl rfl (T.appP (α := Int) o76 (r51.ul a77) rfl rfl e85) ?_
  rintro v86 _ ⟨W86, rfl, l86, o86⟩
  have a88 := a77.t l86
  refine mc d76 l86 fun d86 => Dc hm d86 (fun _ => p114 (k0 := 9) (r53.ul a88)) rfl ?_
  rintro z96 v0_98 W98 hm l98 ⟨_, rfl, f98_0⟩ d98
  refine Mw.p rfl rfl (fun _ => R.bd (zs := [.slice none 0 0, vS ([] : Str), .slice none 0 0]) (cs := [v86, vS u44.Who, v0_98]) [(0, v86), (1, vS u44.Who), (2, v0_98)] rfl rfl rfl (bp_cons (o86.up l98).oc rfl (bp_cons rfl rfl (bp_cons f98_0.oc rfl bp_nil)))) (Mw.t rfl rfl (T.bs 10 [.agg [v86, vS u44.Who, v0_98].toArray] (cs := [v86, vS u44.Who, v0_98]) rfl rfl (bsA rfl)) ?_)
  rintro _ _ ⟨g107, W107, rfl, rfl, l107, b107⟩
  refine mc d98 l107 fun d107 => ?_
  obtain ⟨q117, e118, hm⟩ := ob hm
  refine Mw.t rfl rfl (T.app1 (α := Commit) (J := [8, 9]) (K' := []) (((((((o32.up l54).up l61).up l68).up l76).up l86).up l98).up l107) b107 (Commit.own q84 u44.Who z96 ((o86.up l98).up l107).s (f98_0.up l107).s) rfl rfl e118) ?_
  rintro v119 _ ⟨W119, rfl, l119, o119⟩
  refine mc d107 l119 fun d119 => Df rfl (Mw.lu rfl (T.st (j := 0) (v := v119) (((((b74.up l76).up l86).up l98).up l107).up l119) rfl rfl o119.oc rfl rfl) ?_)
  rintro _ _ ⟨W127, rfl, l127, b127⟩
  exact Mw.nil (rg (Lw.add rfl (mi rfl (nl ((agm) ⟨w64 (y29 + 1), q117, y33, ptr (bx g54), v119, v34, W127, rfl, (((((((((l37.j l54).j l61).j l68).j l76).j l86).j l98).j l107).j l119).j l127).w, rfl, (o119.up l127), (((((((((o35.up l54).up l61).up l68).up l76).up l86).up l98).up l107).up l119).up l127), b127, hm⟩)))))
 ·refine Cw.exit ?_
  rw [hK38] at hm
  refine sr (la b36 (sta (((((b3.up l6).up l12).up l17).up l22).up l37) (oc_cons o32.oc (oc_cons o35.oc oc_nil)) fun W135 l135 b135 => ?_))
  have a136 := a40.t l135
  refine nl ?_
  obtain ⟨W141, ew141, l141, o141⟩ := (o32.up l135).dyeO 31
  have a142 := a136.t l141
  obtain ⟨W147, ew147, l147, o147⟩ := ((o35.up l135).up l141).dyeO 32
  have a148 := a142.t l147
  cases hm
  rw [← ew147.trans (ew141)]
  exact Cw.ret (retA1 rfl ((b135.up l141).up l147) (Res.mk a148 ⟨v31, v34, rfl, (o141.up l147).s, o147.s⟩))
theorem p71 {x0 v0_0_ v0_1_ k0 k1 r} (h0 : Rd W K [v0_0_, v0_1_] x0) (hm : Vm.impl_Repo_own x0 = some r) : Q1 71 [.agg [v0_0_, v0_1_].toArray] W [] fun W' v => ∃ u0_0 u0_1, v = .agg [u0_0, u0_1].toArray ∧ Ow W' k0 [] [u0_0] r.Commits ∧ Ow W' k1 [] [u0_1] r.Heads :=
 CallR.adJ (J := []) (fun c => bif Nat.beq c 0 then 0 else bif Nat.beq c 31 then k0 else bif Nat.beq c 32 then k1 else 0) (c71 (h0.view _) hm) fun _ _ ⟨u0_0, u0_1, e, f0, f1⟩ => ⟨u0_0, u0_1, e, f0.one1.backN rfl, f1.one1.backN rfl⟩
theorem c157 {x0 v0_ x1 r} (h0 : Rd W0 [0] [v0_] x0) (h1 : Rd W0 [0] [vS x1.Name, vI x1.At] x1) (hm : Vm.impl_insertHead x0 x1 = some r) : Q0 157 [v0_, .agg [vS x1.Name, vI x1.At].toArray] W0 fun Wf v => ∃ u0, v = u0 ∧ OwS Wf LL [] [u0] r := by
 unfold Vm.impl_insertHead at hm
 refine CallR.of Tryz.func157 rfl rfl rfl rfl (sr (bo 2 rfl fun g1 W1 l1 b1 => ?_))
 have a2 := l1.o
 refine Nv (.slice none 0 0) rfl (sr (mv v0_ rfl (Lw.ln x0 (h0.ul a2) rfl (Ni rfl (Cw.seq (Cw.block ?_))))))
 obtain ⟨K6, hK6, hm⟩ := jn_e hm
 refine Cw.loop 8 22 [5] (fun m l w => ∃ y4 W5, CW.w W5 = w ∧ Le [] W1 W5 ∧ l = [vI y4] ∧ Vm.impl_insertHead_l1 x0 x1 K6 m y4 = some r) _ ⟨(x0.length : Int), W1, rfl, Le.refl _ _, rfl, hm⟩ ?_
 rintro (_ | m7) _ _ σ ⟨y4, W5, rfl, l5, rfl, hm⟩
 ·cases hm
 unfold Vm.impl_insertHead_l1 at hm
 have a8 := a2.n l5
 refine Cw.seq ?_
 obtain ⟨K12, hK12, hm⟩ := jn_e hm
 refine Cw.join 8 20 [20] (fun l w => ∃ y10 W11, CW.w W11 = w ∧ Le [] W5 W11 ∧ l = [vB y10] ∧ K12 y10 = some r) ?_ ?_
 ·rintro _ _ σ ⟨y10, W11, rfl, l11, rfl, hm⟩
  rw [hK12] at hm
  have a13 := a8.n l11
  refine cn hm (fun hm => ?_) fun hm => ?_
  ·exact sk (Cw.block (rg (mi rfl (Lw.sub rfl (Ni rfl ((agm) ⟨w64 (y4 - 1), W11, rfl, (l5.j l11).w, rfl, hm⟩))))))
  ·refine Cw.exit ?_
   rw [hK6] at hm
   refine Cw.seq ?_
   obtain ⟨q22, e23, hm⟩ := ob hm
   obtain ⟨z32, e33, hm⟩ := ob hm
   refine Cw.par [[], [], [0, 1], [], [], [4], [0, 1, 2, 3, 4, 5], [0, 1, 2, 3, 4, 5, 6]] [[], [], [0, 1], [], [], [4], [2, 3, 5], [6]] [[], [], [3], [], [], [], [3], []] [[0], [1], [2], [3], [4], [5], [6], [6, 7]] [[3], [], [3], [], [], [4], [5], []] [1, 3, 4, 5, 6, 7] [3] [fun vs W => Ow W 3 [] [(vs 0)] ([] : List Head), fun vs W => (vs 1) = v0_, fun vs W => Ow W 3 [] [(vs 2)] q22, fun vs W => (vs 3) = vI y4, fun vs W => (vs 4) = .agg [vS x1.Name, vI x1.At].toArray, fun vs W => (vs 5) = .slice (some (bx (pg (vs 5)))) 1 1 ∧ Bx W 4 (pg (vs 5)) [vS x1.Name, vI x1.At], fun vs W => Ow W 5 [] [(vs 6)] z32, fun vs W => (vs 7) = (vs 6)] [] mixed (by kernel_rfl) rfl AllF.nil ?_
   intro W38 l38
   have a39 := a13.n l38
   refine ⟨(Steps.cons ?_ (Steps.cons ?_ (Steps.cons ?_ (Steps.cons ?_ (Steps.cons ?_ (Steps.cons ?_ (Steps.cons ?_ (Steps.cons ?_ Steps.nil)))))))), (Sups.cons (fun vs vs' W W' _ hv l hd h => by (show Ow W' 3 [] [(vs' 0)] ([] : List Head)); rw [hv 0 (anyb rfl)]; exact h.upv l (disj_mem hd (c := 3) rfl)) (Sups.cons (fun vs vs' W W' _ hv l hd h => by (show (vs' 1) = v0_); rw [hv 1 (anyb rfl)]; exact h) (Sups.cons (fun vs vs' W W' _ hv l hd h => by (show Ow W' 3 [] [(vs' 2)] q22); rw [hv 2 (anyb rfl)]; exact h.upv l (disj_mem hd (c := 3) rfl)) (Sups.cons (fun vs vs' W W' _ hv l hd h => by (show (vs' 3) = vI y4); rw [hv 3 (anyb rfl)]; exact h) (Sups.cons (fun vs vs' W W' _ hv l hd h => by (show (vs' 4) = .agg [vS x1.Name, vI x1.At].toArray); rw [hv 4 (anyb rfl)]; exact h) (Sups.cons (fun vs vs' W W' _ hv l hd h => by (show (vs' 5) = .slice (some (bx (pg (vs' 5)))) 1 1 ∧ Bx W' 4 (pg (vs' 5)) [vS x1.Name, vI x1.At]); rw [hv 5 (anyb rfl)]; exact ⟨h.1, h.2.up l (disj_mem hd (c := 4) rfl)⟩) (Sups.cons (fun vs vs' W W' _ hv l hd h => by (show Ow W' 5 [] [(vs' 6)] z32); rw [hv 6 (anyb rfl)]; exact h.upv l (disj_mem hd (c := 5) rfl)) (Sups.cons (fun vs vs' W W' _ hv l hd h => by (show (vs' 7) = (vs' 6)); rw [hv 6 (anyb rfl), hv 7 (anyb rfl)]; exact h) Sups.nil)))))))), ?_⟩
   ·intro vs W lW hN
    obtain ⟨W41, hW41⟩ : ∃ X, X = W := ⟨W, rfl⟩
    subst hW41
    refine Tr.mono (T.lit0 (α := Head) 3 []) ?_
    rintro v44 _ ⟨W44, rfl, l44, o44⟩
    exact ⟨W44, rfl, l44, (show Ow W44 3 [] [v44] ([] : List Head) from o44)⟩
   ·intro vs W lW hN
    obtain ⟨W47, hW47⟩ : ∃ X, X = W := ⟨W, rfl⟩
    subst hW47
    refine Tr.mono (Run.tr (R.mv (v := v0_) rfl)) ?_
    rintro _ _ ⟨hu, rfl⟩
    obtain rfl := hu.symm
    exact ⟨W47, rfl, Le.refl _ _, (show (v0_ : Value) = v0_ from rfl)⟩
   ·intro vs W lW hN
    obtain ⟨W50, hW50⟩ : ∃ X, X = W := ⟨W, rfl⟩
    subst hW50
    have a51 := a39.t lW rfl
    obtain ⟨pv0, e0_⟩ : ∃ v, vs 0 = v := ⟨_, rfl⟩
    obtain ⟨vs, rfl⟩ := up_eq e0_
    have o53 : Ow W50 3 [] [pv0] ([] : List Head) := (hN 0 (anyb rfl))
    have e1_ : vs 1 = v0_ := (hN 1 (anyb rfl))
    obtain ⟨vs, rfl⟩ := up_eq e1_
    refine Tr.mono (T.appP (α := Head) o53 (h0.ul a51) rfl rfl e23) ?_
    rintro v54 _ ⟨W54, rfl, l54, o54⟩
    exact ⟨W54, rfl, l54, (show Ow W54 3 [] [v54] q22 from o54)⟩
   ·intro vs W lW hN
    obtain ⟨W58, hW58⟩ : ∃ X, X = W := ⟨W, rfl⟩
    subst hW58
    refine Tr.mono (Run.tr (R.mv (v := vI y4) rfl)) ?_
    rintro _ _ ⟨hu, rfl⟩
    obtain rfl := hu.symm
    exact ⟨W58, rfl, Le.refl _ _, (show (vI y4 : Value) = vI y4 from rfl)⟩
   ·intro vs W lW hN
    obtain ⟨W61, hW61⟩ : ∃ X, X = W := ⟨W, rfl⟩
    subst hW61
    refine Tr.mono (Run.tr (R.lda (cs := [vS x1.Name, vI x1.At]) ((((b1.up l5).up l11).up l38).up lW rfl).cells rfl rfl)) ?_
    rintro _ _ ⟨hu, rfl⟩
    obtain rfl := hu.symm
    exact ⟨W61, rfl, Le.refl _ _, (show (.agg [vS x1.Name, vI x1.At].toArray : Value) = .agg [vS x1.Name, vI x1.At].toArray from rfl)⟩
   ·intro vs W lW hN
    obtain ⟨W64, hW64⟩ : ∃ X, X = W := ⟨W, rfl⟩
    subst hW64
    have e4_ : vs 4 = .agg [vS x1.Name, vI x1.At].toArray := (hN 4 (anyb rfl))
    obtain ⟨vs, rfl⟩ := up_eq e4_
    refine Tr.mono (T.bs 4 [.agg [vS x1.Name, vI x1.At].toArray] (cs := [vS x1.Name, vI x1.At]) rfl rfl (bsA rfl)) ?_
    rintro _ _ ⟨g67, W67, rfl, rfl, l67, b67⟩
    exact ⟨W67, rfl, l67, (show (.slice (some (bx g67)) 1 1 : Value) = .slice (some (bx g67)) 1 1 ∧ Bx W67 4 g67 [vS x1.Name, vI x1.At] from ⟨rfl, b67⟩)⟩
   ·intro vs W lW hN
    obtain ⟨W70, hW70⟩ : ∃ X, X = W := ⟨W, rfl⟩
    subst hW70
    obtain ⟨pv2, e2_⟩ : ∃ v, vs 2 = v := ⟨_, rfl⟩
    obtain ⟨vs, rfl⟩ := up_eq e2_
    have o73 : Ow W70 3 [] [pv2] q22 := (hN 2 (anyb rfl))
    have e3_ : vs 3 = vI y4 := (hN 3 (anyb rfl))
    obtain ⟨vs, rfl⟩ := up_eq e3_
    obtain ⟨pg5, e5_⟩ : ∃ pg5, vs 5 = .slice (some (bx pg5)) 1 1 := ⟨_, ((hN 5 (anyb rfl))).1⟩
    obtain ⟨vs, rfl⟩ := up_eq e5_
    have o74 : Bx W70 4 pg5 [vS x1.Name, vI x1.At] := (hN 5 (anyb rfl)).2
    refine Tr.mono (T.call rfl (p173 (k0 := 5) (c0 := 3) o73 o74 (Head.rd (K := [0]) x1.Name x1.At ) rfl rfl e33)) ?_
    rintro v0_75 _ ⟨W75, rfl, l75, ⟨_, rfl, f75_0⟩⟩
    exact ⟨W75, rfl, l75, (show Ow W75 5 [] [v0_75] z32 from f75_0)⟩
   ·intro vs W lW hN
    obtain ⟨W79, hW79⟩ : ∃ X, X = W := ⟨W, rfl⟩
    subst hW79
    obtain ⟨pv6, e6_⟩ : ∃ v, vs 6 = v := ⟨_, rfl⟩
    obtain ⟨vs, rfl⟩ := up_eq e6_
    have o82 : Ow W79 5 [] [pv6] z32 := (hN 6 (anyb rfl))
    refine Tr.mono (Run.tr (R.as (v := pv6) rfl)) ?_
    rintro _ _ ⟨hu, rfl⟩
    obtain rfl := hu.symm
    exact ⟨W79, rfl, Le.refl _ _, (show (pv6 : Value) = pv6 from rfl)⟩
   ·intro vs W lW hN
    obtain ⟨W83, hW83⟩ : ∃ X, X = W := ⟨W, rfl⟩
    subst hW83
    have a84 := a39.t lW rfl
    obtain ⟨l83, hl83⟩ : ∃ x, x = lW := ⟨lW, rfl⟩
    have e1_ : vs 1 = v0_ := (hN 1 (anyb rfl))
    obtain ⟨vs, rfl⟩ := up_eq e1_
    have e3_ : vs 3 = vI y4 := (hN 3 (anyb rfl))
    obtain ⟨vs, rfl⟩ := up_eq e3_
    have e4_ : vs 4 = .agg [vS x1.Name, vI x1.At].toArray := (hN 4 (anyb rfl))
    obtain ⟨vs, rfl⟩ := up_eq e4_
    obtain ⟨pg5, e5_⟩ : ∃ pg5, vs 5 = .slice (some (bx pg5)) 1 1 := ⟨_, ((hN 5 (anyb rfl))).1⟩
    obtain ⟨vs, rfl⟩ := up_eq e5_
    have o86 : Bx W83 4 pg5 [vS x1.Name, vI x1.At] := (hN 5 (anyb rfl)).2
    obtain ⟨pv6, e6_⟩ : ∃ v, vs 6 = v := ⟨_, rfl⟩
    obtain ⟨vs, rfl⟩ := up_eq e6_
    have o87 : Ow W83 5 [] [pv6] z32 := (hN 6 (anyb rfl))
    have e7_ : vs 7 = pv6 := (hN 7 (anyb rfl))
    obtain ⟨vs, rfl⟩ := up_eq e7_
    cases hm
    exact Cw.ret (ret1 rfl (Res.mk a84 ⟨pv6, rfl, o87.s.sub rfl rfl⟩))
 ·refine Cw.draw [] [(0, 0), (1, 0), (2, 0), (3, 0), (4, 0), (5, 0), (6, 0), (7, 0), (8, 1), (9, 0), (10, 1), (11, 0), (12, 0)] mixed (by kernel_rfl) fun W88 l88 => ?_
  have a89 := a8.n l88
  refine Di rfl (Mw.p rfl rfl (fun _ => R.gt rfl rfl) (Db rfl (bs hm (fun hc91 hm => ?_) fun hc91 hm => ?_)))
  ·refine Wp hc91 rfl (fun _ => R.mv (v := v0_) rfl) (Wp hc91 rfl (fun _ => R.mv (v := vI y4) rfl) (Wp hc91 rfl (fun _ => R.sub rfl rfl) ?_))
   obtain ⟨u92, e93, hm⟩ := ob hm
   exact Wp hc91 rfl (fun _ => R.ix (α := Head) (h0.ul a89) e93 rfl rfl rfl) (Wp hc91 rfl (fun _ => R.fa rfl) (Wq hc91 rfl (fun _ c => R.ld rfl rfl (cl_cell (Head.at0 ((h0.ul a89).at_ e93)).1 rfl (Head.at0 ((h0.ul a89).at_ e93)).str c)) (Wp hc91 rfl (fun _ => R.fa rfl) (Wq hc91 rfl (fun _ c => R.ld (v := vS x1.Name) rfl rfl (((b1.up l5).up l88).clc rfl rfl c)) (Wp hc91 rfl (fun _ => R.sgt rfl rfl) (Mw.p rfl rfl (fun _ => R.pk hc91 rfl (v := vB (!(Op.bytesLess u92.Name x1.Name || u92.Name == x1.Name))) rfl) (Mw.nil ((ag) ⟨(!(Op.bytesLess u92.Name x1.Name || u92.Name == x1.Name)), W88, rfl, l88, rfl, hm⟩))))))))
  ·exact dps 9 hc91 rfl (Mw.p rfl rfl (fun _ => R.pk hc91 rfl (v := vB false) rfl) (Mw.nil ((ag) ⟨false, W88, rfl, l88, rfl, hm⟩)))
theorem p157 {x0 v0_ x1 k0 r} (h0 : Rd W K [v0_] x0) (h1 : Rd W K [vS x1.Name, vI x1.At] x1) (hm : Vm.impl_insertHead x0 x1 = some r) : Q1 157 [v0_, .agg [vS x1.Name, vI x1.At].toArray] W [] fun W' v => ∃ u0, v = u0 ∧ Ow W' k0 [] [u0] r :=
 (c157 (h0.view _) (h1.view _) hm).ad (fk k0) fun _ _ ⟨u0, e, f0⟩ => ⟨u0, e, f0.back (fk_LL _)⟩
theorem c128 {x0 v0_0_ v0_1_ x1 x2 r} (h0_0 : Ow W0 2 [] [v0_0_] x0.Commits) (h0_1 : Ow W0 3 [] [v0_1_] x0.Heads) (hm : Vm.impl_Repo_point x0 x1 x2 = some r) : Q0 128 [.agg [v0_0_, v0_1_].toArray, vS x1, vI x2] W0 fun Wf v => ∃ u0_0 u0_1, v = .agg [u0_0, u0_1].toArray ∧ OwS Wf [31] [] [u0_0] r.Commits ∧ OwS Wf [32] [] [u0_1] r.Heads := by
 unfold Vm.impl_Repo_point at hm
 refine CallR.of Tryz.func128 rfl rfl rfl rfl (sr (bo 4 rfl fun g1 W1 l1 b1 => ?_))
 have a2 := l1.o
 refine al 5 [.slice none 0 0, .slice none 0 0] fun g5 W5 l5 b5 => ?_
 have a6 := a2.n l5
 have o8 := (h0_1.up l1).up l5
 refine nl (ssr (fl (b1.up l5) rfl (Lw.ln x0.Heads o8.rd rfl (mi rfl (nl (Cw.block ?_))))))
 obtain ⟨K22, hK22, hm⟩ := jn_e hm
 refine Cw.loop 11 29 [7, 11] (fun m l w => ∃ y11 y12 y15 y19 j10 v13 v16 W21, CW.w W21 = w ∧ Le [] W5 W21 ∧ l = [j10, vI y11] ∧ Ow W21 6 [] [v13] y12 ∧ Ow W21 7 [] [v16] y15 ∧ Bx W21 5 g5 [v13, v16] ∧ Ow W21 3 [] [v0_1_] y19 ∧ Vm.impl_Repo_point_l1 x0 x1 x2 K22 m y11 y12 y15 y19 = some r) _ ⟨0, ([] : List Commit), ([] : List Head), x0.Heads, undef, .slice none 0 0, .slice none 0 0, W5, rfl, Le.refl _ _, rfl, owN 6 [], owN 7 [], b5, o8, hm⟩ ?_
 rintro (_ | m23) _ _ σ ⟨y11, y12, y15, y19, j10, v13, v16, W21, rfl, l21, rfl, o14, o17, b18, o20, hm⟩
 ·cases hm
 unfold Vm.impl_Repo_point_l1 at hm
 have a24 := a6.n l21
 have o25 := ((h0_0.up l1).up l5).up l21
 have b26 := (b1.up l5).up l21
 refine sr (Lw.lt rfl (nl (Cw.seq (cn hm (fun hm => ?_) fun hm => ?_))))
 ·refine sk (Cw.seq (Cw.block (sr (mi rfl (Ni rfl (sr (fl b26 rfl (mi rfl ?_))))))))
  obtain ⟨u28, e29, hm⟩ := ob hm
  refine Lw.r rfl (R.ix (α := Head) o20.rd e29 rfl rfl rfl) (Lw.fa rfl (Lw.r rfl (R.ld rfl rfl (Head.at0 (o20.rd.at_ e29)).str) (ms rfl (Lw.seq rfl (nl (cn hm (fun hm => ?_) fun hm => ?_))))))
  ·refine sr (fl b26 rfl (mi rfl (mi rfl ?_)))
   obtain ⟨u31, e32, hm⟩ := ob hm
   refine Lw.r rfl (R.ix (α := Head) o20.rd e32 rfl rfl rfl) (Lw.fa rfl ?_)
   obtain ⟨q34, e35, hm⟩ := ob hm
   refine Lw.u (T.stH (α := Head) (β := Int) (J := []) (Ow.hole (α := Head) (β := Int) (jf := 1) o20 e32) (OwS.atm (K := []) (rdI _)) e35 rfl rfl rfl rfl) ?_
   rintro _ _ ⟨W33, rfl, l33, o33⟩
   have a36 := a24.t l33
   refine nl (sr (la (b26.up l33) (sta (b18.up l33) (oc_cons (o25.up l33).oc (oc_cons o33.oc oc_nil)) fun W42 l42 b42 => ?_)))
   have a43 := a36.t l42
   refine nl ?_
   obtain ⟨W49, ew49, l49, o49⟩ := ((o25.up l33).up l42).dyeO 31
   have a50 := a43.t l49
   obtain ⟨W56, ew56, l56, o56⟩ := ((o33.up l42).up l49).dyeO 32
   have a57 := a50.t l56
   cases hm
   rw [← ew56.trans (ew49)]
   exact Cw.ret (retA1 rfl ((b42.up l49).up l56) (Res.mk a57 ⟨v0_0_, v0_1_, rfl, (o49.up l56).s, o56.s⟩))
  ·exact sk (rg (Lw.add rfl (mi rfl (nl ((agm) ⟨w64 (y11 + 1), y12, y15, y19, vI y11, v13, v16, W21, rfl, l21, rfl, o14, o17, b18, o20, hm⟩)))))
 ·refine Cw.exit ?_
  rw [hK22] at hm
  refine sr (fl b26 rfl (ms rfl (mi rfl (Lw.r rfl (R.bd (zs := [vS ([] : Str), vI 0]) (cs := [vS x1, vI x2]) [(0, vS x1), (1, vI x2)] rfl rfl rfl (bp_cons rfl rfl (bp_cons rfl rfl bp_nil))) (cr hm (fun _ => p157 (K := [0, 3]) (k0 := 8) (x1 := (Vm.Head.mk x1 x2)) (o20.rd.sub (M := [0, 3]) rfl) ((Head.rd (K := [0]) x1 x2 ).sub (M := [0, 3]) rfl)) ?_)))))
  rintro z63 v0_65 W65 hm l65 ⟨_, rfl, f65_0⟩
  have a66 := a24.n l65
  refine Lw.fa rfl (Lw.u (T.st (j := 1) (v := v0_65) (b26.up l65) rfl rfl f65_0.oc rfl rfl) ?_)
  rintro _ _ ⟨W73, rfl, l73, b73⟩
  have a74 := a66.t l73
  have o75 := (o25.up l65).up l73
  refine nl (sr (la b73 (sta ((b18.up l65).up l73) (oc_cons o75.oc (oc_cons (f65_0.up l73).oc oc_nil)) fun W81 l81 b81 => ?_)))
  have a82 := a74.t l81
  refine nl ?_
  obtain ⟨W89, ew89, l89, o89⟩ := (o75.up l81).dyeO 31
  have a90 := a82.t l89
  obtain ⟨W97, ew97, l97, o97⟩ := (((f65_0.up l73).up l81).up l89).dyeO 32
  have a98 := a90.t l97
  cases hm
  rw [← ew97.trans (ew89)]
  exact Cw.ret (retA1 rfl ((b81.up l89).up l97) (Res.mk a98 ⟨v0_0_, v0_65, rfl, (o89.up l97).s, o97.s⟩))
theorem p128 {x0 v0_0_ v0_1_ x1 x2 k0 k1 c0 c1 r} (h0_0 : Ow W c0 [] [v0_0_] x0.Commits) (h0_1 : Ow W c1 [] [v0_1_] x0.Heads) (hJ : okJ K [c0, c1] = true) (hm : Vm.impl_Repo_point x0 x1 x2 = some r) : Q1 128 [.agg [v0_0_, v0_1_].toArray, vS x1, vI x2] W [c0, c1] fun W' v => ∃ u0_0 u0_1, v = .agg [u0_0, u0_1].toArray ∧ Ow W' k0 [] [u0_0] r.Commits ∧ Ow W' k1 [] [u0_1] r.Heads :=
 CallR.adJ (J := [c0, c1]) (fun c => bif Nat.beq c 0 then 0 else bif Nat.beq c 2 then c0 else bif Nat.beq c 3 then c1 else bif Nat.beq c 31 then k0 else bif Nat.beq c 32 then k1 else 0) (c128 (h0_0.viewJ 0 hJ) (h0_1.viewJ 1 hJ) hm) fun _ _ ⟨u0_0, u0_1, e, f0, f1⟩ => ⟨u0_0, u0_1, e, f0.one1.backN rfl, f1.one1.backN rfl⟩
end Go.Sx
