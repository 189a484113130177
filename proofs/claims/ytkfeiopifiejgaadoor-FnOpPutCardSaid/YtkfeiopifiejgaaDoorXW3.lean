/- Walks: each function answers as its model, printed by a program of ours. Conditions: the arguments read as they are given. -/
import Derived.Test.YtkfeiopifiejgaaDoorXTs
import Derived.Test.YtkfeiopifiejgaaDoorXM1
import Derived.Test.YtkfeiopifiejgaaDoorXW0
import Derived.Test.YtkfeiopifiejgaaDoorXW1
import Derived.Test.YtkfeiopifiejgaaDoorXW2
namespace Go.Sx
open Go Go.Proofs Go.Vm Rp
set_option linter.unusedVariables false
set_option linter.unusedSimpArgs false

variable {W W0 : CW} {K : List Nat}
theorem c85 {x0 g0_ v0_0_ r} (hB0 : Bx W0 2 g0_ [v0_0_, vI x0.p]) (h0_0 : Rd W0 [0] [v0_0_] x0.b) (hm : Vm.spec_l30AnyOp x0 = some r) : Q0 85 [ptr (bx g0_)] W0 fun Wf v => ∃ u0_6, v = .agg [vI r.1.Kind, vS r.1.Branch, vS r.1.Who, vS r.1.Path, vS r.1.To, vI r.1.At, u0_6].toArray ∧ OwS Wf [31] [] [u0_6] r.1.Text ∧ Bx Wf 2 g0_ [v0_0_, vI r.2] := by
 unfold Vm.spec_l30AnyOp at hm
 refine CallR.of Tryd.func85 rfl rfl rfl rfl (sr (al 3 [vI 0, vS ([] : Str), vS ([] : Str), vS ([] : Str), vS ([] : Str), vI 0, .slice none 0 0] fun g1 W1 l1 b1 => ?_))
 have a2 := l1.o
 have b3 := hB0.up l1
 refine nl (sr (mp rfl (cr hm (fun _ => p93 (k0 := 4) (c0 := 2) (x0 := x0) b3 (h0_0.ul a2) rfl) ?_)))
 rintro z5 _ W7 hm l7 ⟨v0_6_7, rfl, f7_0, f7_1⟩
 have a8 := a2.t l7
 refine al 5 [vI 0, vS ([] : Str), vS ([] : Str), vS ([] : Str), vS ([] : Str), vI 0, .slice none 0 0] fun g10 W10 l10 b10 => ?_
 have a11 := a8.n l10
 refine sta b10 (oc_cons rfl (oc_cons rfl (oc_cons rfl (oc_cons rfl (oc_cons rfl (oc_cons rfl (oc_cons (f7_0.up l10).oc oc_nil))))))) fun W15 l15 b15 => ?_
 have a16 := a11.t l15
 refine nl ?_
 obtain ⟨K33, hK33, hm⟩ := jn_e hm
 refine Cw.join 6 32 [] (fun l w => ∃ y20 y22 y23 y24 y25 y26 y27 y28 v29 W32, CW.w W32 = w ∧ Le [2, 4, 5] W15 W32 ∧ l = [] ∧ Bx W32 2 g0_ [v0_0_, vI y20] ∧ Ow W32 4 [] [v29] y28 ∧ Bx W32 5 g10 [vI y22, vS y23, vS y24, vS y25, vS y26, vI y27, v29] ∧ K33 y20 y22 y23 y24 y25 y26 y27 y28 = some r) ?_ ?_
 ·rintro _ _ σ ⟨y20, y22, y23, y24, y25, y26, y27, y28, v29, W32, rfl, l32, rfl, b21, o30, b31, hm⟩
  rw [hK33] at hm
  have a34 := a16.t l32
  refine sr (la b31 (sta ((((b1.up l7).up l10).up l15).up l32) (oc_cons rfl (oc_cons rfl (oc_cons rfl (oc_cons rfl (oc_cons rfl (oc_cons rfl (oc_cons o30.oc oc_nil))))))) fun W36 l36 b36 => ?_))
  have a37 := a34.t l36
  refine nl ?_
  obtain ⟨W41, ew41, l41, o41⟩ := (o30.up l36).dyeO 31
  have a42 := a37.t l41
  cases hm
  rw [← ew41]
  exact Cw.ret (retA1 rfl (b36.up l41) (Res.mk a42 ⟨v29, rfl, o41.s, ((b21.up l36).up l41)⟩))
 ·refine sr (mp rfl (cr hm (fun _ => p94 (c0 := 2) (x0 := (Vm.l30Rd.mk x0.b z5.2)) ((f7_1.up l10).up l15) (h0_0.ul a16) rfl) ?_))
  rintro z47 _ W49 hm l49 ⟨rfl, f49_0⟩
  have a50 := a16.t l49
  have o51 := ((f7_0.up l10).up l15).up l49
  have b53 := b15.up l49
  refine nl (Cw.block (sr (Lw.eq rfl (Nb rfl (cn hm (fun hm => ?_) fun hm => ?_)))))
  ·refine rg (mp rfl (Lw.t rfl (T.bsS (α := Int) (xs := [0, 8, 1]) 6 [] (W := W49) [vI 0, vI 8, vI 1] (Each.cons ((rdI _)) (Each.cons ((rdI _)) (Each.cons ((rdI _)) Each.nil))) rfl) ?_))
   rintro v55 _ ⟨W55, rfl, l55, o55⟩
   have a56 := a50.n l55
   refine cr hm (fun _ => p120 (K := [0, 6]) (c0 := 2) (x0 := (Vm.l30Rd.mk x0.b z47.2)) (f49_0.up l55) ((h0_0.ul a56).sub (M := [0, 6]) rfl) (o55.rd.sub (M := [0, 6]) rfl) rfl) ?_
   rintro z62 _ W64 hm l64 ⟨rfl, f64_0⟩
   refine Lw.fa rfl (Lw.u (T.st (j := 0) (v := vI z62.1) ((b53.up l55).up l64) rfl rfl rfl rfl rfl) ?_)
   rintro _ _ ⟨W70, rfl, l70, b70⟩
   exact nl ((ag) ⟨z62.2, z62.1, z5.1.Branch, z5.1.Who, z5.1.Path, z5.1.To, z5.1.At, z5.1.Text, v0_6_7, W70, rfl, (((l49.j l55).j l64).j l70).w, rfl, (f64_0.up l70), (((o51.up l55).up l64).up l70), b70, hm⟩)
  ·refine sr (Lw.eq rfl (Nb rfl (cn hm (fun hm => ?_) fun hm => ?_)))
   ·refine rg (mp rfl (Lw.t rfl (T.bsS (α := Str) (xs := [([] : Str), ([77, 97, 105, 110] : Str)]) 7 [] (W := W49) [vS ([] : Str), vS ([77, 97, 105, 110] : Str)] (Each.cons ((rdS _)) (Each.cons ((rdS _)) Each.nil)) rfl) ?_))
    rintro v77 _ ⟨W77, rfl, l77, o77⟩
    have a78 := a50.n l77
    refine cr hm (fun _ => p121 (K := [0, 7]) (c0 := 2) (x0 := (Vm.l30Rd.mk x0.b z47.2)) (f49_0.up l77) ((h0_0.ul a78).sub (M := [0, 7]) rfl) (o77.rd.sub (M := [0, 7]) rfl) rfl) ?_
    rintro z84 _ W86 hm l86 ⟨rfl, f86_0⟩
    refine Lw.fa rfl (Lw.u (T.st (j := 1) (v := vS z84.1) ((b53.up l77).up l86) rfl rfl rfl rfl rfl) ?_)
    rintro _ _ ⟨W92, rfl, l92, b92⟩
    exact nl ((ag) ⟨z84.2, z5.1.Kind, z84.1, z5.1.Who, z5.1.Path, z5.1.To, z5.1.At, z5.1.Text, v0_6_7, W92, rfl, (((l49.j l77).j l86).j l92).w, rfl, (f86_0.up l92), (((o51.up l77).up l86).up l92), b92, hm⟩)
   ·refine sr (Lw.eq rfl (Nb rfl (cn hm (fun hm => ?_) fun hm => ?_)))
    ·refine rg (fl b53 rfl (Lw.t rfl (T.bs 8 [vS ([97, 124, 98] : Str)] (cs := [vS ([97, 124, 98] : Str)]) rfl rfl (bsv rfl)) ?_))
     rintro _ _ ⟨g99, W99, rfl, rfl, l99, b99⟩
     obtain ⟨q105, e106, hm⟩ := ob hm
     refine Lw.t rfl (T.app1S (α := Str) (K' := []) (o51.up l99) b99 (rdS _) rfl rfl e106) ?_
     rintro v107 _ ⟨W107, rfl, l107, o107⟩
     refine Lw.fa rfl (Lw.u (T.st (j := 6) (v := v107) ((b53.up l99).up l107) rfl rfl o107.oc rfl rfl) ?_)
     rintro _ _ ⟨W113, rfl, l113, b113⟩
     exact nl ((ag) ⟨z47.2, z5.1.Kind, z5.1.Branch, z5.1.Who, z5.1.Path, z5.1.To, z5.1.At, q105, v107, W113, rfl, (((l49.j l99).j l107).j l113).w, rfl, (((f49_0.up l99).up l107).up l113), (o107.up l113), b113, hm⟩)
    ·refine sr (Lw.eq rfl (Nb rfl (cn hm (fun hm => ?_) fun hm => ?_)))
     ·refine rg (mp rfl (Lw.t rfl (T.bsS (α := Int) (xs := [(-1), 16]) 9 [] (W := W49) [vI (-1), vI 16] (Each.cons ((rdI _)) (Each.cons ((rdI _)) Each.nil)) rfl) ?_))
      rintro v120 _ ⟨W120, rfl, l120, o120⟩
      have a121 := a50.n l120
      refine cr hm (fun _ => p120 (K := [0, 9]) (c0 := 2) (x0 := (Vm.l30Rd.mk x0.b z47.2)) (f49_0.up l120) ((h0_0.ul a121).sub (M := [0, 9]) rfl) (o120.rd.sub (M := [0, 9]) rfl) rfl) ?_
      rintro z127 _ W129 hm l129 ⟨rfl, f129_0⟩
      refine Lw.fa rfl (Lw.u (T.st (j := 5) (v := vI z127.1) ((b53.up l120).up l129) rfl rfl rfl rfl rfl) ?_)
      rintro _ _ ⟨W135, rfl, l135, b135⟩
      exact nl ((ag) ⟨z127.2, z5.1.Kind, z5.1.Branch, z5.1.Who, z5.1.Path, z5.1.To, z127.1, z5.1.Text, v0_6_7, W135, rfl, (((l49.j l120).j l129).j l135).w, rfl, (f129_0.up l135), (((o51.up l120).up l129).up l135), b135, hm⟩)
     ·exact sk ((ag) ⟨z47.2, z5.1.Kind, z5.1.Branch, z5.1.Who, z5.1.Path, z5.1.To, z5.1.At, z5.1.Text, v0_6_7, W49, rfl, l49.w, rfl, f49_0, o51, b53, hm⟩)

theorem p85 {x0 g0_ v0_0_ k0 c0 r} (hB0 : Bx W c0 g0_ [v0_0_, vI x0.p]) (h0_0 : Rd W K [v0_0_] x0.b) (hJ : okJ K [c0] = true) (hm : Vm.spec_l30AnyOp x0 = some r) : Q1 85 [ptr (bx g0_)] W [c0] fun W' v => ∃ u0_6, v = .agg [vI r.1.Kind, vS r.1.Branch, vS r.1.Who, vS r.1.Path, vS r.1.To, vI r.1.At, u0_6].toArray ∧ Ow W' k0 [] [u0_6] r.1.Text ∧ Bx W' c0 g0_ [v0_0_, vI r.2] :=
 CallR.adJ (J := [c0]) (fun c => bif Nat.beq c 0 then 0 else bif Nat.beq c 2 then c0 else bif Nat.beq c 31 then k0 else 0) (c85 (hB0.viewJ 0 hJ) (h0_0.view _) hm) fun _ _ ⟨u0_6, e, f0, f1⟩ => ⟨u0_6, e, f0.one1.backN rfl, Bx.backJ 0 f1 rfl⟩

theorem c33 {x0 v0_ r} (h0 : Rd W0 [0] [v0_] x0) (hm : Vm.spec_DrawOpPut x0 = some r) : Q0 33 [v0_] W0 fun Wf v => ∃ u0_6, v = .agg [vI r.Kind, vS r.Branch, vS r.Who, vS r.Path, vS r.To, vI r.At, u0_6].toArray ∧ OwS Wf LL [] [u0_6] r.Text := by
 unfold Vm.spec_DrawOpPut at hm
 refine CallR.of Tryd.func33 rfl rfl rfl rfl (sr (al 2 [vI 0, vS ([] : Str), vS ([] : Str), vS ([] : Str), vS ([] : Str), vI 0, .slice none 0 0] fun g1 W1 l1 b1 => ?_))
 have a2 := l1.o
 refine nl (sr (mv v0_ rfl (cr hm (fun _ => p86 (k0 := 3) (h0.ul a2)) ?_)))
 rintro z4 _ W6 hm l6 ⟨g0_6, v0_0_6, rfl, f6_0, f6_1⟩
 have s7 := f6_1.sub (M := [0]) rfl
 have a8 := a2.n l6
 refine cr hm (fun _ => p85 (k0 := 4) (c0 := 3) (x0 := z4) f6_0 s7 rfl) ?_
 rintro z10 _ W12 hm l12 ⟨v0_6_12, rfl, f12_0, f12_1⟩
 have a13 := a8.t l12
 refine sta ((b1.up l6).up l12) (oc_cons rfl (oc_cons rfl (oc_cons rfl (oc_cons rfl (oc_cons rfl (oc_cons rfl (oc_cons f12_0.oc oc_nil))))))) fun W15 l15 b15 => ?_
 have a16 := a13.t l15
 refine nl ?_
 cases hm
 exact Cw.ret (retA1 rfl b15 (Res.mk a16 ⟨v0_6_12, rfl, (f12_0.up l15).s.sub rfl rfl⟩))

theorem p33 {x0 v0_ k0 r} (h0 : Rd W K [v0_] x0) (hm : Vm.spec_DrawOpPut x0 = some r) : Q1 33 [v0_] W [] fun W' v => ∃ u0_6, v = .agg [vI r.Kind, vS r.Branch, vS r.Who, vS r.Path, vS r.To, vI r.At, u0_6].toArray ∧ Ow W' k0 [] [u0_6] r.Text :=
 (c33 (h0.view _) hm).ad (fk k0) fun _ _ ⟨u0_6, e, f0⟩ => ⟨u0_6, e, f0.back (fk_LL _)⟩

theorem c37 {x0 v0_6_ r} (h0 : Rd W0 [0] [vI x0.Kind, vS x0.Branch, vS x0.Who, vS x0.Path, vS x0.To, vI x0.At, v0_6_] x0) (hm : Vm.spec_OpOk x0 = some r) : Q0 37 [.agg [vI x0.Kind, vS x0.Branch, vS x0.Who, vS x0.Path, vS x0.To, vI x0.At, v0_6_].toArray] W0 fun Wf v => v = vB r := by
 unfold Vm.spec_OpOk at hm
 obtain ⟨w0_0, he0, h0_6⟩ := Op.split h0
 simp only [List.cons.injEq, and_true, true_and] at he0
 obtain rfl := he0
 refine CallR.of Tryd.func37 rfl rfl rfl rfl (sr (bo 2 rfl fun g1 W1 l1 b1 => ?_))
 have a2 := l1.o
 refine Nb rfl (sr (la b1 (ca hm (fun _ => p75 (Op.rd (K := [0]) x0.Kind x0.Branch x0.Who x0.Path x0.To x0.At x0.Text (h0_6.ul a2))) fun z4 W6 hm l6 => ?_)))
 have a7 := a2.n l6
 exact Nb rfl (.ret (rt hm a7))

theorem p37 {x0 v0_6_ r} (h0 : Rd W K [vI x0.Kind, vS x0.Branch, vS x0.Who, vS x0.Path, vS x0.To, vI x0.At, v0_6_] x0) (hm : Vm.spec_OpOk x0 = some r) : Q1 37 [.agg [vI x0.Kind, vS x0.Branch, vS x0.Who, vS x0.Path, vS x0.To, vI x0.At, v0_6_].toArray] W [] fun W' v => v = vB r :=
 (c37 (h0.view _) hm).ad (fk 0) fun _ _ e => e

theorem c6 {x0 v0_ r} (h0 : Rd W0 [0] [v0_] x0) (h99 : Gk 2 0 1 W0 [0]) (hm : Vm.laws_FnOpPut x0 = some r) : Q0 6 [v0_] W0 fun Wf v => v = vB r := by
 unfold Vm.laws_FnOpPut at hm
 refine CallR.of Tryd.func6 rfl rfl rfl rfl (sr (Nb rfl (ssr (mv v0_ rfl (Lw.ln x0 h0 rfl (Lw.gt rfl (nl (cn hm (fun hm => ?_) fun hm => ?_))))))))
 ·exact sr (Nb rfl (.ret (rt hm (Le.refl _ _))))
 ·refine sk (sr (mv v0_ rfl (cr hm (fun _ => p33 (k0 := 2) h0) ?_)))
  rintro z2 _ W4 hm l4 ⟨v0_6_4, rfl, f4_0⟩
  have a5 := l4.o
  refine al 3 [vI 0, vS ([] : Str), vS ([] : Str), vS ([] : Str), vS ([] : Str), vI 0, .slice none 0 0] fun g6 W6 l6 b6 => ?_
  have a7 := a5.n l6
  refine sta b6 (oc_cons rfl (oc_cons rfl (oc_cons rfl (oc_cons rfl (oc_cons rfl (oc_cons rfl (oc_cons (f4_0.up l6).oc oc_nil))))))) fun W9 l9 b9 => ?_
  have a10 := a7.t l9
  have o11 := (f4_0.up l6).up l9
  refine nl (sr (la b9 (ca hm (fun _ => p34 (K := [0, 2]) (x0 := (Vm.Op.mk z2.Kind z2.Branch z2.Who z2.Path z2.To z2.At z2.Text)) ((Op.rd (K := [2]) z2.Kind z2.Branch z2.Who z2.Path z2.To z2.At z2.Text o11.rd).sub (M := [0, 2]) rfl) ((h99.ul a10).sub (M := [0, 2]) rfl)) fun z13 W15 hm l15 => ?_)))
  have a16 := a10.n l15
  refine Ns rfl (Cw.seq ?_)
  obtain ⟨K21, hK21, hm⟩ := jn_e hm
  refine Cw.join 14 28 [28] (fun l w => ∃ y19 W20, CW.w W20 = w ∧ Le [] W15 W20 ∧ l = [vB y19] ∧ K21 y19 = some r) ?_ ?_
  ·rintro _ _ σ ⟨y19, W20, rfl, l20, rfl, hm⟩
   rw [hK21] at hm
   have a22 := a16.n l20
   have o23 := (o11.up l15).up l20
   have b24 := (b9.up l15).up l20
   refine cn hm (fun hm => ?_) fun hm => ?_
   ·obtain ⟨K28, hK28, hm⟩ := jn_e hm
    refine Cw.join 29 44 [2] (fun l w => ∃ y26 W27, CW.w W27 = w ∧ Le [] W20 W27 ∧ l = [vB y26] ∧ K28 y26 = some r) ?_ ?_
    ·rintro _ _ σ ⟨y26, W27, rfl, l27, rfl, hm⟩
     rw [hK28] at hm
     have a29 := a22.n l27
     exact .ret (rt hm a29)
    ·refine Cw.draw [] [(0, 0), (1, 1), (2, 2), (3, 0), (4, 0), (5, 1), (7, 1), (6, 2), (8, 2), (9, 0), (10, 0), (11, 0), (12, 1), (13, 2), (14, 0), (15, 0), (16, 0)] mixed (by kernel_rfl) fun W32 l32 => ?_
     have a33 := a22.n l32
     have b35 := b24.up l32
     refine Ds rfl (Mw.q rfl rfl (fun _ c => R.lda (cs := [vI z2.Kind, vS z2.Branch, vS z2.Who, vS z2.Path, vS z2.To, vI z2.At, v0_6_4]) (b35.clcs rfl c) rfl rfl) ?_)
     obtain ⟨z36, e37, hm⟩ := ob hm
     refine Mw.t rfl rfl (T.call rfl (p35 (K := [2])  (x0 := (Vm.Op.mk z2.Kind z2.Branch z2.Who z2.Path z2.To z2.At z2.Text)) (Op.rd (K := [2]) z2.Kind z2.Branch z2.Who z2.Path z2.To z2.At z2.Text (o23.up l32).rd) e37)) ?_
     rintro _ _ ⟨W38, rfl, l38, rfl⟩
     have a39 := a33.n l38
     have o40 := (o23.up l32).up l38
     refine m0 l38 fun d38 => Mw.p rfl rfl (fun _ => R.seq rfl rfl) (Db rfl (bs hm (fun hc42 hm => ?_) fun hc42 hm => ?_))
     ·refine Wq hc42 rfl (fun _ c => R.lda (cs := [vI z2.Kind, vS z2.Branch, vS z2.Who, vS z2.Path, vS z2.To, vI z2.At, v0_6_4]) (b35.clcs rfl c) rfl rfl) (Wq hc42 rfl (fun _ c => R.lda (cs := [vI z2.Kind, vS z2.Branch, vS z2.Who, vS z2.Path, vS z2.To, vI z2.At, v0_6_4]) (b35.clcs rfl c) rfl rfl) ?_)
      obtain ⟨z44, e45, hm⟩ := ob hm
      refine Wt hc42 rfl (T.call rfl (p36 (K := [0, 2])  (x0 := (Vm.Op.mk z2.Kind z2.Branch z2.Who z2.Path z2.To z2.At z2.Text)) ((Op.rd (K := [2]) z2.Kind z2.Branch z2.Who z2.Path z2.To z2.At z2.Text o40.rd).sub (M := [0, 2]) rfl) ((h99.ul a39).sub (M := [0, 2]) rfl) e45)) ?_
      rintro _ _ ⟨W46, rfl, l46, rfl⟩
      have a47 := a39.n l46
      refine mc d38 l46 fun d46 => ?_
      obtain ⟨z50, e51, hm⟩ := ob hm
      refine Wt hc42 rfl (T.call rfl (p37 (K := [2])  (x0 := (Vm.Op.mk z2.Kind z2.Branch z2.Who z2.Path z2.To z2.At z2.Text)) (Op.rd (K := [2]) z2.Kind z2.Branch z2.Who z2.Path z2.To z2.At z2.Text (o40.up l46).rd) e51)) ?_
      rintro _ _ ⟨W52, rfl, l52, rfl⟩
      have a53 := a47.n l52
      refine mc d46 l52 fun d52 => Wp hc42 rfl (fun _ => R.beq rfl rfl) (Mw.p rfl rfl (fun _ => R.pk hc42 rfl (v := vB (z44 == z50)) rfl) (Db rfl (bs hm (fun hc56 hm => ?_) fun hc56 hm => ?_)))
      ·refine Wq hc56 rfl (fun _ c => R.lda (cs := [vI z2.Kind, vS z2.Branch, vS z2.Who, vS z2.Path, vS z2.To, vI z2.At, v0_6_4]) (b35.clcs rfl c) rfl rfl) ?_
       obtain ⟨z58, e59, hm⟩ := ob hm
       refine Wt hc56 rfl (T.call rfl (p36 (K := [0, 2])  (x0 := (Vm.Op.mk z2.Kind z2.Branch z2.Who z2.Path z2.To z2.At z2.Text)) ((Op.rd (K := [2]) z2.Kind z2.Branch z2.Who z2.Path z2.To z2.At z2.Text ((o40.up l46).up l52).rd).sub (M := [0, 2]) rfl) ((h99.ul a53).sub (M := [0, 2]) rfl) e59)) ?_
       rintro _ _ ⟨W60, rfl, l60, rfl⟩
       exact mc d52 l60 fun d60 => Wp hc56 rfl (fun _ => R.not rfl) (Mw.p rfl rfl (fun _ => R.pk hc56 rfl (v := vB (!z58)) rfl) (Hb rfl (Mw.nil ((ag) ⟨(!z58), W60, rfl, ((((l32.j l38).j l46).j l52).j l60).w, rfl, hm⟩))))
      ·exact dps 3 hc56 rfl (Mw.p rfl rfl (fun _ => R.pk hc56 rfl (v := vB false) rfl) (Hb rfl (Mw.nil ((ag) ⟨false, W52, rfl, (((l32.j l38).j l46).j l52).w, rfl, hm⟩))))
     ·exact dps 5 hc42 rfl (Mw.p rfl rfl (fun _ => R.pk hc42 rfl (v := vB false) rfl) (Db rfl (dps 3 rfl rfl (Mw.p rfl rfl (fun _ => R.pk rfl rfl (v := vB false) rfl) (Hb rfl (Mw.nil ((ag) ⟨false, W38, rfl, (l32.j l38).w, rfl, hm⟩)))))))
   ·refine sk (sr (ms rfl (cr hm (fun _ => p29 (h99.ul a22)) ?_)))
    rintro z65 _ W67 hm l67 ⟨v0_6_67, rfl, f67_0⟩
    have s68 := f67_0.sub (M := [0]) rfl
    have a69 := a22.n l67
    refine mv (.tuple [.agg [vI z65.1.Kind, vS z65.1.Branch, vS z65.1.Who, vS z65.1.Path, vS z65.1.To, vI z65.1.At, v0_6_67].toArray, vB z65.2].toArray) rfl (Lw.r rfl (R.ext (vs := [.agg [vI z65.1.Kind, vS z65.1.Branch, vS z65.1.Who, vS z65.1.Path, vS z65.1.To, vI z65.1.At, v0_6_67].toArray, vB z65.2]) (v := .agg [vI z65.1.Kind, vS z65.1.Branch, vS z65.1.Who, vS z65.1.Path, vS z65.1.To, vI z65.1.At, v0_6_67].toArray) rfl rfl) (Lw.r rfl (R.ext (vs := [.agg [vI z65.1.Kind, vS z65.1.Branch, vS z65.1.Who, vS z65.1.Path, vS z65.1.To, vI z65.1.At, v0_6_67].toArray, vB z65.2]) (v := vB z65.2) rfl rfl) (al 4 [vI 0, vS ([] : Str), vS ([] : Str), vS ([] : Str), vS ([] : Str), vI 0, .slice none 0 0] fun g72 W72 l72 b72 => ?_)))
    have a73 := l72.o
    refine sta b72 (oc_cons rfl (oc_cons rfl (oc_cons rfl (oc_cons rfl (oc_cons rfl (oc_cons rfl (oc_cons s68.oc oc_nil))))))) fun W76 l76 b76 => ?_
    have a77 := l76.s
    refine Nb rfl ?_
    obtain ⟨K82, hK82, hm⟩ := jn_e hm
    refine Cw.join 50 55 [2] (fun l w => ∃ y80 W81, CW.w W81 = w ∧ Le [] W76 W81 ∧ l = [vB y80] ∧ K82 y80 = some r) ?_ ?_
    ·rintro _ _ σ ⟨y80, W81, rfl, l81, rfl, hm⟩
     rw [hK82] at hm
     have a83 := ((a69.trans a73).trans a77).n l81
     exact .ret (rt hm a83)
    ·refine rg (mb rfl (mb rfl (bs hm (fun hc87 hm => ?_) fun hc87 hm => ?_)))
     ·exact wak 3 hc87 (la b76 (la (((b24.up l67).up l72).up l76) (ca hm (fun _ => p38 (K := [0, 2]) (x1 := (Vm.Op.mk z2.Kind z2.Branch z2.Who z2.Path z2.To z2.At z2.Text)) ((Op.rd (K := [0]) z65.1.Kind z65.1.Branch z65.1.Who z65.1.Path z65.1.To z65.1.At z65.1.Text (s68.ul (a73.trans a77))).sub (M := [0, 2]) rfl) ((Op.rd (K := [2]) z2.Kind z2.Branch z2.Who z2.Path z2.To z2.At z2.Text (((o23.up l67).up l72).up l76).rd).sub (M := [0, 2]) rfl)) fun z89 W91 hm l91 => Pb hc87 rfl (Nb rfl ((ag) ⟨z89, W91, rfl, l91, rfl, hm⟩)))))
     ·exact psk 3 hc87 rfl (Pb hc87 rfl (Nb rfl ((ag) ⟨false, W76, rfl, Le.refl _ _, rfl, hm⟩)))
  ·refine Cw.draw [] [(0, 0), (1, 1), (2, 2), (3, 0), (4, 0), (5, 1), (7, 1), (6, 2), (8, 2), (9, 0), (10, 0), (11, 0), (12, 0), (13, 0), (14, 0)] mixed (by kernel_rfl) fun W96 l96 => ?_
   have a97 := a16.n l96
   have o98 := (o11.up l15).up l96
   have b99 := (b9.up l15).up l96
   refine Ds rfl (Mw.q rfl rfl (fun _ c => R.lda (cs := [vI z2.Kind, vS z2.Branch, vS z2.Who, vS z2.Path, vS z2.To, vI z2.At, v0_6_4]) (b99.clcs rfl c) rfl rfl) ?_)
   obtain ⟨z100, e101, hm⟩ := ob hm
   refine Mw.t rfl rfl (T.call rfl (p35 (K := [2])  (x0 := (Vm.Op.mk z2.Kind z2.Branch z2.Who z2.Path z2.To z2.At z2.Text)) (Op.rd (K := [2]) z2.Kind z2.Branch z2.Who z2.Path z2.To z2.At z2.Text o98.rd) e101)) ?_
   rintro _ _ ⟨W102, rfl, l102, rfl⟩
   have a103 := a97.n l102
   refine m0 l102 fun d102 => Mw.p rfl rfl (fun _ => R.sne rfl rfl) (Db rfl (bs hm (fun hc106 hm => ?_) fun hc106 hm => ?_))
   ·exact dps 5 hc106 rfl (Mw.p rfl rfl (fun _ => R.pk hc106 rfl (v := vB true) rfl) (Db rfl (dps 2 rfl rfl (Mw.p rfl rfl (fun _ => R.pk rfl rfl (v := vB true) rfl) (Mw.nil ((ag) ⟨true, W102, rfl, (l96.j l102).w, rfl, hm⟩))))))
   ·refine Wq hc106 rfl (fun _ c => R.lda (cs := [vI z2.Kind, vS z2.Branch, vS z2.Who, vS z2.Path, vS z2.To, vI z2.At, v0_6_4]) (b99.clcs rfl c) rfl rfl) (Wq hc106 rfl (fun _ c => R.lda (cs := [vI z2.Kind, vS z2.Branch, vS z2.Who, vS z2.Path, vS z2.To, vI z2.At, v0_6_4]) (b99.clcs rfl c) rfl rfl) ?_)
    obtain ⟨z108, e109, hm⟩ := ob hm
    refine Wt hc106 rfl (T.call rfl (p36 (K := [0, 2])  (x0 := (Vm.Op.mk z2.Kind z2.Branch z2.Who z2.Path z2.To z2.At z2.Text)) ((Op.rd (K := [2]) z2.Kind z2.Branch z2.Who z2.Path z2.To z2.At z2.Text (o98.up l102).rd).sub (M := [0, 2]) rfl) ((h99.ul a103).sub (M := [0, 2]) rfl) e109)) ?_
    rintro _ _ ⟨W110, rfl, l110, rfl⟩
    refine mc d102 l110 fun d110 => ?_
    obtain ⟨z114, e115, hm⟩ := ob hm
    refine Wt hc106 rfl (T.call rfl (p37 (K := [2])  (x0 := (Vm.Op.mk z2.Kind z2.Branch z2.Who z2.Path z2.To z2.At z2.Text)) (Op.rd (K := [2]) z2.Kind z2.Branch z2.Who z2.Path z2.To z2.At z2.Text ((o98.up l102).up l110).rd) e115)) ?_
    rintro _ _ ⟨W116, rfl, l116, rfl⟩
    refine mc d110 l116 fun d116 => Wp hc106 rfl (fun _ => R.bne rfl rfl) (Mw.p rfl rfl (fun _ => R.pk hc106 rfl (v := vB (z108 != z114)) rfl) (Db rfl (bs hm (fun hc120 hm => ?_) fun hc120 hm => ?_)))
    ·exact dps 2 hc120 rfl (Mw.p rfl rfl (fun _ => R.pk hc120 rfl (v := vB true) rfl) (Mw.nil ((ag) ⟨true, W116, rfl, (((l96.j l102).j l110).j l116).w, rfl, hm⟩)))
    ·exact Wp hc120 rfl (fun _ => R.mv (v := vS z13) rfl) (Wp hc120 rfl (fun _ => R.seq rfl rfl) (Mw.p rfl rfl (fun _ => R.pk hc120 rfl (v := vB (z13 == ([] : Str))) rfl) (Mw.nil ((ag) ⟨(z13 == ([] : Str)), W116, rfl, (((l96.j l102).j l110).j l116).w, rfl, hm⟩))))

theorem p6 {x0 v0_ r} (h0 : Rd W K [v0_] x0) (h99 : Gk 2 0 1 W K) (hm : Vm.laws_FnOpPut x0 = some r) : Q1 6 [v0_] W [] fun W' v => v = vB r :=
 (c6 (h0.view _) (h99.view _) hm).ad (fk 0) fun _ _ e => e

end Go.Sx
