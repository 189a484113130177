/- Walks: each function answers as its model, printed by a program of ours. Conditions: the arguments read as they are given. -/
import Derived.Test.YtkfeiopifiejgaaDoorXTs
import Derived.Test.YtkfeiopifiejgaaDoorXM2
import Derived.Test.YtkfeiopifiejgaaDoorXW0
import Derived.Test.YtkfeiopifiejgaaDoorXW1
import Derived.Test.YtkfeiopifiejgaaDoorXW2
namespace Go.Sx
open Go Go.Proofs Go.Vm Rp
set_option linter.unusedVariables false
set_option linter.unusedSimpArgs false

variable {W W0 : CW} {K : List Nat}
theorem c95 {x0 g0_ v0_0_ x1 r} (hB0 : Bx W0 2 g0_ [v0_0_, vI x0.p]) (h0_0 : Rd W0 [0] [v0_0_] x0.b) (hm : Vm.spec_l30Bent x0 x1 = some r) : Q0 95 [ptr (bx g0_), vS x1] W0 fun Wf v => v = vS r.1 ∧ Bx Wf 2 g0_ [v0_0_, vI r.2] := by
 unfold Vm.spec_l30Bent at hm
 refine CallR.of Tryd.func95 rfl rfl rfl rfl (sr (Ns rfl (sr (mp rfl (ms rfl (Lw.r rfl (R.lenS rfl) (Lw.add rfl (cr hm (fun _ => p94 (c0 := 2) (x0 := x0) hB0 h0_0 rfl) ?_))))))))
 rintro z1 _ W3 hm l3 ⟨rfl, f3_0⟩
 have a4 := l3.s
 refine Ni rfl ?_
 obtain ⟨K9, hK9, hm⟩ := jn_e hm
 refine Cw.join 11 42 [4] (fun l w => ∃ y5 y6 W8, CW.w W8 = w ∧ Le [2] W3 W8 ∧ l = [vS y5] ∧ Bx W8 2 g0_ [v0_0_, vI y6] ∧ K9 y5 y6 = some r) ?_ ?_
 ·rintro _ _ σ ⟨y5, y6, W8, rfl, l8, rfl, b7, hm⟩
  rw [hK9] at hm
  have a10 := a4.t l8
  refine sr (ms rfl (Ns rfl ?_))
  cases hm
  exact Cw.ret (ret1 rfl (Res.mk a10 ⟨rfl, b7⟩))
 ·refine sr (mp rfl (cr hm (fun _ => p94 (c0 := 2) (x0 := (Vm.l30Rd.mk x0.b z1.2)) f3_0 (h0_0.ul a4) rfl) ?_))
  rintro z12 _ W14 hm l14 ⟨rfl, f14_0⟩
  have a15 := a4.t l14
  refine nl (Cw.block (sr (Lw.eq rfl (Nb rfl (cn hm (fun hm => ?_) fun hm => ?_)))))
  ·refine sr (mi rfl (ms rfl (Lw.r rfl (R.lenS rfl) (Lw.lt rfl (nl (cn hm (fun hm => ?_) fun hm => ?_))))))
   ·refine Cw.seq (Cw.draw [] [(0, 0), (1, 0), (2, 0), (3, 0), (7, 0), (8, 0), (9, 0), (10, 0), (4, 3), (5, 3), (6, 0), (11, 0), (12, 0)] mixed (by kernel_rfl) fun W18 l18 => ?_)
    have a19 := a15.n l18
    refine Ds rfl (Di rfl ?_)
    obtain ⟨q21, e22, hm⟩ := ob hm
    refine Mw.p rfl rfl (fun _ => R.ss e22 rfl (.inl ⟨rfl, rfl⟩) (.inr rfl)) (Dp rfl (Ds rfl (Di rfl (Mw.p rfl rfl (fun _ => R.add rfl rfl) ?_))))
    obtain ⟨q23, e24, hm⟩ := ob hm
    refine Mw.p rfl rfl (fun _ => R.ss e24 rfl (.inr rfl) (.inl ⟨rfl, rfl⟩)) (Mw.l rfl rfl (T.bsS (α := Str) (xs := [([48] : Str), ([49] : Str), ([32] : Str), ([45] : Str), ([43] : Str), ([10] : Str), ([64] : Str), ([124] : Str), ([120] : Str)]) 3 [] (W := W18) [vS ([48] : Str), vS ([49] : Str), vS ([32] : Str), vS ([45] : Str), vS ([43] : Str), vS ([10] : Str), vS ([64] : Str), vS ([124] : Str), vS ([120] : Str)] (Each.cons ((rdS _)) (Each.cons ((rdS _)) (Each.cons ((rdS _)) (Each.cons ((rdS _)) (Each.cons ((rdS _)) (Each.cons ((rdS _)) (Each.cons ((rdS _)) (Each.cons ((rdS _)) (Each.cons ((rdS _)) Each.nil))))))))) rfl) ?_)
    rintro v25 _ ⟨W25, rfl, l25, o25⟩
    have a26 := a19.n l25
    obtain ⟨z29, e30, hm⟩ := ob hm
    refine Mw.l rfl rfl (T.call rfl (p121 (K := [0, 3])  (c0 := 2) (x0 := (Vm.l30Rd.mk x0.b z12.2)) ((f14_0.up l18).up l25) ((h0_0.ul a26).sub (M := [0, 3]) rfl) (o25.rd.sub (M := [0, 3]) rfl) rfl e30)) ?_
    rintro _ _ ⟨W31, rfl, l31, ⟨rfl, f31_0⟩⟩
    have a32 := a26.t l31
    obtain ⟨q34, e35, hm⟩ := ob hm
    refine Mw.p rfl rfl (fun _ => R.sad e35 rfl rfl) ?_
    obtain ⟨q36, e37, hm⟩ := ob hm
    refine Mw.p rfl rfl (fun _ => R.sad e37 rfl rfl) (Hs rfl (Mw.nil ?_))
    cases hm
    exact Cw.ret (ret1 rfl (Res.mk a32 ⟨rfl, f31_0⟩))
   ·exact sk ((ag) ⟨([] : Str), z12.2, W14, rfl, l14, rfl, f14_0, hm⟩)
  ·refine sr (Lw.eq rfl (Nb rfl (cn hm (fun hm => ?_) fun hm => ?_)))
   ·refine sr (ms rfl (mi rfl ?_))
    obtain ⟨q39, e40, hm⟩ := ob hm
    refine Lw.r rfl (R.ss e40 rfl (.inl ⟨rfl, rfl⟩) (.inr rfl)) (Ns rfl ?_)
    cases hm
    exact Cw.ret (ret1 rfl (Res.mk a15 ⟨rfl, f14_0⟩))
   ·refine sr (Lw.eq rfl (Nb rfl (cn hm (fun hm => ?_) fun hm => ?_)))
    ·refine sr (ms rfl (mp rfl (Lw.t rfl (T.bsS (α := Str) (xs := [([48] : Str), ([32] : Str), ([10] : Str), ([124] : Str), ([43, 120, 10] : Str)]) 4 [] (W := W14) [vS ([48] : Str), vS ([32] : Str), vS ([10] : Str), vS ([124] : Str), vS ([43, 120, 10] : Str)] (Each.cons ((rdS _)) (Each.cons ((rdS _)) (Each.cons ((rdS _)) (Each.cons ((rdS _)) (Each.cons ((rdS _)) Each.nil))))) rfl) ?_)))
     rintro v42 _ ⟨W42, rfl, l42, o42⟩
     have a43 := a15.n l42
     refine cr hm (fun _ => p121 (K := [0, 4]) (c0 := 2) (x0 := (Vm.l30Rd.mk x0.b z12.2)) (f14_0.up l42) ((h0_0.ul a43).sub (M := [0, 4]) rfl) (o42.rd.sub (M := [0, 4]) rfl) rfl) ?_
     rintro z46 _ W48 hm l48 ⟨rfl, f48_0⟩
     have a49 := a43.t l48
     obtain ⟨q51, e52, hm⟩ := ob hm
     refine Lw.r rfl (R.sad e52 rfl rfl) (Ns rfl ?_)
     cases hm
     exact Cw.ret (ret1 rfl (Res.mk a49 ⟨rfl, f48_0⟩))
    ·exact sk ((ag) ⟨([] : Str), z12.2, W14, rfl, l14, rfl, f14_0, hm⟩)

theorem p95 {x0 g0_ v0_0_ x1 c0 r} (hB0 : Bx W c0 g0_ [v0_0_, vI x0.p]) (h0_0 : Rd W K [v0_0_] x0.b) (hJ : okJ K [c0] = true) (hm : Vm.spec_l30Bent x0 x1 = some r) : Q1 95 [ptr (bx g0_), vS x1] W [c0] fun W' v => v = vS r.1 ∧ Bx W' c0 g0_ [v0_0_, vI r.2] :=
 CallR.adJ (J := [c0]) (fun c => bif Nat.beq c 0 then 0 else bif Nat.beq c 2 then c0 else 0) (c95 (hB0.viewJ 0 hJ) (h0_0.view _) hm) fun _ _ ⟨e, f0⟩ => ⟨e, Bx.backJ 0 f0 rfl⟩

theorem c39 {x0 v0_ r} (h0 : Rd W0 [0] [v0_] x0) (hm : Vm.spec_DrawOpGet x0 = some r) : Q0 39 [v0_] W0 fun Wf v => v = vS r := by
 unfold Vm.spec_DrawOpGet at hm
 refine CallR.of Tryd.func39 rfl rfl rfl rfl (sr (Ns rfl (sr (mv v0_ rfl (cr hm (fun _ => p86 (k0 := 2) h0) ?_)))))
 rintro z1 _ W3 hm l3 ⟨g0_3, v0_0_3, rfl, f3_0, f3_1⟩
 have s4 := f3_1.sub (M := [0]) rfl
 have a5 := l3.o
 refine Np rfl (sr (mp rfl (cr hm (fun _ => p93 (k0 := 3) (c0 := 2) (x0 := z1) f3_0 s4 rfl) ?_)))
 rintro z6 _ W8 hm l8 ⟨v0_6_8, rfl, f8_0, f8_1⟩
 have a9 := l8.s
 refine ca hm (fun _ => p35 (K := [3]) (x0 := (Vm.Op.mk z6.1.Kind z6.1.Branch z6.1.Who z6.1.Path z6.1.To z6.1.At z6.1.Text)) (Op.rd (K := [3]) z6.1.Kind z6.1.Branch z6.1.Who z6.1.Path z6.1.To z6.1.At z6.1.Text f8_0.rd)) fun z10 W12 hm l12 => ?_
 have a13 := l12.o
 refine Ns rfl (ssr (mp rfl (cr hm (fun _ => p94 (c0 := 2) (x0 := (Vm.l30Rd.mk z1.b z6.2)) (f8_1.up l12) (s4.ul (a9.trans a13)) rfl) ?_)))
 rintro z17 _ W19 hm l19 ⟨rfl, f19_0⟩
 have a20 := l19.s
 refine Lw.eq rfl (nl (cn hm (fun hm => ?_) fun hm => ?_))
 ·exact sr (ms rfl (Ns rfl (.ret (rt hm (((a5.trans a9).trans a13).trans a20)))))
 ·refine sk (sr (mp rfl (ms rfl (cr hm (fun _ => p95 (c0 := 2) (x0 := (Vm.l30Rd.mk z1.b z17.2)) f19_0 (s4.ul ((a9.trans a13).trans a20)) rfl) ?_))))
  rintro z24 _ W26 hm l26 ⟨rfl, f26_0⟩
  have a27 := (((a5.trans a9).trans a13).trans a20).t l26
  exact Ns rfl (.ret (rt hm a27))

theorem p39 {x0 v0_ r} (h0 : Rd W K [v0_] x0) (hm : Vm.spec_DrawOpGet x0 = some r) : Q1 39 [v0_] W [] fun W' v => v = vS r :=
 (c39 (h0.view _) hm).ad (fk 0) fun _ _ e => e

theorem c74 {x0 r} (hm : Vm.spec_l1Num x0 = some r) : Q0 74 [vS x0] W0 fun Wf v => v = vI r := by
 unfold Vm.spec_l1Num at hm
 refine CallR.of Tryd.func74 rfl rfl rfl rfl (sr (Ni rfl (sr (Ni rfl (ssr (Ni rfl (Cw.block ?_)))))))
 obtain ⟨K5, hK5, hm⟩ := jn_e hm
 refine Cw.loop 5 32 [2, 3, 4] (fun m l w => ∃ y1 y2 y3 W4, CW.w W4 = w ∧ Le [] W0 W4 ∧ l = [vI y1, vI y2, vI y3] ∧ Vm.spec_l1Num_l1 x0 K5 m y1 y2 y3 = some r) _ ⟨0, 0, 0, W0, rfl, Le.refl _ _, rfl, hm⟩ ?_
 rintro (_ | m6) _ _ σ ⟨y1, y2, y3, W4, rfl, l4, rfl, hm⟩
 ·cases hm
 unfold Vm.spec_l1Num_l1 at hm
 have a7 := l4.o
 refine ssr (mi rfl (ms rfl (Lw.r rfl (R.lenS rfl) (Lw.lt rfl (nl (cn hm (fun hm => ?_) fun hm => ?_))))))
 ·refine sk (Cw.seq (Cw.block (Cw.seq ?_)))
  obtain ⟨K11, hK11, hm⟩ := jn_e hm
  refine Cw.join 11 24 [24] (fun l w => ∃ y9 W10, CW.w W10 = w ∧ Le [] W4 W10 ∧ l = [vB y9] ∧ K11 y9 = some r) ?_ ?_
  ·rintro _ _ σ ⟨y9, W10, rfl, l10, rfl, hm⟩
   rw [hK11] at hm
   have a12 := a7.n l10
   refine cn hm (fun hm => ?_) fun hm => ?_
   ·exact sr (Ni rfl (.ret (rt hm a12)))
   ·refine sk (rg (mi rfl (Lw.r rfl (R.mul rfl rfl) (ms rfl (mi rfl ?_)))))
    obtain ⟨u14, e15, hm⟩ := ob hm
    exact Lw.r rfl (R.chm e15 rfl rfl) (Lw.sub rfl (Lw.r rfl (R.cvI rfl rfl) (Lw.add rfl (Ni rfl (rg (mi rfl (Lw.add rfl (Ni rfl ((agm) ⟨y1, w64 ((w64 (y2 * 10)) + (w64 (IntKind.u8.wrap ((UInt8.toNat u14 : Int) - 48)))), w64 (y3 + 1), W10, rfl, (l4.j l10).w, rfl, hm⟩)))))))))
  ·refine rg (ms rfl (mi rfl ?_))
   obtain ⟨u16, e17, hm⟩ := ob hm
   refine Lw.r rfl (R.chm e17 rfl rfl) (Lw.lt rfl (mb rfl (bs hm (fun hc18 hm => ?_) fun hc18 hm => ?_)))
   ·exact psk 4 hc18 rfl (Pb hc18 rfl (mb rfl (psk 2 rfl rfl (Pb rfl rfl (nl ((ag) ⟨true, W4, rfl, Le.refl _ _, rfl, hm⟩))))))
   ·refine wak 4 hc18 (ms rfl (mi rfl ?_))
    obtain ⟨u19, e20, hm⟩ := ob hm
    refine Lw.r rfl (R.chm e20 rfl rfl) (Lw.gt rfl (Pb hc18 rfl (mb rfl (bs hm (fun hc21 hm => ?_) fun hc21 hm => ?_))))
    ·exact psk 2 hc21 rfl (Pb hc21 rfl (nl ((ag) ⟨true, W4, rfl, Le.refl _ _, rfl, hm⟩)))
    ·exact wak 2 hc21 (mi rfl (Lw.ge rfl (Pb hc21 rfl (nl ((ag) ⟨decide ((6 : Int) ≤ (y3 : Int)), W4, rfl, Le.refl _ _, rfl, hm⟩)))))
 ·refine Cw.exit ?_
  rw [hK5] at hm
  refine Cw.seq ?_
  obtain ⟨K24, hK24, hm⟩ := jn_e hm
  refine Cw.join 33 45 [45] (fun l w => ∃ y22 W23, CW.w W23 = w ∧ Le [] W4 W23 ∧ l = [vB y22] ∧ K24 y22 = some r) ?_ ?_
  ·rintro _ _ σ ⟨y22, W23, rfl, l23, rfl, hm⟩
   rw [hK24] at hm
   have a25 := a7.n l23
   refine cn hm (fun hm => ?_) fun hm => ?_
   ·exact sr (Ni rfl (.ret (rt hm a25)))
   ·exact sk (sr (mi rfl (Ni rfl (.ret (rt hm a25)))))
  ·refine rg (ms rfl (Lw.r rfl (R.lenS rfl) (Lw.eq rfl (mb rfl (bs hm (fun hc27 hm => ?_) fun hc27 hm => ?_)))))
   ·exact psk 4 hc27 rfl (puk 3 rfl (psk 1 hc27 rfl (Pb hc27 rfl (nl ((ag) ⟨true, W4, rfl, Le.refl _ _, rfl, hm⟩)))))
   ·refine wak 4 hc27 (ms rfl (Lw.r rfl (R.lenS rfl) (Lw.gt rfl (mb rfl (bs hm (fun hc28 hm => ?_) fun hc28 hm => ?_)))))
    ·refine wak 3 hc28 (ms rfl ?_)
     obtain ⟨u29, e30, hm⟩ := ob hm
     exact Lw.r rfl (R.chm e30 rfl rfl) (Lw.eq rfl (wak 1 hc27 (Pb hc28 rfl (Pb hc27 rfl (nl ((ag) ⟨(((UInt8.toNat u29 : Int) : Int) == (48 : Int)), W4, rfl, Le.refl _ _, rfl, hm⟩))))))
    ·exact psk 3 hc28 rfl (wak 1 hc27 (Pb hc28 rfl (Pb hc27 rfl (nl ((ag) ⟨false, W4, rfl, Le.refl _ _, rfl, hm⟩)))))

theorem p74 {x0 r} (hm : Vm.spec_l1Num x0 = some r) : Q1 74 [vS x0] W [] fun W' v => v = vI r :=
 (c74 (W0 := W.view [] [])  hm).ad (fk 0) fun _ _ e => e

theorem c28 {x0 r} (hm : Vm.spec_OpGet x0 = some r) : Q0 28 [vS x0] W0 fun Wf v => ∃ u0_6, v = .tuple [.agg [vI r.1.Kind, vS r.1.Branch, vS r.1.Who, vS r.1.Path, vS r.1.To, vI r.1.At, u0_6].toArray, vB r.2].toArray ∧ Rd Wf [0] [u0_6] r.1.Text := by
 unfold Vm.spec_OpGet at hm
 refine CallR.of Tryd.func28 rfl rfl rfl rfl (sr (al 2 [vI 0, vS ([] : Str), vS ([] : Str), vS ([] : Str), vS ([] : Str), vI 0, .slice none 0 0] fun g1 W1 l1 b1 => ?_))
 have a2 := l1.o
 refine Nb rfl (sr (ms rfl (cr hm (fun _ => p72 (k0 := 3)) ?_)))
 rintro z3 v0_5 W5 hm l5 ⟨_, rfl, f5_0⟩
 have a6 := a2.n l5
 refine Nv v0_5 rfl (ssr (mv v0_5 rfl (Lw.ln z3 f5_0.rd rfl (Lw.lt rfl (nl (cn hm (fun hm => ?_) fun hm => ?_))))))
 ·refine sr (Lw.r rfl (R.bd (zs := [vI 0, vS ([] : Str), vS ([] : Str), vS ([] : Str), vS ([] : Str), vI 0, .slice none 0 0]) (cs := [vI 0, vS ([] : Str), vS ([] : Str), vS ([] : Str), vS ([] : Str), vI 0, .slice none 0 0]) [] rfl rfl rfl bp_nil) (sta (b1.up l5) (oc_cons rfl (oc_cons rfl (oc_cons rfl (oc_cons rfl (oc_cons rfl (oc_cons rfl (oc_cons rfl oc_nil))))))) fun W9 l9 b9 => ?_))
  have a10 := a6.t l9
  refine Nb rfl ?_
  cases hm
  exact Cw.ret (retA2 rfl b9 rfl (Res.mk a10 ⟨.slice none 0 0, rfl, (rdN (K := [0]))⟩))
 ·refine sk (Cw.seq (Cw.draw [] [(0, 0), (1, 0), (2, 1), (3, 0), (4, 0), (5, 1), (6, 0), (7, 2), (8, 3)] mixed (by kernel_rfl) fun W12 l12 => ?_))
  have a13 := a6.n l12
  have o14 := f5_0.up l12
  refine Dv v0_5 rfl ?_
  obtain ⟨u16, e17, hm⟩ := ob hm
  refine Mw.p rfl rfl (fun _ => R.ix (α := Str) o14.rd e17 rfl rfl rfl) (Mw.q rfl rfl (fun _ c => R.ld rfl rfl (cl_cell (o14.rd.at_ e17).1 rfl (o14.rd.at_ e17).str c)) (Dv v0_5 rfl ?_))
  obtain ⟨u18, e19, hm⟩ := ob hm
  refine Mw.p rfl rfl (fun _ => R.ix (α := Str) o14.rd e19 rfl rfl rfl) (Mw.q rfl rfl (fun _ c => R.ld rfl rfl (cl_cell (o14.rd.at_ e19).1 rfl (o14.rd.at_ e19).str c)) (Mw.p rfl rfl (fun _ => R.bd (zs := [vI 0, vS ([] : Str), vS ([] : Str), vS ([] : Str), vS ([] : Str), vI 0, .slice none 0 0]) (cs := [vI 0, vS u16, vS u18, vS ([] : Str), vS ([] : Str), vI 0, .slice none 0 0]) [(1, vS u16), (2, vS u18)] rfl rfl rfl (bp_cons rfl rfl (bp_cons rfl rfl bp_nil))) (Mw.t rfl rfl (T.alloc 4 (cs := [vI 0, vS ([] : Str), vS ([] : Str), vS ([] : Str), vS ([] : Str), vI 0, .slice none 0 0]) rfl) ?_)))
  rintro _ _ ⟨g20, W20, rfl, rfl, l20, b20⟩
  have a21 := a13.n l20
  refine m0 l20 fun d20 => Mw.lu rfl (T.sta (vs := [vI 0, vS u16, vS u18, vS ([] : Str), vS ([] : Str), vI 0, .slice none 0 0]) b20 rfl rfl (oc_cons rfl (oc_cons rfl (oc_cons rfl (oc_cons rfl (oc_cons rfl (oc_cons rfl (oc_cons rfl oc_nil))))))) rfl rfl) ?_
  rintro _ _ ⟨W24, rfl, l24, b24⟩
  have a25 := a21.t l24
  refine Mw.nil (ssr (Ni rfl (Cw.block ?_)))
  obtain ⟨K40, hK40, hm⟩ := jn_e hm
  refine Cw.loop 21 36 [6] (fun m l w => ∃ y28 y29 y30 y31 y32 y33 y34 y35 v36 W39, CW.w W39 = w ∧ Le [4] W24 W39 ∧ l = [vI y28] ∧ Ow W39 5 [] [v36] y35 ∧ Bx W39 4 g20 [vI y29, vS y30, vS y31, vS y32, vS y33, vI y34, v36] ∧ Vm.spec_OpGet_l1 z3 K40 m y28 y29 y30 y31 y32 y33 y34 y35 = some r) _ ⟨1, 0, u16, u18, ([] : Str), ([] : Str), 0, ([] : List Str), .slice none 0 0, W24, rfl, Le.refl _ _, rfl, owN 5 [], b24, hm⟩ ?_
  rintro (_ | m41) _ _ σ ⟨y28, y29, y30, y31, y32, y33, y34, y35, v36, W39, rfl, l39, rfl, o37, b38, hm⟩
  ·cases hm
  unfold Vm.spec_OpGet_l1 at hm
  have a42 := a25.t l39
  refine ssr (mi rfl (cr hm (fun _ => p73 (k0 := 6)) ?_))
  rintro z45 v0_47 W47 hm l47 ⟨_, rfl, f47_0⟩
  have a48 := a42.n l47
  have o49 := (((o14.up l20).up l24).up l39).up l47
  refine Lw.ln z45 f47_0.rd rfl (Lw.lt rfl (nl (cn hm (fun hm => ?_) fun hm => ?_)))
  ·refine sk ?_
   obtain ⟨K65, hK65, hm⟩ := jn_e hm
   refine Cw.join 27 36 [] (fun l w => ∃ y54 y55 y56 y57 y58 y59 y60 v61 W64, CW.w W64 = w ∧ Le [4] W47 W64 ∧ l = [] ∧ Ow W64 5 [] [v61] y60 ∧ Bx W64 4 g20 [vI y54, vS y55, vS y56, vS y57, vS y58, vI y59, v61] ∧ K65 y54 y55 y56 y57 y58 y59 y60 = some r) ?_ ?_
   ·rintro _ _ σ ⟨y54, y55, y56, y57, y58, y59, y60, v61, W64, rfl, l64, rfl, o62, b63, hm⟩
    rw [hK65] at hm
    exact rg (mi rfl (Lw.add rfl (Ni rfl ((agm) ⟨w64 (y28 + 1), y54, y55, y56, y57, y58, y59, y60, v61, W64, rfl, ((l39.j l47).j l64).w, rfl, o62, b63, hm⟩))))
   ·refine Cw.block (Cw.seq ?_)
    obtain ⟨z77, e78, hm⟩ := ob hm
    obtain ⟨u86, e87, hm⟩ := ob hm
    obtain ⟨u88, e89, hm⟩ := ob hm
    refine Cw.par [[], [], [0, 1], [0, 1, 2], [], [4], [4, 5], [0, 1, 2, 3, 4, 5, 6]] [[], [], [0, 1], [0, 2], [], [4], [5], [3, 6]] [[], [], [], [], [], [], [], []] [[0], [1], [0, 2], [3], [4], [5], [6], [7]] [[7], [], [], [], [], [], [], []] [0, 1, 2, 3, 4, 5, 6, 7] [] [fun vs W => Ow W 7 [] [(vs 0)] z77, fun vs W => (vs 1) = vI y28, fun vs W => (vs 2) = ptr ((slA (vs 0)).add ((y28).toNat * Rp.sz (Str))), fun vs W => (vs 3) = vS u86, fun vs W => (vs 4) = v0_5, fun vs W => (vs 5) = ptr ((slA v0_5).add ((0 : Int).toNat * Rp.sz (Str))), fun vs W => (vs 6) = vS u88, fun vs W => (vs 7) = vB (u86 == u88)] [] mixed (by kernel_rfl) rfl AllF.nil ?_
    intro W90 l90
    refine ⟨(Steps.cons ?_ (Steps.cons ?_ (Steps.cons ?_ (Steps.cons ?_ (Steps.cons ?_ (Steps.cons ?_ (Steps.cons ?_ (Steps.cons ?_ Steps.nil)))))))), (Sups.cons (fun vs vs' W W' _ hv l hd h => by (show Ow W' 7 [] [(vs' 0)] z77); rw [hv 0 (anyb rfl)]; exact h.upv l (disj_mem hd (c := 7) rfl)) (Sups.cons (fun vs vs' W W' _ hv l hd h => by (show (vs' 1) = vI y28); rw [hv 1 (anyb rfl)]; exact h) (Sups.cons (fun vs vs' W W' _ hv l hd h => by (show (vs' 2) = ptr ((slA (vs' 0)).add ((y28).toNat * Rp.sz (Str)))); rw [hv 0 (anyb rfl), hv 2 (anyb rfl)]; exact h) (Sups.cons (fun vs vs' W W' _ hv l hd h => by (show (vs' 3) = vS u86); rw [hv 3 (anyb rfl)]; exact h) (Sups.cons (fun vs vs' W W' _ hv l hd h => by (show (vs' 4) = v0_5); rw [hv 4 (anyb rfl)]; exact h) (Sups.cons (fun vs vs' W W' _ hv l hd h => by (show (vs' 5) = ptr ((slA v0_5).add ((0 : Int).toNat * Rp.sz (Str)))); rw [hv 5 (anyb rfl)]; exact h) (Sups.cons (fun vs vs' W W' _ hv l hd h => by (show (vs' 6) = vS u88); rw [hv 6 (anyb rfl)]; exact h) (Sups.cons (fun vs vs' W W' _ hv l hd h => by (show (vs' 7) = vB (u86 == u88)); rw [hv 7 (anyb rfl)]; exact h) Sups.nil)))))))), ?_⟩
    ·intro vs W lW hN
     obtain ⟨W97, hW97⟩ : ∃ X, X = W := ⟨W, rfl⟩
     subst hW97
     refine Tr.mono (T.call rfl (p73 (k0 := 7)  e78)) ?_
     rintro v0_104 _ ⟨W104, rfl, l104, ⟨_, rfl, f104_0⟩⟩
     exact ⟨W104, rfl, l104, (show Ow W104 7 [] [v0_104] z77 from f104_0)⟩
    ·intro vs W lW hN
     obtain ⟨W111, hW111⟩ : ∃ X, X = W := ⟨W, rfl⟩
     subst hW111
     refine Tr.mono (Run.tr (R.mv (v := vI y28) rfl)) ?_
     rintro _ _ ⟨hu, rfl⟩
     obtain rfl := hu.symm
     exact ⟨W111, rfl, Le.refl _ _, (show (vI y28 : Value) = vI y28 from rfl)⟩
    ·intro vs W lW hN
     obtain ⟨W118, hW118⟩ : ∃ X, X = W := ⟨W, rfl⟩
     subst hW118
     obtain ⟨pv0, e0_⟩ : ∃ v, vs 0 = v := ⟨_, rfl⟩
     obtain ⟨vs, rfl⟩ := up_eq e0_
     have o125 : Ow W118 7 [] [pv0] z77 := (hN 0 (anyb rfl))
     have e1_ : vs 1 = vI y28 := (hN 1 (anyb rfl))
     obtain ⟨vs, rfl⟩ := up_eq e1_
     refine Tr.mono (Run.tr (R.ix (α := Str) o125.rd e87 rfl rfl rfl)) ?_
     rintro _ _ ⟨hu, rfl⟩
     obtain rfl := hu.symm
     exact ⟨W118, rfl, Le.refl _ _, (show (ptr ((slA pv0).add ((y28).toNat * Rp.sz (Str))) : Value) = ptr ((slA pv0).add ((y28).toNat * Rp.sz (Str))) from rfl)⟩
    ·intro vs W lW hN
     obtain ⟨W126, hW126⟩ : ∃ X, X = W := ⟨W, rfl⟩
     subst hW126
     obtain ⟨pv0, e0_⟩ : ∃ v, vs 0 = v := ⟨_, rfl⟩
     obtain ⟨vs, rfl⟩ := up_eq e0_
     have o133 : Ow W126 7 [] [pv0] z77 := (hN 0 (anyb rfl))
     have e2_ : vs 2 = ptr ((slA pv0).add ((y28).toNat * Rp.sz (Str))) := (hN 2 (anyb rfl))
     obtain ⟨vs, rfl⟩ := up_eq e2_
     refine Tr.mono (Run.tr (R.ld rfl rfl (o133.rd.at_ e87).str)) ?_
     rintro _ _ ⟨hu, rfl⟩
     obtain rfl := hu.symm
     exact ⟨W126, rfl, Le.refl _ _, (show (vS u86 : Value) = vS u86 from rfl)⟩
    ·intro vs W lW hN
     obtain ⟨W134, hW134⟩ : ∃ X, X = W := ⟨W, rfl⟩
     subst hW134
     refine Tr.mono (Run.tr (R.mv (v := v0_5) rfl)) ?_
     rintro _ _ ⟨hu, rfl⟩
     obtain rfl := hu.symm
     exact ⟨W134, rfl, Le.refl _ _, (show (v0_5 : Value) = v0_5 from rfl)⟩
    ·intro vs W lW hN
     obtain ⟨W141, hW141⟩ : ∃ X, X = W := ⟨W, rfl⟩
     subst hW141
     have e4_ : vs 4 = v0_5 := (hN 4 (anyb rfl))
     obtain ⟨vs, rfl⟩ := up_eq e4_
     refine Tr.mono (Run.tr (R.ix (α := Str) ((o49.up l90).up lW rfl).rd e89 rfl rfl rfl)) ?_
     rintro _ _ ⟨hu, rfl⟩
     obtain rfl := hu.symm
     exact ⟨W141, rfl, Le.refl _ _, (show (ptr ((slA v0_5).add ((0 : Int).toNat * Rp.sz (Str))) : Value) = ptr ((slA v0_5).add ((0 : Int).toNat * Rp.sz (Str))) from rfl)⟩
    ·intro vs W lW hN
     obtain ⟨W148, hW148⟩ : ∃ X, X = W := ⟨W, rfl⟩
     subst hW148
     have e5_ : vs 5 = ptr ((slA v0_5).add ((0 : Int).toNat * Rp.sz (Str))) := (hN 5 (anyb rfl))
     obtain ⟨vs, rfl⟩ := up_eq e5_
     refine Tr.mono (Run.tr (R.ld rfl rfl (((o49.up l90).up lW rfl).rd.at_ e89).str)) ?_
     rintro _ _ ⟨hu, rfl⟩
     obtain rfl := hu.symm
     exact ⟨W148, rfl, Le.refl _ _, (show (vS u88 : Value) = vS u88 from rfl)⟩
    ·intro vs W lW hN
     obtain ⟨W155, hW155⟩ : ∃ X, X = W := ⟨W, rfl⟩
     subst hW155
     have e3_ : vs 3 = vS u86 := (hN 3 (anyb rfl))
     obtain ⟨vs, rfl⟩ := up_eq e3_
     have e6_ : vs 6 = vS u88 := (hN 6 (anyb rfl))
     obtain ⟨vs, rfl⟩ := up_eq e6_
     refine Tr.mono (Run.tr (R.seq rfl rfl)) ?_
     rintro _ _ ⟨hu, rfl⟩
     obtain rfl := hu.symm
     exact ⟨W155, rfl, Le.refl _ _, (show (vB (u86 == u88) : Value) = vB (u86 == u88) from rfl)⟩
    ·intro vs W lW hN
     obtain ⟨W162, hW162⟩ : ∃ X, X = W := ⟨W, rfl⟩
     subst hW162
     have o165 := ((o37.up l47).up l90).up lW rfl
     have b168 := ((b38.up l47).up l90).up lW rfl
     obtain ⟨l162, hl162⟩ : ∃ x, x = lW := ⟨lW, rfl⟩
     obtain ⟨pv0, e0_⟩ : ∃ v, vs 0 = v := ⟨_, rfl⟩
     obtain ⟨vs, rfl⟩ := up_eq e0_
     have o169 : Ow W162 7 [] [pv0] z77 := (hN 0 (anyb rfl))
     have e1_ : vs 1 = vI y28 := (hN 1 (anyb rfl))
     obtain ⟨vs, rfl⟩ := up_eq e1_
     have e2_ : vs 2 = ptr ((slA pv0).add ((y28).toNat * Rp.sz (Str))) := (hN 2 (anyb rfl))
     obtain ⟨vs, rfl⟩ := up_eq e2_
     have e3_ : vs 3 = vS u86 := (hN 3 (anyb rfl))
     obtain ⟨vs, rfl⟩ := up_eq e3_
     have e4_ : vs 4 = v0_5 := (hN 4 (anyb rfl))
     obtain ⟨vs, rfl⟩ := up_eq e4_
     have e5_ : vs 5 = ptr ((slA v0_5).add ((0 : Int).toNat * Rp.sz (Str))) := (hN 5 (anyb rfl))
     obtain ⟨vs, rfl⟩ := up_eq e5_
     have e6_ : vs 6 = vS u88 := (hN 6 (anyb rfl))
     obtain ⟨vs, rfl⟩ := up_eq e6_
     have e7_ : vs 7 = vB (u86 == u88) := (hN 7 (anyb rfl))
     obtain ⟨vs, rfl⟩ := up_eq e7_
     refine cn hm (fun hm => ?_) fun hm => ?_
     ·refine rg (mi rfl (Lw.fa rfl (Lw.u (T.st (j := 0) (v := vI y28) b168 rfl rfl rfl rfl rfl) ?_)))
      rintro _ _ ⟨W171, rfl, l171, b171⟩
      exact nl ((ag) ⟨y28, y30, y31, y32, y33, y34, y35, v36, W171, rfl, ((l90.j l162).j l171).w, rfl, (o165.up l171), b171, hm⟩)
     ·exact sk ((ag) ⟨y29, y30, y31, y32, y33, y34, y35, v36, W162, rfl, (l90.j l162).w, rfl, o165, b168, hm⟩)
  ·refine Cw.exit ?_
   rw [hK40] at hm
   refine sr (Ns rfl ?_)
   obtain ⟨K180, hK180, hm⟩ := jn_e hm
   refine Cw.join 37 42 [7] (fun l w => ∃ y178 W179, CW.w W179 = w ∧ Le [] W47 W179 ∧ l = [vS y178] ∧ K180 y178 = some r) ?_ ?_
   ·rintro _ _ σ ⟨y178, W179, rfl, l179, rfl, hm⟩
    rw [hK180] at hm
    have a181 := a48.n l179
    obtain ⟨W187, ew187, l187, dj187⟩ := dyeE _ 5
    rw [← ew187]
    have s188 : Rd (α := List Str) W187 [0] [v36] y35 := by rw [dj187]; exact (((o37.up l47).up l179).rd.dye 5).sub (M := [0]) rfl
    have a189 := a181.t l187
    have o190 := (o49.up l179).up l187
    have b193 := ((b38.up l47).up l179).up l187
    obtain ⟨K205, hK205, hm⟩ := jn_e hm
    refine Cw.join 43 80 [] (fun l w => ∃ y194 y195 y196 y197 y198 y199 y200 v201 W204, CW.w W204 = w ∧ Le [4, 8] W187 W204 ∧ l = [] ∧ Rd W204 [0] [v201] y200 ∧ Bx W204 4 g20 [vI y194, vS y195, vS y196, vS y197, vS y198, vI y199, v201] ∧ K205 y194 y195 y196 y197 y198 y199 y200 = some r) ?_ ?_
    ·rintro _ _ σ ⟨y194, y195, y196, y197, y198, y199, y200, v201, W204, rfl, l204, rfl, r202, b203, hm⟩
     rw [hK205] at hm
     have a206 := a189.t l204
     refine Cw.seq ?_
     obtain ⟨K212, hK212, hm⟩ := jn_e hm
     refine Cw.join 81 89 [89] (fun l w => ∃ y210 W211, CW.w W211 = w ∧ Le [] W204 W211 ∧ l = [vB y210] ∧ K212 y210 = some r) ?_ ?_
     ·rintro _ _ σ ⟨y210, W211, rfl, l211, rfl, hm⟩
      rw [hK212] at hm
      have a213 := l211.o
      have b216 := (((((((((b1.up l5).up l12).up l20).up l24).up l39).up l47).up l179).up l187).up l204).up l211
      refine cn hm (fun hm => ?_) fun hm => ?_
      ·refine sr (Lw.r rfl (R.bd (zs := [vI 0, vS ([] : Str), vS ([] : Str), vS ([] : Str), vS ([] : Str), vI 0, .slice none 0 0]) (cs := [vI 0, vS ([] : Str), vS ([] : Str), vS ([] : Str), vS ([] : Str), vI 0, .slice none 0 0]) [] rfl rfl rfl bp_nil) (sta b216 (oc_cons rfl (oc_cons rfl (oc_cons rfl (oc_cons rfl (oc_cons rfl (oc_cons rfl (oc_cons rfl oc_nil))))))) fun W219 l219 b219 => ?_))
       have a220 := (a206.trans a213).t l219
       refine Nb rfl ?_
       cases hm
       exact Cw.ret (retA2 rfl b219 rfl (Res.mk a220 ⟨.slice none 0 0, rfl, (rdN (K := [0]))⟩))
      ·refine sk (sr (la (b203.up l211) (sta b216 (oc_cons rfl (oc_cons rfl (oc_cons rfl (oc_cons rfl (oc_cons rfl (oc_cons rfl (oc_cons r202.oc oc_nil))))))) fun W224 l224 b224 => ?_)))
       have a225 := l224.s
       refine Nb rfl ?_
       cases hm
       exact Cw.ret (retA2 rfl b224 rfl (Res.mk ((a206.trans a213).trans a225) ⟨v201, rfl, (r202.ul (a213.trans a225))⟩))
     ·refine rg (la b203 (ca hm (fun _ => p75 (x0 := (Vm.Op.mk y194 y195 y196 y197 y198 y199 y200)) (Op.rd (K := [0]) y194 y195 y196 y197 y198 y199 y200 r202)) fun z230 W232 hm l232 => ?_))
      have a233 := l232.o
      refine Lw.r rfl (R.not rfl) (mb rfl (bs hm (fun hc238 hm => ?_) fun hc238 hm => ?_))
      ·exact psk 4 hc238 rfl (Pb hc238 rfl (nl ((ag) ⟨true, W232, rfl, l232, rfl, hm⟩)))
      ·exact wak 4 hc238 (la (b203.up l232) (ca hm (fun _ => p76 (x0 := (Vm.Op.mk y194 y195 y196 y197 y198 y199 y200)) (Op.rd (K := [0]) y194 y195 y196 y197 y198 y199 y200 (r202.ul a233))) fun z240 W242 hm l242 => ms rfl (Lw.sne rfl (Pb hc238 rfl (nl ((ag) ⟨(z240 != x0), W242, rfl, (l232.j l242).w, rfl, hm⟩))))))
    ·refine sr (fl b193 rfl (nl (Cw.block (sr (Lw.eq rfl (Nb rfl (cn hm (fun hm => ?_) fun hm => ?_)))))))
     ·refine sr (mv v0_5 rfl ?_)
      obtain ⟨u249, e250, hm⟩ := ob hm
      refine Lw.r rfl (R.ix (α := Str) o190.rd e250 rfl rfl rfl) (Lw.r rfl (R.ld rfl rfl (o190.rd.at_ e250).str) (Lw.fa rfl (Lw.u (T.st (j := 3) (v := vS u249) b193 rfl rfl rfl rfl rfl) ?_)))
      rintro _ _ ⟨W251, rfl, l251, b251⟩
      refine nl (rg (ms rfl (cr hm (fun _ => p72 (k0 := 8)) ?_)))
      rintro z256 v0_258 W258 hm l258 ⟨_, rfl, f258_0⟩
      obtain ⟨q264, e265, hm⟩ := ob hm
      have r267 := f258_0.rd.cutV e265
      refine Lw.r rfl (R.sl f258_0.rd e265 rfl (.inr rfl) (.inl ⟨rfl, rfl⟩)) (Lw.fa rfl (Lw.u (T.st (j := 6) (v := (cutV v0_258 (1 : Int).toNat ((z256.length : Int) : Int).toNat (Rp.sz (Str)))) (b251.up l258) rfl rfl r267.oc rfl rfl) ?_))
      rintro _ _ ⟨W268, rfl, l268, b268⟩
      refine nl ?_
      have s274 := r267.up (l268.sub (M := [4]) rfl) rfl
      obtain ⟨W275, ew275, l275, dj275⟩ := dyeE _ 8
      have s276 : Rd W275 [0] [(cutV v0_258 (1 : Int).toNat ((z256.length : Int) : Int).toNat (Rp.sz (Str)))] q264 := by rw [dj275]; exact (s274.dye 8).sub (M := [0]) rfl
      have s277 : Rd (α := List Str) W275 [0] [v0_258] z256 := by rw [dj275]; exact ((f258_0.up l268).rd.dye 8).sub (M := [0]) rfl
      exact (ag) ⟨y29, y30, y31, u249, y33, y34, q264, (cutV v0_258 (1 : Int).toNat ((z256.length : Int) : Int).toNat (Rp.sz (Str))), W275, ew275, (((l251.j l258).j l268).j l275).w, rfl, s276, (b268.up l275), hm⟩
     ·refine sr (Lw.eq rfl (Nb rfl (cn hm (fun hm => ?_) fun hm => ?_)))
      ·refine rg (mv v0_5 rfl ?_)
       obtain ⟨u284, e285, hm⟩ := ob hm
       refine Lw.r rfl (R.ix (α := Str) o190.rd e285 rfl rfl rfl) (Lw.r rfl (R.ld rfl rfl (o190.rd.at_ e285).str) (Lw.fa rfl (Lw.u (T.st (j := 3) (v := vS u284) b193 rfl rfl rfl rfl rfl) ?_)))
       rintro _ _ ⟨W286, rfl, l286, b286⟩
       have a287 := l286.s
       exact nl ((ag) ⟨y29, y30, y31, u284, y33, y34, y35, v36, W286, rfl, l286.w, rfl, (s188.ul a287), b286, hm⟩)
      ·refine sr (Lw.eq rfl (Nb rfl (cn hm (fun hm => ?_) fun hm => ?_)))
       ·refine sr (mv v0_5 rfl ?_)
        obtain ⟨u293, e294, hm⟩ := ob hm
        refine Lw.r rfl (R.ix (α := Str) o190.rd e294 rfl rfl rfl) (Lw.r rfl (R.ld rfl rfl (o190.rd.at_ e294).str) (Lw.fa rfl (Lw.u (T.st (j := 3) (v := vS u293) b193 rfl rfl rfl rfl rfl) ?_)))
        rintro _ _ ⟨W295, rfl, l295, b295⟩
        have a296 := l295.s
        refine nl (rg (ms rfl (Lw.fa rfl (Lw.u (T.st (j := 4) (v := vS y178) b295 rfl rfl rfl rfl rfl) ?_))))
        rintro _ _ ⟨W300, rfl, l300, b300⟩
        have a301 := a296.t l300
        exact nl ((ag) ⟨y29, y30, y31, u293, y178, y34, y35, v36, W300, rfl, (l295.j l300).w, rfl, (s188.ul a301), b300, hm⟩)
       ·obtain ⟨K308, hK308, hm⟩ := jn_e hm
        refine Cw.join 74 76 [74] (fun l w => ∃ y306 W307, CW.w W307 = w ∧ Le [] W187 W307 ∧ l = [vB y306] ∧ K308 y306 = some r) ?_ ?_
        ·rintro _ _ σ ⟨y306, W307, rfl, l307, rfl, hm⟩
         rw [hK308] at hm
         have a309 := l307.o
         have o310 := o190.up l307
         refine cn hm (fun hm => ?_) fun hm => ?_
         ·refine rg (mv v0_5 rfl ?_)
          obtain ⟨u315, e316, hm⟩ := ob hm
          refine Lw.r rfl (R.ix (α := Str) o310.rd e316 rfl rfl rfl) (Lw.r rfl (R.ld rfl rfl (o310.rd.at_ e316).str) (Lw.fa rfl (Lw.u (T.st (j := 4) (v := vS u315) (b193.up l307) rfl rfl rfl rfl rfl) ?_)))
          rintro _ _ ⟨W317, rfl, l317, b317⟩
          have a318 := a309.t l317
          exact nl ((ag) ⟨y29, y30, y31, y32, u315, y34, y35, v36, W317, rfl, (l307.j l317).w, rfl, (s188.ul a318), b317, hm⟩)
         ·refine rg (mv v0_5 rfl ?_)
          obtain ⟨u323, e324, hm⟩ := ob hm
          refine Lw.r rfl (R.ix (α := Str) o310.rd e324 rfl rfl rfl) (Lw.r rfl (R.ld rfl rfl (o310.rd.at_ e324).str) (ca hm (fun _ => p74) fun z325 W327 hm l327 => ?_))
          have a328 := a309.n l327
          refine Lw.fa rfl (Lw.u (T.st (j := 5) (v := vI z325) ((b193.up l307).up l327) rfl rfl rfl rfl rfl) ?_)
          rintro _ _ ⟨W333, rfl, l333, b333⟩
          have a334 := a328.t l333
          exact nl ((ag) ⟨y29, y30, y31, y32, y33, z325, y35, v36, W333, rfl, ((l307.j l327).j l333).w, rfl, (s188.ul a334), b333, hm⟩)
        ·refine sr (Lw.eq rfl (Nb rfl (cn hm (fun hm => ?_) fun hm => ?_)))
         ·exact sk ((ag) ⟨((y29 : Int) == (4 : Int)), W187, rfl, Le.refl _ _, rfl, hm⟩)
         ·exact rg (Lw.eq rfl (Nb rfl ((ag) ⟨((y29 : Int) == (5 : Int)), W187, rfl, Le.refl _ _, rfl, hm⟩)))
   ·refine sr (mv v0_5 rfl (Lw.ln z3 o49.rd rfl (Lw.eq rfl (nl (cn hm (fun hm => ?_) fun hm => ?_)))))
    ·refine rg (mv v0_5 rfl ?_)
     obtain ⟨u341, e342, hm⟩ := ob hm
     exact Lw.r rfl (R.ix (α := Str) o49.rd e342 rfl rfl rfl) (Lw.r rfl (R.ld rfl rfl (o49.rd.at_ e342).str) (Ns rfl ((ag) ⟨u341, W47, rfl, Le.refl _ _, rfl, hm⟩)))
    ·exact sk ((ag) ⟨([] : Str), W47, rfl, Le.refl _ _, rfl, hm⟩)

theorem p28 {x0 r} (hm : Vm.spec_OpGet x0 = some r) : Q1 28 [vS x0] W [] fun W' v => ∃ u0_6, v = .tuple [.agg [vI r.1.Kind, vS r.1.Branch, vS r.1.Who, vS r.1.Path, vS r.1.To, vI r.1.At, u0_6].toArray, vB r.2].toArray ∧ Rd W' (0 :: K) [u0_6] r.1.Text :=
 (c28 (W0 := W.view K [])  hm).ad (fk 0) fun _ _ ⟨u0_6, e, f0⟩ => ⟨u0_6, e, f0.back rfl⟩

theorem c7 {x0 v0_ r} (h0 : Rd W0 [0] [v0_] x0) (h99 : Gk 2 0 1 W0 [0]) (hm : Vm.laws_FnOpGet x0 = some r) : Q0 7 [v0_] W0 fun Wf v => v = vB r := by
 unfold Vm.laws_FnOpGet at hm
 refine CallR.of Tryd.func7 rfl rfl rfl rfl (sr (Nb rfl (ssr (mv v0_ rfl (Lw.ln x0 h0 rfl (Lw.gt rfl (nl (cn hm (fun hm => ?_) fun hm => ?_))))))))
 ·exact sr (Nb rfl (.ret (rt hm (Le.refl _ _))))
 ·refine sk (sr (mv v0_ rfl (ca hm (fun _ => p39 h0) fun z2 W4 hm l4 => ?_)))
  have a5 := l4.o
  refine Ns rfl (sr (ms rfl (cr hm (fun _ => p29 (h99.ul a5)) ?_)))
  rintro z7 _ W9 hm l9 ⟨v0_6_9, rfl, f9_0⟩
  have s10 := f9_0.sub (M := [0]) rfl
  have a11 := a5.n l9
  refine mv (.tuple [.agg [vI z7.1.Kind, vS z7.1.Branch, vS z7.1.Who, vS z7.1.Path, vS z7.1.To, vI z7.1.At, v0_6_9].toArray, vB z7.2].toArray) rfl (Lw.r rfl (R.ext (vs := [.agg [vI z7.1.Kind, vS z7.1.Branch, vS z7.1.Who, vS z7.1.Path, vS z7.1.To, vI z7.1.At, v0_6_9].toArray, vB z7.2]) (v := .agg [vI z7.1.Kind, vS z7.1.Branch, vS z7.1.Who, vS z7.1.Path, vS z7.1.To, vI z7.1.At, v0_6_9].toArray) rfl rfl) (Lw.r rfl (R.ext (vs := [.agg [vI z7.1.Kind, vS z7.1.Branch, vS z7.1.Who, vS z7.1.Path, vS z7.1.To, vI z7.1.At, v0_6_9].toArray, vB z7.2]) (v := vB z7.2) rfl rfl) (al 2 [vI 0, vS ([] : Str), vS ([] : Str), vS ([] : Str), vS ([] : Str), vI 0, .slice none 0 0] fun g12 W12 l12 b12 => ?_)))
  have a13 := l12.o
  refine sta b12 (oc_cons rfl (oc_cons rfl (oc_cons rfl (oc_cons rfl (oc_cons rfl (oc_cons rfl (oc_cons s10.oc oc_nil))))))) fun W14 l14 b14 => ?_
  have a15 := l14.s
  refine Nb rfl (sr (ms rfl (cr hm (fun _ => p28 (K := [0])) ?_)))
  rintro z16 _ W18 hm l18 ⟨v0_6_18, rfl, f18_0⟩
  have s19 := f18_0.sub (M := [0]) rfl
  have a20 := l18.o
  refine mv (.tuple [.agg [vI z16.1.Kind, vS z16.1.Branch, vS z16.1.Who, vS z16.1.Path, vS z16.1.To, vI z16.1.At, v0_6_18].toArray, vB z16.2].toArray) rfl (Lw.r rfl (R.ext (vs := [.agg [vI z16.1.Kind, vS z16.1.Branch, vS z16.1.Who, vS z16.1.Path, vS z16.1.To, vI z16.1.At, v0_6_18].toArray, vB z16.2]) (v := .agg [vI z16.1.Kind, vS z16.1.Branch, vS z16.1.Who, vS z16.1.Path, vS z16.1.To, vI z16.1.At, v0_6_18].toArray) rfl rfl) (Lw.r rfl (R.ext (vs := [.agg [vI z16.1.Kind, vS z16.1.Branch, vS z16.1.Who, vS z16.1.Path, vS z16.1.To, vI z16.1.At, v0_6_18].toArray, vB z16.2]) (v := vB z16.2) rfl rfl) (al 3 [vI 0, vS ([] : Str), vS ([] : Str), vS ([] : Str), vS ([] : Str), vI 0, .slice none 0 0] fun g22 W22 l22 b22 => ?_)))
  have a23 := l22.o
  refine sta b22 (oc_cons rfl (oc_cons rfl (oc_cons rfl (oc_cons rfl (oc_cons rfl (oc_cons rfl (oc_cons s19.oc oc_nil))))))) fun W25 l25 b25 => ?_
  have a26 := l25.s
  have b27 := ((b14.up l18).up l22).up l25
  refine Nb rfl (Cw.seq ?_)
  obtain ⟨K30, hK30, hm⟩ := jn_e hm
  refine Cw.join 23 35 [35] (fun l w => ∃ y28 W29, CW.w W29 = w ∧ Le [] W25 W29 ∧ l = [vB y28] ∧ K30 y28 = some r) ?_ ?_
  ·rintro _ _ σ ⟨y28, W29, rfl, l29, rfl, hm⟩
   rw [hK30] at hm
   have a31 := l29.o
   refine cn hm (fun hm => ?_) fun hm => ?_
   ·obtain ⟨K37, hK37, hm⟩ := jn_e hm
    refine Cw.join 36 43 [2] (fun l w => ∃ y35 W36, CW.w W36 = w ∧ Le [] W29 W36 ∧ l = [vB y35] ∧ K37 y35 = some r) ?_ ?_
    ·rintro _ _ σ ⟨y35, W36, rfl, l36, rfl, hm⟩
     rw [hK37] at hm
     have a38 := ((((((a11.trans a13).trans a15).trans a20).trans a23).trans a26).trans a31).n l36
     exact .ret (rt hm a38)
    ·refine rg (mb rfl (mb rfl (Lw.r rfl (R.beq rfl rfl) (mb rfl (bs hm (fun hc41 hm => ?_) fun hc41 hm => ?_)))))
     ·exact wak 3 hc41 (la (b27.up l29) (la (b25.up l29) (ca hm (fun _ => p38 (Op.rd (K := [0]) z7.1.Kind z7.1.Branch z7.1.Who z7.1.Path z7.1.To z7.1.At z7.1.Text (s10.ul (((((a13.trans a15).trans a20).trans a23).trans a26).trans a31))) (Op.rd (K := [0]) z16.1.Kind z16.1.Branch z16.1.Who z16.1.Path z16.1.To z16.1.At z16.1.Text (s19.ul ((a23.trans a26).trans a31)))) fun z44 W46 hm l46 => Pb hc41 rfl (Nb rfl ((ag) ⟨z44, W46, rfl, l46, rfl, hm⟩)))))
     ·exact psk 3 hc41 rfl (Pb hc41 rfl (Nb rfl ((ag) ⟨false, W29, rfl, Le.refl _ _, rfl, hm⟩)))
   ·refine sk (sr (la (b27.up l29) (ca hm (fun _ => p34 (Op.rd (K := [0]) z7.1.Kind z7.1.Branch z7.1.Who z7.1.Path z7.1.To z7.1.At z7.1.Text (s10.ul (((((a13.trans a15).trans a20).trans a23).trans a26).trans a31))) (h99.ul ((((((a11.trans a13).trans a15).trans a20).trans a23).trans a26).trans a31))) fun z52 W54 hm l54 => ?_)))
    have a55 := ((((((a11.trans a13).trans a15).trans a20).trans a23).trans a26).trans a31).n l54
    exact ms rfl (Lw.seq rfl (Nb rfl (.ret (rt hm a55))))
  ·refine rg (mb rfl (mb rfl (Lw.r rfl (R.bne rfl rfl) (mb rfl (bs hm (fun hc58 hm => ?_) fun hc58 hm => ?_)))))
   ·exact psk 4 hc58 rfl (Pb hc58 rfl (mb rfl (psk 2 rfl rfl (Pb rfl rfl (nl ((ag) ⟨true, W25, rfl, Le.refl _ _, rfl, hm⟩))))))
   ·refine wak 4 hc58 (la b27 (la b25 (ca hm (fun _ => p38 (Op.rd (K := [0]) z7.1.Kind z7.1.Branch z7.1.Who z7.1.Path z7.1.To z7.1.At z7.1.Text (s10.ul ((((a13.trans a15).trans a20).trans a23).trans a26))) (Op.rd (K := [0]) z16.1.Kind z16.1.Branch z16.1.Who z16.1.Path z16.1.To z16.1.At z16.1.Text (s19.ul (a23.trans a26)))) fun z61 W63 hm l63 => Lw.r rfl (R.not rfl) (Pb hc58 rfl (mb rfl (bs hm (fun hc67 hm => ?_) fun hc67 hm => ?_))))))
    ·exact psk 2 hc67 rfl (Pb hc67 rfl (nl ((ag) ⟨true, W63, rfl, l63, rfl, hm⟩)))
    ·exact wak 2 hc67 (mb rfl (Lw.r rfl (R.not rfl) (Pb hc67 rfl (nl ((ag) ⟨(!z7.2), W63, rfl, l63, rfl, hm⟩)))))

theorem p7 {x0 v0_ r} (h0 : Rd W K [v0_] x0) (h99 : Gk 2 0 1 W K) (hm : Vm.laws_FnOpGet x0 = some r) : Q1 7 [v0_] W [] fun W' v => v = vB r :=
 (c7 (h0.view _) (h99.view _) hm).ad (fk 0) fun _ _ e => e

end Go.Sx
