/- Walks: each function answers as its model, printed by a program of ours. Conditions: the arguments read as they are given. -/
import Derived.Test.YtjdljoplpcakpaaXTs
import Derived.Test.YtjdljoplpcakpaaXMd
import Derived.Test.YtjdljoplpcakpaaXW14
import Derived.Test.YtjdljoplpcakpaaXW15
namespace Go.Sx
open Go Go.Proofs Go.Vm Rp
set_option linter.unusedVariables false
set_option linter.unusedSimpArgs false

theorem c11 {V : CW} {x0 : List Byte} {v0_ : Value} {r : Bool} (h0 : Rd V [0] [v0_] x0) (hm : Vm.laws_FnReviewYes x0 = some r) : CallR Try.prog 11 [v0_].toArray V.w (Res V LL fun Wf v => v = vB r) := by
 unfold Vm.laws_FnReviewYes at hm
 obtain ⟨W0, hW0⟩ : ∃ W, W = V := ⟨V, rfl⟩
 subst hW0
 refine CallR.of Try.func11 rfl rfl rfl rfl (Cw.seq (Cw.region (Lw.g (vB false) rfl (Lw.nil (Cw.seq (Cw.seq (Cw.region (Lw.m v0_ rfl (Lw.ln x0 h0 rfl (Lw.gt rfl (Lw.nil (Cw.cond (b := decide ((1048576 : Int) < ((x0.length : Int) : Int))) rfl (fun hc1 => ?_) (fun hc1 => ?_)))))))))))))
 ·replace hm := bt hm hc1
  refine Cw.seq (Cw.region (Lw.g (vB true) rfl (Lw.nil ?_)))
  cases hm
  exact Cw.ret (ret1 rfl (Res.mk (Le.refl _ _) rfl))
 ·replace hm := bf hm hc1
  refine Cw.skip (Cw.seq (Cw.region (Lw.m v0_ rfl ?_)))
  obtain ⟨z2, e3, hm⟩ := ob hm
  refine Lw.t rfl (T.call rfl (p46 (K := [0]) (k0 := 2) h0 e3)) ?_
  rintro _ _ ⟨W4, rfl, l4, ⟨v0_3_4, rfl, f4_0⟩⟩
  have a5 := l4.o
  refine Lw.m (.tuple [.agg [vS z2.1.Branch, vS z2.1.Into, vS z2.1.By, v0_3_4].toArray, vS z2.2].toArray) rfl (Lw.r rfl (R.ext (vs := [.agg [vS z2.1.Branch, vS z2.1.Into, vS z2.1.By, v0_3_4].toArray, vS z2.2]) (v := .agg [vS z2.1.Branch, vS z2.1.Into, vS z2.1.By, v0_3_4].toArray) rfl rfl) (Lw.r rfl (R.ext (vs := [.agg [vS z2.1.Branch, vS z2.1.Into, vS z2.1.By, v0_3_4].toArray, vS z2.2]) (v := vS z2.2) rfl rfl) (Lw.t rfl (T.alloc 3 (cs := [vS ([] : Str), vS ([] : Str), vS ([] : Str), .slice none 0 0]) rfl) ?_)))
  rintro _ _ ⟨g6, W6, rfl, rfl, l6, b6⟩
  have a7 := a5.n l6
  refine Lw.u (T.sta (vs := [vS z2.1.Branch, vS z2.1.Into, vS z2.1.By, v0_3_4]) b6 rfl rfl (oc_cons rfl (oc_cons rfl (oc_cons rfl (oc_cons (f4_0.up l6 rfl).oc oc_nil)))) rfl rfl) ?_
  rintro _ _ ⟨W9, rfl, l9, b9⟩
  have a10 := a7.t l9 rfl
  have o11 := (f4_0.up l6 rfl).up l9 rfl
  refine Lw.g (vS z2.2) rfl (Lw.nil (Cw.seq (Cw.region (Lw.r rfl (R.lda (cs := [vS z2.1.Branch, vS z2.1.Into, vS z2.1.By, v0_3_4]) b9.cells rfl rfl) (Lw.m (vS z2.2) rfl ?_)))))
  obtain ⟨z12, e13, hm⟩ := ob hm
  refine Lw.t rfl (T.call rfl (p47 (K := [2]) (k0 := 4) (x0 := (Vm.Review.mk z2.1.Branch z2.1.Into z2.1.By z2.1.Yes)) (Review.rd (K := [2]) z2.1.Branch z2.1.Into z2.1.By z2.1.Yes o11.rd) e13)) ?_
  rintro _ _ ⟨W14, rfl, l14, ⟨v0_3_14, rfl, f14_0⟩⟩
  have a15 := a10.n l14
  refine Lw.m (.tuple [.agg [vS z12.1.Branch, vS z12.1.Into, vS z12.1.By, v0_3_14].toArray, vB z12.2].toArray) rfl (Lw.r rfl (R.ext (vs := [.agg [vS z12.1.Branch, vS z12.1.Into, vS z12.1.By, v0_3_14].toArray, vB z12.2]) (v := .agg [vS z12.1.Branch, vS z12.1.Into, vS z12.1.By, v0_3_14].toArray) rfl rfl) (Lw.r rfl (R.ext (vs := [.agg [vS z12.1.Branch, vS z12.1.Into, vS z12.1.By, v0_3_14].toArray, vB z12.2]) (v := vB z12.2) rfl rfl) (Lw.t rfl (T.alloc 5 (cs := [vS ([] : Str), vS ([] : Str), vS ([] : Str), .slice none 0 0]) rfl) ?_)))
  rintro _ _ ⟨g18, W18, rfl, rfl, l18, b18⟩
  have a19 := a15.n l18
  refine Lw.u (T.sta (vs := [vS z12.1.Branch, vS z12.1.Into, vS z12.1.By, v0_3_14]) b18 rfl rfl (oc_cons rfl (oc_cons rfl (oc_cons rfl (oc_cons (f14_0.up l18 rfl).oc oc_nil)))) rfl rfl) ?_
  rintro _ _ ⟨W23, rfl, l23, b23⟩
  have a24 := a19.t l23 rfl
  have o25 := ((o11.up l14 rfl).up l18 rfl).up l23 rfl
  have b27 := ((b9.up l14 rfl).up l18 rfl).up l23 rfl
  refine Lw.g (vB z12.2) rfl (Lw.nil (Cw.seq (Cw.region (Lw.r rfl (R.lda (cs := [vS z2.1.Branch, vS z2.1.Into, vS z2.1.By, v0_3_4]) b27.cells rfl rfl) (Lw.m (vS z2.2) rfl ?_)))))
  obtain ⟨z28, e29, hm⟩ := ob hm
  refine Lw.t rfl (T.call rfl (p48 (K := [2])  (x0 := (Vm.Review.mk z2.1.Branch z2.1.Into z2.1.By z2.1.Yes)) (Review.rd (K := [2]) z2.1.Branch z2.1.Into z2.1.By z2.1.Yes o25.rd) e29)) ?_
  rintro _ _ ⟨W30, rfl, l30, ⟨v0_3_30, rfl, f30_0⟩⟩
  have s31 := f30_0.sub (M := [0, 2]) rfl
  have a32 := a24.n l30
  refine Lw.m (.tuple [.agg [vS z28.1.Branch, vS z28.1.Into, vS z28.1.By, v0_3_30].toArray, vB z28.2].toArray) rfl (Lw.r rfl (R.ext (vs := [.agg [vS z28.1.Branch, vS z28.1.Into, vS z28.1.By, v0_3_30].toArray, vB z28.2]) (v := .agg [vS z28.1.Branch, vS z28.1.Into, vS z28.1.By, v0_3_30].toArray) rfl rfl) (Lw.r rfl (R.ext (vs := [.agg [vS z28.1.Branch, vS z28.1.Into, vS z28.1.By, v0_3_30].toArray, vB z28.2]) (v := vB z28.2) rfl rfl) (Lw.t rfl (T.alloc 6 (cs := [vS ([] : Str), vS ([] : Str), vS ([] : Str), .slice none 0 0]) rfl) ?_)))
  rintro _ _ ⟨g37, W37, rfl, rfl, l37, b37⟩
  have a38 := a32.n l37
  refine Lw.u (T.sta (vs := [vS z28.1.Branch, vS z28.1.Into, vS z28.1.By, v0_3_30]) b37 rfl rfl (oc_cons rfl (oc_cons rfl (oc_cons rfl (oc_cons s31.oc oc_nil)))) rfl rfl) ?_
  rintro _ _ ⟨W43, rfl, l43, b43⟩
  have a44 := a38.t l43 rfl
  have o45 := ((o25.up l30 rfl).up l37 rfl).up l43 rfl
  have o46 := ((((f14_0.up l18 rfl).up l23 rfl).up l30 rfl).up l37 rfl).up l43 rfl
  have b47 := ((b27.up l30 rfl).up l37 rfl).up l43 rfl
  have b48 := ((b23.up l30 rfl).up l37 rfl).up l43 rfl
  refine Lw.g (vB z28.2) rfl (Lw.nil (Cw.seq ?_))
  obtain ⟨K51, hK51, hm⟩ := jn_e hm
  refine Cw.join 32 52 [52] (fun l w => ∃ (y49 : Bool) (W50 : CW), W50.w = w ∧ Le [] W43 W50 ∧ l = [vB y49] ∧ K51 y49 = some r) ?_ ?_
  ·rintro _ _ σ ⟨y49, W50, rfl, l50, rfl, hm⟩
   rw [hK51] at hm
   have a52 := a44.n l50
   have o53 := o45.up l50 rfl
   have o54 := o46.up l50 rfl
   have b55 := b47.up l50 rfl
   have b56 := b48.up l50 rfl
   refine Cw.cond (b := y49) rfl (fun hc58 => ?_) (fun hc58 => ?_)
   ·replace hm := bt hm hc58
    obtain ⟨K61, hK61, hm⟩ := jn_e hm
    refine Cw.join 53 67 [2] (fun l w => ∃ (y59 : Bool) (W60 : CW), W60.w = w ∧ Le [] W50 W60 ∧ l = [vB y59] ∧ K61 y59 = some r) ?_ ?_
    ·rintro _ _ σ ⟨y59, W60, rfl, l60, rfl, hm⟩
     rw [hK61] at hm
     have a62 := a52.n l60
     cases hm
     exact Cw.ret (ret1 rfl (Res.mk a62 rfl))
    ·refine Cw.draw [] [(0, 0), (1, 0), (2, 0), (3, 0), (4, 1), (5, 1), (6, 2), (7, 0), (8, 0), (9, 1), (11, 1), (10, 2), (12, 2), (13, 0), (14, 0), (15, 0)] mixed (by kernel_rfl) fun W68 l68 => (Mw.p rfl rfl (fun _ => R.mv (v := vB z12.2) rfl) (Mw.p rfl rfl (fun _ => R.mv (v := vB z28.2) rfl) (Mw.p rfl rfl (fun _ => R.beq rfl rfl) (Mw.p rfl rfl (fun _ => R.mv (v := vB (z12.2 == z28.2)) rfl) (bsplit (z12.2 == z28.2) (fun hc75 => ?_) (fun hc75 => ?_))))))
     ·replace hm := bt hm hc75
      refine Mw.gq hc75 rfl rfl rfl rfl rfl (fun _ c => R.lda (cs := [vS z12.1.Branch, vS z12.1.Into, vS z12.1.By, v0_3_14]) ((b56.up l68 rfl).clcs rfl c) rfl rfl) (Mw.gq hc75 rfl rfl rfl rfl rfl (fun _ c => R.lda (cs := [vS z28.1.Branch, vS z28.1.Into, vS z28.1.By, v0_3_30]) (((b43.up l50 rfl).up l68 rfl).clcs rfl c) rfl rfl) ?_)
      have s76 := s31.up ((l37.sub (M := [6]) rfl).trans ((l43.sub (M := [6]) rfl).trans ((l50.sub (M := [6]) rfl).trans (l68.sub (M := [6]) rfl)))) rfl
      obtain ⟨z77, e78, hm⟩ := ob hm
      refine Mw.gt hc75 rfl rfl rfl rfl rfl (T.call rfl (p49 (K := [0, 2, 4])  (x0 := (Vm.Review.mk z12.1.Branch z12.1.Into z12.1.By z12.1.Yes)) ((Review.rd (K := [4]) z12.1.Branch z12.1.Into z12.1.By z12.1.Yes (o54.up l68 rfl).rd).sub (M := [0, 2, 4]) rfl) ((Review.rd (K := [0, 2]) z28.1.Branch z28.1.Into z28.1.By z28.1.Yes s76).sub (M := [0, 2, 4]) rfl) e78)) ?_
      rintro _ _ ⟨W79, rfl, l79, rfl⟩
      have o81 := (o53.up l68 rfl).up l79 rfl
      refine ⟨⟨_, rfl, (l79.sub (M := []) rfl)⟩, ?_⟩
      refine Mw.p rfl rfl (fun _ => R.pk hc75 rfl (v := vB z77) rfl) (Mw.p rfl rfl (fun _ => R.mv (v := vB z77) rfl) (bsplit z77 (fun hc86 => ?_) (fun hc86 => ?_)))
      ·replace hm := bt hm hc86
       refine Mw.gq hc86 rfl rfl rfl rfl rfl (fun _ c => R.lda (cs := [vS z2.1.Branch, vS z2.1.Into, vS z2.1.By, v0_3_4]) ((b55.up l68 rfl).clcs rfl c) rfl rfl) (Mw.gq hc86 rfl rfl rfl rfl rfl (fun _ c => R.lda (cs := [vS z2.1.Branch, vS z2.1.Into, vS z2.1.By, v0_3_4]) ((b55.up l68 rfl).clcs rfl c) rfl rfl) ?_)
       obtain ⟨z87, e88, hm⟩ := ob hm
       refine Mw.gt hc86 rfl rfl rfl rfl rfl (T.call rfl (p50 (K := [2])  (x0 := (Vm.Review.mk z2.1.Branch z2.1.Into z2.1.By z2.1.Yes)) (Review.rd (K := [2]) z2.1.Branch z2.1.Into z2.1.By z2.1.Yes o81.rd) e88)) ?_
       rintro _ _ ⟨W89, rfl, l89, rfl⟩
       refine ⟨⟨_, rfl, ((l79.sub (M := []) rfl).trans (l89.sub (M := []) rfl))⟩, ?_⟩
       obtain ⟨z96, e97, hm⟩ := ob hm
       refine Mw.gt hc86 rfl rfl rfl rfl rfl (T.call rfl (p51 (K := [2])  (x0 := (Vm.Review.mk z2.1.Branch z2.1.Into z2.1.By z2.1.Yes)) (Review.rd (K := [2]) z2.1.Branch z2.1.Into z2.1.By z2.1.Yes (o81.up l89 rfl).rd) e97)) ?_
       rintro _ _ ⟨W98, rfl, l98, rfl⟩
       refine ⟨⟨_, rfl, ((l79.sub (M := []) rfl).trans ((l89.sub (M := []) rfl).trans (l98.sub (M := []) rfl)))⟩, ?_⟩
       refine Mw.gp hc86 rfl rfl rfl rfl rfl (fun _ => R.beq rfl rfl) (Mw.p rfl rfl (fun _ => R.pk hc86 rfl (v := vB (z87 == z96)) rfl) (Mw.p rfl rfl (fun _ => R.as (v := vB (z87 == z96)) rfl) (Mw.nil (⟨?_, ⟨(z87 == z96), W98, rfl, (l68.trans (l79.trans (l89.trans l98))), rfl, hm⟩⟩))))
       iterate 16 (refine Agree.up rfl ?_)
       exact Agree.refl _
      ·replace hm := bf hm hc86
       refine Mw.pass' hc86 rfl rfl rfl rfl rfl rfl (Mw.pass' hc86 rfl rfl rfl rfl rfl rfl (Mw.pass' hc86 rfl rfl rfl rfl rfl rfl (Mw.pass' hc86 rfl rfl rfl rfl rfl rfl (Mw.pass' hc86 rfl rfl rfl rfl rfl rfl (Mw.p rfl rfl (fun _ => R.pk hc86 rfl (v := vB false) rfl) (Mw.p rfl rfl (fun _ => R.as (v := vB false) rfl) (Mw.nil (⟨?_, ⟨false, W79, rfl, (l68.trans l79), rfl, hm⟩⟩))))))))
       iterate 16 (refine Agree.up rfl ?_)
       exact Agree.refl _
     ·replace hm := bf hm hc75
      refine Mw.pass' hc75 rfl rfl rfl rfl rfl rfl (Mw.pass' hc75 rfl rfl rfl rfl rfl rfl (Mw.pass' hc75 rfl rfl rfl rfl rfl rfl (Mw.p rfl rfl (fun _ => R.pk hc75 rfl (v := vB false) rfl) (Mw.p rfl rfl (fun _ => R.mv (v := vB false) rfl) (Mw.pass' rfl rfl rfl rfl rfl rfl rfl (Mw.pass' rfl rfl rfl rfl rfl rfl rfl (Mw.pass' rfl rfl rfl rfl rfl rfl rfl (Mw.pass' rfl rfl rfl rfl rfl rfl rfl (Mw.pass' rfl rfl rfl rfl rfl rfl rfl (Mw.p rfl rfl (fun _ => R.pk rfl rfl (v := vB false) rfl) (Mw.p rfl rfl (fun _ => R.as (v := vB false) rfl) (Mw.nil (⟨?_, ⟨false, W68, rfl, l68, rfl, hm⟩⟩)))))))))))))
      iterate 16 (refine Agree.up rfl ?_)
      exact Agree.refl _
   ·replace hm := bf hm hc58
    refine Cw.skip (Cw.seq (Cw.seq (Cw.region (Lw.m (vB z12.2) rfl (Lw.r rfl (R.not rfl) (Lw.nil (Cw.cond (b := (!z12.2)) rfl (fun hc105 => ?_) (fun hc105 => ?_))))))))
    ·replace hm := bt hm hc105
     refine Cw.seq (Cw.region (Lw.r rfl (R.lda (cs := [vS z12.1.Branch, vS z12.1.Into, vS z12.1.By, v0_3_14]) b56.cells rfl rfl) (Lw.r rfl (R.lda (cs := [vS z2.1.Branch, vS z2.1.Into, vS z2.1.By, v0_3_4]) b55.cells rfl rfl) ?_)))
     obtain ⟨z106, e107, hm⟩ := ob hm
     refine Lw.t rfl (T.call rfl (p49 (K := [2, 4])  (x0 := (Vm.Review.mk z12.1.Branch z12.1.Into z12.1.By z12.1.Yes)) (x1 := (Vm.Review.mk z2.1.Branch z2.1.Into z2.1.By z2.1.Yes)) ((Review.rd (K := [4]) z12.1.Branch z12.1.Into z12.1.By z12.1.Yes o54.rd).sub (M := [2, 4]) rfl) ((Review.rd (K := [2]) z2.1.Branch z2.1.Into z2.1.By z2.1.Yes o53.rd).sub (M := [2, 4]) rfl) e107)) ?_
     rintro _ _ ⟨W108, rfl, l108, rfl⟩
     have a109 := a52.n l108
     refine Lw.g (vB z106) rfl (Lw.nil ?_)
     cases hm
     exact Cw.ret (ret1 rfl (Res.mk a109 rfl))
    ·replace hm := bf hm hc105
     refine Cw.skip (Cw.seq (Cw.region (Lw.r rfl (R.lda (cs := [vS z12.1.Branch, vS z12.1.Into, vS z12.1.By, v0_3_14]) b56.cells rfl rfl) (Lw.m (vS z2.2) rfl ?_))))
     obtain ⟨z115, e116, hm⟩ := ob hm
     refine Lw.t rfl (T.call rfl (p47 (K := [4]) (k0 := 7) (x0 := (Vm.Review.mk z12.1.Branch z12.1.Into z12.1.By z12.1.Yes)) (Review.rd (K := [4]) z12.1.Branch z12.1.Into z12.1.By z12.1.Yes o54.rd) e116)) ?_
     rintro _ _ ⟨W117, rfl, l117, ⟨v0_3_117, rfl, f117_0⟩⟩
     have a118 := a52.n l117
     refine Lw.m (.tuple [.agg [vS z115.1.Branch, vS z115.1.Into, vS z115.1.By, v0_3_117].toArray, vB z115.2].toArray) rfl (Lw.r rfl (R.ext (vs := [.agg [vS z115.1.Branch, vS z115.1.Into, vS z115.1.By, v0_3_117].toArray, vB z115.2]) (v := .agg [vS z115.1.Branch, vS z115.1.Into, vS z115.1.By, v0_3_117].toArray) rfl rfl) (Lw.r rfl (R.ext (vs := [.agg [vS z115.1.Branch, vS z115.1.Into, vS z115.1.By, v0_3_117].toArray, vB z115.2]) (v := vB z115.2) rfl rfl) (Lw.t rfl (T.alloc 8 (cs := [vS ([] : Str), vS ([] : Str), vS ([] : Str), .slice none 0 0]) rfl) ?_)))
     rintro _ _ ⟨g124, W124, rfl, rfl, l124, b124⟩
     have a125 := a118.n l124
     refine Lw.u (T.sta (vs := [vS z115.1.Branch, vS z115.1.Into, vS z115.1.By, v0_3_117]) b124 rfl rfl (oc_cons rfl (oc_cons rfl (oc_cons rfl (oc_cons (f117_0.up l124 rfl).oc oc_nil)))) rfl rfl) ?_
     rintro _ _ ⟨W132, rfl, l132, b132⟩
     have a133 := a125.t l132 rfl
     refine Lw.g (vB z115.2) rfl (Lw.nil (Cw.seq (Cw.seq (Cw.region (Lw.g (vI 0) rfl (Lw.nil (Cw.block ?_)))))))
     obtain ⟨K143, hK143, hm⟩ := jn_e hm
     refine Cw.loop 79 94 [2, 11] (fun m l w => ∃ (y140 : Bool) (y141 : Int) (W142 : CW), W142.w = w ∧ Le [] W132 W142 ∧ l = [vB y140, vI y141] ∧ Vm.laws_FnReviewYes_l1 z2 z12 K143 m y140 y141 = some r) (((z2.1.Yes.length : Int) - 0).toNat + 1) ⟨false, 0, W132, rfl, Le.refl _ _, rfl, hm⟩ ?_
     rintro m144 _ _ σ ⟨y140, y141, W142, rfl, l142, rfl, hm⟩
     obtain _ | m144 := m144
     ·cases hm
     unfold Vm.laws_FnReviewYes_l1 at hm
     have a145 := a133.n l142
     have o146 := (((o53.up l117 rfl).up l124 rfl).up l132 rfl).up l142 rfl
     have o147 := (((o54.up l117 rfl).up l124 rfl).up l132 rfl).up l142 rfl
     have b149 := (((b55.up l117 rfl).up l124 rfl).up l132 rfl).up l142 rfl
     have b150 := (((b56.up l117 rfl).up l124 rfl).up l132 rfl).up l142 rfl
     refine Cw.seq (Cw.seq (Cw.region (Lw.m (vI y141) rfl (Lw.fa rfl (Lw.r rfl (R.ld (v := v0_3_4) rfl rfl (b149.cell rfl)) (Lw.ln z2.1.Yes o146.rd rfl (Lw.lt rfl (Lw.nil (Cw.cond (b := decide ((y141 : Int) < ((z2.1.Yes.length : Int) : Int))) rfl (fun hc153 => ?_) (fun hc153 => ?_))))))))))
     ·replace hm := bt hm hc153
      refine Cw.skip (Cw.seq (Cw.block (Cw.seq (Cw.draw [] [(0, 0), (1, 1), (2, 0), (3, 1), (4, 0), (5, 0), (6, 1), (7, 2), (8, 0)] mixed (by kernel_rfl) fun W154 l154 => ?_))))
      have a155 := a145.n l154
      have o156 := o146.up l154 rfl
      refine Mw.p rfl rfl (fun _ => R.fa rfl) (Mw.q rfl rfl (fun _ c => R.ld (v := v0_3_14) rfl rfl ((b150.up l154 rfl).clc rfl rfl c)) (Mw.p rfl rfl (fun _ => R.fa rfl) (Mw.q rfl rfl (fun _ c => R.ld (v := v0_3_4) rfl rfl ((b149.up l154 rfl).clc rfl rfl c)) (Mw.p rfl rfl (fun _ => R.mv (v := vI y141) rfl) ?_))))
      obtain ⟨u163, e164, hm⟩ := ob hm
      refine Mw.p rfl rfl (fun _ => R.ix (α := Str) o156.rd e164 rfl rfl rfl) (Mw.q rfl rfl (fun _ c => R.ld rfl rfl (cl_cell (o156.rd.at_ e164).1 rfl (o156.rd.at_ e164).str c)) ?_)
      obtain ⟨z165, e166, hm⟩ := ob hm
      refine Mw.t rfl rfl (T.call rfl (p52 (K := [4])  (o147.up l154 rfl).rd e166)) ?_
      rintro _ _ ⟨W167, rfl, l167, rfl⟩
      have a168 := a155.n l167
      refine ⟨⟨_, rfl, (l167.sub (M := []) rfl)⟩, ?_⟩
      refine Mw.p rfl rfl (fun _ => R.not rfl) (Mw.nil (Cw.cond (b := (!z165)) rfl (fun hc176 => ?_) (fun hc176 => ?_)))
      ·replace hm := bt hm hc176
       refine Cw.seq (Cw.region (Lw.g (vB false) rfl (Lw.nil ?_)))
       cases hm
       exact Cw.ret (ret1 rfl (Res.mk a168 rfl))
      ·replace hm := bf hm hc176
       refine Cw.skip (Cw.region (Lw.m (vI y141) rfl (Lw.add rfl (Lw.g (vI (w64 (y141 + 1))) rfl (Lw.nil (⟨?_, m144, Nat.lt_succ_self m144, ⟨y140, w64 (y141 + 1), W167, rfl, (l142.trans (l154.trans l167)), rfl, hm⟩⟩))))))
       iterate 17 (refine Agree.up rfl ?_)
       iterate 2 (refine Agree.up rfl ?_)
       exact Agree.base
     ·replace hm := bf hm hc153
      refine Cw.exit ?_
      rw [hK143] at hm
      obtain ⟨K179, hK179, hm⟩ := jn_e hm
      refine Cw.join 95 110 [2] (fun l w => ∃ (y177 : Bool) (W178 : CW), W178.w = w ∧ Le [] W142 W178 ∧ l = [vB y177] ∧ K179 y177 = some r) ?_ ?_
      ·rintro _ _ σ ⟨y177, W178, rfl, l178, rfl, hm⟩
       rw [hK179] at hm
       have a180 := a145.n l178
       cases hm
       exact Cw.ret (ret1 rfl (Res.mk a180 rfl))
      ·refine Cw.region (Lw.r rfl (R.lda (cs := [vS z12.1.Branch, vS z12.1.Into, vS z12.1.By, v0_3_14]) b150.cells rfl rfl) ?_)
       obtain ⟨z188, e189, hm⟩ := ob hm
       refine Lw.t rfl (T.call rfl (p50 (K := [4])  (x0 := (Vm.Review.mk z12.1.Branch z12.1.Into z12.1.By z12.1.Yes)) (Review.rd (K := [4]) z12.1.Branch z12.1.Into z12.1.By z12.1.Yes o147.rd) e189)) ?_
       rintro _ _ ⟨W190, rfl, l190, rfl⟩
       refine Lw.m (vB z188) rfl (bsplit z188 (fun hc199 => ?_) (fun hc199 => ?_))
       ·replace hm := bt hm hc199
        refine Lw.want' hc199 rfl rfl rfl rfl (Lw.fa rfl (Lw.want' hc199 rfl rfl rfl rfl (Lw.r rfl (R.ld (v := v0_3_14) rfl rfl ((b150.up l190 rfl).cell rfl)) (Lw.want' hc199 rfl rfl rfl rfl (Lw.m (vS z2.2) rfl (Lw.want' hc199 rfl rfl rfl rfl ?_))))))
        obtain ⟨z200, e201, hm⟩ := ob hm
        refine Lw.t rfl (T.call rfl (p52 (K := [4])  (o147.up l190 rfl).rd e201)) ?_
        rintro _ _ ⟨W202, rfl, l202, rfl⟩
        refine Lw.p hc199 (vB z200) rfl (Lw.m (vB z200) rfl (bsplit z200 (fun hc211 => ?_) (fun hc211 => ?_)))
        ·replace hm := bt hm hc211
         refine Lw.want' hc211 rfl rfl rfl rfl (Lw.m (vB z115.2) rfl (Lw.p hc211 (vB z115.2) rfl (Lw.m (vB z115.2) rfl (bsplit z115.2 (fun hc212 => ?_) (fun hc212 => ?_)))))
         ·replace hm := bt hm hc212
          refine Lw.want' hc212 rfl rfl rfl rfl (Lw.r rfl (R.lda (cs := [vS z115.1.Branch, vS z115.1.Into, vS z115.1.By, v0_3_117]) (((b132.up l142 rfl).up l190 rfl).up l202 rfl).cells rfl rfl) (Lw.want' hc212 rfl rfl rfl rfl (Lw.r rfl (R.lda (cs := [vS z12.1.Branch, vS z12.1.Into, vS z12.1.By, v0_3_14]) ((b150.up l190 rfl).up l202 rfl).cells rfl rfl) (Lw.want' hc212 rfl rfl rfl rfl ?_))))
          obtain ⟨z213, e214, hm⟩ := ob hm
          refine Lw.t rfl (T.call rfl (p49 (K := [4, 7])  (x0 := (Vm.Review.mk z115.1.Branch z115.1.Into z115.1.By z115.1.Yes)) (x1 := (Vm.Review.mk z12.1.Branch z12.1.Into z12.1.By z12.1.Yes)) ((Review.rd (K := [7]) z115.1.Branch z115.1.Into z115.1.By z115.1.Yes (((((f117_0.up l124 rfl).up l132 rfl).up l142 rfl).up l190 rfl).up l202 rfl).rd).sub (M := [4, 7]) rfl) ((Review.rd (K := [4]) z12.1.Branch z12.1.Into z12.1.By z12.1.Yes ((o147.up l190 rfl).up l202 rfl).rd).sub (M := [4, 7]) rfl) e214)) ?_
          rintro _ _ ⟨W215, rfl, l215, rfl⟩
          refine Lw.p hc212 (vB z213) rfl (Lw.g (vB z213) rfl (Lw.nil (⟨?_, ⟨z213, W215, rfl, (l190.trans (l202.trans l215)), rfl, hm⟩⟩)))
          iterate 17 (refine Agree.up rfl ?_)
          exact Agree.refl _
         ·replace hm := bf hm hc212
          refine Lw.pass' hc212 rfl rfl rfl rfl rfl rfl rfl (Lw.pass' hc212 rfl rfl rfl rfl rfl rfl rfl (Lw.pass' hc212 rfl rfl rfl rfl rfl rfl rfl (Lw.p hc212 (vB false) rfl (Lw.g (vB false) rfl (Lw.nil (⟨?_, ⟨false, W202, rfl, (l190.trans l202), rfl, hm⟩⟩))))))
          iterate 17 (refine Agree.up rfl ?_)
          exact Agree.refl _
        ·replace hm := bf hm hc211
         refine Lw.pass' hc211 rfl rfl rfl rfl rfl rfl rfl (Lw.p hc211 (vB false) rfl (Lw.m (vB false) rfl (Lw.pass' rfl rfl rfl rfl rfl rfl rfl rfl (Lw.pass' rfl rfl rfl rfl rfl rfl rfl rfl (Lw.pass' rfl rfl rfl rfl rfl rfl rfl rfl (Lw.p rfl (vB false) rfl (Lw.g (vB false) rfl (Lw.nil (⟨?_, ⟨false, W202, rfl, (l190.trans l202), rfl, hm⟩⟩)))))))))
         iterate 17 (refine Agree.up rfl ?_)
         exact Agree.refl _
       ·replace hm := bf hm hc199
        refine Lw.pass' hc199 rfl rfl rfl rfl rfl rfl rfl (Lw.pass' hc199 rfl rfl rfl rfl rfl rfl rfl (Lw.pass' hc199 rfl rfl rfl rfl rfl rfl rfl (Lw.pass' hc199 rfl rfl rfl rfl rfl rfl rfl (Lw.p hc199 (vB false) rfl (Lw.m (vB false) rfl (Lw.pass' rfl rfl rfl rfl rfl rfl rfl rfl (Lw.p rfl (vB false) rfl (Lw.m (vB false) rfl (Lw.pass' rfl rfl rfl rfl rfl rfl rfl rfl (Lw.pass' rfl rfl rfl rfl rfl rfl rfl rfl (Lw.pass' rfl rfl rfl rfl rfl rfl rfl rfl (Lw.p rfl (vB false) rfl (Lw.g (vB false) rfl (Lw.nil (⟨?_, ⟨false, W190, rfl, l190, rfl, hm⟩⟩)))))))))))))))
        iterate 17 (refine Agree.up rfl ?_)
        exact Agree.refl _
  ·refine Cw.draw [] [(0, 0), (1, 0), (2, 0), (3, 0), (4, 1), (5, 1), (6, 2), (7, 0), (8, 0), (9, 0), (10, 1), (12, 1), (11, 2), (13, 2), (14, 0), (15, 0), (16, 0), (17, 1), (18, 2), (19, 0), (20, 0)] mixed (by kernel_rfl) fun W224 l224 => ?_
   have b228 := b47.up l224 rfl
   refine Mw.p rfl rfl (fun _ => R.mv (v := vB z12.2) rfl) (Mw.p rfl rfl (fun _ => R.mv (v := vB z28.2) rfl) (Mw.p rfl rfl (fun _ => R.bne rfl rfl) (Mw.p rfl rfl (fun _ => R.mv (v := vB (z12.2 != z28.2)) rfl) (bsplit (z12.2 != z28.2) (fun hc231 => ?_) (fun hc231 => ?_)))))
   ·replace hm := bt hm hc231
    refine Mw.pass' hc231 rfl rfl rfl rfl rfl rfl (Mw.pass' hc231 rfl rfl rfl rfl rfl rfl (Mw.pass' hc231 rfl rfl rfl rfl rfl rfl (Mw.pass' hc231 rfl rfl rfl rfl rfl rfl (Mw.p rfl rfl (fun _ => R.pk hc231 rfl (v := vB true) rfl) (Mw.p rfl rfl (fun _ => R.mv (v := vB true) rfl) (Mw.pass' rfl rfl rfl rfl rfl rfl rfl (Mw.pass' rfl rfl rfl rfl rfl rfl rfl (Mw.pass' rfl rfl rfl rfl rfl rfl rfl (Mw.pass' rfl rfl rfl rfl rfl rfl rfl (Mw.pass' rfl rfl rfl rfl rfl rfl rfl (Mw.p rfl rfl (fun _ => R.pk rfl rfl (v := vB true) rfl) (Mw.p rfl rfl (fun _ => R.mv (v := vB true) rfl) (Mw.pass' rfl rfl rfl rfl rfl rfl rfl (Mw.pass' rfl rfl rfl rfl rfl rfl rfl (Mw.pass' rfl rfl rfl rfl rfl rfl rfl (Mw.p rfl rfl (fun _ => R.pk rfl rfl (v := vB true) rfl) (Mw.nil (⟨?_, ⟨true, W224, rfl, l224, rfl, hm⟩⟩))))))))))))))))))
    iterate 21 (refine Agree.up rfl ?_)
    exact Agree.refl _
   ·replace hm := bf hm hc231
    refine Mw.gq hc231 rfl rfl rfl rfl rfl (fun _ c => R.lda (cs := [vS z12.1.Branch, vS z12.1.Into, vS z12.1.By, v0_3_14]) ((b48.up l224 rfl).clcs rfl c) rfl rfl) (Mw.gq hc231 rfl rfl rfl rfl rfl (fun _ c => R.lda (cs := [vS z28.1.Branch, vS z28.1.Into, vS z28.1.By, v0_3_30]) ((b43.up l224 rfl).clcs rfl c) rfl rfl) ?_)
    have s232 := s31.up ((l37.sub (M := [6]) rfl).trans ((l43.sub (M := [6]) rfl).trans (l224.sub (M := [6]) rfl))) rfl
    obtain ⟨z233, e234, hm⟩ := ob hm
    refine Mw.gt hc231 rfl rfl rfl rfl rfl (T.call rfl (p49 (K := [0, 2, 4])  (x0 := (Vm.Review.mk z12.1.Branch z12.1.Into z12.1.By z12.1.Yes)) ((Review.rd (K := [4]) z12.1.Branch z12.1.Into z12.1.By z12.1.Yes (o46.up l224 rfl).rd).sub (M := [0, 2, 4]) rfl) ((Review.rd (K := [0, 2]) z28.1.Branch z28.1.Into z28.1.By z28.1.Yes s232).sub (M := [0, 2, 4]) rfl) e234)) ?_
    rintro _ _ ⟨W235, rfl, l235, rfl⟩
    have o237 := (o45.up l224 rfl).up l235 rfl
    refine ⟨⟨_, rfl, (l235.sub (M := []) rfl)⟩, ?_⟩
    refine Mw.gp hc231 rfl rfl rfl rfl rfl (fun _ => R.not rfl) (Mw.p rfl rfl (fun _ => R.pk hc231 rfl (v := vB (!z233)) rfl) (Mw.p rfl rfl (fun _ => R.mv (v := vB (!z233)) rfl) (bsplit (!z233) (fun hc242 => ?_) (fun hc242 => ?_))))
    ·replace hm := bt hm hc242
     refine Mw.pass' hc242 rfl rfl rfl rfl rfl rfl (Mw.pass' hc242 rfl rfl rfl rfl rfl rfl (Mw.pass' hc242 rfl rfl rfl rfl rfl rfl (Mw.pass' hc242 rfl rfl rfl rfl rfl rfl (Mw.pass' hc242 rfl rfl rfl rfl rfl rfl (Mw.p rfl rfl (fun _ => R.pk hc242 rfl (v := vB true) rfl) (Mw.p rfl rfl (fun _ => R.mv (v := vB true) rfl) (Mw.pass' rfl rfl rfl rfl rfl rfl rfl (Mw.pass' rfl rfl rfl rfl rfl rfl rfl (Mw.pass' rfl rfl rfl rfl rfl rfl rfl (Mw.p rfl rfl (fun _ => R.pk rfl rfl (v := vB true) rfl) (Mw.nil (⟨?_, ⟨true, W235, rfl, (l224.trans l235), rfl, hm⟩⟩))))))))))))
     iterate 21 (refine Agree.up rfl ?_)
     exact Agree.refl _
    ·replace hm := bf hm hc242
     refine Mw.gq hc242 rfl rfl rfl rfl rfl (fun _ c => R.lda (cs := [vS z2.1.Branch, vS z2.1.Into, vS z2.1.By, v0_3_4]) (b228.clcs rfl c) rfl rfl) (Mw.gq hc242 rfl rfl rfl rfl rfl (fun _ c => R.lda (cs := [vS z2.1.Branch, vS z2.1.Into, vS z2.1.By, v0_3_4]) (b228.clcs rfl c) rfl rfl) ?_)
     obtain ⟨z243, e244, hm⟩ := ob hm
     refine Mw.gt hc242 rfl rfl rfl rfl rfl (T.call rfl (p50 (K := [2])  (x0 := (Vm.Review.mk z2.1.Branch z2.1.Into z2.1.By z2.1.Yes)) (Review.rd (K := [2]) z2.1.Branch z2.1.Into z2.1.By z2.1.Yes o237.rd) e244)) ?_
     rintro _ _ ⟨W245, rfl, l245, rfl⟩
     refine ⟨⟨_, rfl, ((l235.sub (M := []) rfl).trans (l245.sub (M := []) rfl))⟩, ?_⟩
     obtain ⟨z252, e253, hm⟩ := ob hm
     refine Mw.gt hc242 rfl rfl rfl rfl rfl (T.call rfl (p51 (K := [2])  (x0 := (Vm.Review.mk z2.1.Branch z2.1.Into z2.1.By z2.1.Yes)) (Review.rd (K := [2]) z2.1.Branch z2.1.Into z2.1.By z2.1.Yes (o237.up l245 rfl).rd) e253)) ?_
     rintro _ _ ⟨W254, rfl, l254, rfl⟩
     refine ⟨⟨_, rfl, ((l235.sub (M := []) rfl).trans ((l245.sub (M := []) rfl).trans (l254.sub (M := []) rfl)))⟩, ?_⟩
     refine Mw.gp hc242 rfl rfl rfl rfl rfl (fun _ => R.bne rfl rfl) (Mw.p rfl rfl (fun _ => R.pk hc242 rfl (v := vB (z243 != z252)) rfl) (Mw.p rfl rfl (fun _ => R.mv (v := vB (z243 != z252)) rfl) (bsplit (z243 != z252) (fun hc261 => ?_) (fun hc261 => ?_))))
     ·replace hm := bt hm hc261
      refine Mw.pass' hc261 rfl rfl rfl rfl rfl rfl (Mw.pass' hc261 rfl rfl rfl rfl rfl rfl (Mw.pass' hc261 rfl rfl rfl rfl rfl rfl (Mw.p rfl rfl (fun _ => R.pk hc261 rfl (v := vB true) rfl) (Mw.nil (⟨?_, ⟨true, W254, rfl, (l224.trans (l235.trans (l245.trans l254))), rfl, hm⟩⟩)))))
      iterate 21 (refine Agree.up rfl ?_)
      exact Agree.refl _
     ·replace hm := bf hm hc261
      refine Mw.gq hc261 rfl rfl rfl rfl rfl (fun _ c => R.lda (cs := [vS z2.1.Branch, vS z2.1.Into, vS z2.1.By, v0_3_4]) (b228.clcs rfl c) rfl rfl) ?_
      obtain ⟨z262, e263, hm⟩ := ob hm
      refine Mw.gt hc261 rfl rfl rfl rfl rfl (T.call rfl (p50 (K := [2])  (x0 := (Vm.Review.mk z2.1.Branch z2.1.Into z2.1.By z2.1.Yes)) (Review.rd (K := [2]) z2.1.Branch z2.1.Into z2.1.By z2.1.Yes ((o237.up l245 rfl).up l254 rfl).rd) e263)) ?_
      rintro _ _ ⟨W264, rfl, l264, rfl⟩
      refine ⟨⟨_, rfl, ((l235.sub (M := []) rfl).trans ((l245.sub (M := []) rfl).trans ((l254.sub (M := []) rfl).trans (l264.sub (M := []) rfl))))⟩, ?_⟩
      refine Mw.gp hc261 rfl rfl rfl rfl rfl (fun _ => R.not rfl) (Mw.p rfl rfl (fun _ => R.pk hc261 rfl (v := vB (!z262)) rfl) (Mw.nil (⟨?_, ⟨(!z262), W264, rfl, (l224.trans (l235.trans (l245.trans (l254.trans l264)))), rfl, hm⟩⟩)))
      iterate 21 (refine Agree.up rfl ?_)
      exact Agree.refl _

theorem p11 {W : CW} {K : List Nat} {x0 : List Byte} {v0_ : Value} {r : Bool} (h0 : Rd W K [v0_] x0) (hm : Vm.laws_FnReviewYes x0 = some r) : CallR Try.prog 11 [v0_].toArray W.w (Res W [] fun W' v => v = vB r) :=
 (c11 (V := W.view K []) (h0.view _) hm).ad (fk 0) fun _ _ e => e

end Go.Sx
