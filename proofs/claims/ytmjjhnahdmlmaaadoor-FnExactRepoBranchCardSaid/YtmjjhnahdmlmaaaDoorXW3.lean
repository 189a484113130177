/- Walks: each function answers as its model, printed by a program of ours. Conditions: the arguments read as they are given. -/
import Derived.Test.YtmjjhnahdmlmaaaDoorXTs
import Derived.Test.YtmjjhnahdmlmaaaDoorXMd
import Derived.Test.YtmjjhnahdmlmaaaDoorXW2
import Derived.Test.YtmjjhnahdmlmaaaDoorXE
namespace Go.Sx
open Go Go.Proofs Go.Vm Rp
set_option linter.unusedVariables false
set_option linter.unusedSimpArgs false

theorem c124 {V : CW} {x0 : Str} {x1 : Str} {r : Bool} (h99 : Gl 2 V [0]) (hm : Vm.impl_PathIn x0 x1 = some r) : CallR Tryd.prog 124 [vS x0, vS x1].toArray V.w (Res V LL fun Wf v => v = vB r) := by
 unfold Vm.impl_PathIn at hm
 obtain ⟨W0, hW0⟩ : ∃ W, W = V := ⟨V, rfl⟩
 subst hW0
 refine CallR.of Tryd.func124 rfl rfl rfl rfl (Cw.seq (Cw.region (Lw.g (vB false) rfl (Lw.nil ?_))))
 obtain ⟨K3, hK3, hm⟩ := jn_e hm
 refine Cw.join 5 16 [4] (fun l w => ∃ (y1 : Bool) (W2 : CW), W2.w = w ∧ Le [] W0 W2 ∧ l = [vB y1] ∧ K3 y1 = some r) ?_ ?_
 ·rintro _ _ σ ⟨y1, W2, rfl, l2, rfl, hm⟩
  rw [hK3] at hm
  have a4 := l2.o
  cases hm
  exact Cw.ret (ret1 rfl (Res.mk a4 rfl))
 ·refine Cw.region (Lw.m (vS x0) rfl ?_)
  obtain ⟨z5, e6, hm⟩ := ob hm
  refine Lw.t rfl (T.call rfl (p107 (K := [0])  h99 e6)) ?_
  rintro _ _ ⟨W7, rfl, l7, rfl⟩
  have a8 := l7.o
  refine Lw.m (vB z5) rfl (bsplit z5 (fun hc9 => ?_) (fun hc9 => ?_))
  ·replace hm := bt hm hc9
   refine Lw.wa hc9 rfl (Lw.m (vS x1) rfl (Lw.wa hc9 rfl ?_))
   obtain ⟨z11, e12, hm⟩ := ob hm
   refine Lw.t rfl (T.call rfl (p107 (K := [0])  (h99.ul a8) e12)) ?_
   rintro _ _ ⟨W13, rfl, l13, rfl⟩
   refine Lw.p hc9 (vB z11) rfl (Lw.m (vB z11) rfl (bsplit z11 (fun hc15 => ?_) (fun hc15 => ?_)))
   ·replace hm := bt hm hc15
    refine Lw.wa hc15 rfl (Lw.m (vS x1) rfl (Lw.wa hc15 rfl (Lw.m (vS x0) rfl (Lw.wa hc15 rfl ?_))))
    obtain ⟨q16, e17, hm⟩ := ob hm
    refine Lw.r rfl (R.sad e17 rfl rfl) (Lw.wa hc15 rfl ?_)
    obtain ⟨z18, e19, hm⟩ := ob hm
    refine Lw.t rfl (T.call rfl (p142 (K := [0])   e19)) ?_
    rintro _ _ ⟨W20, rfl, l20, rfl⟩
    refine Lw.p hc15 (vB z18) rfl (Lw.g (vB z18) rfl (Lw.nil (⟨?_, ⟨z18, W20, rfl, (l7.trans (l13.trans l20)), rfl, hm⟩⟩)))
    iterate 13 (refine .u ?_)
    exact Agree.refl _
   ·replace hm := bf hm hc15
    refine Lw.ps hc15 rfl (Lw.ps hc15 rfl (Lw.ps hc15 rfl (Lw.ps hc15 rfl (Lw.p hc15 (vB false) rfl (Lw.g (vB false) rfl (Lw.nil (⟨?_, ⟨false, W13, rfl, (l7.trans l13), rfl, hm⟩⟩)))))))
    iterate 13 (refine .u ?_)
    exact Agree.refl _
  ·replace hm := bf hm hc9
   refine Lw.ps hc9 rfl (Lw.ps hc9 rfl (Lw.p hc9 (vB false) rfl (Lw.m (vB false) rfl (Lw.ps rfl rfl (Lw.ps rfl rfl (Lw.ps rfl rfl (Lw.ps rfl rfl (Lw.p rfl (vB false) rfl (Lw.g (vB false) rfl (Lw.nil (⟨?_, ⟨false, W7, rfl, l7, rfl, hm⟩⟩)))))))))))
   iterate 13 (refine .u ?_)
   exact Agree.refl _

theorem p124 {W : CW} {K : List Nat} {x0 : Str} {x1 : Str} {r : Bool} (h99 : Gl 2 W K) (hm : Vm.impl_PathIn x0 x1 = some r) : CallR Tryd.prog 124 [vS x0, vS x1].toArray W.w (Res W [] fun W' v => v = vB r) :=
 (c124 (V := W.view K []) (h99.view _) hm).ad (fk 0) fun _ _ e => e

theorem c82 {V : CW} {x0 : List Vm.File} {v0_ : Value} {r : Bool} (h0 : Rd V [0] [v0_] x0) (h99 : Gl 2 V [0]) (hm : Vm.impl_TreeOk x0 = some r) : CallR Tryd.prog 82 [v0_].toArray V.w (Res V LL fun Wf v => v = vB r) := by
 unfold Vm.impl_TreeOk at hm
 obtain ⟨W0, hW0⟩ : ∃ W, W = V := ⟨V, rfl⟩
 subst hW0
 refine CallR.of Tryd.func82 rfl rfl rfl rfl (Cw.seq (Cw.region (Lw.g (vB false) rfl (Lw.nil (Cw.seq (Cw.seq (Cw.region (Lw.m v0_ rfl (Lw.ln x0 h0 rfl (Lw.gt rfl (Lw.nil (Cw.cond (b := decide ((8 : Int) < ((x0.length : Int) : Int))) rfl (fun hc1 => ?_) (fun hc1 => ?_)))))))))))))
 ·replace hm := bt hm hc1
  refine Cw.seq (Cw.region (Lw.g (vB false) rfl (Lw.nil ?_)))
  cases hm
  exact Cw.ret (ret1 rfl (Res.mk (Le.refl _ _) rfl))
 ·replace hm := bf hm hc1
  refine Cw.skip (Cw.seq (Cw.seq (Cw.region (Lw.m v0_ rfl (Lw.ln x0 h0 rfl (Lw.m (vI 0) rfl (Lw.nil (Cw.block ?_))))))))
  obtain ⟨K8, hK8, hm⟩ := jn_e hm
  refine Cw.loop 12 56 [2, 3, 4, 6, 12] (fun m l w => ∃ (y2 : Bool) (y6 : Int) (j3 j4 j5 : Value) (W7 : CW), W7.w = w ∧ Le [2, 3] W0 W7 ∧ l = [vB y2, j3, j4, j5, vI y6] ∧ Vm.impl_TreeOk_l1 x0 K8 m y2 y6 = some r) (((x0.length : Int) - 0).toNat + 1) ⟨false, 0, undef, undef, undef, W0, rfl, Le.refl _ _, rfl, hm⟩ ?_
  rintro m9 _ _ σ ⟨y2, y6, j3, j4, j5, W7, rfl, l7, rfl, hm⟩
  obtain _ | m9 := m9
  ·cases hm
  unfold Vm.impl_TreeOk_l1 at hm
  have a10 := l7.s rfl
  refine Cw.seq (Cw.region (Lw.lt rfl (Lw.nil (Cw.seq (Cw.cond (b := decide ((y6 : Int) < ((x0.length : Int) : Int))) rfl (fun hc11 => ?_) (fun hc11 => ?_))))))
  ·replace hm := bt hm hc11
   refine Cw.skip (Cw.seq (Cw.block (Cw.seq (Cw.region (Lw.m (vI y6) rfl ?_)))))
   obtain ⟨u12, e13, hm⟩ := ob hm
   refine Lw.r rfl (R.ix (α := File) (h0.ul a10) e13 rfl rfl rfl) ?_
   obtain ⟨x15, c16, _, r17⟩ := ((h0.ul a10).at_ e13).cells
   obtain ⟨v18, rfl, r19⟩ := File.split r17
   refine Lw.r rfl (R.lda c16 rfl rfl) (Lw.t rfl (T.alloc 2 (cs := [vS ([] : Str), .slice none 0 0]) rfl) ?_)
   rintro _ _ ⟨g20, W20, rfl, rfl, l20, b20⟩
   have a21 := l20.o
   refine Lw.g (vI y6) rfl (Lw.u (T.sta (vs := [vS u12.Path, v18]) b20 rfl rfl (oc_cons rfl (oc_cons r19.oc oc_nil)) rfl rfl) ?_)
   rintro _ _ ⟨W22, rfl, l22, b22⟩
   have a23 := l22.s rfl
   refine Lw.nil (Cw.seq ?_)
   obtain ⟨K26, hK26, hm⟩ := jn_e hm
   refine Cw.join 17 41 [41] (fun l w => ∃ (y24 : Bool) (W25 : CW), W25.w = w ∧ Le [] W22 W25 ∧ l = [vB y24] ∧ K26 y24 = some r) ?_ ?_
   ·rintro _ _ σ ⟨y24, W25, rfl, l25, rfl, hm⟩
    rw [hK26] at hm
    have a27 := ((a10.trans a21).trans a23).n l25
    refine Cw.cond (b := y24) rfl (fun hc29 => ?_) (fun hc29 => ?_)
    ·replace hm := bt hm hc29
     refine Cw.seq (Cw.region (Lw.g (vB false) rfl (Lw.nil ?_)))
     cases hm
     exact Cw.ret (ret1 rfl (Res.mk a27 rfl))
    ·replace hm := bf hm hc29
     refine Cw.skip (Cw.seq (Cw.region (Lw.m v0_ rfl (Lw.m (vI y6) rfl ?_))))
     obtain ⟨q30, e31, hm⟩ := ob hm
     have r34 := (h0.ul a27).cutV e31
     refine Lw.r rfl (R.sl (h0.ul a27) e31 rfl (.inl ⟨rfl, rfl⟩) (.inr rfl)) (Lw.ln q30 r34 rfl (Lw.m (vI 0) rfl (Lw.nil (Cw.block ?_))))
     obtain ⟨K39, hK39, hm⟩ := jn_e hm
     refine Cw.loop 46 55 [2, 6, 46] (fun m l w => ∃ (y35 : Bool) (y37 : Int) (j36 : Value) (W38 : CW), W38.w = w ∧ Le [3] W25 W38 ∧ l = [vB y35, j36, vI y37] ∧ Vm.impl_TreeOk_l2 u12 q30 K39 m y35 y37 = some r) (((q30.length : Int) - 0).toNat + 1) ⟨y2, 0, j5, W25, rfl, Le.refl _ _, rfl, hm⟩ ?_
     rintro m40 _ _ σ ⟨y35, y37, j36, W38, rfl, l38, rfl, hm⟩
     obtain _ | m40 := m40
     ·cases hm
     unfold Vm.impl_TreeOk_l2 at hm
     have a41 := l38.s rfl
     refine Cw.seq (Cw.region (Lw.lt rfl (Lw.nil (Cw.seq (Cw.cond (b := decide ((y37 : Int) < ((q30.length : Int) : Int))) rfl (fun hc43 => ?_) (fun hc43 => ?_))))))
     ·replace hm := bt hm hc43
      refine Cw.skip (Cw.seq (Cw.block (Cw.seq (Cw.region ?_))))
      obtain ⟨u44, e45, hm⟩ := ob hm
      refine Lw.r rfl (R.ix (α := File) (r34.ul a41) e45 rfl rfl rfl) ?_
      obtain ⟨x47, c48, _, r49⟩ := ((r34.ul a41).at_ e45).cells
      obtain ⟨v50, rfl, r51⟩ := File.split r49
      refine Lw.r rfl (R.lda c48 rfl rfl) (Lw.t rfl (T.alloc 3 (cs := [vS ([] : Str), .slice none 0 0]) rfl) ?_)
      rintro _ _ ⟨g52, W52, rfl, rfl, l52, b52⟩
      have a53 := (a27.trans a41).n l52
      refine Lw.u (T.sta (vs := [vS u44.Path, v50]) b52 rfl rfl (oc_cons rfl (oc_cons r51.oc oc_nil)) rfl rfl) ?_
      rintro _ _ ⟨W55, rfl, l55, b55⟩
      have a56 := a53.t l55 rfl
      refine Lw.nil (Cw.seq (Cw.region (Lw.fa rfl (Lw.r rfl (R.ld (v := vS u44.Path) rfl rfl (b55.cell rfl)) (Lw.fa rfl (Lw.r rfl (R.ld (v := vS u12.Path) rfl rfl (((((b22.up l25 rfl).up l38 rfl).up l52 rfl).up l55 rfl).cell rfl)) ?_))))))
      obtain ⟨z59, e60, hm⟩ := ob hm
      refine Lw.t rfl (T.call rfl (p124 (K := [0])  (h99.ul a56) e60)) ?_
      rintro _ _ ⟨W61, rfl, l61, rfl⟩
      have a62 := a56.n l61
      refine Lw.nil (Cw.cond (b := z59) rfl (fun hc65 => ?_) (fun hc65 => ?_))
      ·replace hm := bt hm hc65
       refine Cw.seq (Cw.region (Lw.g (vB false) rfl (Lw.nil ?_)))
       cases hm
       exact Cw.ret (ret1 rfl (Res.mk a62 rfl))
      ·replace hm := bf hm hc65
       refine Cw.skip (Cw.region (Lw.add rfl (Lw.m (vI (w64 (y37 + 1))) rfl (Lw.nil (⟨?_, m40, Nat.lt_succ_self m40, ⟨y35, w64 (y37 + 1), ptr (bx g52), W61, rfl, (l38.trans ((l52.sub rfl).trans (l55.trans (l61.sub rfl)))), rfl, hm⟩⟩)))))
       iterate 14 (refine .u ?_)
       exact Agree.base
     ·replace hm := bf hm hc43
      refine Cw.exit ?_
      rw [hK39] at hm
      refine Cw.region (Lw.add rfl (Lw.m (vI (w64 (y6 + 1))) rfl (Lw.nil (⟨?_, m9, Nat.lt_succ_self m9, ⟨y35, w64 (y6 + 1), vI y6, ptr (bx g20), j36, W38, rfl, (l7.trans ((l20.sub rfl).trans ((l22.sub rfl).trans ((l25.sub rfl).trans (l38.sub rfl))))), rfl, hm⟩⟩))))
      iterate 6 (refine .u ?_)
      refine Agree.ov0 rfl ?_
      iterate 6 (refine .u ?_)
      refine Agree.ov0 rfl ?_
      iterate 11 (refine .u ?_)
      exact Agree.base
   ·refine Cw.draw [] [(0, 0), (1, 1), (2, 2), (3, 0), (4, 0), (5, 0), (6, 1), (7, 2), (8, 0), (9, 0), (10, 0), (11, 0), (12, 0), (13, 0), (14, 0), (15, 0), (16, 0), (17, 0), (18, 0), (19, 1), (20, 0), (21, 1), (22, 0), (23, 0), (24, 0)] mixed (by kernel_rfl) fun W66 l66 => ?_
    have a67 := l66.o
    have b68 := b22.up l66 rfl
    refine Mw.p rfl rfl (fun _ => R.fa rfl) (Mw.q rfl rfl (fun _ c => R.ld (v := v18) rfl rfl (b68.clc rfl rfl c)) ?_)
    obtain ⟨z70, e71, hm⟩ := ob hm
    refine Mw.t rfl rfl (T.call rfl (p108 (K := [0])  (r19.ul ((a21.trans a23).trans a67)) e71)) ?_
    rintro _ _ ⟨W72, rfl, l72, rfl⟩
    have a73 := (((a10.trans a21).trans a23).trans a67).n l72
    refine ⟨⟨_, rfl, (l72.sub (M := []) rfl)⟩, ?_⟩
    refine Mw.p rfl rfl (fun _ => R.not rfl) (Mw.p rfl rfl (fun _ => R.mv (v := vB (!z70)) rfl) (bsplit (!z70) (fun hc75 => ?_) (fun hc75 => ?_)))
    ·replace hm := bt hm hc75
     refine Mw.ps hc75 rfl rfl (Mw.ps hc75 rfl rfl (Mw.ps hc75 rfl rfl (Mw.ps hc75 rfl rfl (Mw.p rfl rfl (fun _ => R.pk hc75 rfl (v := vB true) rfl) (Mw.p rfl rfl (fun _ => R.mv (v := vB true) rfl) (Mw.ps rfl rfl rfl (Mw.ps rfl rfl rfl (Mw.ps rfl rfl rfl (Mw.pu rfl rfl (Mw.pu rfl rfl (Mw.pu rfl rfl (Mw.pu rfl rfl (Mw.pu rfl rfl (Mw.pu rfl rfl (Mw.pu rfl rfl (Mw.pu rfl rfl (Mw.pu rfl rfl (Mw.ps rfl rfl rfl (Mw.p rfl rfl (fun _ => R.pk rfl rfl (v := vB true) rfl) (Mw.nil (⟨?_, ⟨true, W72, rfl, (l66.trans l72), rfl, hm⟩⟩)))))))))))))))))))))
     iterate 25 (refine .u ?_)
     exact Agree.refl _
    ·replace hm := bf hm hc75
     refine Mw.gp hc75 rfl rfl rfl rfl rfl (fun _ => R.fa rfl) (Mw.gq hc75 rfl rfl rfl rfl rfl (fun _ c => R.ld (v := vS u12.Path) rfl rfl (b68.clc rfl rfl c)) ?_)
     obtain ⟨z77, e78, hm⟩ := ob hm
     refine Mw.gt hc75 rfl rfl rfl rfl rfl (T.call rfl (p107 (K := [0])  (h99.ul a73) e78)) ?_
     rintro _ _ ⟨W79, rfl, l79, rfl⟩
     refine ⟨⟨_, rfl, ((l72.sub (M := []) rfl).trans (l79.sub (M := []) rfl))⟩, ?_⟩
     refine Mw.gp hc75 rfl rfl rfl rfl rfl (fun _ => R.not rfl) (Mw.p rfl rfl (fun _ => R.pk hc75 rfl (v := vB (!z77)) rfl) (Mw.p rfl rfl (fun _ => R.mv (v := vB (!z77)) rfl) (bsplit (!z77) (fun hc82 => ?_) (fun hc82 => ?_))))
     ·replace hm := bt hm hc82
      refine Mw.ps hc82 rfl rfl (Mw.ps hc82 rfl rfl (Mw.ps hc82 rfl rfl (Mw.pu rfl rfl (Mw.pu rfl rfl (Mw.pu rfl rfl (Mw.pu rfl rfl (Mw.pu rfl rfl (Mw.pu rfl rfl (Mw.pu rfl rfl (Mw.pu rfl rfl (Mw.pu rfl rfl (Mw.ps hc82 rfl rfl (Mw.p rfl rfl (fun _ => R.pk hc82 rfl (v := vB true) rfl) (Mw.nil (⟨?_, ⟨true, W79, rfl, (l66.trans (l72.trans l79)), rfl, hm⟩⟩)))))))))))))))
      iterate 25 (refine .u ?_)
      exact Agree.refl _
     ·replace hm := bf hm hc82
      refine Mw.gp hc82 rfl rfl rfl rfl rfl (fun _ => R.mv (v := vI y6) rfl) (Mw.gp hc82 rfl rfl rfl rfl rfl (fun _ => R.gt rfl rfl) (Mw.gp hc82 rfl rfl rfl rfl rfl (fun _ => R.mv (v := vB (decide ((0 : Int) < (y6 : Int)))) rfl) (bsplit (decide ((0 : Int) < (y6 : Int))) (fun hc83 => ?_) (fun hc83 => ?_))))
      ·replace hm := bt hm hc83
       refine Mw.gp hc83 rfl rfl rfl rfl rfl (fun _ => R.mv (v := v0_) rfl) (Mw.gp hc83 rfl rfl rfl rfl rfl (fun _ => R.mv (v := vI y6) rfl) (Mw.gp hc83 rfl rfl rfl rfl rfl (fun _ => R.sub rfl rfl) ?_))
       obtain ⟨u84, e85, hm⟩ := ob hm
       have s86 := h0.ul (((a10.trans a21).trans a23).trans a67)
       refine Mw.gp hc83 rfl rfl rfl rfl rfl (fun _ => R.ix (α := File) s86 e85 rfl rfl rfl) (Mw.gp hc83 rfl rfl rfl rfl rfl (fun _ => R.fa rfl) (Mw.gq hc83 rfl rfl rfl rfl rfl (fun _ c => R.ld rfl rfl (cl_cell (File.at0 (s86.at_ e85)).1 rfl (File.at0 (s86.at_ e85)).str c)) (Mw.gp hc83 rfl rfl rfl rfl rfl (fun _ => R.fa rfl) (Mw.gq hc83 rfl rfl rfl rfl rfl (fun _ c => R.ld (v := vS u12.Path) rfl rfl (b68.clc rfl rfl c)) (Mw.gp hc83 rfl rfl rfl rfl rfl (fun _ => R.sge rfl rfl) (Mw.gp hc82 rfl rfl rfl rfl rfl (fun _ => R.pk hc83 rfl (v := vB (!Op.bytesLess u84.Path u12.Path)) rfl) (Mw.p rfl rfl (fun _ => R.pk hc82 rfl (v := vB (!Op.bytesLess u84.Path u12.Path)) rfl) (Mw.nil (⟨?_, ⟨(!Op.bytesLess u84.Path u12.Path), W79, rfl, (l66.trans (l72.trans l79)), rfl, hm⟩⟩)))))))))
       iterate 25 (refine .u ?_)
       exact Agree.refl _
      ·replace hm := bf hm hc83
       refine Mw.ps hc83 rfl rfl (Mw.ps hc83 rfl rfl (Mw.ps hc83 rfl rfl (Mw.ps hc83 rfl rfl (Mw.ps hc83 rfl rfl (Mw.ps hc83 rfl rfl (Mw.ps hc83 rfl rfl (Mw.ps hc83 rfl rfl (Mw.ps hc83 rfl rfl (Mw.gp hc82 rfl rfl rfl rfl rfl (fun _ => R.pk hc83 rfl (v := vB false) rfl) (Mw.p rfl rfl (fun _ => R.pk hc82 rfl (v := vB false) rfl) (Mw.nil (⟨?_, ⟨false, W79, rfl, (l66.trans (l72.trans l79)), rfl, hm⟩⟩))))))))))))
       iterate 25 (refine .u ?_)
       exact Agree.refl _
  ·replace hm := bf hm hc11
   refine Cw.exit ?_
   rw [hK8] at hm
   refine Cw.seq (Cw.region (Lw.g (vB true) rfl (Lw.nil ?_)))
   cases hm
   exact Cw.ret (ret1 rfl (Res.mk a10 rfl))

theorem p82 {W : CW} {K : List Nat} {x0 : List Vm.File} {v0_ : Value} {r : Bool} (h0 : Rd W K [v0_] x0) (h99 : Gl 2 W K) (hm : Vm.impl_TreeOk x0 = some r) : CallR Tryd.prog 82 [v0_].toArray W.w (Res W [] fun W' v => v = vB r) :=
 (c82 (V := W.view K []) (h0.view _) (h99.view _) hm).ad (fk 0) fun _ _ e => e

theorem c125 {V : CW} {x0 : Vm.Repo} {v0_0_ : Value} {v0_1_ : Value} {x1 : Int} {r : Bool} (h0 : Rd V [0] [v0_0_, v0_1_] x0) (hm : Vm.impl_Repo_exists x0 x1 = some r) : CallR Tryd.prog 125 [.agg [v0_0_, v0_1_].toArray, vI x1].toArray V.w (Res V LL fun Wf v => v = vB r) := by
 unfold Vm.impl_Repo_exists at hm
 obtain ⟨w0_0, w0_1, he0, h0_0, h0_1⟩ := Repo.split h0
 simp only [List.cons.injEq, and_true, true_and] at he0
 obtain ⟨rfl, rfl⟩ := he0
 obtain ⟨W0, hW0⟩ : ∃ W, W = V := ⟨V, rfl⟩
 subst hW0
 refine CallR.of Tryd.func125 rfl rfl rfl rfl (Cw.seq (Cw.region (Lw.t rfl (T.box 2 (v := .agg [v0_0_, v0_1_].toArray) (cs := [v0_0_, v0_1_]) rfl rfl) ?_)))
 rintro _ _ ⟨g1, W1, rfl, rfl, l1, b1⟩
 have a2 := l1.o
 refine Lw.g (vB false) rfl (Lw.nil (Cw.seq (Cw.region (Lw.m (vI x1) rfl (Lw.fa rfl (Lw.r rfl (R.ld (v := v0_0_) rfl rfl (b1.cell rfl)) (Lw.ln x0.Commits (h0_0.ul a2) rfl (Lw.sub rfl ?_))))))))
 obtain ⟨z4, e5, hm⟩ := ob hm
 refine Lw.t rfl (T.call rfl (p83 (K := [0])   e5)) ?_
 rintro _ _ ⟨W6, rfl, l6, rfl⟩
 have a7 := a2.n l6
 refine Lw.g (vB z4) rfl (Lw.nil ?_)
 cases hm
 exact Cw.ret (ret1 rfl (Res.mk a7 rfl))

theorem p125 {W : CW} {K : List Nat} {x0 : Vm.Repo} {v0_0_ : Value} {v0_1_ : Value} {x1 : Int} {r : Bool} (h0 : Rd W K [v0_0_, v0_1_] x0) (hm : Vm.impl_Repo_exists x0 x1 = some r) : CallR Tryd.prog 125 [.agg [v0_0_, v0_1_].toArray, vI x1].toArray W.w (Res W [] fun W' v => v = vB r) :=
 (c125 (V := W.view K []) (h0.view _) hm).ad (fk 0) fun _ _ e => e

theorem c84 {V : CW} {x0 : Vm.Repo} {v0_0_ : Value} {v0_1_ : Value} {x1 : List Vm.Head} {v1_ : Value} {r : Bool} (h0 : Rd V [0] [v0_0_, v0_1_] x0) (h1 : Rd V [0] [v1_] x1) (hm : Vm.impl_headsOk x0 x1 = some r) : CallR Tryd.prog 84 [.agg [v0_0_, v0_1_].toArray, v1_].toArray V.w (Res V LL fun Wf v => v = vB r) := by
 unfold Vm.impl_headsOk at hm
 obtain ⟨w0_0, w0_1, he0, h0_0, h0_1⟩ := Repo.split h0
 simp only [List.cons.injEq, and_true, true_and] at he0
 obtain ⟨rfl, rfl⟩ := he0
 obtain ⟨W0, hW0⟩ : ∃ W, W = V := ⟨V, rfl⟩
 subst hW0
 refine CallR.of Tryd.func84 rfl rfl rfl rfl (Cw.seq (Cw.region (Lw.t rfl (T.box 2 (v := .agg [v0_0_, v0_1_].toArray) (cs := [v0_0_, v0_1_]) rfl rfl) ?_)))
 rintro _ _ ⟨g1, W1, rfl, rfl, l1, b1⟩
 have a2 := l1.o
 refine Lw.g (vB false) rfl (Lw.nil (Cw.seq (Cw.seq (Cw.region (Lw.m v1_ rfl (Lw.ln x1 (h1.ul a2) rfl (Lw.gt rfl (Lw.nil (Cw.cond (b := decide ((5 : Int) < ((x1.length : Int) : Int))) rfl (fun hc4 => ?_) (fun hc4 => ?_))))))))))
 ·replace hm := bt hm hc4
  refine Cw.seq (Cw.region (Lw.g (vB false) rfl (Lw.nil ?_)))
  cases hm
  exact Cw.ret (ret1 rfl (Res.mk a2 rfl))
 ·replace hm := bf hm hc4
  refine Cw.skip (Cw.seq (Cw.seq (Cw.region (Lw.m v1_ rfl (Lw.ln x1 (h1.ul a2) rfl (Lw.m (vI 0) rfl (Lw.nil (Cw.block ?_))))))))
  obtain ⟨K10, hK10, hm⟩ := jn_e hm
  refine Cw.loop 12 43 [4, 5, 6, 12] (fun m l w => ∃ (y5 : Bool) (y8 : Int) (j6 j7 : Value) (W9 : CW), W9.w = w ∧ Le [3] W1 W9 ∧ l = [vB y5, j6, j7, vI y8] ∧ Vm.impl_headsOk_l1 x0 x1 K10 m y5 y8 = some r) (((x1.length : Int) - 0).toNat + 1) ⟨false, 0, undef, undef, W1, rfl, Le.refl _ _, rfl, hm⟩ ?_
  rintro m11 _ _ σ ⟨y5, y8, j6, j7, W9, rfl, l9, rfl, hm⟩
  obtain _ | m11 := m11
  ·cases hm
  unfold Vm.impl_headsOk_l1 at hm
  have a12 := a2.t l9 rfl
  refine Cw.seq (Cw.region (Lw.lt rfl (Lw.nil (Cw.seq (Cw.cond (b := decide ((y8 : Int) < ((x1.length : Int) : Int))) rfl (fun hc14 => ?_) (fun hc14 => ?_))))))
  ·replace hm := bt hm hc14
   refine Cw.skip (Cw.seq (Cw.block (Cw.seq (Cw.region (Lw.m (vI y8) rfl ?_)))))
   obtain ⟨u15, e16, hm⟩ := ob hm
   refine Lw.r rfl (R.ix (α := Head) (h1.ul a12) e16 rfl rfl rfl) ?_
   obtain ⟨x18, c19, _, r20⟩ := ((h1.ul a12).at_ e16).cells
   obtain rfl := Head.split r20
   refine Lw.r rfl (R.lda c19 rfl rfl) (Lw.t rfl (T.alloc 3 (cs := [vS ([] : Str), vI 0]) rfl) ?_)
   rintro _ _ ⟨g21, W21, rfl, rfl, l21, b21⟩
   have a22 := a12.n l21
   refine Lw.g (vI y8) rfl (Lw.u (T.sta (vs := [vS u15.Name, vI u15.At]) b21 rfl rfl (oc_cons rfl (oc_cons rfl oc_nil)) rfl rfl) ?_)
   rintro _ _ ⟨W24, rfl, l24, b24⟩
   have a25 := a22.t l24 rfl
   refine Lw.nil ?_
   obtain ⟨K29, hK29, hm⟩ := jn_e hm
   refine Cw.join 17 42 [42] (fun l w => ∃ (y27 : Bool) (W28 : CW), W28.w = w ∧ Le [] W24 W28 ∧ l = [vB y27] ∧ K29 y27 = some r) ?_ ?_
   ·rintro _ _ σ ⟨y27, W28, rfl, l28, rfl, hm⟩
    rw [hK29] at hm
    have a30 := a25.n l28
    refine Cw.cond (b := y27) rfl (fun hc33 => ?_) (fun hc33 => ?_)
    ·replace hm := bt hm hc33
     refine Cw.seq (Cw.region (Lw.g (vB false) rfl (Lw.nil ?_)))
     cases hm
     exact Cw.ret (ret1 rfl (Res.mk a30 rfl))
    ·replace hm := bf hm hc33
     refine Cw.skip (Cw.region (Lw.add rfl (Lw.m (vI (w64 (y8 + 1))) rfl (Lw.nil (⟨?_, m11, Nat.lt_succ_self m11, ⟨y5, w64 (y8 + 1), vI y8, ptr (bx g21), W28, rfl, (l9.trans ((l21.sub rfl).trans (l24.trans (l28.sub rfl)))), rfl, hm⟩⟩)))))
     iterate 3 (refine .u ?_)
     refine Agree.ov0 rfl ?_
     iterate 10 (refine .u ?_)
     exact Agree.base
   ·refine Cw.draw [] [(0, 0), (1, 1), (2, 2), (3, 0), (4, 0), (5, 1), (6, 0), (7, 1), (8, 2), (9, 0), (10, 0), (11, 0), (12, 0), (13, 0), (14, 0), (15, 0), (16, 0), (17, 0), (18, 0), (19, 0), (20, 1), (21, 0), (22, 1), (23, 0), (24, 0), (25, 0)] mixed (by kernel_rfl) fun W34 l34 => ?_
    have a35 := a25.n l34
    have b37 := b24.up l34 rfl
    refine Mw.p rfl rfl (fun _ => R.fa rfl) (Mw.q rfl rfl (fun _ c => R.ld (v := vS u15.Name) rfl rfl (b37.clc rfl rfl c)) ?_)
    obtain ⟨z38, e39, hm⟩ := ob hm
    refine Mw.t rfl rfl (T.call rfl (p81 (K := [0])   e39)) ?_
    rintro _ _ ⟨W40, rfl, l40, rfl⟩
    have a41 := a35.n l40
    refine ⟨⟨_, rfl, (l40.sub (M := []) rfl)⟩, ?_⟩
    refine Mw.p rfl rfl (fun _ => R.not rfl) (Mw.p rfl rfl (fun _ => R.mv (v := vB (!z38)) rfl) (bsplit (!z38) (fun hc44 => ?_) (fun hc44 => ?_)))
    ·replace hm := bt hm hc44
     refine Mw.ps hc44 rfl rfl (Mw.ps hc44 rfl rfl (Mw.ps hc44 rfl rfl (Mw.ps hc44 rfl rfl (Mw.ps hc44 rfl rfl (Mw.p rfl rfl (fun _ => R.pk hc44 rfl (v := vB true) rfl) (Mw.p rfl rfl (fun _ => R.mv (v := vB true) rfl) (Mw.ps rfl rfl rfl (Mw.ps rfl rfl rfl (Mw.ps rfl rfl rfl (Mw.pu rfl rfl (Mw.pu rfl rfl (Mw.pu rfl rfl (Mw.pu rfl rfl (Mw.pu rfl rfl (Mw.pu rfl rfl (Mw.pu rfl rfl (Mw.pu rfl rfl (Mw.pu rfl rfl (Mw.ps rfl rfl rfl (Mw.p rfl rfl (fun _ => R.pk rfl rfl (v := vB true) rfl) (Mw.nil (⟨?_, ⟨true, W40, rfl, (l34.trans l40), rfl, hm⟩⟩))))))))))))))))))))))
     iterate 26 (refine .u ?_)
     exact Agree.refl _
    ·replace hm := bf hm hc44
     refine Mw.gq hc44 rfl rfl rfl rfl rfl (fun _ c => R.lda (cs := [v0_0_, v0_1_]) (((((b1.up l9 rfl).up l21 rfl).up l24 rfl).up l34 rfl).clcs rfl c) rfl rfl) (Mw.gp hc44 rfl rfl rfl rfl rfl (fun _ => R.fa rfl) (Mw.gq hc44 rfl rfl rfl rfl rfl (fun _ c => R.ld (v := vI u15.At) rfl rfl (b37.clc rfl rfl c)) ?_))
     obtain ⟨z47, e48, hm⟩ := ob hm
     refine Mw.gt hc44 rfl rfl rfl rfl rfl (T.call rfl (p125 (K := [0])  (Repo.rd (K := [0]) x0.Commits x0.Heads (h0_0.ul a41) (h0_1.ul a41)) e48)) ?_
     rintro _ _ ⟨W49, rfl, l49, rfl⟩
     refine ⟨⟨_, rfl, ((l40.sub (M := []) rfl).trans (l49.sub (M := []) rfl))⟩, ?_⟩
     refine Mw.gp hc44 rfl rfl rfl rfl rfl (fun _ => R.not rfl) (Mw.p rfl rfl (fun _ => R.pk hc44 rfl (v := vB (!z47)) rfl) (Mw.p rfl rfl (fun _ => R.mv (v := vB (!z47)) rfl) (bsplit (!z47) (fun hc53 => ?_) (fun hc53 => ?_))))
     ·replace hm := bt hm hc53
      refine Mw.ps hc53 rfl rfl (Mw.ps hc53 rfl rfl (Mw.ps hc53 rfl rfl (Mw.pu rfl rfl (Mw.pu rfl rfl (Mw.pu rfl rfl (Mw.pu rfl rfl (Mw.pu rfl rfl (Mw.pu rfl rfl (Mw.pu rfl rfl (Mw.pu rfl rfl (Mw.pu rfl rfl (Mw.ps hc53 rfl rfl (Mw.p rfl rfl (fun _ => R.pk hc53 rfl (v := vB true) rfl) (Mw.nil (⟨?_, ⟨true, W49, rfl, (l34.trans (l40.trans l49)), rfl, hm⟩⟩)))))))))))))))
      iterate 26 (refine .u ?_)
      exact Agree.refl _
     ·replace hm := bf hm hc53
      refine Mw.gp hc53 rfl rfl rfl rfl rfl (fun _ => R.mv (v := vI y8) rfl) (Mw.gp hc53 rfl rfl rfl rfl rfl (fun _ => R.gt rfl rfl) (Mw.gp hc53 rfl rfl rfl rfl rfl (fun _ => R.mv (v := vB (decide ((0 : Int) < (y8 : Int)))) rfl) (bsplit (decide ((0 : Int) < (y8 : Int))) (fun hc54 => ?_) (fun hc54 => ?_))))
      ·replace hm := bt hm hc54
       refine Mw.gp hc54 rfl rfl rfl rfl rfl (fun _ => R.mv (v := v1_) rfl) (Mw.gp hc54 rfl rfl rfl rfl rfl (fun _ => R.mv (v := vI y8) rfl) (Mw.gp hc54 rfl rfl rfl rfl rfl (fun _ => R.sub rfl rfl) ?_))
       obtain ⟨u55, e56, hm⟩ := ob hm
       refine Mw.gp hc54 rfl rfl rfl rfl rfl (fun _ => R.ix (α := Head) (h1.ul a35) e56 rfl rfl rfl) (Mw.gp hc54 rfl rfl rfl rfl rfl (fun _ => R.fa rfl) (Mw.gq hc54 rfl rfl rfl rfl rfl (fun _ c => R.ld rfl rfl (cl_cell (Head.at0 ((h1.ul a35).at_ e56)).1 rfl (Head.at0 ((h1.ul a35).at_ e56)).str c)) (Mw.gp hc54 rfl rfl rfl rfl rfl (fun _ => R.fa rfl) (Mw.gq hc54 rfl rfl rfl rfl rfl (fun _ c => R.ld (v := vS u15.Name) rfl rfl (b37.clc rfl rfl c)) (Mw.gp hc54 rfl rfl rfl rfl rfl (fun _ => R.sge rfl rfl) (Mw.gp hc53 rfl rfl rfl rfl rfl (fun _ => R.pk hc54 rfl (v := vB (!Op.bytesLess u55.Name u15.Name)) rfl) (Mw.p rfl rfl (fun _ => R.pk hc53 rfl (v := vB (!Op.bytesLess u55.Name u15.Name)) rfl) (Mw.nil (⟨?_, ⟨(!Op.bytesLess u55.Name u15.Name), W49, rfl, (l34.trans (l40.trans l49)), rfl, hm⟩⟩)))))))))
       iterate 26 (refine .u ?_)
       exact Agree.refl _
      ·replace hm := bf hm hc54
       refine Mw.ps hc54 rfl rfl (Mw.ps hc54 rfl rfl (Mw.ps hc54 rfl rfl (Mw.ps hc54 rfl rfl (Mw.ps hc54 rfl rfl (Mw.ps hc54 rfl rfl (Mw.ps hc54 rfl rfl (Mw.ps hc54 rfl rfl (Mw.ps hc54 rfl rfl (Mw.gp hc53 rfl rfl rfl rfl rfl (fun _ => R.pk hc54 rfl (v := vB false) rfl) (Mw.p rfl rfl (fun _ => R.pk hc53 rfl (v := vB false) rfl) (Mw.nil (⟨?_, ⟨false, W49, rfl, (l34.trans (l40.trans l49)), rfl, hm⟩⟩))))))))))))
       iterate 26 (refine .u ?_)
       exact Agree.refl _
  ·replace hm := bf hm hc14
   refine Cw.exit ?_
   rw [hK10] at hm
   refine Cw.seq (Cw.region (Lw.g (vB true) rfl (Lw.nil ?_)))
   cases hm
   exact Cw.ret (ret1 rfl (Res.mk a12 rfl))

theorem p84 {W : CW} {K : List Nat} {x0 : Vm.Repo} {v0_0_ : Value} {v0_1_ : Value} {x1 : List Vm.Head} {v1_ : Value} {r : Bool} (h0 : Rd W K [v0_0_, v0_1_] x0) (h1 : Rd W K [v1_] x1) (hm : Vm.impl_headsOk x0 x1 = some r) : CallR Tryd.prog 84 [.agg [v0_0_, v0_1_].toArray, v1_].toArray W.w (Res W [] fun W' v => v = vB r) :=
 (c84 (V := W.view K []) (h0.view _) (h1.view _) hm).ad (fk 0) fun _ _ e => e

theorem c33 {V : CW} {x0 : Vm.Repo} {v0_0_ : Value} {v0_1_ : Value} {r : Bool} (h0 : Rd V [0] [v0_0_, v0_1_] x0) (h99 : Gl 2 V [0]) (hm : Vm.impl_RepoOk x0 = some r) : CallR Tryd.prog 33 [.agg [v0_0_, v0_1_].toArray].toArray V.w (Res V LL fun Wf v => v = vB r) := by
 unfold Vm.impl_RepoOk at hm
 obtain ⟨w0_0, w0_1, he0, h0_0, h0_1⟩ := Repo.split h0
 simp only [List.cons.injEq, and_true, true_and] at he0
 obtain ⟨rfl, rfl⟩ := he0
 obtain ⟨W0, hW0⟩ : ∃ W, W = V := ⟨V, rfl⟩
 subst hW0
 refine CallR.of Tryd.func33 rfl rfl rfl rfl (Cw.seq (Cw.region (Lw.t rfl (T.box 2 (v := .agg [v0_0_, v0_1_].toArray) (cs := [v0_0_, v0_1_]) rfl rfl) ?_)))
 rintro _ _ ⟨g1, W1, rfl, rfl, l1, b1⟩
 have a2 := l1.o
 refine Lw.g (vB false) rfl (Lw.nil (Cw.seq (Cw.seq (Cw.region (Lw.fa rfl (Lw.r rfl (R.ld (v := v0_0_) rfl rfl (b1.cell rfl)) (Lw.ln x0.Commits (h0_0.ul a2) rfl (Lw.gt rfl (Lw.nil (Cw.cond (b := decide ((16 : Int) < ((x0.Commits.length : Int) : Int))) rfl (fun hc4 => ?_) (fun hc4 => ?_)))))))))))
 ·replace hm := bt hm hc4
  refine Cw.seq (Cw.region (Lw.g (vB false) rfl (Lw.nil ?_)))
  cases hm
  exact Cw.ret (ret1 rfl (Res.mk a2 rfl))
 ·replace hm := bf hm hc4
  refine Cw.skip (Cw.seq (Cw.seq (Cw.region (Lw.fa rfl (Lw.r rfl (R.ld (v := v0_0_) rfl rfl (b1.cell rfl)) (Lw.ln x0.Commits (h0_0.ul a2) rfl (Lw.m (vI 0) rfl (Lw.nil (Cw.block ?_)))))))))
  obtain ⟨K11, hK11, hm⟩ := jn_e hm
  refine Cw.loop 14 65 [2, 3, 4, 6, 14] (fun m l w => ∃ (y5 : Bool) (y9 : Int) (j6 j7 j8 : Value) (W10 : CW), W10.w = w ∧ Le [3] W1 W10 ∧ l = [vB y5, j6, j7, j8, vI y9] ∧ Vm.impl_RepoOk_l1 x0 K11 m y5 y9 = some r) (((x0.Commits.length : Int) - 0).toNat + 1) ⟨false, 0, undef, undef, undef, W1, rfl, Le.refl _ _, rfl, hm⟩ ?_
  rintro m12 _ _ σ ⟨y5, y9, j6, j7, j8, W10, rfl, l10, rfl, hm⟩
  obtain _ | m12 := m12
  ·cases hm
  unfold Vm.impl_RepoOk_l1 at hm
  have a13 := a2.t l10 rfl
  refine Cw.seq (Cw.region (Lw.lt rfl (Lw.nil (Cw.seq (Cw.cond (b := decide ((y9 : Int) < ((x0.Commits.length : Int) : Int))) rfl (fun hc15 => ?_) (fun hc15 => ?_))))))
  ·replace hm := bt hm hc15
   refine Cw.skip (Cw.seq (Cw.block (Cw.seq (Cw.region (Lw.m (vI y9) rfl ?_)))))
   obtain ⟨u16, e17, hm⟩ := ob hm
   refine Lw.r rfl (R.ix (α := Commit) (h0_0.ul a13) e17 rfl rfl rfl) ?_
   obtain ⟨x19, c20, _, r21⟩ := ((h0_0.ul a13).at_ e17).cells
   obtain ⟨v22, v24, rfl, r23, r25⟩ := Commit.split r21
   refine Lw.r rfl (R.lda c20 rfl rfl) (Lw.t rfl (T.alloc 3 (cs := [.slice none 0 0, vS ([] : Str), .slice none 0 0]) rfl) ?_)
   rintro _ _ ⟨g26, W26, rfl, rfl, l26, b26⟩
   have a27 := l26.o
   refine Lw.g (vI y9) rfl (Lw.u (T.sta (vs := [v22, vS u16.Who, v24]) b26 rfl rfl (oc_cons r23.oc (oc_cons rfl (oc_cons r25.oc oc_nil))) rfl rfl) ?_)
   rintro _ _ ⟨W29, rfl, l29, b29⟩
   have a30 := l29.s rfl
   refine Lw.nil (Cw.seq ?_)
   obtain ⟨K34, hK34, hm⟩ := jn_e hm
   refine Cw.join 19 51 [51] (fun l w => ∃ (y32 : Bool) (W33 : CW), W33.w = w ∧ Le [] W29 W33 ∧ l = [vB y32] ∧ K34 y32 = some r) ?_ ?_
   ·rintro _ _ σ ⟨y32, W33, rfl, l33, rfl, hm⟩
    rw [hK34] at hm
    have a35 := l33.o
    refine Cw.cond (b := y32) rfl (fun hc38 => ?_) (fun hc38 => ?_)
    ·replace hm := bt hm hc38
     refine Cw.seq (Cw.region (Lw.g (vB false) rfl (Lw.nil ?_)))
     cases hm
     exact Cw.ret (ret1 rfl (Res.mk (((a13.trans a27).trans a30).trans a35) rfl))
    ·replace hm := bf hm hc38
     refine Cw.skip (Cw.seq (Cw.region (Lw.fa rfl (Lw.r rfl (R.ld (v := v22) rfl rfl ((b29.up l33 rfl).cell rfl)) (Lw.ln u16.Parents (r23.ul ((a27.trans a30).trans a35)) rfl (Lw.m (vI 0) rfl (Lw.nil (Cw.block ?_))))))))
     obtain ⟨K44, hK44, hm⟩ := jn_e hm
     refine Cw.loop 55 64 [2, 6, 55] (fun m l w => ∃ (y40 : Bool) (y42 : Int) (j41 : Value) (W43 : CW), W43.w = w ∧ Le [] W33 W43 ∧ l = [vB y40, j41, vI y42] ∧ Vm.impl_RepoOk_l2 y9 u16 K44 m y40 y42 = some r) (((u16.Parents.length : Int) - 0).toNat + 1) ⟨y5, 0, j8, W33, rfl, Le.refl _ _, rfl, hm⟩ ?_
     rintro m45 _ _ σ ⟨y40, y42, j41, W43, rfl, l43, rfl, hm⟩
     obtain _ | m45 := m45
     ·cases hm
     unfold Vm.impl_RepoOk_l2 at hm
     have a46 := l43.o
     refine Cw.seq (Cw.region (Lw.lt rfl (Lw.nil (Cw.seq (Cw.cond (b := decide ((y42 : Int) < ((u16.Parents.length : Int) : Int))) rfl (fun hc49 => ?_) (fun hc49 => ?_))))))
     ·replace hm := bt hm hc49
      refine Cw.skip (Cw.seq (Cw.block (Cw.seq (Cw.region ?_))))
      obtain ⟨u50, e51, hm⟩ := ob hm
      have s52 := r23.ul (((a27.trans a30).trans a35).trans a46)
      refine Lw.r rfl (R.ix (α := Int) s52 e51 rfl rfl rfl) (Lw.r rfl (R.ld rfl rfl (s52.at_ e51).int) (Lw.g (vI u50) rfl (Lw.nil (Cw.seq (Cw.region (Lw.m (vI u50) rfl (Lw.m (vI y9) rfl (Lw.sub rfl ?_))))))))
      obtain ⟨z53, e54, hm⟩ := ob hm
      refine Lw.t rfl (T.call rfl (p83 (K := [0])   e54)) ?_
      rintro _ _ ⟨W55, rfl, l55, rfl⟩
      have a56 := ((((a13.trans a27).trans a30).trans a35).trans a46).n l55
      refine Lw.r rfl (R.not rfl) (Lw.nil (Cw.cond (b := (!z53)) rfl (fun hc59 => ?_) (fun hc59 => ?_)))
      ·replace hm := bt hm hc59
       refine Cw.seq (Cw.region (Lw.g (vB false) rfl (Lw.nil ?_)))
       cases hm
       exact Cw.ret (ret1 rfl (Res.mk a56 rfl))
      ·replace hm := bf hm hc59
       refine Cw.skip (Cw.region (Lw.add rfl (Lw.m (vI (w64 (y42 + 1))) rfl (Lw.nil (⟨?_, m45, Nat.lt_succ_self m45, ⟨y40, w64 (y42 + 1), vI u50, W55, rfl, (l43.trans l55), rfl, hm⟩⟩)))))
       iterate 14 (refine .u ?_)
       exact Agree.base
     ·replace hm := bf hm hc49
      refine Cw.exit ?_
      rw [hK44] at hm
      refine Cw.region (Lw.add rfl (Lw.m (vI (w64 (y9 + 1))) rfl (Lw.nil (⟨?_, m12, Nat.lt_succ_self m12, ⟨y40, w64 (y9 + 1), vI y9, ptr (bx g26), j41, W43, rfl, (l10.trans ((l26.sub rfl).trans (l29.trans ((l33.sub rfl).trans (l43.sub rfl))))), rfl, hm⟩⟩))))
      iterate 6 (refine .u ?_)
      refine Agree.ov0 rfl ?_
      iterate 5 (refine .u ?_)
      refine Agree.ov0 rfl ?_
      iterate 11 (refine .u ?_)
      exact Agree.base
   ·refine Cw.draw [] [(0, 0), (1, 1), (2, 0), (3, 0), (4, 0), (5, 0), (6, 1), (7, 0), (8, 0), (9, 0), (10, 0), (11, 1), (12, 0), (13, 1), (14, 0), (15, 1), (16, 0), (17, 1), (18, 0), (19, 0), (20, 0), (21, 0), (22, 0), (23, 1), (24, 2), (25, 0), (26, 0), (27, 0), (28, 0), (29, 1), (30, 2), (31, 0), (32, 0)] mixed (by kernel_rfl) fun W60 l60 => ?_
    have a61 := l60.o
    have b63 := b29.up l60 rfl
    have s64 := r23.ul ((a27.trans a30).trans a61)
    refine Mw.p rfl rfl (fun _ => R.fa rfl) (Mw.q rfl rfl (fun _ c => R.ld (v := v22) rfl rfl (b63.clc rfl rfl c)) (Mw.p rfl rfl (fun _ => lenR (xs := u16.Parents) s64 rfl) (Mw.p rfl rfl (fun _ => R.gt rfl rfl) (Mw.p rfl rfl (fun _ => R.mv (v := vB (decide ((2 : Int) < ((u16.Parents.length : Int) : Int)))) rfl) (bsplit (decide ((2 : Int) < ((u16.Parents.length : Int) : Int))) (fun hc65 => ?_) (fun hc65 => ?_))))))
    ·replace hm := bt hm hc65
     refine Mw.ps hc65 rfl rfl (Mw.ps hc65 rfl rfl (Mw.ps hc65 rfl rfl (Mw.ps hc65 rfl rfl (Mw.ps hc65 rfl rfl (Mw.pu rfl rfl (Mw.pu rfl rfl (Mw.pu rfl rfl (Mw.pu rfl rfl (Mw.pu rfl rfl (Mw.pu rfl rfl (Mw.pu rfl rfl (Mw.pu rfl rfl (Mw.pu rfl rfl (Mw.ps hc65 rfl rfl (Mw.p rfl rfl (fun _ => R.pk hc65 rfl (v := vB true) rfl) (Mw.p rfl rfl (fun _ => R.mv (v := vB true) rfl) (Mw.ps rfl rfl rfl (Mw.ps rfl rfl rfl (Mw.ps rfl rfl rfl (Mw.ps rfl rfl rfl (Mw.p rfl rfl (fun _ => R.pk rfl rfl (v := vB true) rfl) (Mw.p rfl rfl (fun _ => R.mv (v := vB true) rfl) (Mw.ps rfl rfl rfl (Mw.ps rfl rfl rfl (Mw.ps rfl rfl rfl (Mw.ps rfl rfl rfl (Mw.p rfl rfl (fun _ => R.pk rfl rfl (v := vB true) rfl) (Mw.nil (⟨?_, ⟨true, W60, rfl, l60, rfl, hm⟩⟩)))))))))))))))))))))))))))))
     iterate 33 (refine .u ?_)
     exact Agree.refl _
    ·replace hm := bf hm hc65
     refine Mw.gp hc65 rfl rfl rfl rfl rfl (fun _ => R.fa rfl) (Mw.gq hc65 rfl rfl rfl rfl rfl (fun _ c => R.ld (v := v22) rfl rfl (b63.clc rfl rfl c)) (Mw.gp hc65 rfl rfl rfl rfl rfl (fun _ => lenR (xs := u16.Parents) s64 rfl) (Mw.gp hc65 rfl rfl rfl rfl rfl (fun _ => R.eq rfl rfl) (Mw.gp hc65 rfl rfl rfl rfl rfl (fun _ => R.mv (v := vB (((u16.Parents.length : Int) : Int) == (2 : Int))) rfl) (bsplit (((u16.Parents.length : Int) : Int) == (2 : Int)) (fun hc66 => ?_) (fun hc66 => ?_))))))
     ·replace hm := bt hm hc66
      refine Mw.gp hc66 rfl rfl rfl rfl rfl (fun _ => R.fa rfl) (Mw.gq hc66 rfl rfl rfl rfl rfl (fun _ c => R.ld (v := v22) rfl rfl (b63.clc rfl rfl c)) ?_)
      obtain ⟨u67, e68, hm⟩ := ob hm
      refine Mw.gp hc66 rfl rfl rfl rfl rfl (fun _ => R.ix (α := Int) s64 e68 rfl rfl rfl) (Mw.gq hc66 rfl rfl rfl rfl rfl (fun _ c => R.ld rfl rfl (cl_cell (s64.at_ e68).1 rfl (s64.at_ e68).int c)) (Mw.gp hc66 rfl rfl rfl rfl rfl (fun _ => R.fa rfl) (Mw.gq hc66 rfl rfl rfl rfl rfl (fun _ c => R.ld (v := v22) rfl rfl (b63.clc rfl rfl c)) ?_)))
      obtain ⟨u69, e70, hm⟩ := ob hm
      refine Mw.gp hc66 rfl rfl rfl rfl rfl (fun _ => R.ix (α := Int) s64 e70 rfl rfl rfl) (Mw.gq hc66 rfl rfl rfl rfl rfl (fun _ c => R.ld rfl rfl (cl_cell (s64.at_ e70).1 rfl (s64.at_ e70).int c)) (Mw.gp hc66 rfl rfl rfl rfl rfl (fun _ => R.eq rfl rfl) (Mw.gp hc65 rfl rfl rfl rfl rfl (fun _ => R.pk hc66 rfl (v := vB ((u67 : Int) == (u69 : Int))) rfl) (Mw.p rfl rfl (fun _ => R.pk hc65 rfl (v := vB ((u67 : Int) == (u69 : Int))) rfl) (Mw.p rfl rfl (fun _ => R.mv (v := vB ((u67 : Int) == (u69 : Int))) rfl) (bsplit ((u67 : Int) == (u69 : Int)) (fun hc71 => ?_) (fun hc71 => ?_)))))))
      ·replace hm := bt hm hc71
       refine Mw.ps hc71 rfl rfl (Mw.ps hc71 rfl rfl (Mw.ps hc71 rfl rfl (Mw.ps hc71 rfl rfl (Mw.p rfl rfl (fun _ => R.pk hc71 rfl (v := vB true) rfl) (Mw.p rfl rfl (fun _ => R.mv (v := vB true) rfl) (Mw.ps rfl rfl rfl (Mw.ps rfl rfl rfl (Mw.ps rfl rfl rfl (Mw.ps rfl rfl rfl (Mw.p rfl rfl (fun _ => R.pk rfl rfl (v := vB true) rfl) (Mw.nil (⟨?_, ⟨true, W60, rfl, l60, rfl, hm⟩⟩))))))))))))
       iterate 33 (refine .u ?_)
       exact Agree.refl _
      ·replace hm := bf hm hc71
       refine Mw.gp hc71 rfl rfl rfl rfl rfl (fun _ => R.fa rfl) (Mw.gq hc71 rfl rfl rfl rfl rfl (fun _ c => R.ld (v := vS u16.Who) rfl rfl (b63.clc rfl rfl c)) ?_)
       obtain ⟨z72, e73, hm⟩ := ob hm
       refine Mw.gt hc71 rfl rfl rfl rfl rfl (T.call rfl (p81 (K := [0])   e73)) ?_
       rintro _ _ ⟨W74, rfl, l74, rfl⟩
       have a75 := l74.o
       refine ⟨⟨_, rfl, (l74.sub (M := []) rfl)⟩, ?_⟩
       refine Mw.gp hc71 rfl rfl rfl rfl rfl (fun _ => R.not rfl) (Mw.p rfl rfl (fun _ => R.pk hc71 rfl (v := vB (!z72)) rfl) (Mw.p rfl rfl (fun _ => R.mv (v := vB (!z72)) rfl) (bsplit (!z72) (fun hc78 => ?_) (fun hc78 => ?_))))
       ·replace hm := bt hm hc78
        refine Mw.ps hc78 rfl rfl (Mw.ps hc78 rfl rfl (Mw.ps hc78 rfl rfl (Mw.ps hc78 rfl rfl (Mw.p rfl rfl (fun _ => R.pk hc78 rfl (v := vB true) rfl) (Mw.nil (⟨?_, ⟨true, W74, rfl, (l60.trans l74), rfl, hm⟩⟩))))))
        iterate 33 (refine .u ?_)
        exact Agree.refl _
       ·replace hm := bf hm hc78
        refine Mw.gp hc78 rfl rfl rfl rfl rfl (fun _ => R.fa rfl) (Mw.gq hc78 rfl rfl rfl rfl rfl (fun _ c => R.ld (v := v24) rfl rfl (b63.clc rfl rfl c)) ?_)
        obtain ⟨z81, e82, hm⟩ := ob hm
        refine Mw.gt hc78 rfl rfl rfl rfl rfl (T.call rfl (p82 (K := [0])  (r25.ul (((a27.trans a30).trans a61).trans a75)) (h99.ul ((((a13.trans a27).trans a30).trans a61).trans a75)) e82)) ?_
        rintro _ _ ⟨W83, rfl, l83, rfl⟩
        refine ⟨⟨_, rfl, ((l74.sub (M := []) rfl).trans (l83.sub (M := []) rfl))⟩, ?_⟩
        refine Mw.gp hc78 rfl rfl rfl rfl rfl (fun _ => R.not rfl) (Mw.p rfl rfl (fun _ => R.pk hc78 rfl (v := vB (!z81)) rfl) (Mw.nil (⟨?_, ⟨(!z81), W83, rfl, (l60.trans (l74.trans l83)), rfl, hm⟩⟩)))
        iterate 33 (refine .u ?_)
        exact Agree.refl _
     ·replace hm := bf hm hc66
      refine Mw.ps hc66 rfl rfl (Mw.ps hc66 rfl rfl (Mw.ps hc66 rfl rfl (Mw.ps hc66 rfl rfl (Mw.ps hc66 rfl rfl (Mw.ps hc66 rfl rfl (Mw.ps hc66 rfl rfl (Mw.ps hc66 rfl rfl (Mw.ps hc66 rfl rfl (Mw.gp hc65 rfl rfl rfl rfl rfl (fun _ => R.pk hc66 rfl (v := vB false) rfl) (Mw.p rfl rfl (fun _ => R.pk hc65 rfl (v := vB false) rfl) (Mw.p rfl rfl (fun _ => R.mv (v := vB false) rfl) (Mw.gp rfl rfl rfl rfl rfl rfl (fun _ => R.fa rfl) (Mw.gq rfl rfl rfl rfl rfl rfl (fun _ c => R.ld (v := vS u16.Who) rfl rfl (b63.clc rfl rfl c)) ?_)))))))))))))
      obtain ⟨z87, e88, hm⟩ := ob hm
      refine Mw.gt rfl rfl rfl rfl rfl rfl (T.call rfl (p81 (K := [0])   e88)) ?_
      rintro _ _ ⟨W89, rfl, l89, rfl⟩
      have a90 := l89.o
      refine ⟨⟨_, rfl, (l89.sub (M := []) rfl)⟩, ?_⟩
      refine Mw.gp rfl rfl rfl rfl rfl rfl (fun _ => R.not rfl) (Mw.p rfl rfl (fun _ => R.pk rfl rfl (v := vB (!z87)) rfl) (Mw.p rfl rfl (fun _ => R.mv (v := vB (!z87)) rfl) (bsplit (!z87) (fun hc93 => ?_) (fun hc93 => ?_))))
      ·replace hm := bt hm hc93
       refine Mw.ps hc93 rfl rfl (Mw.ps hc93 rfl rfl (Mw.ps hc93 rfl rfl (Mw.ps hc93 rfl rfl (Mw.p rfl rfl (fun _ => R.pk hc93 rfl (v := vB true) rfl) (Mw.nil (⟨?_, ⟨true, W89, rfl, (l60.trans l89), rfl, hm⟩⟩))))))
       iterate 33 (refine .u ?_)
       exact Agree.refl _
      ·replace hm := bf hm hc93
       refine Mw.gp hc93 rfl rfl rfl rfl rfl (fun _ => R.fa rfl) (Mw.gq hc93 rfl rfl rfl rfl rfl (fun _ c => R.ld (v := v24) rfl rfl (b63.clc rfl rfl c)) ?_)
       obtain ⟨z96, e97, hm⟩ := ob hm
       refine Mw.gt hc93 rfl rfl rfl rfl rfl (T.call rfl (p82 (K := [0])  (r25.ul (((a27.trans a30).trans a61).trans a90)) (h99.ul ((((a13.trans a27).trans a30).trans a61).trans a90)) e97)) ?_
       rintro _ _ ⟨W98, rfl, l98, rfl⟩
       refine ⟨⟨_, rfl, ((l89.sub (M := []) rfl).trans (l98.sub (M := []) rfl))⟩, ?_⟩
       refine Mw.gp hc93 rfl rfl rfl rfl rfl (fun _ => R.not rfl) (Mw.p rfl rfl (fun _ => R.pk hc93 rfl (v := vB (!z96)) rfl) (Mw.nil (⟨?_, ⟨(!z96), W98, rfl, (l60.trans (l89.trans l98)), rfl, hm⟩⟩)))
       iterate 33 (refine .u ?_)
       exact Agree.refl _
  ·replace hm := bf hm hc15
   refine Cw.exit ?_
   rw [hK11] at hm
   refine Cw.seq (Cw.region (Lw.r rfl (R.lda (cs := [v0_0_, v0_1_]) (b1.up l10 rfl).cells rfl rfl) (Lw.fa rfl (Lw.r rfl (R.ld (v := v0_1_) rfl rfl ((b1.up l10 rfl).cell rfl)) ?_))))
   obtain ⟨z104, e105, hm⟩ := ob hm
   refine Lw.t rfl (T.call rfl (p84 (K := [0])  (Repo.rd (K := [0]) x0.Commits x0.Heads (h0_0.ul a13) (h0_1.ul a13)) (h0_1.ul a13) e105)) ?_
   rintro _ _ ⟨W106, rfl, l106, rfl⟩
   have a107 := a13.n l106
   refine Lw.g (vB z104) rfl (Lw.nil ?_)
   cases hm
   exact Cw.ret (ret1 rfl (Res.mk a107 rfl))

theorem p33 {W : CW} {K : List Nat} {x0 : Vm.Repo} {v0_0_ : Value} {v0_1_ : Value} {r : Bool} (h0 : Rd W K [v0_0_, v0_1_] x0) (h99 : Gl 2 W K) (hm : Vm.impl_RepoOk x0 = some r) : CallR Tryd.prog 33 [.agg [v0_0_, v0_1_].toArray].toArray W.w (Res W [] fun W' v => v = vB r) :=
 (c33 (V := W.view K []) (h0.view _) (h99.view _) hm).ad (fk 0) fun _ _ e => e

theorem c67 {V : CW} {x0 : Vm.Repo} {v0_0_ : Value} {v0_1_ : Value} {x1 : Str} {r : Int} (h0 : Rd V [0] [v0_0_, v0_1_] x0) (hm : Vm.impl_Repo_at x0 x1 = some r) : CallR Tryd.prog 67 [.agg [v0_0_, v0_1_].toArray, vS x1].toArray V.w (Res V LL fun Wf v => v = vI r) := by
 unfold Vm.impl_Repo_at at hm
 obtain ⟨w0_0, w0_1, he0, h0_0, h0_1⟩ := Repo.split h0
 simp only [List.cons.injEq, and_true, true_and] at he0
 obtain ⟨rfl, rfl⟩ := he0
 obtain ⟨W0, hW0⟩ : ∃ W, W = V := ⟨V, rfl⟩
 subst hW0
 refine CallR.of Tryd.func67 rfl rfl rfl rfl (Cw.seq (Cw.region (Lw.t rfl (T.box 2 (v := .agg [v0_0_, v0_1_].toArray) (cs := [v0_0_, v0_1_]) rfl rfl) ?_)))
 rintro _ _ ⟨g1, W1, rfl, rfl, l1, b1⟩
 have a2 := l1.o
 refine Lw.g (vI 0) rfl (Lw.nil (Cw.seq (Cw.seq (Cw.region (Lw.fa rfl (Lw.r rfl (R.ld (v := v0_1_) rfl rfl (b1.cell rfl)) (Lw.ln x0.Heads (h0_1.ul a2) rfl (Lw.m (vI 0) rfl (Lw.nil (Cw.block ?_))))))))))
 obtain ⟨K8, hK8, hm⟩ := jn_e hm
 refine Cw.loop 10 20 [4, 6, 10] (fun m l w => ∃ (y4 : Int) (y6 : Int) (j5 : Value) (W7 : CW), W7.w = w ∧ Le [3] W1 W7 ∧ l = [vI y4, j5, vI y6] ∧ Vm.impl_Repo_at_l1 x0 x1 K8 m y4 y6 = some r) (((x0.Heads.length : Int) - 0).toNat + 1) ⟨0, 0, undef, W1, rfl, Le.refl _ _, rfl, hm⟩ ?_
 rintro m9 _ _ σ ⟨y4, y6, j5, W7, rfl, l7, rfl, hm⟩
 obtain _ | m9 := m9
 ·cases hm
 unfold Vm.impl_Repo_at_l1 at hm
 have a10 := a2.t l7 rfl
 refine Cw.seq (Cw.region (Lw.lt rfl (Lw.nil (Cw.seq (Cw.cond (b := decide ((y6 : Int) < ((x0.Heads.length : Int) : Int))) rfl (fun hc12 => ?_) (fun hc12 => ?_))))))
 ·replace hm := bt hm hc12
  refine Cw.skip (Cw.seq (Cw.block (Cw.seq (Cw.region ?_))))
  obtain ⟨u13, e14, hm⟩ := ob hm
  refine Lw.r rfl (R.ix (α := Head) (h0_1.ul a10) e14 rfl rfl rfl) ?_
  obtain ⟨x16, c17, _, r18⟩ := ((h0_1.ul a10).at_ e14).cells
  obtain rfl := Head.split r18
  refine Lw.r rfl (R.lda c17 rfl rfl) (Lw.t rfl (T.alloc 3 (cs := [vS ([] : Str), vI 0]) rfl) ?_)
  rintro _ _ ⟨g19, W19, rfl, rfl, l19, b19⟩
  have a20 := a10.n l19
  refine Lw.u (T.sta (vs := [vS u13.Name, vI u13.At]) b19 rfl rfl (oc_cons rfl (oc_cons rfl oc_nil)) rfl rfl) ?_
  rintro _ _ ⟨W22, rfl, l22, b22⟩
  have a23 := a20.t l22 rfl
  refine Lw.nil (Cw.seq (Cw.region (Lw.fa rfl (Lw.r rfl (R.ld (v := vS u13.Name) rfl rfl (b22.cell rfl)) (Lw.m (vS x1) rfl (Lw.seq rfl (Lw.nil (Cw.cond (b := (u13.Name == x1)) rfl (fun hc25 => ?_) (fun hc25 => ?_)))))))))
  ·replace hm := bt hm hc25
   refine Cw.seq (Cw.region (Lw.fa rfl (Lw.r rfl (R.ld (v := vI u13.At) rfl rfl (b22.cell rfl)) (Lw.g (vI u13.At) rfl (Lw.nil ?_)))))
   cases hm
   exact Cw.ret (ret1 rfl (Res.mk a23 rfl))
  ·replace hm := bf hm hc25
   refine Cw.skip (Cw.region (Lw.add rfl (Lw.m (vI (w64 (y6 + 1))) rfl (Lw.nil (⟨?_, m9, Nat.lt_succ_self m9, ⟨y4, w64 (y6 + 1), ptr (bx g19), W22, rfl, (l7.trans ((l19.sub rfl).trans l22)), rfl, hm⟩⟩)))))
   iterate 13 (refine .u ?_)
   exact Agree.base
 ·replace hm := bf hm hc12
  refine Cw.exit ?_
  rw [hK8] at hm
  refine Cw.seq (Cw.region (Lw.g (vI (-1)) rfl (Lw.nil ?_)))
  cases hm
  exact Cw.ret (ret1 rfl (Res.mk a10 rfl))

theorem p67 {W : CW} {K : List Nat} {x0 : Vm.Repo} {v0_0_ : Value} {v0_1_ : Value} {x1 : Str} {r : Int} (h0 : Rd W K [v0_0_, v0_1_] x0) (hm : Vm.impl_Repo_at x0 x1 = some r) : CallR Tryd.prog 67 [.agg [v0_0_, v0_1_].toArray, vS x1].toArray W.w (Res W [] fun W' v => v = vI r) :=
 (c67 (V := W.view K []) (h0.view _) hm).ad (fk 0) fun _ _ e => e

theorem c127 {V : CW} {x0 : List Str} {v0_ : Value} {r : (List Str)} (h0 : Rd V [0] [v0_] x0) (hm : Vm.impl_copyText x0 = some r) : CallR Tryd.prog 127 [v0_].toArray V.w (Res V LL fun Wf v => ∃ (u0 : Value), v = u0 ∧ OwS Wf LL [] [u0] r) := by
 unfold Vm.impl_copyText at hm
 obtain ⟨W0, hW0⟩ : ∃ W, W = V := ⟨V, rfl⟩
 subst hW0
 refine CallR.of Tryd.func127 rfl rfl rfl rfl (Cw.seq (Cw.region (Lw.g (.slice none 0 0) rfl (Lw.nil (Cw.seq (Cw.region (Lw.t rfl (T.lit0 (α := Str) 2 []) ?_)))))))
 rintro v1 _ ⟨W1, rfl, l1, o1⟩
 have a2 := l1.o
 refine Lw.m v0_ rfl ?_
 obtain ⟨q3, e4, hm⟩ := ob hm
 refine Lw.t rfl (T.appP (α := Str) o1 (h0.ul a2) rfl rfl e4) ?_
 rintro v5 _ ⟨W5, rfl, l5, o5⟩
 have a7 := a2.t l5 rfl
 refine Lw.g v5 rfl (Lw.nil ?_)
 cases hm
 exact Cw.ret (ret1 rfl (Res.mk a7 ⟨v5, rfl, o5.s.sub rfl rfl⟩))

theorem p127 {W : CW} {K : List Nat} {x0 : List Str} {v0_ : Value} {k0 : Nat} {r : (List Str)} (h0 : Rd W K [v0_] x0) (hm : Vm.impl_copyText x0 = some r) : CallR Tryd.prog 127 [v0_].toArray W.w (Res W [] fun W' v => ∃ (u0 : Value), v = u0 ∧ Ow W' k0 [] [u0] r) :=
 (c127 (V := W.view K []) (h0.view _) hm).ad (fk k0) fun _ _ ⟨u0, e, f0⟩ => ⟨u0, e, f0.back (fk_LL _)⟩

theorem c91 {V : CW} {x0 : List Vm.File} {v0_ : Value} {r : (List Vm.File)} (h0 : Rd V [0] [v0_] x0) (hm : Vm.impl_copyTree x0 = some r) : CallR Tryd.prog 91 [v0_].toArray V.w (Res V LL fun Wf v => ∃ (u0 : Value), v = u0 ∧ OwS Wf LL [] [u0] r) := by
 unfold Vm.impl_copyTree at hm
 obtain ⟨W0, hW0⟩ : ∃ W, W = V := ⟨V, rfl⟩
 subst hW0
 refine CallR.of Tryd.func91 rfl rfl rfl rfl (Cw.seq (Cw.region (Lw.g (.slice none 0 0) rfl (Lw.nil (Cw.seq (Cw.region (Lw.g (.slice none 0 0) rfl (Lw.nil (Cw.seq (Cw.seq (Cw.region (Lw.m v0_ rfl (Lw.ln x0 h0 rfl (Lw.m (vI 0) rfl (Lw.nil (Cw.block ?_))))))))))))))))
 obtain ⟨K7, hK7, hm⟩ := jn_e hm
 refine Cw.loop 8 21 [3, 5, 8] (fun m l w => ∃ (y1 : List Vm.File) (y5 : Int) (v2 j4 : Value) (W6 : CW), W6.w = w ∧ Le [2, 3, 4] W0 W6 ∧ l = [v2, j4, vI y5] ∧ Ow W6 2 [] [v2] y1 ∧ Vm.impl_copyTree_l1 x0 K7 m y1 y5 = some r) (((x0.length : Int) - 0).toNat + 1) ⟨([] : List File), 0, .slice none 0 0, undef, W0, rfl, Le.refl _ _, rfl, owN 2 [], hm⟩ ?_
 rintro m8 _ _ σ ⟨y1, y5, v2, j4, W6, rfl, l6, rfl, o3, hm⟩
 obtain _ | m8 := m8
 ·cases hm
 unfold Vm.impl_copyTree_l1 at hm
 have a9 := l6.s rfl
 refine Cw.seq (Cw.region (Lw.lt rfl (Lw.nil (Cw.seq (Cw.cond (b := decide ((y5 : Int) < ((x0.length : Int) : Int))) rfl (fun hc10 => ?_) (fun hc10 => ?_))))))
 ·replace hm := bt hm hc10
  refine Cw.skip (Cw.seq (Cw.block (Cw.seq (Cw.region ?_))))
  obtain ⟨u11, e12, hm⟩ := ob hm
  refine Lw.r rfl (R.ix (α := File) (h0.ul a9) e12 rfl rfl rfl) ?_
  obtain ⟨x14, c15, _, r16⟩ := ((h0.ul a9).at_ e12).cells
  obtain ⟨v17, rfl, r18⟩ := File.split r16
  refine Lw.r rfl (R.lda c15 rfl rfl) (Lw.t rfl (T.alloc 3 (cs := [vS ([] : Str), .slice none 0 0]) rfl) ?_)
  rintro _ _ ⟨g19, W19, rfl, rfl, l19, b19⟩
  have a20 := l19.o
  refine Lw.u (T.sta (vs := [vS u11.Path, v17]) b19 rfl rfl (oc_cons rfl (oc_cons r18.oc oc_nil)) rfl rfl) ?_
  rintro _ _ ⟨W22, rfl, l22, b22⟩
  have a23 := a20.t l22 rfl
  refine Lw.nil (Cw.draw [2, 4] [(0, 0), (1, 0), (2, 1), (3, 0), (4, 1), (5, 2), (6, 0), (7, 2), (8, 2), (9, 0)] mixed (by kernel_rfl) fun W25 l25 => ?_)
  have a26 := a23.n l25
  refine Mw.p rfl rfl (fun _ => R.mv (v := v2) rfl) (Mw.p rfl rfl (fun _ => R.fa rfl) (Mw.q rfl rfl (fun _ c => R.ld (v := vS u11.Path) rfl rfl ((b22.up l25 rfl).clc rfl rfl c)) (Mw.p rfl rfl (fun _ => R.fa rfl) (Mw.q rfl rfl (fun _ c => R.ld (v := v17) rfl rfl ((b22.up l25 rfl).clc rfl rfl c)) ?_))))
  obtain ⟨z30, e31, hm⟩ := ob hm
  refine Mw.t rfl rfl (T.call rfl (p127 (K := [0]) (k0 := 4) (r18.ul a26) e31)) ?_
  rintro v0_32 _ ⟨W32, rfl, l32, ⟨_, rfl, f32_0⟩⟩
  refine ⟨⟨_, rfl, (l32.sub (M := [2, 4]) rfl)⟩, ?_⟩
  refine Mw.p rfl rfl (fun _ => R.bd (zs := [vS ([] : Str), .slice none 0 0]) (cs := [vS u11.Path, v0_32]) [(0, vS u11.Path), (1, v0_32)] rfl rfl rfl (bp_cons rfl rfl (bp_cons f32_0.oc rfl bp_nil))) (Mw.t rfl rfl (T.bs 5 [.agg [vS u11.Path, v0_32].toArray] (cs := [vS u11.Path, v0_32]) rfl rfl (bsA rfl)) ?_)
  rintro _ _ ⟨g36, W36, rfl, rfl, l36, b36⟩
  refine ⟨⟨_, rfl, ((l32.sub (M := [2, 4]) rfl).trans (l36.sub (M := [2, 4]) rfl))⟩, ?_⟩
  obtain ⟨q41, e42, hm⟩ := ob hm
  refine Mw.t rfl rfl (T.app1 (α := File) (J := [4]) (K' := []) (((((o3.up l19 rfl).up l22 rfl).up l25 rfl).up l32 rfl).up l36 rfl) b36 (File.own u11.Path z30 (f32_0.up l36 rfl).s) rfl rfl e42) ?_
  rintro v43 _ ⟨W43, rfl, l43, o43⟩
  refine ⟨⟨_, rfl, ((l32.sub (M := [2, 4]) rfl).trans ((l36.sub (M := [2, 4]) rfl).trans (l43.sub (M := [2, 4]) rfl)))⟩, ?_⟩
  refine Mw.p rfl rfl (fun _ => R.as (v := v43) rfl) (Mw.nil (Cw.region (Lw.add rfl (Lw.m (vI (w64 (y5 + 1))) rfl (Lw.nil (⟨?_, m8, Nat.lt_succ_self m8, ⟨q41, w64 (y5 + 1), v43, ptr (bx g19), W43, rfl, (l6.trans ((l19.sub rfl).trans ((l22.sub rfl).trans ((l25.sub rfl).trans ((l32.sub rfl).trans ((l36.sub rfl).trans (l43.sub rfl))))))), rfl, o43, hm⟩⟩))))))
  iterate 19 (refine .u ?_)
  exact Agree.base
 ·replace hm := bf hm hc10
  refine Cw.exit ?_
  rw [hK7] at hm
  refine Cw.seq (Cw.region (Lw.m v2 rfl (Lw.g v2 rfl (Lw.nil ?_))))
  cases hm
  exact Cw.ret (ret1 rfl (Res.mk a9 ⟨v2, rfl, o3.s.sub rfl rfl⟩))

theorem p91 {W : CW} {K : List Nat} {x0 : List Vm.File} {v0_ : Value} {k0 : Nat} {r : (List Vm.File)} (h0 : Rd W K [v0_] x0) (hm : Vm.impl_copyTree x0 = some r) : CallR Tryd.prog 91 [v0_].toArray W.w (Res W [] fun W' v => ∃ (u0 : Value), v = u0 ∧ Ow W' k0 [] [u0] r) :=
 (c91 (V := W.view K []) (h0.view _) hm).ad (fk k0) fun _ _ ⟨u0, e, f0⟩ => ⟨u0, e, f0.back (fk_LL _)⟩

theorem c58 {V : CW} {x0 : Vm.Repo} {v0_0_ : Value} {v0_1_ : Value} {r : Vm.Repo} (h0 : Rd V [0] [v0_0_, v0_1_] x0) (hm : Vm.impl_Repo_own x0 = some r) : CallR Tryd.prog 58 [.agg [v0_0_, v0_1_].toArray].toArray V.w (Res V LL fun Wf v => ∃ (u0_0 : Value) (u0_1 : Value), v = .agg [u0_0, u0_1].toArray ∧ OwS Wf [31] [] [u0_0] r.Commits ∧ OwS Wf [32] [] [u0_1] r.Heads) := by
 unfold Vm.impl_Repo_own at hm
 obtain ⟨w0_0, w0_1, he0, h0_0, h0_1⟩ := Repo.split h0
 simp only [List.cons.injEq, and_true, true_and] at he0
 obtain ⟨rfl, rfl⟩ := he0
 obtain ⟨W0, hW0⟩ : ∃ W, W = V := ⟨V, rfl⟩
 subst hW0
 refine CallR.of Tryd.func58 rfl rfl rfl rfl (Cw.seq (Cw.region (Lw.t rfl (T.box 2 (v := .agg [v0_0_, v0_1_].toArray) (cs := [v0_0_, v0_1_]) rfl rfl) ?_)))
 rintro _ _ ⟨g1, W1, rfl, rfl, l1, b1⟩
 have a2 := l1.o
 refine Lw.t rfl (T.alloc 3 (cs := [.slice none 0 0, .slice none 0 0]) rfl) ?_
 rintro _ _ ⟨g3, W3, rfl, rfl, l3, b3⟩
 have a4 := a2.n l3
 refine Lw.nil (Cw.seq (Cw.region (Lw.t rfl (T.lit0 (α := Head) 4 []) ?_)))
 rintro v6 _ ⟨W6, rfl, l6, o6⟩
 have a7 := a4.n l6
 have b8 := (b1.up l3 rfl).up l6 rfl
 refine Lw.fa rfl (Lw.r rfl (R.ld (v := v0_1_) rfl rfl (b8.cell rfl)) ?_)
 obtain ⟨q10, e11, hm⟩ := ob hm
 refine Lw.t rfl (T.appP (α := Head) o6 (h0_1.ul a7) rfl rfl e11) ?_
 rintro v12 _ ⟨W12, rfl, l12, o12⟩
 have a14 := a7.t l12 rfl
 refine Lw.r rfl (R.bd (zs := [.slice none 0 0, .slice none 0 0]) (cs := [.slice none 0 0, v12]) [(1, v12)] rfl rfl rfl (bp_cons o12.oc rfl bp_nil)) (Lw.t rfl (T.alloc 5 (cs := [.slice none 0 0, .slice none 0 0]) rfl) ?_)
 rintro _ _ ⟨g17, W17, rfl, rfl, l17, b17⟩
 have a18 := a14.n l17
 refine Lw.u (T.sta (vs := [.slice none 0 0, v12]) b17 rfl rfl (oc_cons rfl (oc_cons (o12.up l17 rfl).oc oc_nil)) rfl rfl) ?_
 rintro _ _ ⟨W22, rfl, l22, b22⟩
 have a23 := a18.t l22 rfl
 refine Lw.nil (Cw.seq (Cw.seq (Cw.region (Lw.fa rfl (Lw.r rfl (R.ld (v := v0_0_) rfl rfl ((((b8.up l12 rfl).up l17 rfl).up l22 rfl).cell rfl)) (Lw.ln x0.Commits (h0_0.ul a23) rfl (Lw.m (vI 0) rfl (Lw.nil (Cw.block ?_)))))))))
 obtain ⟨K38, hK38, hm⟩ := jn_e hm
 refine Cw.loop 14 33 [5, 14] (fun m l w => ∃ (y29 : Int) (y30 : List Vm.Commit) (y33 : List Vm.Head) (j28 v31 v34 : Value) (W37 : CW), W37.w = w ∧ Le [5, 6, 7, 8, 9] W22 W37 ∧ l = [j28, vI y29] ∧ Ow W37 6 [] [v31] y30 ∧ Ow W37 4 [] [v34] y33 ∧ Bx W37 5 g17 [v31, v34] ∧ Vm.impl_Repo_own_l1 x0 K38 m y29 y30 y33 = some r) (((x0.Commits.length : Int) - 0).toNat + 1) ⟨0, ([] : List Commit), q10, undef, .slice none 0 0, v12, W22, rfl, Le.refl _ _, rfl, owN 6 [], ((o12.up l17 rfl).up l22 rfl), b22, hm⟩ ?_
 rintro m39 _ _ σ ⟨y29, y30, y33, j28, v31, v34, W37, rfl, l37, rfl, o32, o35, b36, hm⟩
 obtain _ | m39 := m39
 ·cases hm
 unfold Vm.impl_Repo_own_l1 at hm
 have a40 := a23.t l37 rfl
 refine Cw.seq (Cw.region (Lw.lt rfl (Lw.nil (Cw.seq (Cw.cond (b := decide ((y29 : Int) < ((x0.Commits.length : Int) : Int))) rfl (fun hc43 => ?_) (fun hc43 => ?_))))))
 ·replace hm := bt hm hc43
  refine Cw.skip (Cw.seq (Cw.block (Cw.seq (Cw.region ?_))))
  obtain ⟨u44, e45, hm⟩ := ob hm
  refine Lw.r rfl (R.ix (α := Commit) (h0_0.ul a40) e45 rfl rfl rfl) ?_
  obtain ⟨x47, c48, _, r49⟩ := ((h0_0.ul a40).at_ e45).cells
  obtain ⟨v50, v52, rfl, r51, r53⟩ := Commit.split r49
  refine Lw.r rfl (R.lda c48 rfl rfl) (Lw.t rfl (T.alloc 7 (cs := [.slice none 0 0, vS ([] : Str), .slice none 0 0]) rfl) ?_)
  rintro _ _ ⟨g54, W54, rfl, rfl, l54, b54⟩
  have a55 := l54.o
  refine Lw.u (T.sta (vs := [v50, vS u44.Who, v52]) b54 rfl rfl (oc_cons r51.oc (oc_cons rfl (oc_cons r53.oc oc_nil))) rfl rfl) ?_
  rintro _ _ ⟨W61, rfl, l61, b61⟩
  have a62 := a55.t l61 rfl
  refine Lw.nil (Cw.draw [6, 8, 9] [(0, 0), (1, 1), (3, 0), (4, 1), (6, 0), (7, 1), (8, 0), (9, 1), (2, 2), (5, 2), (10, 2), (11, 0), (12, 2), (13, 2), (14, 0), (15, 3)] mixed (by kernel_rfl) fun W68 l68 => ?_)
  have a69 := a62.n l68
  have b74 := ((b36.up l54 rfl).up l61 rfl).up l68 rfl
  have b75 := b61.up l68 rfl
  refine Mw.p rfl rfl (fun _ => R.fa rfl) (Mw.q rfl rfl (fun _ c => R.ld (v := v31) rfl rfl (b74.clc rfl rfl c)) (Mw.p rfl rfl (fun _ => R.fa rfl) (Mw.q rfl rfl (fun _ c => R.ld (v := v50) rfl rfl (b75.clc rfl rfl c)) (Mw.p rfl rfl (fun _ => R.fa rfl) (Mw.q rfl rfl (fun _ c => R.ld (v := vS u44.Who) rfl rfl (b75.clc rfl rfl c)) (Mw.p rfl rfl (fun _ => R.fa rfl) (Mw.q rfl rfl (fun _ c => R.ld (v := v52) rfl rfl (b75.clc rfl rfl c)) (Mw.t rfl rfl (T.lit0 (α := Int) 8 []) ?_))))))))
  rintro v76 _ ⟨W76, rfl, l76, o76⟩
  have a77 := a69.n l76
  refine ⟨⟨_, rfl, (l76.sub (M := [6, 8, 9]) rfl)⟩, ?_⟩
  obtain ⟨q84, e85, hm⟩ := ob hm
  refine Mw.t rfl rfl (T.appP (α := Int) o76 (r51.ul a77) rfl rfl e85) ?_
  rintro v86 _ ⟨W86, rfl, l86, o86⟩
  have a88 := a77.t l86 rfl
  refine ⟨⟨_, rfl, ((l76.sub (M := [6, 8, 9]) rfl).trans (l86.sub (M := [6, 8, 9]) rfl))⟩, ?_⟩
  obtain ⟨z96, e97, hm⟩ := ob hm
  refine Mw.t rfl rfl (T.call rfl (p91 (K := [0]) (k0 := 9) (r53.ul a88) e97)) ?_
  rintro v0_98 _ ⟨W98, rfl, l98, ⟨_, rfl, f98_0⟩⟩
  refine ⟨⟨_, rfl, ((l76.sub (M := [6, 8, 9]) rfl).trans ((l86.sub (M := [6, 8, 9]) rfl).trans (l98.sub (M := [6, 8, 9]) rfl)))⟩, ?_⟩
  refine Mw.p rfl rfl (fun _ => R.bd (zs := [.slice none 0 0, vS ([] : Str), .slice none 0 0]) (cs := [v86, vS u44.Who, v0_98]) [(0, v86), (1, vS u44.Who), (2, v0_98)] rfl rfl rfl (bp_cons (o86.up l98 rfl).oc rfl (bp_cons rfl rfl (bp_cons f98_0.oc rfl bp_nil)))) (Mw.t rfl rfl (T.bs 10 [.agg [v86, vS u44.Who, v0_98].toArray] (cs := [v86, vS u44.Who, v0_98]) rfl rfl (bsA rfl)) ?_)
  rintro _ _ ⟨g107, W107, rfl, rfl, l107, b107⟩
  refine ⟨⟨_, rfl, ((l76.sub (M := [6, 8, 9]) rfl).trans ((l86.sub (M := [6, 8, 9]) rfl).trans ((l98.sub (M := [6, 8, 9]) rfl).trans (l107.sub (M := [6, 8, 9]) rfl))))⟩, ?_⟩
  obtain ⟨q117, e118, hm⟩ := ob hm
  refine Mw.t rfl rfl (T.app1 (α := Commit) (J := [8, 9]) (K' := []) (((((((o32.up l54 rfl).up l61 rfl).up l68 rfl).up l76 rfl).up l86 rfl).up l98 rfl).up l107 rfl) b107 (Commit.own q84 u44.Who z96 ((o86.up l98 rfl).up l107 rfl).s (f98_0.up l107 rfl).s) rfl rfl e118) ?_
  rintro v119 _ ⟨W119, rfl, l119, o119⟩
  refine ⟨⟨_, rfl, ((l76.sub (M := [6, 8, 9]) rfl).trans ((l86.sub (M := [6, 8, 9]) rfl).trans ((l98.sub (M := [6, 8, 9]) rfl).trans ((l107.sub (M := [6, 8, 9]) rfl).trans (l119.sub (M := [6, 8, 9]) rfl)))))⟩, ?_⟩
  refine Mw.p rfl rfl (fun _ => R.fa rfl) (Mw.lu rfl (T.st (j := 0) (v := v119) (((((b74.up l76 rfl).up l86 rfl).up l98 rfl).up l107 rfl).up l119 rfl) rfl rfl o119.oc rfl rfl) ?_)
  rintro _ _ ⟨W127, rfl, l127, b127⟩
  refine Mw.nil (Cw.region (Lw.add rfl (Lw.m (vI (w64 (y29 + 1))) rfl (Lw.nil (⟨?_, m39, Nat.lt_succ_self m39, ⟨w64 (y29 + 1), q117, y33, ptr (bx g54), v119, v34, W127, rfl, (l37.trans ((l54.sub rfl).trans ((l61.sub rfl).trans ((l68.sub rfl).trans ((l76.sub rfl).trans ((l86.sub rfl).trans ((l98.sub rfl).trans ((l107.sub rfl).trans ((l119.sub rfl).trans (l127.sub rfl)))))))))), rfl, (o119.up l127 rfl), (((((((((o35.up l54 rfl).up l61 rfl).up l68 rfl).up l76 rfl).up l86 rfl).up l98 rfl).up l107 rfl).up l119 rfl).up l127 rfl), b127, hm⟩⟩)))))
  iterate 23 (refine .u ?_)
  exact Agree.base
 ·replace hm := bf hm hc43
  refine Cw.exit ?_
  rw [hK38] at hm
  refine Cw.seq (Cw.region (Lw.r rfl (R.lda (cs := [v31, v34]) b36.cells rfl rfl) (Lw.u (T.sta (vs := [v31, v34]) (((((b3.up l6 rfl).up l12 rfl).up l17 rfl).up l22 rfl).up l37 rfl) rfl rfl (oc_cons o32.oc (oc_cons o35.oc oc_nil)) rfl rfl) ?_)))
  rintro _ _ ⟨W135, rfl, l135, b135⟩
  have a136 := a40.t l135 rfl
  refine Lw.nil ?_
  obtain ⟨W141, ew141, l141, o141⟩ := (o32.up l135 rfl).dyeO 31
  have a142 := a136.t l141 rfl
  obtain ⟨W147, ew147, l147, o147⟩ := ((o35.up l135 rfl).up l141 rfl).dyeO 32
  have a148 := a142.t l147 rfl
  cases hm
  rw [← ew147.trans (ew141)]
  exact Cw.ret (retA1 rfl ((b135.up l141 rfl).up l147 rfl) (Res.mk a148 ⟨v31, v34, rfl, (o141.up l147 rfl).s, o147.s⟩))

theorem p58 {W : CW} {K : List Nat} {x0 : Vm.Repo} {v0_0_ : Value} {v0_1_ : Value} {k0 : Nat} {k1 : Nat} {r : Vm.Repo} (h0 : Rd W K [v0_0_, v0_1_] x0) (hm : Vm.impl_Repo_own x0 = some r) : CallR Tryd.prog 58 [.agg [v0_0_, v0_1_].toArray].toArray W.w (Res W [] fun W' v => ∃ (u0_0 : Value) (u0_1 : Value), v = .agg [u0_0, u0_1].toArray ∧ Ow W' k0 [] [u0_0] r.Commits ∧ Ow W' k1 [] [u0_1] r.Heads) :=
 CallR.adJ (J := []) (fun c => bif Nat.beq c 0 then 0 else bif Nat.beq c 31 then k0 else bif Nat.beq c 32 then k1 else 0) (c58 (V := W.view K []) (h0.view _) hm) fun _ _ ⟨u0_0, u0_1, e, f0, f1⟩ => ⟨u0_0, u0_1, e, f0.one1.backN rfl, f1.one1.backN rfl⟩

end Go.Sx
