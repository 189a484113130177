/- Walks: each function answers as its model, printed by a program of ours. Conditions: the arguments read as they are given. -/
import Derived.Test.YtmjjhnahdmlmaaaGreatDoorXTs
import Derived.Test.YtmjjhnahdmlmaaaGreatDoorXMd
import Derived.Test.YtmjjhnahdmlmaaaGreatDoorXW0
import Derived.Test.YtmjjhnahdmlmaaaGreatDoorXW1
namespace Go.Sx
open Go Go.Proofs Go.Vm Rp
set_option linter.unusedVariables false
set_option linter.unusedSimpArgs false

theorem c52 {V : CW} {x0 : List Vm.File} {v0_ : Value} {r : Bool} (h0 : Rd V [0] [v0_] x0) (hm : Vm.spec_l4Ok x0 = some r) : CallR Tryz.prog 52 [v0_].toArray V.w (Res V LL fun Wf v => v = vB r) := by
 unfold Vm.spec_l4Ok at hm
 obtain ⟨W0, hW0⟩ : ∃ W, W = V := ⟨V, rfl⟩
 subst hW0
 refine CallR.of Tryz.func52 rfl rfl rfl rfl (Cw.seq (Cw.region (Lw.g (vB false) rfl (Lw.nil (Cw.seq (Cw.seq (Cw.region (Lw.g (vI 0) rfl (Lw.nil (Cw.block ?_))))))))))
 obtain ⟨K5, hK5, hm⟩ := jn_e hm
 refine Cw.loop 5 61 [2, 3, 4] (fun m l w => ∃ (y1 : Bool) (y2 : Int) (j3 : Value) (W4 : CW), W4.w = w ∧ Le [] W0 W4 ∧ l = [vB y1, vI y2, j3] ∧ Vm.spec_l4Ok_l1 x0 K5 m y1 y2 = some r) (((x0.length : Int) - 0).toNat + 1) ⟨false, 0, undef, W0, rfl, Le.refl _ _, rfl, hm⟩ ?_
 rintro m6 _ _ σ ⟨y1, y2, j3, W4, rfl, l4, rfl, hm⟩
 obtain _ | m6 := m6
 ·cases hm
 unfold Vm.spec_l4Ok_l1 at hm
 have a7 := l4.o
 refine Cw.seq (Cw.seq (Cw.region (Lw.m (vI y2) rfl (Lw.m v0_ rfl (Lw.ln x0 (h0.ul a7) rfl (Lw.lt rfl (Lw.nil (Cw.cond (b := decide ((y2 : Int) < ((x0.length : Int) : Int))) rfl (fun hc9 => ?_) (fun hc9 => ?_)))))))))
 ·replace hm := bt hm hc9
  refine Cw.skip (Cw.seq (Cw.block (Cw.seq ?_)))
  obtain ⟨K12, hK12, hm⟩ := jn_e hm
  refine Cw.join 11 44 [44] (fun l w => ∃ (y10 : Bool) (W11 : CW), W11.w = w ∧ Le [] W4 W11 ∧ l = [vB y10] ∧ K12 y10 = some r) ?_ ?_
  ·rintro _ _ σ ⟨y10, W11, rfl, l11, rfl, hm⟩
   rw [hK12] at hm
   have a13 := a7.n l11
   refine Cw.cond (b := y10) rfl (fun hc14 => ?_) (fun hc14 => ?_)
   ·replace hm := bt hm hc14
    refine Cw.seq (Cw.region (Lw.g (vB false) rfl (Lw.nil ?_)))
    cases hm
    exact Cw.ret (ret1 rfl (Res.mk a13 rfl))
   ·replace hm := bf hm hc14
    refine Cw.skip (Cw.seq (Cw.region (Lw.g (vI 0) rfl (Lw.nil (Cw.block ?_)))))
    obtain ⟨K18, hK18, hm⟩ := jn_e hm
    refine Cw.loop 45 61 [2, 4] (fun m l w => ∃ (y15 : Bool) (y16 : Int) (W17 : CW), W17.w = w ∧ Le [] W11 W17 ∧ l = [vB y15, vI y16] ∧ Vm.spec_l4Ok_l2 x0 y2 K18 m y15 y16 = some r) (((x0.length : Int) - 0).toNat + 1) ⟨y1, 0, W11, rfl, Le.refl _ _, rfl, hm⟩ ?_
    rintro m19 _ _ σ ⟨y15, y16, W17, rfl, l17, rfl, hm⟩
    obtain _ | m19 := m19
    ·cases hm
    unfold Vm.spec_l4Ok_l2 at hm
    have a20 := a13.n l17
    refine Cw.seq (Cw.seq (Cw.region (Lw.m (vI y16) rfl (Lw.m v0_ rfl (Lw.ln x0 (h0.ul a20) rfl (Lw.lt rfl (Lw.nil (Cw.cond (b := decide ((y16 : Int) < ((x0.length : Int) : Int))) rfl (fun hc22 => ?_) (fun hc22 => ?_)))))))))
    ·replace hm := bt hm hc22
     refine Cw.skip (Cw.seq (Cw.block (Cw.seq (Cw.draw [] [(0, 0), (1, 0), (2, 0), (3, 0), (4, 1), (5, 0), (6, 0), (7, 0), (8, 0), (9, 1), (10, 3)] mixed (by kernel_rfl) fun W23 l23 => ?_))))
     have a24 := a20.n l23
     refine Mw.p rfl rfl (fun _ => R.mv (v := v0_) rfl) (Mw.p rfl rfl (fun _ => R.mv (v := vI y2) rfl) ?_)
     obtain ⟨u25, e26, hm⟩ := ob hm
     have s27 := h0.ul a24
     refine Mw.p rfl rfl (fun _ => R.ix (α := File) s27 e26 rfl rfl rfl) (Mw.p rfl rfl (fun _ => R.fa rfl) (Mw.q rfl rfl (fun _ c => R.ld rfl rfl (cl_cell (File.at0 (s27.at_ e26)).1 rfl (File.at0 (s27.at_ e26)).str c)) (Mw.p rfl rfl (fun _ => R.mv (v := v0_) rfl) (Mw.p rfl rfl (fun _ => R.mv (v := vI y16) rfl) ?_))))
     obtain ⟨u28, e29, hm⟩ := ob hm
     refine Mw.p rfl rfl (fun _ => R.ix (α := File) s27 e29 rfl rfl rfl) (Mw.p rfl rfl (fun _ => R.fa rfl) (Mw.q rfl rfl (fun _ c => R.ld rfl rfl (cl_cell (File.at0 (s27.at_ e29)).1 rfl (File.at0 (s27.at_ e29)).str c)) ?_))
     obtain ⟨z30, e31, hm⟩ := ob hm
     refine Mw.l rfl rfl (T.call rfl (p63 (K := [0])   e31)) ?_
     rintro _ _ ⟨W32, rfl, l32, rfl⟩
     have a33 := a24.n l32
     refine Mw.nil (Cw.cond (b := z30) rfl (fun hc34 => ?_) (fun hc34 => ?_))
     ·replace hm := bt hm hc34
      refine Cw.seq (Cw.region (Lw.g (vB false) rfl (Lw.nil ?_)))
      cases hm
      exact Cw.ret (ret1 rfl (Res.mk a33 rfl))
     ·replace hm := bf hm hc34
      refine Cw.skip (Cw.region (Lw.m (vI y16) rfl (Lw.add rfl (Lw.g (vI (w64 (y16 + 1))) rfl (Lw.nil (⟨?_, m19, Nat.lt_succ_self m19, ⟨y15, w64 (y16 + 1), W32, rfl, (l17.trans (l23.trans l32)), rfl, hm⟩⟩))))))
      iterate 20 (refine .u ?_)
      exact Agree.base
    ·replace hm := bf hm hc22
     refine Cw.exit ?_
     rw [hK18] at hm
     refine Cw.region (Lw.m (vI y2) rfl (Lw.add rfl (Lw.g (vI (w64 (y2 + 1))) rfl (Lw.nil (⟨?_, m6, Nat.lt_succ_self m6, ⟨y15, w64 (y2 + 1), vI y16, W17, rfl, (l4.trans (l11.trans l17)), rfl, hm⟩⟩)))))
     iterate 9 (refine .u ?_)
     refine Agree.ov0 rfl ?_
     iterate 2 (refine .u ?_)
     refine Agree.ov0 rfl ?_
     iterate 7 (refine .u ?_)
     exact Agree.base
  ·refine Cw.draw [] [(0, 0), (1, 0), (2, 0), (3, 0), (4, 1), (5, 2), (6, 0), (7, 0), (8, 0), (9, 0), (10, 0), (11, 0), (12, 1), (13, 2), (14, 0), (15, 0), (16, 0), (17, 0), (18, 0), (19, 0), (20, 0), (21, 0), (22, 0), (23, 0), (24, 1), (25, 0), (26, 0), (27, 0), (28, 0), (29, 0), (30, 1), (31, 0), (32, 0), (33, 0)] mixed (by kernel_rfl) fun W35 l35 => ?_
   have a36 := a7.n l35
   refine Mw.p rfl rfl (fun _ => R.mv (v := v0_) rfl) (Mw.p rfl rfl (fun _ => R.mv (v := vI y2) rfl) ?_)
   obtain ⟨u37, e38, hm⟩ := ob hm
   have s39 := h0.ul a36
   refine Mw.p rfl rfl (fun _ => R.ix (α := File) s39 e38 rfl rfl rfl) (Mw.p rfl rfl (fun _ => R.fa rfl) (Mw.q rfl rfl (fun _ c => R.ld rfl rfl (cl_cell (File.at0 (s39.at_ e38)).1 rfl (File.at0 (s39.at_ e38)).str c)) ?_))
   obtain ⟨z40, e41, hm⟩ := ob hm
   refine Mw.t rfl rfl (T.call rfl (p61 (K := [0])   e41)) ?_
   rintro _ _ ⟨W42, rfl, l42, rfl⟩
   have a43 := l42.o
   refine ⟨⟨_, rfl, (l42.sub (M := []) rfl)⟩, ?_⟩
   refine Mw.p rfl rfl (fun _ => R.not rfl) (Mw.p rfl rfl (fun _ => R.mv (v := vB (!z40)) rfl) (bsplit (!z40) (fun hc44 => ?_) (fun hc44 => ?_)))
   ·replace hm := bt hm hc44
    refine Mw.ps hc44 rfl rfl (Mw.ps hc44 rfl rfl (Mw.ps hc44 rfl rfl (Mw.ps hc44 rfl rfl (Mw.ps hc44 rfl rfl (Mw.ps hc44 rfl rfl (Mw.ps hc44 rfl rfl (Mw.p rfl rfl (fun _ => R.pk hc44 rfl (v := vB true) rfl) (Mw.p rfl rfl (fun _ => R.mv (v := vB true) rfl) (Mw.ps rfl rfl rfl (Mw.ps rfl rfl rfl (Mw.ps rfl rfl rfl (Mw.pu rfl rfl (Mw.pu rfl rfl (Mw.pu rfl rfl (Mw.pu rfl rfl (Mw.pu rfl rfl (Mw.pu rfl rfl (Mw.pu rfl rfl (Mw.pu rfl rfl (Mw.pu rfl rfl (Mw.pu rfl rfl (Mw.pu rfl rfl (Mw.pu rfl rfl (Mw.ps rfl rfl rfl (Mw.p rfl rfl (fun _ => R.pk rfl rfl (v := vB true) rfl) (Mw.nil (⟨?_, ⟨true, W42, rfl, (l35.trans l42), rfl, hm⟩⟩)))))))))))))))))))))))))))
    iterate 34 (refine .u ?_)
    exact Agree.refl _
   ·replace hm := bf hm hc44
    refine Mw.gp hc44 rfl rfl rfl rfl rfl (fun _ => R.mv (v := v0_) rfl) (Mw.gp hc44 rfl rfl rfl rfl rfl (fun _ => R.mv (v := vI y2) rfl) ?_)
    obtain ⟨u45, e46, hm⟩ := ob hm
    refine Mw.gp hc44 rfl rfl rfl rfl rfl (fun _ => R.ix (α := File) s39 e46 rfl rfl rfl) (Mw.gp hc44 rfl rfl rfl rfl rfl (fun _ => R.fa rfl) ?_)
    obtain ⟨v47, c48, r49⟩ := (File.at1 (s39.at_ e46)).cell rfl
    refine Mw.gq hc44 rfl rfl rfl rfl rfl (fun _ c => R.ld rfl rfl (cl_cell (File.at1 (s39.at_ e46)).1 rfl c48 c)) ?_
    obtain ⟨z51, e52, hm⟩ := ob hm
    refine Mw.gt hc44 rfl rfl rfl rfl rfl (T.call rfl (p62 (K := [0])  (r49.ul a43) e52)) ?_
    rintro _ _ ⟨W53, rfl, l53, rfl⟩
    refine ⟨⟨_, rfl, ((l42.sub (M := []) rfl).trans (l53.sub (M := []) rfl))⟩, ?_⟩
    refine Mw.gp hc44 rfl rfl rfl rfl rfl (fun _ => R.not rfl) (Mw.p rfl rfl (fun _ => R.pk hc44 rfl (v := vB (!z51)) rfl) (Mw.p rfl rfl (fun _ => R.mv (v := vB (!z51)) rfl) (bsplit (!z51) (fun hc55 => ?_) (fun hc55 => ?_))))
    ·replace hm := bt hm hc55
     refine Mw.ps hc55 rfl rfl (Mw.ps hc55 rfl rfl (Mw.ps hc55 rfl rfl (Mw.pu rfl rfl (Mw.pu rfl rfl (Mw.pu rfl rfl (Mw.pu rfl rfl (Mw.pu rfl rfl (Mw.pu rfl rfl (Mw.pu rfl rfl (Mw.pu rfl rfl (Mw.pu rfl rfl (Mw.pu rfl rfl (Mw.pu rfl rfl (Mw.pu rfl rfl (Mw.ps hc55 rfl rfl (Mw.p rfl rfl (fun _ => R.pk hc55 rfl (v := vB true) rfl) (Mw.nil (⟨?_, ⟨true, W53, rfl, (l35.trans (l42.trans l53)), rfl, hm⟩⟩))))))))))))))))))
     iterate 34 (refine .u ?_)
     exact Agree.refl _
    ·replace hm := bf hm hc55
     refine Mw.gp hc55 rfl rfl rfl rfl rfl (fun _ => R.mv (v := vI y2) rfl) (Mw.gp hc55 rfl rfl rfl rfl rfl (fun _ => R.gt rfl rfl) (Mw.gp hc55 rfl rfl rfl rfl rfl (fun _ => R.mv (v := vB (decide ((0 : Int) < (y2 : Int)))) rfl) (bsplit (decide ((0 : Int) < (y2 : Int))) (fun hc56 => ?_) (fun hc56 => ?_))))
     ·replace hm := bt hm hc56
      refine Mw.gp hc56 rfl rfl rfl rfl rfl (fun _ => R.mv (v := v0_) rfl) (Mw.gp hc56 rfl rfl rfl rfl rfl (fun _ => R.mv (v := vI y2) rfl) ?_)
      obtain ⟨u57, e58, hm⟩ := ob hm
      refine Mw.gp hc56 rfl rfl rfl rfl rfl (fun _ => R.ix (α := File) s39 e58 rfl rfl rfl) (Mw.gp hc56 rfl rfl rfl rfl rfl (fun _ => R.fa rfl) (Mw.gq hc56 rfl rfl rfl rfl rfl (fun _ c => R.ld rfl rfl (cl_cell (File.at0 (s39.at_ e58)).1 rfl (File.at0 (s39.at_ e58)).str c)) (Mw.gp hc56 rfl rfl rfl rfl rfl (fun _ => R.mv (v := v0_) rfl) (Mw.gp hc56 rfl rfl rfl rfl rfl (fun _ => R.mv (v := vI y2) rfl) (Mw.gp hc56 rfl rfl rfl rfl rfl (fun _ => R.sub rfl rfl) ?_)))))
      obtain ⟨u59, e60, hm⟩ := ob hm
      refine Mw.gp hc56 rfl rfl rfl rfl rfl (fun _ => R.ix (α := File) s39 e60 rfl rfl rfl) (Mw.gp hc56 rfl rfl rfl rfl rfl (fun _ => R.fa rfl) (Mw.gq hc56 rfl rfl rfl rfl rfl (fun _ c => R.ld rfl rfl (cl_cell (File.at0 (s39.at_ e60)).1 rfl (File.at0 (s39.at_ e60)).str c)) (Mw.gp hc56 rfl rfl rfl rfl rfl (fun _ => R.sle rfl rfl) (Mw.gp hc55 rfl rfl rfl rfl rfl (fun _ => R.pk hc56 rfl (v := vB (Op.bytesLess u57.Path u59.Path || u57.Path == u59.Path)) rfl) (Mw.p rfl rfl (fun _ => R.pk hc55 rfl (v := vB (Op.bytesLess u57.Path u59.Path || u57.Path == u59.Path)) rfl) (Mw.nil (⟨?_, ⟨(Op.bytesLess u57.Path u59.Path || u57.Path == u59.Path), W53, rfl, (l35.trans (l42.trans l53)), rfl, hm⟩⟩)))))))
      iterate 34 (refine .u ?_)
      exact Agree.refl _
     ·replace hm := bf hm hc56
      refine Mw.ps hc56 rfl rfl (Mw.ps hc56 rfl rfl (Mw.ps hc56 rfl rfl (Mw.ps hc56 rfl rfl (Mw.ps hc56 rfl rfl (Mw.ps hc56 rfl rfl (Mw.ps hc56 rfl rfl (Mw.ps hc56 rfl rfl (Mw.ps hc56 rfl rfl (Mw.ps hc56 rfl rfl (Mw.ps hc56 rfl rfl (Mw.ps hc56 rfl rfl (Mw.gp hc55 rfl rfl rfl rfl rfl (fun _ => R.pk hc56 rfl (v := vB false) rfl) (Mw.p rfl rfl (fun _ => R.pk hc55 rfl (v := vB false) rfl) (Mw.nil (⟨?_, ⟨false, W53, rfl, (l35.trans (l42.trans l53)), rfl, hm⟩⟩)))))))))))))))
      iterate 34 (refine .u ?_)
      exact Agree.refl _
 ·replace hm := bf hm hc9
  refine Cw.exit ?_
  rw [hK5] at hm
  refine Cw.seq (Cw.region (Lw.m v0_ rfl (Lw.ln x0 (h0.ul a7) rfl (Lw.le rfl (Lw.g (vB (decide (((x0.length : Int) : Int) ≤ (8 : Int)))) rfl (Lw.nil ?_))))))
  cases hm
  exact Cw.ret (ret1 rfl (Res.mk a7 rfl))

theorem p52 {W : CW} {K : List Nat} {x0 : List Vm.File} {v0_ : Value} {r : Bool} (h0 : Rd W K [v0_] x0) (hm : Vm.spec_l4Ok x0 = some r) : CallR Tryz.prog 52 [v0_].toArray W.w (Res W [] fun W' v => v = vB r) :=
 (c52 (V := W.view K []) (h0.view _) hm).ad (fk 0) fun _ _ e => e

theorem c32 {V : CW} {x0 : List Vm.File} {v0_ : Value} {r : (List Vm.File)} (h0 : Rd V [0] [v0_] x0) (hm : Vm.spec_l4Copy x0 = some r) : CallR Tryz.prog 32 [v0_].toArray V.w (Res V LL fun Wf v => ∃ (u0 : Value), v = u0 ∧ OwS Wf LL [] [u0] r) := by
 unfold Vm.spec_l4Copy at hm
 obtain ⟨W0, hW0⟩ : ∃ W, W = V := ⟨V, rfl⟩
 subst hW0
 refine CallR.of Tryz.func32 rfl rfl rfl rfl (Cw.seq (Cw.region (Lw.g (.slice none 0 0) rfl (Lw.nil (Cw.seq (Cw.region (Lw.t rfl (T.lit0 (α := File) 2 []) ?_)))))))
 rintro v1 _ ⟨W1, rfl, l1, o1⟩
 have a2 := l1.o
 refine Lw.g v1 rfl (Lw.nil (Cw.seq (Cw.seq (Cw.region (Lw.g (vI 0) rfl (Lw.nil (Cw.block ?_)))))))
 obtain ⟨K8, hK8, hm⟩ := jn_e hm
 refine Cw.loop 6 27 [3, 4] (fun m l w => ∃ (y3 : List Vm.File) (y6 : Int) (v4 : Value) (W7 : CW), W7.w = w ∧ Le [2, 3] W1 W7 ∧ l = [v4, vI y6] ∧ Ow W7 2 [] [v4] y3 ∧ Vm.spec_l4Copy_l1 x0 K8 m y3 y6 = some r) (((x0.length : Int) - 0).toNat + 1) ⟨([] : List File), 0, v1, W1, rfl, Le.refl _ _, rfl, o1, hm⟩ ?_
 rintro m9 _ _ σ ⟨y3, y6, v4, W7, rfl, l7, rfl, o5, hm⟩
 obtain _ | m9 := m9
 ·cases hm
 unfold Vm.spec_l4Copy_l1 at hm
 have a10 := a2.t l7 rfl
 refine Cw.seq (Cw.seq (Cw.region (Lw.m (vI y6) rfl (Lw.m v0_ rfl (Lw.ln x0 (h0.ul a10) rfl (Lw.lt rfl (Lw.nil (Cw.cond (b := decide ((y6 : Int) < ((x0.length : Int) : Int))) rfl (fun hc12 => ?_) (fun hc12 => ?_)))))))))
 ·replace hm := bt hm hc12
  refine Cw.skip (Cw.seq (Cw.block (Cw.draw [2, 3] [(0, 0), (1, 0), (2, 0), (3, 0), (4, 0), (5, 1), (7, 0), (8, 0), (9, 0), (10, 0), (11, 1), (6, 2), (12, 2), (13, 0), (14, 2), (15, 2), (16, 0)] mixed (by kernel_rfl) fun W13 l13 => ?_)))
  have a14 := a10.n l13
  refine Mw.p rfl rfl (fun _ => R.mv (v := v4) rfl) (Mw.p rfl rfl (fun _ => R.mv (v := v0_) rfl) (Mw.p rfl rfl (fun _ => R.mv (v := vI y6) rfl) ?_))
  obtain ⟨u16, e17, hm⟩ := ob hm
  have s18 := h0.ul a14
  refine Mw.p rfl rfl (fun _ => R.ix (α := File) s18 e17 rfl rfl rfl) (Mw.p rfl rfl (fun _ => R.fa rfl) (Mw.q rfl rfl (fun _ c => R.ld rfl rfl (cl_cell (File.at0 (s18.at_ e17)).1 rfl (File.at0 (s18.at_ e17)).str c)) (Mw.p rfl rfl (fun _ => R.mv (v := v0_) rfl) (Mw.p rfl rfl (fun _ => R.mv (v := vI y6) rfl) ?_))))
  obtain ⟨u19, e20, hm⟩ := ob hm
  refine Mw.p rfl rfl (fun _ => R.ix (α := File) s18 e20 rfl rfl rfl) (Mw.p rfl rfl (fun _ => R.fa rfl) ?_)
  obtain ⟨v21, c22, r23⟩ := (File.at1 (s18.at_ e20)).cell rfl
  refine Mw.q rfl rfl (fun _ c => R.ld rfl rfl (cl_cell (File.at1 (s18.at_ e20)).1 rfl c22 c)) (Mw.t rfl rfl (T.lit0 (α := Str) 3 []) ?_)
  rintro v24 _ ⟨W24, rfl, l24, o24⟩
  have a25 := l24.o
  refine ⟨⟨_, rfl, (l24.sub (M := [2, 3]) rfl)⟩, ?_⟩
  obtain ⟨q27, e28, hm⟩ := ob hm
  refine Mw.t rfl rfl (T.appP (α := Str) o24 (r23.ul a25) rfl rfl e28) ?_
  rintro v29 _ ⟨W29, rfl, l29, o29⟩
  refine ⟨⟨_, rfl, ((l24.sub (M := [2, 3]) rfl).trans (l29.sub (M := [2, 3]) rfl))⟩, ?_⟩
  refine Mw.p rfl rfl (fun _ => R.bd (zs := [vS ([] : Str), .slice none 0 0]) (cs := [vS u16.Path, v29]) [(0, vS u16.Path), (1, v29)] rfl rfl rfl (bp_cons rfl rfl (bp_cons o29.oc rfl bp_nil))) (Mw.t rfl rfl (T.bs 4 [.agg [vS u16.Path, v29].toArray] (cs := [vS u16.Path, v29]) rfl rfl (bsA rfl)) ?_)
  rintro _ _ ⟨g33, W33, rfl, rfl, l33, b33⟩
  refine ⟨⟨_, rfl, ((l24.sub (M := [2, 3]) rfl).trans ((l29.sub (M := [2, 3]) rfl).trans (l33.sub (M := [2, 3]) rfl)))⟩, ?_⟩
  obtain ⟨q37, e38, hm⟩ := ob hm
  refine Mw.t rfl rfl (T.app1 (α := File) (J := [3]) (K' := []) ((((o5.up l13 rfl).up l24 rfl).up l29 rfl).up l33 rfl) b33 (File.own u16.Path q27 (o29.up l33 rfl).s) rfl rfl e38) ?_
  rintro v39 _ ⟨W39, rfl, l39, o39⟩
  refine ⟨⟨_, rfl, ((l24.sub (M := [2, 3]) rfl).trans ((l29.sub (M := [2, 3]) rfl).trans ((l33.sub (M := [2, 3]) rfl).trans (l39.sub (M := [2, 3]) rfl))))⟩, ?_⟩
  refine Mw.p rfl rfl (fun _ => R.as (v := v39) rfl) (Mw.nil (Cw.region (Lw.m (vI y6) rfl (Lw.add rfl (Lw.g (vI (w64 (y6 + 1))) rfl (Lw.nil (⟨?_, m9, Nat.lt_succ_self m9, ⟨q37, w64 (y6 + 1), v39, W39, rfl, (l7.trans ((l13.sub rfl).trans ((l24.sub rfl).trans ((l29.sub rfl).trans ((l33.sub rfl).trans l39))))), rfl, o39, hm⟩⟩)))))))
  iterate 26 (refine .u ?_)
  exact Agree.base
 ·replace hm := bf hm hc12
  refine Cw.exit ?_
  rw [hK8] at hm
  refine Cw.seq (Cw.region (Lw.m v4 rfl (Lw.g v4 rfl (Lw.nil ?_))))
  cases hm
  exact Cw.ret (ret1 rfl (Res.mk a10 ⟨v4, rfl, o5.s.sub rfl rfl⟩))

theorem p32 {W : CW} {K : List Nat} {x0 : List Vm.File} {v0_ : Value} {k0 : Nat} {r : (List Vm.File)} (h0 : Rd W K [v0_] x0) (hm : Vm.spec_l4Copy x0 = some r) : CallR Tryz.prog 32 [v0_].toArray W.w (Res W [] fun W' v => ∃ (u0 : Value), v = u0 ∧ Ow W' k0 [] [u0] r) :=
 (c32 (V := W.view K []) (h0.view _) hm).ad (fk k0) fun _ _ ⟨u0, e, f0⟩ => ⟨u0, e, f0.back (fk_LL _)⟩

theorem c94 {V : CW} {x0 : List Vm.File} {v0_ : Value} {x1 : Vm.File} {v1_1_ : Value} {r : (List Vm.File)} (h0 : Rd V [0] [v0_] x0) (h1 : Rd V [0] [vS x1.Path, v1_1_] x1) (hm : Vm.spec_l4Set x0 x1 = some r) : CallR Tryz.prog 94 [v0_, .agg [vS x1.Path, v1_1_].toArray].toArray V.w (Res V LL fun Wf v => ∃ (u0 : Value), v = u0 ∧ OwS (α := List (Sh Vm.File)) Wf LL [0] [u0] r) := by
 unfold Vm.spec_l4Set at hm
 obtain ⟨w1_0, he1, h1_1⟩ := File.split h1
 simp only [List.cons.injEq, and_true, true_and] at he1
 obtain rfl := he1
 obtain ⟨W0, hW0⟩ : ∃ W, W = V := ⟨V, rfl⟩
 subst hW0
 refine CallR.of Tryz.func94 rfl rfl rfl rfl (Cw.seq (Cw.region (Lw.t rfl (T.box 2 (v := .agg [vS x1.Path, v1_1_].toArray) (cs := [vS x1.Path, v1_1_]) rfl rfl) ?_)))
 rintro _ _ ⟨g1, W1, rfl, rfl, l1, b1⟩
 have a2 := l1.o
 refine Lw.g (.slice none 0 0) rfl (Lw.nil (Cw.seq (Cw.region (Lw.t rfl (T.lit0 (α := File) 3 []) ?_))))
 rintro v3 _ ⟨W3, rfl, l3, o3⟩
 have a4 := a2.n l3
 refine Lw.g v3 rfl (Lw.nil (Cw.seq (Cw.region (Lw.g (vB false) rfl (Lw.nil (Cw.seq (Cw.seq (Cw.region (Lw.g (vI 0) rfl (Lw.nil (Cw.block ?_)))))))))))
 obtain ⟨K12, hK12, hm⟩ := jn_e hm
 obtain ⟨W13, ew13, l13, o13⟩ := o3.toSh
 have a14 := a4.t l13 rfl
 rw [← ew13]
 refine Cw.loop 9 51 [5, 6, 7] (fun m l w => ∃ (y6 : List Vm.File) (y9 : Bool) (y10 : Int) (v7 : Value) (W11 : CW), W11.w = w ∧ Le [3, 5] W13 W11 ∧ l = [v7, vB y9, vI y10] ∧ Ow (α := List (Sh Vm.File)) W11 3 [0] [v7] y6 ∧ Vm.spec_l4Set_l1 x0 x1 K12 m y6 y9 y10 = some r) (((x0.length : Int) - 0).toNat + 1) ⟨([] : List File), false, 0, v3, W13, rfl, Le.refl _ _, rfl, o13, hm⟩ ?_
 rintro m16 _ _ σ ⟨y6, y9, y10, v7, W11, rfl, l11, rfl, o8, hm⟩
 obtain _ | m16 := m16
 ·cases hm
 unfold Vm.spec_l4Set_l1 at hm
 have a17 := a14.t l11 rfl
 have b18 := ((b1.up l3 rfl).up l13 rfl).up l11 rfl
 refine Cw.seq (Cw.seq (Cw.region (Lw.m (vI y10) rfl (Lw.m v0_ rfl (Lw.ln x0 (h0.ul a17) rfl (Lw.lt rfl (Lw.nil (Cw.cond (b := decide ((y10 : Int) < ((x0.length : Int) : Int))) rfl (fun hc20 => ?_) (fun hc20 => ?_)))))))))
 ·replace hm := bt hm hc20
  refine Cw.skip ?_
  obtain ⟨K26, hK26, hm⟩ := jn_e hm
  refine Cw.join 15 51 [5, 6] (fun l w => ∃ (y21 : List Vm.File) (y24 : Bool) (v22 : Value) (W25 : CW), W25.w = w ∧ Le [3, 5] W11 W25 ∧ l = [v22, vB y24] ∧ Ow (α := List (Sh Vm.File)) W25 3 [0] [v22] y21 ∧ K26 y21 y24 = some r) ?_ ?_
  ·rintro _ _ σ ⟨y21, y24, v22, W25, rfl, l25, rfl, o23, hm⟩
   rw [hK26] at hm
   refine Cw.region (Lw.m (vI y10) rfl (Lw.add rfl (Lw.g (vI (w64 (y10 + 1))) rfl (Lw.nil (⟨?_, m16, Nat.lt_succ_self m16, ⟨y21, y24, w64 (y10 + 1), v22, W25, rfl, (l11.trans l25), rfl, o23, hm⟩⟩)))))
   iterate 5 (refine .u ?_)
   refine Agree.ov0 rfl ?_
   iterate 7 (refine .u ?_)
   exact Agree.base
  ·refine Cw.block ?_
   obtain ⟨K34, hK34, hm⟩ := jn_e hm
   refine Cw.join 15 36 [5, 6] (fun l w => ∃ (y29 : List Vm.File) (y32 : Bool) (v30 : Value) (W33 : CW), W33.w = w ∧ Le [3, 5] W11 W33 ∧ l = [v30, vB y32] ∧ Ow (α := List (Sh Vm.File)) W33 3 [0] [v30] y29 ∧ K34 y29 y32 = some r) ?_ ?_
   ·rintro _ _ σ ⟨y29, y32, v30, W33, rfl, l33, rfl, o31, hm⟩
    rw [hK34] at hm
    have a35 := a17.t l33 rfl
    refine Cw.seq (Cw.draw [] [(0, 0), (1, 0), (2, 0), (3, 0), (4, 1), (5, 0), (6, 1), (7, 0)] mixed (by kernel_rfl) fun W37 l37 => ?_)
    have a38 := a35.n l37
    refine Mw.p rfl rfl (fun _ => R.mv (v := v0_) rfl) (Mw.p rfl rfl (fun _ => R.mv (v := vI y10) rfl) ?_)
    obtain ⟨u41, e42, hm⟩ := ob hm
    have s43 := h0.ul a38
    refine Mw.p rfl rfl (fun _ => R.ix (α := File) s43 e42 rfl rfl rfl) (Mw.p rfl rfl (fun _ => R.fa rfl) (Mw.q rfl rfl (fun _ c => R.ld rfl rfl (cl_cell (File.at0 (s43.at_ e42)).1 rfl (File.at0 (s43.at_ e42)).str c)) (Mw.p rfl rfl (fun _ => R.fa rfl) (Mw.q rfl rfl (fun _ c => R.ld (v := vS x1.Path) rfl rfl (((b18.up l33 rfl).up l37 rfl).clc rfl rfl c)) (Mw.p rfl rfl (fun _ => R.sne rfl rfl) (Mw.nil (Cw.cond (b := (u41.Path != x1.Path)) rfl (fun hc44 => ?_) (fun hc44 => ?_))))))))
    ·replace hm := bt hm hc44
     refine Cw.region (Lw.m v30 rfl (Lw.m v0_ rfl (Lw.m (vI y10) rfl ?_)))
     obtain ⟨u45, e46, hm⟩ := ob hm
     refine Lw.r rfl (R.ix (α := File) s43 e46 rfl rfl rfl) ?_
     obtain ⟨x47, c48, _, r49⟩ := (s43.at_ e46).cells
     obtain ⟨v50, rfl, r51⟩ := File.split r49
     refine Lw.r rfl (R.lda c48 rfl rfl) (Lw.t rfl (T.bs 4 [.agg [vS u45.Path, v50].toArray] (cs := [vS u45.Path, v50]) rfl rfl (bsA rfl)) ?_)
     rintro _ _ ⟨g52, W52, rfl, rfl, l52, b52⟩
     have a53 := l52.o
     obtain ⟨q57, e58, hm⟩ := ob hm
     refine Lw.t rfl (T.app1S (α := Sh Vm.File) (K' := [0]) ((o31.up l37 rfl).up l52 rfl) b52 (File.rd (K := [0]) u45.Path u45.Text (r51.ul a53)).sh1 rfl rfl e58) ?_
     rintro v59 _ ⟨W59, rfl, l59, o59⟩
     refine Lw.g v59 rfl (Lw.nil (⟨?_, ⟨q57, y32, v59, W59, rfl, (l33.trans ((l37.sub rfl).trans ((l52.sub rfl).trans (l59.sub rfl)))), rfl, o59, hm⟩⟩))
     iterate 18 (refine .u ?_)
     refine Agree.ov0 rfl ?_
     exact Agree.refl _
    ·replace hm := bf hm hc44
     refine Cw.skip (⟨?_, ⟨y29, y32, v30, W37, rfl, (l33.trans (l37.sub rfl)), rfl, (o31.up l37 rfl), hm⟩⟩)
     iterate 10 (refine .u ?_)
     refine Agree.ov0 rfl ?_
     exact Agree.refl _
   ·obtain ⟨K65, hK65, hm⟩ := jn_e hm
    refine Cw.join 15 26 [26] (fun l w => ∃ (y63 : Bool) (W64 : CW), W64.w = w ∧ Le [] W11 W64 ∧ l = [vB y63] ∧ K65 y63 = some r) ?_ ?_
    ·rintro _ _ σ ⟨y63, W64, rfl, l64, rfl, hm⟩
     rw [hK65] at hm
     have a66 := a17.n l64
     refine Cw.cond (b := y63) rfl (fun hc69 => ?_) (fun hc69 => ?_)
     ·replace hm := bt hm hc69
      refine Cw.seq (Cw.draw [3, 5] [(0, 0), (1, 0), (2, 1), (4, 0), (5, 1), (3, 2), (6, 2), (7, 0), (8, 2), (9, 2), (10, 0)] mixed (by kernel_rfl) fun W70 l70 => ?_)
      have a71 := a66.n l70
      have b73 := (b18.up l64 rfl).up l70 rfl
      refine Mw.p rfl rfl (fun _ => R.mv (v := v7) rfl) (Mw.p rfl rfl (fun _ => R.fa rfl) (Mw.q rfl rfl (fun _ c => R.ld (v := vS x1.Path) rfl rfl (b73.clc rfl rfl c)) (Mw.p rfl rfl (fun _ => R.fa rfl) (Mw.q rfl rfl (fun _ c => R.ld (v := v1_1_) rfl rfl (b73.clc rfl rfl c)) (Mw.t rfl rfl (T.lit0 (α := Str) 5 []) ?_)))))
      rintro v74 _ ⟨W74, rfl, l74, o74⟩
      have a75 := a71.n l74
      refine ⟨⟨_, rfl, (l74.sub (M := [3, 5]) rfl)⟩, ?_⟩
      obtain ⟨q78, e79, hm⟩ := ob hm
      refine Mw.t rfl rfl (T.appP (α := Str) o74 (h1_1.ul a75) rfl rfl e79) ?_
      rintro v80 _ ⟨W80, rfl, l80, o80⟩
      refine ⟨⟨_, rfl, ((l74.sub (M := [3, 5]) rfl).trans (l80.sub (M := [3, 5]) rfl))⟩, ?_⟩
      refine Mw.p rfl rfl (fun _ => R.bd (zs := [vS ([] : Str), .slice none 0 0]) (cs := [vS x1.Path, v80]) [(0, vS x1.Path), (1, v80)] rfl rfl rfl (bp_cons rfl rfl (bp_cons o80.oc rfl bp_nil))) (Mw.t rfl rfl (T.bs 6 [.agg [vS x1.Path, v80].toArray] (cs := [vS x1.Path, v80]) rfl rfl (bsA rfl)) ?_)
      rintro _ _ ⟨g85, W85, rfl, rfl, l85, b85⟩
      refine ⟨⟨_, rfl, ((l74.sub (M := [3, 5]) rfl).trans ((l80.sub (M := [3, 5]) rfl).trans (l85.sub (M := [3, 5]) rfl)))⟩, ?_⟩
      obtain ⟨W90, ew90, l90, dj90⟩ := dyeE _ 5
      rw [← ew90]
      have s91 : Rd (α := List Str) W90 [0] [v80] q78 := by rw [dj90]; exact ((o80.up l85 rfl).rd.dye 5).sub (M := [0]) rfl
      obtain ⟨q96, e97, hm⟩ := ob hm
      refine Mw.t rfl rfl (T.app1S (α := Sh Vm.File) (K' := [0]) ((((((o8.up l64 rfl).up l70 rfl).up l74 rfl).up l80 rfl).up l85 rfl).up l90 rfl) (b85.up l90 rfl) (File.rd (K := [0]) x1.Path q78 s91).sh1 rfl rfl e97) ?_
      rintro v98 _ ⟨W98, rfl, l98, o98⟩
      refine ⟨⟨_, rfl, ((l74.sub (M := [3, 5]) rfl).trans ((l80.sub (M := [3, 5]) rfl).trans ((l85.sub (M := [3, 5]) rfl).trans ((l90.sub (M := [3, 5]) rfl).trans (l98.sub (M := [3, 5]) rfl)))))⟩, ?_⟩
      refine Mw.p rfl rfl (fun _ => R.as (v := v98) rfl) (Mw.nil (Cw.region (Lw.g (vB true) rfl (Lw.nil (⟨?_, ⟨q96, true, v98, W98, rfl, ((l64.sub rfl).trans ((l70.sub rfl).trans ((l74.sub rfl).trans ((l80.sub rfl).trans ((l85.sub rfl).trans ((l90.sub rfl).trans (l98.sub rfl))))))), rfl, o98, hm⟩⟩)))))
      iterate 13 (refine .u ?_)
      refine Agree.ov0 rfl ?_
      exact Agree.refl _
     ·replace hm := bf hm hc69
      refine Cw.skip (⟨?_, ⟨y6, y9, v7, W64, rfl, (l64.sub rfl), rfl, (o8.up l64 rfl), hm⟩⟩)
      iterate 1 (refine .u ?_)
      refine Agree.ov0 rfl ?_
      exact Agree.refl _
    ·refine Cw.draw [] [(0, 0), (1, 0), (2, 0), (3, 0), (4, 0), (5, 0), (6, 0), (7, 1), (8, 0), (9, 1), (10, 0), (11, 0)] mixed (by kernel_rfl) fun W102 l102 => ?_
     have a103 := a17.n l102
     refine Mw.p rfl rfl (fun _ => R.mv (v := vB y9) rfl) (Mw.p rfl rfl (fun _ => R.not rfl) (Mw.p rfl rfl (fun _ => R.mv (v := vB (!y9)) rfl) (bsplit (!y9) (fun hc106 => ?_) (fun hc106 => ?_))))
     ·replace hm := bt hm hc106
      refine Mw.gp hc106 rfl rfl rfl rfl rfl (fun _ => R.mv (v := v0_) rfl) (Mw.gp hc106 rfl rfl rfl rfl rfl (fun _ => R.mv (v := vI y10) rfl) ?_)
      obtain ⟨u107, e108, hm⟩ := ob hm
      refine Mw.gp hc106 rfl rfl rfl rfl rfl (fun _ => R.ix (α := File) (h0.ul a103) e108 rfl rfl rfl) (Mw.gp hc106 rfl rfl rfl rfl rfl (fun _ => R.fa rfl) (Mw.gq hc106 rfl rfl rfl rfl rfl (fun _ c => R.ld rfl rfl (cl_cell (File.at0 ((h0.ul a103).at_ e108)).1 rfl (File.at0 ((h0.ul a103).at_ e108)).str c)) (Mw.gp hc106 rfl rfl rfl rfl rfl (fun _ => R.fa rfl) (Mw.gq hc106 rfl rfl rfl rfl rfl (fun _ c => R.ld (v := vS x1.Path) rfl rfl ((b18.up l102 rfl).clc rfl rfl c)) (Mw.gp hc106 rfl rfl rfl rfl rfl (fun _ => R.sge rfl rfl) (Mw.p rfl rfl (fun _ => R.pk hc106 rfl (v := vB (!Op.bytesLess u107.Path x1.Path)) rfl) (Mw.nil (⟨?_, ⟨(!Op.bytesLess u107.Path x1.Path), W102, rfl, l102, rfl, hm⟩⟩))))))))
      iterate 12 (refine .u ?_)
      exact Agree.refl _
     ·replace hm := bf hm hc106
      refine Mw.ps hc106 rfl rfl (Mw.ps hc106 rfl rfl (Mw.ps hc106 rfl rfl (Mw.ps hc106 rfl rfl (Mw.ps hc106 rfl rfl (Mw.ps hc106 rfl rfl (Mw.ps hc106 rfl rfl (Mw.ps hc106 rfl rfl (Mw.p rfl rfl (fun _ => R.pk hc106 rfl (v := vB false) rfl) (Mw.nil (⟨?_, ⟨false, W102, rfl, l102, rfl, hm⟩⟩))))))))))
      iterate 12 (refine .u ?_)
      exact Agree.refl _
 ·replace hm := bf hm hc20
  refine Cw.exit ?_
  rw [hK12] at hm
  obtain ⟨K114, hK114, hm⟩ := jn_e hm
  refine Cw.join 52 63 [5] (fun l w => ∃ (y110 : List Vm.File) (v111 : Value) (W113 : CW), W113.w = w ∧ Le [3, 7] W11 W113 ∧ l = [v111] ∧ Ow (α := List (Sh Vm.File)) W113 3 [0] [v111] y110 ∧ K114 y110 = some r) ?_ ?_
  ·rintro _ _ σ ⟨y110, v111, W113, rfl, l113, rfl, o112, hm⟩
   rw [hK114] at hm
   have a115 := a17.t l113 rfl
   refine Cw.seq (Cw.region (Lw.m v111 rfl (Lw.g v111 rfl (Lw.nil ?_))))
   cases hm
   exact Cw.ret (ret1 rfl (Res.mk a115 ⟨v111, rfl, o112.s.sub rfl rfl⟩))
  ·refine Cw.seq (Cw.region (Lw.m (vB y9) rfl (Lw.r rfl (R.not rfl) (Lw.nil (Cw.cond (b := (!y9)) rfl (fun hc117 => ?_) (fun hc117 => ?_))))))
   ·replace hm := bt hm hc117
    refine Cw.draw [3, 7] [(0, 0), (1, 0), (2, 1), (4, 0), (5, 1), (3, 2), (6, 2), (7, 0), (8, 2), (9, 2), (10, 0)] mixed (by kernel_rfl) fun W118 l118 => ?_
    have a119 := a17.n l118
    refine Mw.p rfl rfl (fun _ => R.mv (v := v7) rfl) (Mw.p rfl rfl (fun _ => R.fa rfl) (Mw.q rfl rfl (fun _ c => R.ld (v := vS x1.Path) rfl rfl ((b18.up l118 rfl).clc rfl rfl c)) (Mw.p rfl rfl (fun _ => R.fa rfl) (Mw.q rfl rfl (fun _ c => R.ld (v := v1_1_) rfl rfl ((b18.up l118 rfl).clc rfl rfl c)) (Mw.t rfl rfl (T.lit0 (α := Str) 7 []) ?_)))))
    rintro v122 _ ⟨W122, rfl, l122, o122⟩
    have a123 := a119.n l122
    refine ⟨⟨_, rfl, (l122.sub (M := [3, 7]) rfl)⟩, ?_⟩
    obtain ⟨q126, e127, hm⟩ := ob hm
    refine Mw.t rfl rfl (T.appP (α := Str) o122 (h1_1.ul a123) rfl rfl e127) ?_
    rintro v128 _ ⟨W128, rfl, l128, o128⟩
    refine ⟨⟨_, rfl, ((l122.sub (M := [3, 7]) rfl).trans (l128.sub (M := [3, 7]) rfl))⟩, ?_⟩
    refine Mw.p rfl rfl (fun _ => R.bd (zs := [vS ([] : Str), .slice none 0 0]) (cs := [vS x1.Path, v128]) [(0, vS x1.Path), (1, v128)] rfl rfl rfl (bp_cons rfl rfl (bp_cons o128.oc rfl bp_nil))) (Mw.t rfl rfl (T.bs 8 [.agg [vS x1.Path, v128].toArray] (cs := [vS x1.Path, v128]) rfl rfl (bsA rfl)) ?_)
    rintro _ _ ⟨g133, W133, rfl, rfl, l133, b133⟩
    refine ⟨⟨_, rfl, ((l122.sub (M := [3, 7]) rfl).trans ((l128.sub (M := [3, 7]) rfl).trans (l133.sub (M := [3, 7]) rfl)))⟩, ?_⟩
    obtain ⟨W138, ew138, l138, dj138⟩ := dyeE _ 7
    rw [← ew138]
    have s139 : Rd (α := List Str) W138 [0] [v128] q126 := by rw [dj138]; exact ((o128.up l133 rfl).rd.dye 7).sub (M := [0]) rfl
    obtain ⟨q144, e145, hm⟩ := ob hm
    refine Mw.t rfl rfl (T.app1S (α := Sh Vm.File) (K' := [0]) (((((o8.up l118 rfl).up l122 rfl).up l128 rfl).up l133 rfl).up l138 rfl) (b133.up l138 rfl) (File.rd (K := [0]) x1.Path q126 s139).sh1 rfl rfl e145) ?_
    rintro v146 _ ⟨W146, rfl, l146, o146⟩
    refine ⟨⟨_, rfl, ((l122.sub (M := [3, 7]) rfl).trans ((l128.sub (M := [3, 7]) rfl).trans ((l133.sub (M := [3, 7]) rfl).trans ((l138.sub (M := [3, 7]) rfl).trans (l146.sub (M := [3, 7]) rfl)))))⟩, ?_⟩
    refine Mw.p rfl rfl (fun _ => R.as (v := v146) rfl) (Mw.nil (⟨?_, ⟨q144, v146, W146, rfl, ((l118.sub rfl).trans ((l122.sub rfl).trans ((l128.sub rfl).trans ((l133.sub rfl).trans ((l138.sub rfl).trans (l146.sub rfl)))))), rfl, o146, hm⟩⟩))
    iterate 13 (refine .u ?_)
    exact Agree.refl _
   ·replace hm := bf hm hc117
    refine Cw.skip (⟨?_, ⟨y6, v7, W11, rfl, Le.refl _ _, rfl, o8, hm⟩⟩)
    iterate 2 (refine .u ?_)
    exact Agree.refl _

theorem p94 {W : CW} {K : List Nat} {x0 : List Vm.File} {v0_ : Value} {x1 : Vm.File} {v1_1_ : Value} {k0 : Nat} {r : (List Vm.File)} (h0 : Rd W K [v0_] x0) (h1 : Rd W K [vS x1.Path, v1_1_] x1) (hm : Vm.spec_l4Set x0 x1 = some r) : CallR Tryz.prog 94 [v0_, .agg [vS x1.Path, v1_1_].toArray].toArray W.w (Res W [] fun W' v => ∃ (u0 : Value), v = u0 ∧ Ow (α := List (Sh Vm.File)) W' k0 (0 :: K) [u0] r) :=
 (c94 (V := W.view K []) (h0.view _) (h1.view _) hm).ad (fk k0) fun _ _ ⟨u0, e, f0⟩ => ⟨u0, e, f0.backS (fk_LL _) rfl⟩

theorem c78 {V : CW} {x0 : List Vm.File} {v0_ : Value} {x1 : Vm.File} {v1_1_ : Value} {r : (List Vm.File) × Bool} (h0 : Rd V [0] [v0_] x0) (h1 : Rd V [0] [vS x1.Path, v1_1_] x1) (hm : Vm.spec_TreeSet x0 x1 = some r) : CallR Tryz.prog 78 [v0_, .agg [vS x1.Path, v1_1_].toArray].toArray V.w (Res V LL fun Wf v => ∃ (u0 : Value), v = .tuple [u0, vB r.2].toArray ∧ OwS (α := List (Sh Vm.File)) Wf LL [0] [u0] r.1) := by
 unfold Vm.spec_TreeSet at hm
 obtain ⟨w1_0, he1, h1_1⟩ := File.split h1
 simp only [List.cons.injEq, and_true, true_and] at he1
 obtain rfl := he1
 obtain ⟨W0, hW0⟩ : ∃ W, W = V := ⟨V, rfl⟩
 subst hW0
 refine CallR.of Tryz.func78 rfl rfl rfl rfl (Cw.seq (Cw.region (Lw.t rfl (T.box 2 (v := .agg [vS x1.Path, v1_1_].toArray) (cs := [vS x1.Path, v1_1_]) rfl rfl) ?_)))
 rintro _ _ ⟨g1, W1, rfl, rfl, l1, b1⟩
 have a2 := l1.o
 refine Lw.g (.slice none 0 0) rfl (Lw.g (vB false) rfl (Lw.nil (Cw.seq (Cw.seq (Cw.region (Lw.m v0_ rfl ?_))))))
 obtain ⟨z4, e5, hm⟩ := ob hm
 refine Lw.t rfl (T.call rfl (p52 (K := [0])  (h0.ul a2) e5)) ?_
 rintro _ _ ⟨W6, rfl, l6, rfl⟩
 have a7 := a2.n l6
 refine Lw.r rfl (R.not rfl) (Lw.nil (Cw.cond (b := (!z4)) rfl (fun hc9 => ?_) (fun hc9 => ?_)))
 ·replace hm := bt hm hc9
  refine Cw.seq (Cw.region (Lw.g (.slice none 0 0) rfl (Lw.g (vB false) rfl (Lw.nil ?_))))
  cases hm
  exact Cw.ret (ret2 rfl rfl (Res.mk a7 ⟨.slice none 0 0, rfl, (owsNSh [0]).sub rfl rfl⟩))
 ·replace hm := bf hm hc9
  refine Cw.skip (Cw.seq (Cw.draw [] [(0, 0), (2, 1), (1, 2), (3, 3), (4, 0)] mixed (by kernel_rfl) fun W10 l10 => ?_))
  have a11 := a7.n l10
  refine Mw.p rfl rfl (fun _ => R.mv (v := v0_) rfl) (Mw.q rfl rfl (fun _ c => R.lda (cs := [vS x1.Path, v1_1_]) (((b1.up l6 rfl).up l10 rfl).clcs rfl c) rfl rfl) ?_)
  obtain ⟨z14, e15, hm⟩ := ob hm
  refine Mw.t rfl rfl (T.call rfl (p32 (K := [0]) (k0 := 3) (h0.ul a11) e15)) ?_
  rintro v0_16 _ ⟨W16, rfl, l16, ⟨_, rfl, f16_0⟩⟩
  have a17 := a11.n l16
  refine ⟨⟨_, rfl, (l16.sub (M := []) rfl)⟩, ?_⟩
  obtain ⟨z20, e21, hm⟩ := ob hm
  refine Mw.l rfl rfl (T.call rfl (p94 (K := [0, 3]) (k0 := 4) (f16_0.rd.sub (M := [0, 3]) rfl) ((File.rd (K := [0]) x1.Path x1.Text (h1_1.ul a17)).sub (M := [0, 3]) rfl) e21)) ?_
  rintro v0_22 _ ⟨W22, rfl, l22, ⟨_, rfl, f22_0⟩⟩
  have o23 : Ow (α := List (Sh Vm.File)) W22 4 [0, 3] [v0_22] z20 := f22_0.sub rfl
  have a24 := a17.n l22
  refine Mw.p rfl rfl (fun _ => R.as (v := v0_22) rfl) (Mw.nil (Cw.seq (Cw.seq (Cw.region (Lw.m v0_22 rfl ?_)))))
  have s27 : Rd (α := List Vm.File) W22 [4, 0, 3] [v0_22] z20 := Ow.rdSh o23
  obtain ⟨z28, e29, hm⟩ := ob hm
  refine Lw.t rfl (T.call rfl (p52 (K := [0, 3, 4])  (s27.sub (M := [0, 3, 4]) rfl) e29)) ?_
  rintro _ _ ⟨W30, rfl, l30, rfl⟩
  have a31 := a24.n l30
  refine Lw.r rfl (R.not rfl) (Lw.nil (Cw.cond (b := (!z28)) rfl (fun hc35 => ?_) (fun hc35 => ?_)))
  ·replace hm := bt hm hc35
   refine Cw.seq (Cw.region (Lw.m v0_ rfl ?_))
   obtain ⟨z37, e38, hm⟩ := ob hm
   refine Lw.t rfl (T.call rfl (p32 (K := [0]) (k0 := 5) (h0.ul a31) e38)) ?_
   rintro v0_39 _ ⟨W39, rfl, l39, ⟨_, rfl, f39_0⟩⟩
   have a40 := a31.n l39
   refine Lw.g v0_39 rfl (Lw.g (vB false) rfl (Lw.nil ?_))
   obtain ⟨W44, ew44, l44, o44⟩ := f39_0.toSh
   have a45 := a40.t l44 rfl
   cases hm
   rw [← ew44]
   exact Cw.ret (ret2 rfl rfl (Res.mk a45 ⟨v0_39, rfl, o44.s.sub rfl rfl⟩))
  ·replace hm := bf hm hc35
   refine Cw.skip (Cw.seq (Cw.region (Lw.m v0_22 rfl (Lw.g v0_22 rfl (Lw.g (vB true) rfl (Lw.nil ?_))))))
   obtain ⟨W49, ew49, l49, dj49⟩ := dyeE _ 3
   have s50 : Rd (α := List Vm.File) W49 [0] [v0_16] z14 := by rw [dj49]; exact (((f16_0.up l22 rfl).up l30 rfl).rd.dye 3).sub (M := [0]) rfl
   have o51 : Ow (α := List (Sh Vm.File)) W49 4 [0] [v0_22] z20 := by rw [dj49]; exact ((o23.up l30 rfl).dyeA 3 rfl).sub rfl
   have a52 := a31.t l49 rfl
   cases hm
   rw [← ew49]
   exact Cw.ret (ret2 rfl rfl (Res.mk a52 ⟨v0_22, rfl, o51.s.sub rfl rfl⟩))

theorem p78 {W : CW} {K : List Nat} {x0 : List Vm.File} {v0_ : Value} {x1 : Vm.File} {v1_1_ : Value} {k0 : Nat} {r : (List Vm.File) × Bool} (h0 : Rd W K [v0_] x0) (h1 : Rd W K [vS x1.Path, v1_1_] x1) (hm : Vm.spec_TreeSet x0 x1 = some r) : CallR Tryz.prog 78 [v0_, .agg [vS x1.Path, v1_1_].toArray].toArray W.w (Res W [] fun W' v => ∃ (u0 : Value), v = .tuple [u0, vB r.2].toArray ∧ Ow (α := List (Sh Vm.File)) W' k0 (0 :: K) [u0] r.1) :=
 (c78 (V := W.view K []) (h0.view _) (h1.view _) hm).ad (fk k0) fun _ _ ⟨u0, e, f0⟩ => ⟨u0, e, f0.backS (fk_LL _) rfl⟩

theorem c30 {V : CW} {x0 : Vm.Repo} {v0_0_ : Value} {v0_1_ : Value} {r : Bool} (h0 : Rd V [0] [v0_0_, v0_1_] x0) (hm : Vm.spec_l7Ok x0 = some r) : CallR Tryz.prog 30 [.agg [v0_0_, v0_1_].toArray].toArray V.w (Res V LL fun Wf v => v = vB r) := by
 unfold Vm.spec_l7Ok at hm
 obtain ⟨w0_0, w0_1, he0, h0_0, h0_1⟩ := Repo.split h0
 simp only [List.cons.injEq, and_true, true_and] at he0
 obtain ⟨rfl, rfl⟩ := he0
 obtain ⟨W0, hW0⟩ : ∃ W, W = V := ⟨V, rfl⟩
 subst hW0
 refine CallR.of Tryz.func30 rfl rfl rfl rfl (Cw.seq (Cw.region (Lw.t rfl (T.box 2 (v := .agg [v0_0_, v0_1_].toArray) (cs := [v0_0_, v0_1_]) rfl rfl) ?_)))
 rintro _ _ ⟨g1, W1, rfl, rfl, l1, b1⟩
 have a2 := l1.o
 refine Lw.g (vB false) rfl (Lw.nil (Cw.seq (Cw.seq (Cw.region (Lw.g (vI 0) rfl (Lw.nil (Cw.block ?_)))))))
 obtain ⟨K8, hK8, hm⟩ := jn_e hm
 refine Cw.loop 7 66 [2, 3, 4, 5] (fun m l w => ∃ (y3 : Bool) (y4 : Int) (j5 j6 : Value) (W7 : CW), W7.w = w ∧ Le [3] W1 W7 ∧ l = [vB y3, vI y4, j5, j6] ∧ Vm.spec_l7Ok_l1 x0 K8 m y3 y4 = some r) (((x0.Commits.length : Int) - 0).toNat + 1) ⟨false, 0, undef, undef, W1, rfl, Le.refl _ _, rfl, hm⟩ ?_
 rintro m9 _ _ σ ⟨y3, y4, j5, j6, W7, rfl, l7, rfl, hm⟩
 obtain _ | m9 := m9
 ·cases hm
 unfold Vm.spec_l7Ok_l1 at hm
 have a10 := a2.t l7 rfl
 have b11 := b1.up l7 rfl
 refine Cw.seq (Cw.seq (Cw.region ?_))
 have s12 := h0_0.ul a10
 refine Lw.m (vI y4) rfl (Lw.fa rfl (Lw.r rfl (R.ld (v := v0_0_) rfl rfl (b11.cell rfl)) (Lw.ln x0.Commits s12 rfl (Lw.lt rfl (Lw.nil (Cw.cond (b := decide ((y4 : Int) < ((x0.Commits.length : Int) : Int))) rfl (fun hc13 => ?_) (fun hc13 => ?_)))))))
 ·replace hm := bt hm hc13
  refine Cw.skip (Cw.seq (Cw.block (Cw.seq (Cw.region (Lw.fa rfl (Lw.r rfl (R.ld (v := v0_0_) rfl rfl (b11.cell rfl)) (Lw.m (vI y4) rfl ?_)))))))
  obtain ⟨u14, e15, hm⟩ := ob hm
  refine Lw.r rfl (R.ix (α := Commit) s12 e15 rfl rfl rfl) ?_
  obtain ⟨x16, c17, _, r18⟩ := (s12.at_ e15).cells
  obtain ⟨v19, v21, rfl, r20, r22⟩ := Commit.split r18
  refine Lw.r rfl (R.lda c17 rfl rfl) (Lw.t rfl (T.alloc 3 (cs := [.slice none 0 0, vS ([] : Str), .slice none 0 0]) rfl) ?_)
  rintro _ _ ⟨g23, W23, rfl, rfl, l23, b23⟩
  have a24 := l23.o
  refine Lw.u (T.sta (vs := [v19, vS u14.Who, v21]) b23 rfl rfl (oc_cons r20.oc (oc_cons rfl (oc_cons r22.oc oc_nil))) rfl rfl) ?_
  rintro _ _ ⟨W26, rfl, l26, b26⟩
  have a27 := l26.s rfl
  refine Lw.nil (Cw.seq (Cw.seq (Cw.region (Lw.g (vI 0) rfl (Lw.nil (Cw.block ?_))))))
  obtain ⟨K32, hK32, hm⟩ := jn_e hm
  refine Cw.loop 19 50 [2, 5] (fun m l w => ∃ (y29 : Bool) (y30 : Int) (W31 : CW), W31.w = w ∧ Le [] W26 W31 ∧ l = [vB y29, vI y30] ∧ Vm.spec_l7Ok_l2 y4 u14 K32 m y29 y30 = some r) (((u14.Parents.length : Int) - 0).toNat + 1) ⟨y3, 0, W26, rfl, Le.refl _ _, rfl, hm⟩ ?_
  rintro m33 _ _ σ ⟨y29, y30, W31, rfl, l31, rfl, hm⟩
  obtain _ | m33 := m33
  ·cases hm
  unfold Vm.spec_l7Ok_l2 at hm
  have a34 := l31.o
  have b36 := b26.up l31 rfl
  refine Cw.seq (Cw.seq (Cw.region ?_))
  have s37 := r20.ul ((a24.trans a27).trans a34)
  refine Lw.m (vI y30) rfl (Lw.fa rfl (Lw.r rfl (R.ld (v := v19) rfl rfl (b36.cell rfl)) (Lw.ln u14.Parents s37 rfl (Lw.lt rfl (Lw.nil (Cw.cond (b := decide ((y30 : Int) < ((u14.Parents.length : Int) : Int))) rfl (fun hc38 => ?_) (fun hc38 => ?_)))))))
  ·replace hm := bt hm hc38
   refine Cw.skip (Cw.seq (Cw.block ?_))
   obtain ⟨K41, hK41, hm⟩ := jn_e hm
   refine Cw.join 26 50 [50] (fun l w => ∃ (y39 : Bool) (W40 : CW), W40.w = w ∧ Le [] W31 W40 ∧ l = [vB y39] ∧ K41 y39 = some r) ?_ ?_
   ·rintro _ _ σ ⟨y39, W40, rfl, l40, rfl, hm⟩
    rw [hK41] at hm
    have a42 := (((a10.trans a24).trans a27).trans a34).n l40
    refine Cw.cond (b := y39) rfl (fun hc45 => ?_) (fun hc45 => ?_)
    ·replace hm := bt hm hc45
     refine Cw.seq (Cw.region (Lw.g (vB false) rfl (Lw.nil ?_)))
     cases hm
     exact Cw.ret (ret1 rfl (Res.mk a42 rfl))
    ·replace hm := bf hm hc45
     refine Cw.skip (Cw.region (Lw.m (vI y30) rfl (Lw.add rfl (Lw.g (vI (w64 (y30 + 1))) rfl (Lw.nil (⟨?_, m33, Nat.lt_succ_self m33, ⟨y29, w64 (y30 + 1), W40, rfl, (l31.trans l40), rfl, hm⟩⟩))))))
     iterate 4 (refine .u ?_)
     refine Agree.ov0 rfl ?_
     iterate 7 (refine .u ?_)
     exact Agree.base
   ·refine Cw.draw [] [(0, 0), (1, 1), (2, 0), (3, 0), (4, 1), (5, 0), (6, 0), (7, 2), (8, 0), (9, 0), (10, 0), (11, 0), (12, 0), (13, 0), (14, 1), (15, 0), (16, 0), (17, 1), (18, 0), (19, 1), (20, 0), (21, 1), (22, 0), (23, 0), (24, 0)] mixed (by kernel_rfl) fun W46 l46 => ?_
    have a47 := ((a24.trans a27).trans a34).n l46
    have b49 := b36.up l46 rfl
    refine Mw.p rfl rfl (fun _ => R.fa rfl) (Mw.q rfl rfl (fun _ c => R.ld (v := v19) rfl rfl (b49.clc rfl rfl c)) (Mw.p rfl rfl (fun _ => R.mv (v := vI y30) rfl) ?_))
    obtain ⟨u50, e51, hm⟩ := ob hm
    have s52 := r20.ul a47
    refine Mw.p rfl rfl (fun _ => R.ix (α := Int) s52 e51 rfl rfl rfl) (Mw.q rfl rfl (fun _ c => R.ld rfl rfl (cl_cell (s52.at_ e51).1 rfl (s52.at_ e51).int c)) (Mw.p rfl rfl (fun _ => R.mv (v := vI y4) rfl) (Mw.p rfl rfl (fun _ => R.sub rfl rfl) ?_)))
    obtain ⟨z53, e54, hm⟩ := ob hm
    refine Mw.t rfl rfl (T.call rfl (p31 (K := [0])   e54)) ?_
    rintro _ _ ⟨W55, rfl, l55, rfl⟩
    refine ⟨⟨_, rfl, (l55.sub (M := []) rfl)⟩, ?_⟩
    refine Mw.p rfl rfl (fun _ => R.not rfl) (Mw.p rfl rfl (fun _ => R.mv (v := vB (!z53)) rfl) (bsplit (!z53) (fun hc59 => ?_) (fun hc59 => ?_)))
    ·replace hm := bt hm hc59
     refine Mw.ps hc59 rfl rfl (Mw.ps hc59 rfl rfl (Mw.ps hc59 rfl rfl (Mw.pu rfl rfl (Mw.pu rfl rfl (Mw.pu rfl rfl (Mw.pu rfl rfl (Mw.pu rfl rfl (Mw.pu rfl rfl (Mw.pu rfl rfl (Mw.pu rfl rfl (Mw.pu rfl rfl (Mw.pu rfl rfl (Mw.ps hc59 rfl rfl (Mw.p rfl rfl (fun _ => R.pk hc59 rfl (v := vB true) rfl) (Mw.nil (⟨?_, ⟨true, W55, rfl, (l46.trans l55), rfl, hm⟩⟩))))))))))))))))
     iterate 25 (refine .u ?_)
     exact Agree.refl _
    ·replace hm := bf hm hc59
     refine Mw.gp hc59 rfl rfl rfl rfl rfl (fun _ => R.mv (v := vI y30) rfl) (Mw.gp hc59 rfl rfl rfl rfl rfl (fun _ => R.gt rfl rfl) (Mw.gp hc59 rfl rfl rfl rfl rfl (fun _ => R.mv (v := vB (decide ((0 : Int) < (y30 : Int)))) rfl) (bsplit (decide ((0 : Int) < (y30 : Int))) (fun hc60 => ?_) (fun hc60 => ?_))))
     ·replace hm := bt hm hc60
      refine Mw.gp hc60 rfl rfl rfl rfl rfl (fun _ => R.fa rfl) (Mw.gq hc60 rfl rfl rfl rfl rfl (fun _ c => R.ld (v := v19) rfl rfl (b49.clc rfl rfl c)) (Mw.gp hc60 rfl rfl rfl rfl rfl (fun _ => R.mv (v := vI y30) rfl) ?_))
      obtain ⟨u61, e62, hm⟩ := ob hm
      refine Mw.gp hc60 rfl rfl rfl rfl rfl (fun _ => R.ix (α := Int) s52 e62 rfl rfl rfl) (Mw.gq hc60 rfl rfl rfl rfl rfl (fun _ c => R.ld rfl rfl (cl_cell (s52.at_ e62).1 rfl (s52.at_ e62).int c)) (Mw.gp hc60 rfl rfl rfl rfl rfl (fun _ => R.fa rfl) (Mw.gq hc60 rfl rfl rfl rfl rfl (fun _ c => R.ld (v := v19) rfl rfl (b49.clc rfl rfl c)) ?_)))
      obtain ⟨u63, e64, hm⟩ := ob hm
      refine Mw.gp hc60 rfl rfl rfl rfl rfl (fun _ => R.ix (α := Int) s52 e64 rfl rfl rfl) (Mw.gq hc60 rfl rfl rfl rfl rfl (fun _ c => R.ld rfl rfl (cl_cell (s52.at_ e64).1 rfl (s52.at_ e64).int c)) (Mw.gp hc60 rfl rfl rfl rfl rfl (fun _ => R.eq rfl rfl) (Mw.gp hc59 rfl rfl rfl rfl rfl (fun _ => R.pk hc60 rfl (v := vB ((u61 : Int) == (u63 : Int))) rfl) (Mw.p rfl rfl (fun _ => R.pk hc59 rfl (v := vB ((u61 : Int) == (u63 : Int))) rfl) (Mw.nil (⟨?_, ⟨((u61 : Int) == (u63 : Int)), W55, rfl, (l46.trans l55), rfl, hm⟩⟩))))))
      iterate 25 (refine .u ?_)
      exact Agree.refl _
     ·replace hm := bf hm hc60
      refine Mw.ps hc60 rfl rfl (Mw.ps hc60 rfl rfl (Mw.ps hc60 rfl rfl (Mw.ps hc60 rfl rfl (Mw.ps hc60 rfl rfl (Mw.ps hc60 rfl rfl (Mw.ps hc60 rfl rfl (Mw.ps hc60 rfl rfl (Mw.ps hc60 rfl rfl (Mw.ps hc60 rfl rfl (Mw.gp hc59 rfl rfl rfl rfl rfl (fun _ => R.pk hc60 rfl (v := vB false) rfl) (Mw.p rfl rfl (fun _ => R.pk hc59 rfl (v := vB false) rfl) (Mw.nil (⟨?_, ⟨false, W55, rfl, (l46.trans l55), rfl, hm⟩⟩)))))))))))))
      iterate 25 (refine .u ?_)
      exact Agree.refl _
  ·replace hm := bf hm hc38
   refine Cw.exit ?_
   rw [hK32] at hm
   obtain ⟨K67, hK67, hm⟩ := jn_e hm
   refine Cw.join 51 66 [66] (fun l w => ∃ (y65 : Bool) (W66 : CW), W66.w = w ∧ Le [] W31 W66 ∧ l = [vB y65] ∧ K67 y65 = some r) ?_ ?_
   ·rintro _ _ σ ⟨y65, W66, rfl, l66, rfl, hm⟩
    rw [hK67] at hm
    have a68 := (((a10.trans a24).trans a27).trans a34).n l66
    refine Cw.cond (b := y65) rfl (fun hc71 => ?_) (fun hc71 => ?_)
    ·replace hm := bt hm hc71
     refine Cw.seq (Cw.region (Lw.g (vB false) rfl (Lw.nil ?_)))
     cases hm
     exact Cw.ret (ret1 rfl (Res.mk a68 rfl))
    ·replace hm := bf hm hc71
     refine Cw.skip (Cw.region (Lw.m (vI y4) rfl (Lw.add rfl (Lw.g (vI (w64 (y4 + 1))) rfl (Lw.nil (⟨?_, m9, Nat.lt_succ_self m9, ⟨y29, w64 (y4 + 1), ptr (bx g23), vI y30, W66, rfl, (l7.trans ((l23.sub rfl).trans (l26.trans ((l31.sub rfl).trans (l66.sub rfl))))), rfl, hm⟩⟩))))))
     iterate 4 (refine .u ?_)
     refine Agree.ov0 rfl ?_
     iterate 7 (refine .u ?_)
     refine Agree.ov0 rfl ?_
     iterate 16 (refine .u ?_)
     exact Agree.base
   ·refine Cw.region (Lw.fa rfl (Lw.r rfl (R.ld (v := v19) rfl rfl (b36.cell rfl)) (Lw.ln u14.Parents s37 rfl (Lw.gt rfl (Lw.m (vB (decide ((2 : Int) < ((u14.Parents.length : Int) : Int)))) rfl (bsplit (decide ((2 : Int) < ((u14.Parents.length : Int) : Int))) (fun hc72 => ?_) (fun hc72 => ?_)))))))
    ·replace hm := bt hm hc72
     refine Lw.ps hc72 rfl (Lw.ps hc72 rfl (Lw.ps hc72 rfl (Lw.ps hc72 rfl (Lw.p hc72 (vB true) rfl (Lw.m (vB true) rfl (Lw.ps rfl rfl (Lw.ps rfl rfl (Lw.ps rfl rfl (Lw.ps rfl rfl (Lw.p rfl (vB true) rfl (Lw.nil (⟨?_, ⟨true, W31, rfl, Le.refl _ _, rfl, hm⟩⟩))))))))))))
     iterate 16 (refine .u ?_)
     exact Agree.refl _
    ·replace hm := bf hm hc72
     refine Lw.wa hc72 rfl (Lw.fa rfl (Lw.wa hc72 rfl (Lw.r rfl (R.ld (v := vS u14.Who) rfl rfl (b36.cell rfl)) (Lw.wa hc72 rfl ?_))))
     obtain ⟨z73, e74, hm⟩ := ob hm
     refine Lw.t rfl (T.call rfl (p51 (K := [0])   e74)) ?_
     rintro _ _ ⟨W75, rfl, l75, rfl⟩
     have a76 := ((a24.trans a27).trans a34).n l75
     refine Lw.wa hc72 rfl (Lw.r rfl (R.not rfl) (Lw.p hc72 (vB (!z73)) rfl (Lw.m (vB (!z73)) rfl (bsplit (!z73) (fun hc79 => ?_) (fun hc79 => ?_)))))
     ·replace hm := bt hm hc79
      refine Lw.ps hc79 rfl (Lw.ps hc79 rfl (Lw.ps hc79 rfl (Lw.ps hc79 rfl (Lw.p hc79 (vB true) rfl (Lw.nil (⟨?_, ⟨true, W75, rfl, l75, rfl, hm⟩⟩))))))
      iterate 16 (refine .u ?_)
      exact Agree.refl _
     ·replace hm := bf hm hc79
      refine Lw.wa hc79 rfl (Lw.fa rfl (Lw.wa hc79 rfl (Lw.r rfl (R.ld (v := v21) rfl rfl ((b36.up l75 rfl).cell rfl)) (Lw.wa hc79 rfl ?_))))
      obtain ⟨z81, e82, hm⟩ := ob hm
      refine Lw.t rfl (T.call rfl (p52 (K := [0])  (r22.ul a76) e82)) ?_
      rintro _ _ ⟨W83, rfl, l83, rfl⟩
      refine Lw.wa hc79 rfl (Lw.r rfl (R.not rfl) (Lw.p hc79 (vB (!z81)) rfl (Lw.nil (⟨?_, ⟨(!z81), W83, rfl, (l75.trans l83), rfl, hm⟩⟩))))
      iterate 16 (refine .u ?_)
      exact Agree.refl _
 ·replace hm := bf hm hc13
  refine Cw.exit ?_
  rw [hK8] at hm
  refine Cw.seq (Cw.seq (Cw.region (Lw.g (vI 0) rfl (Lw.nil (Cw.block ?_)))))
  obtain ⟨K90, hK90, hm⟩ := jn_e hm
  refine Cw.loop 67 115 [2, 6] (fun m l w => ∃ (y87 : Bool) (y88 : Int) (W89 : CW), W89.w = w ∧ Le [] W7 W89 ∧ l = [vB y87, vI y88] ∧ Vm.spec_l7Ok_l3 x0 K90 m y87 y88 = some r) (((x0.Heads.length : Int) - 0).toNat + 1) ⟨y3, 0, W7, rfl, Le.refl _ _, rfl, hm⟩ ?_
  rintro m91 _ _ σ ⟨y87, y88, W89, rfl, l89, rfl, hm⟩
  obtain _ | m91 := m91
  ·cases hm
  unfold Vm.spec_l7Ok_l3 at hm
  have a92 := a10.n l89
  have b93 := b11.up l89 rfl
  refine Cw.seq (Cw.seq (Cw.region (Lw.m (vI y88) rfl (Lw.fa rfl (Lw.r rfl (R.ld (v := v0_1_) rfl rfl (b93.cell rfl)) (Lw.ln x0.Heads (h0_1.ul a92) rfl (Lw.lt rfl (Lw.nil (Cw.cond (b := decide ((y88 : Int) < ((x0.Heads.length : Int) : Int))) rfl (fun hc95 => ?_) (fun hc95 => ?_))))))))))
  ·replace hm := bt hm hc95
   refine Cw.skip (Cw.seq (Cw.block ?_))
   obtain ⟨K98, hK98, hm⟩ := jn_e hm
   refine Cw.join 74 115 [115] (fun l w => ∃ (y96 : Bool) (W97 : CW), W97.w = w ∧ Le [] W89 W97 ∧ l = [vB y96] ∧ K98 y96 = some r) ?_ ?_
   ·rintro _ _ σ ⟨y96, W97, rfl, l97, rfl, hm⟩
    rw [hK98] at hm
    have a99 := a92.n l97
    refine Cw.cond (b := y96) rfl (fun hc101 => ?_) (fun hc101 => ?_)
    ·replace hm := bt hm hc101
     refine Cw.seq (Cw.region (Lw.g (vB false) rfl (Lw.nil ?_)))
     cases hm
     exact Cw.ret (ret1 rfl (Res.mk a99 rfl))
    ·replace hm := bf hm hc101
     refine Cw.skip (Cw.region (Lw.m (vI y88) rfl (Lw.add rfl (Lw.g (vI (w64 (y88 + 1))) rfl (Lw.nil (⟨?_, m91, Nat.lt_succ_self m91, ⟨y87, w64 (y88 + 1), W97, rfl, (l89.trans l97), rfl, hm⟩⟩))))))
     iterate 4 (refine .u ?_)
     refine Agree.ov0 rfl ?_
     iterate 7 (refine .u ?_)
     exact Agree.base
   ·refine Cw.draw [] [(0, 0), (1, 1), (2, 0), (3, 0), (4, 0), (5, 1), (6, 2), (7, 0), (8, 0), (9, 0), (10, 1), (11, 0), (12, 0), (13, 0), (14, 1), (15, 0), (16, 1), (17, 0), (18, 0), (19, 2), (20, 0), (21, 0), (22, 0), (23, 0), (24, 0), (25, 0), (26, 0), (27, 1), (28, 0), (29, 0), (30, 0), (31, 1), (32, 0), (33, 1), (34, 0), (35, 0), (36, 0), (37, 0), (38, 1), (39, 0), (40, 0), (41, 0)] mixed (by kernel_rfl) fun W102 l102 => ?_
    have a103 := a92.n l102
    have b104 := b93.up l102 rfl
    refine Mw.p rfl rfl (fun _ => R.fa rfl) (Mw.q rfl rfl (fun _ c => R.ld (v := v0_1_) rfl rfl (b104.clc rfl rfl c)) (Mw.p rfl rfl (fun _ => R.mv (v := vI y88) rfl) ?_))
    obtain ⟨u105, e106, hm⟩ := ob hm
    have s107 := h0_1.ul a103
    refine Mw.p rfl rfl (fun _ => R.ix (α := Head) s107 e106 rfl rfl rfl) (Mw.p rfl rfl (fun _ => R.fa rfl) (Mw.q rfl rfl (fun _ c => R.ld rfl rfl (cl_cell (Head.at0 (s107.at_ e106)).1 rfl (Head.at0 (s107.at_ e106)).str c)) ?_))
    obtain ⟨z108, e109, hm⟩ := ob hm
    refine Mw.t rfl rfl (T.call rfl (p51 (K := [0])   e109)) ?_
    rintro _ _ ⟨W110, rfl, l110, rfl⟩
    have a111 := a103.n l110
    refine ⟨⟨_, rfl, (l110.sub (M := []) rfl)⟩, ?_⟩
    refine Mw.p rfl rfl (fun _ => R.not rfl) (Mw.p rfl rfl (fun _ => R.mv (v := vB (!z108)) rfl) (bsplit (!z108) (fun hc113 => ?_) (fun hc113 => ?_)))
    ·replace hm := bt hm hc113
     refine Mw.ps hc113 rfl rfl (Mw.ps hc113 rfl rfl (Mw.ps hc113 rfl rfl (Mw.ps hc113 rfl rfl (Mw.ps hc113 rfl rfl (Mw.ps hc113 rfl rfl (Mw.ps hc113 rfl rfl (Mw.ps hc113 rfl rfl (Mw.ps hc113 rfl rfl (Mw.ps hc113 rfl rfl (Mw.ps hc113 rfl rfl (Mw.ps hc113 rfl rfl (Mw.p rfl rfl (fun _ => R.pk hc113 rfl (v := vB true) rfl) (Mw.p rfl rfl (fun _ => R.mv (v := vB true) rfl) (Mw.ps rfl rfl rfl (Mw.ps rfl rfl rfl (Mw.ps rfl rfl rfl (Mw.pu rfl rfl (Mw.pu rfl rfl (Mw.pu rfl rfl (Mw.pu rfl rfl (Mw.pu rfl rfl (Mw.pu rfl rfl (Mw.pu rfl rfl (Mw.pu rfl rfl (Mw.pu rfl rfl (Mw.pu rfl rfl (Mw.pu rfl rfl (Mw.pu rfl rfl (Mw.pu rfl rfl (Mw.pu rfl rfl (Mw.ps rfl rfl rfl (Mw.p rfl rfl (fun _ => R.pk rfl rfl (v := vB true) rfl) (Mw.nil (⟨?_, ⟨true, W110, rfl, (l102.trans l110), rfl, hm⟩⟩))))))))))))))))))))))))))))))))))
     iterate 42 (refine .u ?_)
     exact Agree.refl _
    ·replace hm := bf hm hc113
     refine Mw.gp hc113 rfl rfl rfl rfl rfl (fun _ => R.fa rfl) (Mw.gq hc113 rfl rfl rfl rfl rfl (fun _ c => R.ld (v := v0_1_) rfl rfl (b104.clc rfl rfl c)) (Mw.gp hc113 rfl rfl rfl rfl rfl (fun _ => R.mv (v := vI y88) rfl) ?_))
     obtain ⟨u114, e115, hm⟩ := ob hm
     refine Mw.gp hc113 rfl rfl rfl rfl rfl (fun _ => R.ix (α := Head) s107 e115 rfl rfl rfl) (Mw.gp hc113 rfl rfl rfl rfl rfl (fun _ => R.fa rfl) (Mw.gq hc113 rfl rfl rfl rfl rfl (fun _ c => R.ld rfl rfl (cl_cell (Head.at1 (s107.at_ e115)).1 rfl (Head.at1 (s107.at_ e115)).int c)) (Mw.gp hc113 rfl rfl rfl rfl rfl (fun _ => R.fa rfl) (Mw.gq hc113 rfl rfl rfl rfl rfl (fun _ c => R.ld (v := v0_0_) rfl rfl (b104.clc rfl rfl c)) (Mw.gp hc113 rfl rfl rfl rfl rfl (fun _ => lenR (xs := x0.Commits) (h0_0.ul a111) rfl) (Mw.gp hc113 rfl rfl rfl rfl rfl (fun _ => R.sub rfl rfl) ?_))))))
     obtain ⟨z117, e118, hm⟩ := ob hm
     refine Mw.gt hc113 rfl rfl rfl rfl rfl (T.call rfl (p31 (K := [0])   e118)) ?_
     rintro _ _ ⟨W119, rfl, l119, rfl⟩
     refine ⟨⟨_, rfl, ((l110.sub (M := []) rfl).trans (l119.sub (M := []) rfl))⟩, ?_⟩
     refine Mw.gp hc113 rfl rfl rfl rfl rfl (fun _ => R.not rfl) (Mw.p rfl rfl (fun _ => R.pk hc113 rfl (v := vB (!z117)) rfl) (Mw.p rfl rfl (fun _ => R.mv (v := vB (!z117)) rfl) (bsplit (!z117) (fun hc122 => ?_) (fun hc122 => ?_))))
     ·replace hm := bt hm hc122
      refine Mw.ps hc122 rfl rfl (Mw.ps hc122 rfl rfl (Mw.ps hc122 rfl rfl (Mw.pu rfl rfl (Mw.pu rfl rfl (Mw.pu rfl rfl (Mw.pu rfl rfl (Mw.pu rfl rfl (Mw.pu rfl rfl (Mw.pu rfl rfl (Mw.pu rfl rfl (Mw.pu rfl rfl (Mw.pu rfl rfl (Mw.pu rfl rfl (Mw.pu rfl rfl (Mw.pu rfl rfl (Mw.pu rfl rfl (Mw.ps hc122 rfl rfl (Mw.p rfl rfl (fun _ => R.pk hc122 rfl (v := vB true) rfl) (Mw.nil (⟨?_, ⟨true, W119, rfl, (l102.trans (l110.trans l119)), rfl, hm⟩⟩))))))))))))))))))))
      iterate 42 (refine .u ?_)
      exact Agree.refl _
     ·replace hm := bf hm hc122
      refine Mw.gp hc122 rfl rfl rfl rfl rfl (fun _ => R.mv (v := vI y88) rfl) (Mw.gp hc122 rfl rfl rfl rfl rfl (fun _ => R.gt rfl rfl) (Mw.gp hc122 rfl rfl rfl rfl rfl (fun _ => R.mv (v := vB (decide ((0 : Int) < (y88 : Int)))) rfl) (bsplit (decide ((0 : Int) < (y88 : Int))) (fun hc123 => ?_) (fun hc123 => ?_))))
      ·replace hm := bt hm hc123
       refine Mw.gp hc123 rfl rfl rfl rfl rfl (fun _ => R.fa rfl) (Mw.gq hc123 rfl rfl rfl rfl rfl (fun _ c => R.ld (v := v0_1_) rfl rfl (b104.clc rfl rfl c)) (Mw.gp hc123 rfl rfl rfl rfl rfl (fun _ => R.mv (v := vI y88) rfl) ?_))
       obtain ⟨u124, e125, hm⟩ := ob hm
       refine Mw.gp hc123 rfl rfl rfl rfl rfl (fun _ => R.ix (α := Head) s107 e125 rfl rfl rfl) (Mw.gp hc123 rfl rfl rfl rfl rfl (fun _ => R.fa rfl) (Mw.gq hc123 rfl rfl rfl rfl rfl (fun _ c => R.ld rfl rfl (cl_cell (Head.at0 (s107.at_ e125)).1 rfl (Head.at0 (s107.at_ e125)).str c)) (Mw.gp hc123 rfl rfl rfl rfl rfl (fun _ => R.fa rfl) (Mw.gq hc123 rfl rfl rfl rfl rfl (fun _ c => R.ld (v := v0_1_) rfl rfl (b104.clc rfl rfl c)) (Mw.gp hc123 rfl rfl rfl rfl rfl (fun _ => R.mv (v := vI y88) rfl) (Mw.gp hc123 rfl rfl rfl rfl rfl (fun _ => R.sub rfl rfl) ?_))))))
       obtain ⟨u126, e127, hm⟩ := ob hm
       refine Mw.gp hc123 rfl rfl rfl rfl rfl (fun _ => R.ix (α := Head) s107 e127 rfl rfl rfl) (Mw.gp hc123 rfl rfl rfl rfl rfl (fun _ => R.fa rfl) (Mw.gq hc123 rfl rfl rfl rfl rfl (fun _ c => R.ld rfl rfl (cl_cell (Head.at0 (s107.at_ e127)).1 rfl (Head.at0 (s107.at_ e127)).str c)) (Mw.gp hc123 rfl rfl rfl rfl rfl (fun _ => R.sle rfl rfl) (Mw.gp hc122 rfl rfl rfl rfl rfl (fun _ => R.pk hc123 rfl (v := vB (Op.bytesLess u124.Name u126.Name || u124.Name == u126.Name)) rfl) (Mw.p rfl rfl (fun _ => R.pk hc122 rfl (v := vB (Op.bytesLess u124.Name u126.Name || u124.Name == u126.Name)) rfl) (Mw.nil (⟨?_, ⟨(Op.bytesLess u124.Name u126.Name || u124.Name == u126.Name), W119, rfl, (l102.trans (l110.trans l119)), rfl, hm⟩⟩)))))))
       iterate 42 (refine .u ?_)
       exact Agree.refl _
      ·replace hm := bf hm hc123
       refine Mw.ps hc123 rfl rfl (Mw.ps hc123 rfl rfl (Mw.ps hc123 rfl rfl (Mw.ps hc123 rfl rfl (Mw.ps hc123 rfl rfl (Mw.ps hc123 rfl rfl (Mw.ps hc123 rfl rfl (Mw.ps hc123 rfl rfl (Mw.ps hc123 rfl rfl (Mw.ps hc123 rfl rfl (Mw.ps hc123 rfl rfl (Mw.ps hc123 rfl rfl (Mw.ps hc123 rfl rfl (Mw.ps hc123 rfl rfl (Mw.gp hc122 rfl rfl rfl rfl rfl (fun _ => R.pk hc123 rfl (v := vB false) rfl) (Mw.p rfl rfl (fun _ => R.pk hc122 rfl (v := vB false) rfl) (Mw.nil (⟨?_, ⟨false, W119, rfl, (l102.trans (l110.trans l119)), rfl, hm⟩⟩)))))))))))))))))
       iterate 42 (refine .u ?_)
       exact Agree.refl _
  ·replace hm := bf hm hc95
   refine Cw.exit ?_
   rw [hK90] at hm
   obtain ⟨K130, hK130, hm⟩ := jn_e hm
   refine Cw.join 116 125 [2] (fun l w => ∃ (y128 : Bool) (W129 : CW), W129.w = w ∧ Le [] W89 W129 ∧ l = [vB y128] ∧ K130 y128 = some r) ?_ ?_
   ·rintro _ _ σ ⟨y128, W129, rfl, l129, rfl, hm⟩
    rw [hK130] at hm
    have a131 := a92.n l129
    cases hm
    exact Cw.ret (ret1 rfl (Res.mk a131 rfl))
   ·refine Cw.region (Lw.fa rfl (Lw.r rfl (R.ld (v := v0_0_) rfl rfl (b93.cell rfl)) (Lw.ln x0.Commits (h0_0.ul a92) rfl (Lw.le rfl (Lw.m (vB (decide (((x0.Commits.length : Int) : Int) ≤ (16 : Int)))) rfl (bsplit (decide (((x0.Commits.length : Int) : Int) ≤ (16 : Int))) (fun hc134 => ?_) (fun hc134 => ?_)))))))
    ·replace hm := bt hm hc134
     refine Lw.wa hc134 rfl (Lw.fa rfl (Lw.wa hc134 rfl (Lw.r rfl (R.ld (v := v0_1_) rfl rfl (b93.cell rfl)) (Lw.wa hc134 rfl (Lw.ln x0.Heads (h0_1.ul a92) rfl (Lw.wa hc134 rfl (Lw.le rfl (Lw.p hc134 (vB (decide (((x0.Heads.length : Int) : Int) ≤ (5 : Int)))) rfl (Lw.g (vB (decide (((x0.Heads.length : Int) : Int) ≤ (5 : Int)))) rfl (Lw.nil (⟨?_, ⟨decide (((x0.Heads.length : Int) : Int) ≤ (5 : Int)), W89, rfl, Le.refl _ _, rfl, hm⟩⟩)))))))))))
     iterate 11 (refine .u ?_)
     exact Agree.refl _
    ·replace hm := bf hm hc134
     refine Lw.ps hc134 rfl (Lw.ps hc134 rfl (Lw.ps hc134 rfl (Lw.ps hc134 rfl (Lw.p hc134 (vB false) rfl (Lw.g (vB false) rfl (Lw.nil (⟨?_, ⟨false, W89, rfl, Le.refl _ _, rfl, hm⟩⟩)))))))
     iterate 11 (refine .u ?_)
     exact Agree.refl _

theorem p30 {W : CW} {K : List Nat} {x0 : Vm.Repo} {v0_0_ : Value} {v0_1_ : Value} {r : Bool} (h0 : Rd W K [v0_0_, v0_1_] x0) (hm : Vm.spec_l7Ok x0 = some r) : CallR Tryz.prog 30 [.agg [v0_0_, v0_1_].toArray].toArray W.w (Res W [] fun W' v => v = vB r) :=
 (c30 (V := W.view K []) (h0.view _) hm).ad (fk 0) fun _ _ e => e

theorem c66 {V : CW} {x0 : Vm.Commit} {v0_0_ : Value} {v0_2_ : Value} {r : Vm.Commit} (h0 : Rd V [0] [v0_0_, vS x0.Who, v0_2_] x0) (hm : Vm.spec_l7CopyCommit x0 = some r) : CallR Tryz.prog 66 [.agg [v0_0_, vS x0.Who, v0_2_].toArray].toArray V.w (Res V LL fun Wf v => ∃ (u0_0 : Value) (u0_2 : Value), v = .agg [u0_0, vS r.Who, u0_2].toArray ∧ OwS Wf [31] [] [u0_0] r.Parents ∧ OwS Wf [32] [] [u0_2] r.Tree) := by
 unfold Vm.spec_l7CopyCommit at hm
 obtain ⟨w0_0, w0_1, he0, h0_0, h0_2⟩ := Commit.split h0
 simp only [List.cons.injEq, and_true, true_and] at he0
 obtain ⟨rfl, rfl⟩ := he0
 obtain ⟨W0, hW0⟩ : ∃ W, W = V := ⟨V, rfl⟩
 subst hW0
 refine CallR.of Tryz.func66 rfl rfl rfl rfl (Cw.seq (Cw.region (Lw.t rfl (T.box 2 (v := .agg [v0_0_, vS x0.Who, v0_2_].toArray) (cs := [v0_0_, vS x0.Who, v0_2_]) rfl rfl) ?_)))
 rintro _ _ ⟨g1, W1, rfl, rfl, l1, b1⟩
 have a2 := l1.o
 refine Lw.t rfl (T.alloc 3 (cs := [.slice none 0 0, vS ([] : Str), .slice none 0 0]) rfl) ?_
 rintro _ _ ⟨g3, W3, rfl, rfl, l3, b3⟩
 have a4 := a2.n l3
 refine Lw.nil (Cw.seq (Cw.draw [4] [(1, 0), (2, 1), (4, 0), (5, 1), (6, 0), (7, 1), (0, 2), (3, 2), (8, 2), (9, 0), (10, 3)] mixed (by kernel_rfl) fun W6 l6 => ?_))
 have a7 := a4.n l6
 have b8 := (b1.up l3 rfl).up l6 rfl
 refine Mw.p rfl rfl (fun _ => R.fa rfl) (Mw.q rfl rfl (fun _ c => R.ld (v := v0_0_) rfl rfl (b8.clc rfl rfl c)) (Mw.p rfl rfl (fun _ => R.fa rfl) (Mw.q rfl rfl (fun _ c => R.ld (v := vS x0.Who) rfl rfl (b8.clc rfl rfl c)) (Mw.p rfl rfl (fun _ => R.fa rfl) (Mw.q rfl rfl (fun _ c => R.ld (v := v0_2_) rfl rfl (b8.clc rfl rfl c)) (Mw.t rfl rfl (T.lit0 (α := Int) 4 []) ?_))))))
 rintro v10 _ ⟨W10, rfl, l10, o10⟩
 have a11 := a7.n l10
 refine ⟨⟨_, rfl, (l10.sub (M := [4]) rfl)⟩, ?_⟩
 obtain ⟨q14, e15, hm⟩ := ob hm
 refine Mw.t rfl rfl (T.appP (α := Int) o10 (h0_0.ul a11) rfl rfl e15) ?_
 rintro v16 _ ⟨W16, rfl, l16, o16⟩
 have a18 := a11.t l16 rfl
 refine ⟨⟨_, rfl, ((l10.sub (M := [4]) rfl).trans (l16.sub (M := [4]) rfl))⟩, ?_⟩
 obtain ⟨z22, e23, hm⟩ := ob hm
 refine Mw.t rfl rfl (T.call rfl (p32 (K := [0]) (k0 := 5) (h0_2.ul a18) e23)) ?_
 rintro v0_24 _ ⟨W24, rfl, l24, ⟨_, rfl, f24_0⟩⟩
 have a25 := a18.n l24
 have o26 := o16.up l24 rfl
 refine ⟨⟨_, rfl, ((l10.sub (M := [4]) rfl).trans ((l16.sub (M := [4]) rfl).trans (l24.sub (M := [4]) rfl)))⟩, ?_⟩
 refine Mw.p rfl rfl (fun _ => R.bd (zs := [.slice none 0 0, vS ([] : Str), .slice none 0 0]) (cs := [v16, vS x0.Who, v0_24]) [(0, v16), (1, vS x0.Who), (2, v0_24)] rfl rfl rfl (bp_cons o26.oc rfl (bp_cons rfl rfl (bp_cons f24_0.oc rfl bp_nil)))) (Mw.lu rfl (T.sta (vs := [v16, vS x0.Who, v0_24]) ((((b3.up l6 rfl).up l10 rfl).up l16 rfl).up l24 rfl) rfl rfl (oc_cons o26.oc (oc_cons rfl (oc_cons f24_0.oc oc_nil))) rfl rfl) ?_)
 rintro _ _ ⟨W29, rfl, l29, b29⟩
 have a30 := a25.t l29 rfl
 refine Mw.nil ?_
 obtain ⟨W34, ew34, l34, o34⟩ := (o26.up l29 rfl).dyeO 31
 have a35 := a30.t l34 rfl
 obtain ⟨W39, ew39, l39, o39⟩ := ((f24_0.up l29 rfl).up l34 rfl).dyeO 32
 have a40 := a35.t l39 rfl
 cases hm
 rw [← ew39.trans (ew34)]
 exact Cw.ret (retA1 rfl ((b29.up l34 rfl).up l39 rfl) (Res.mk a40 ⟨v16, v0_24, rfl, (o34.up l39 rfl).s, o39.s⟩))

theorem p66 {W : CW} {K : List Nat} {x0 : Vm.Commit} {v0_0_ : Value} {v0_2_ : Value} {k0 : Nat} {k1 : Nat} {r : Vm.Commit} (h0 : Rd W K [v0_0_, vS x0.Who, v0_2_] x0) (hm : Vm.spec_l7CopyCommit x0 = some r) : CallR Tryz.prog 66 [.agg [v0_0_, vS x0.Who, v0_2_].toArray].toArray W.w (Res W [] fun W' v => ∃ (u0_0 : Value) (u0_2 : Value), v = .agg [u0_0, vS r.Who, u0_2].toArray ∧ Ow W' k0 [] [u0_0] r.Parents ∧ Ow W' k1 [] [u0_2] r.Tree) :=
 CallR.adJ (J := []) (fun c => bif Nat.beq c 0 then 0 else bif Nat.beq c 31 then k0 else bif Nat.beq c 32 then k1 else 0) (c66 (V := W.view K []) (h0.view _) hm) fun _ _ ⟨u0_0, u0_2, e, f0, f1⟩ => ⟨u0_0, u0_2, e, f0.one1.backN rfl, f1.one1.backN rfl⟩

end Go.Sx
