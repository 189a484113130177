/- Walks: each function answers as its model, printed by a program of ours. Conditions: the arguments read as they are given. -/
import Derived.Test.YtmjjhnahdmlmaaaGreatDoorXTs
import Derived.Test.YtmjjhnahdmlmaaaGreatDoorXMd
import Derived.Test.YtmjjhnahdmlmaaaGreatDoorXW0
import Derived.Test.YtmjjhnahdmlmaaaGreatDoorXW2
namespace Go.Sx
open Go Go.Proofs Go.Vm Rp
set_option linter.unusedVariables false
set_option linter.unusedSimpArgs false

theorem c30 {V : CW} {x0 : Vm.Repo} {v0_0_ : Value} {v0_1_ : Value} {r : Bool} (h0 : Rd V [0] [v0_0_, v0_1_] x0) (hm : Vm.spec_l7Ok x0 = some r) : CallR Tryz.prog 30 [.agg [v0_0_, v0_1_].toArray].toArray V.w (Res V LL fun Wf v => v = vB r) := by
 unfold Vm.spec_l7Ok at hm
 obtain ⟨w0_0, w0_1, he0, h0_0, h0_1⟩ := Repo.split h0
 simp only [List.cons.injEq, and_true, true_and] at he0
 obtain ⟨rfl, rfl⟩ := he0
 obtain ⟨W0, hW0⟩ : ∃ W, W = V := ⟨V, rfl⟩
 subst hW0
 refine CallR.of Tryz.func30 rfl rfl rfl rfl (Cw.seq (Cw.region (Lw.t rfl (T.box 2 (v := .agg [v0_0_, v0_1_].toArray) (cs := [v0_0_, v0_1_]) rfl rfl) ?_)))
 rintro _ _ ⟨g1, W1, rfl, rfl, l1, b1⟩
 have a2 := l1.o
 refine Lw.g (vB false) rfl (Lw.nil (Cw.seq (Cw.seq (Cw.region (Lw.g (vI 0) rfl (Lw.nil (Cw.block ?_)))))))
 obtain ⟨K8, hK8, hm⟩ := jn_e hm
 refine Cw.loop 7 66 [2, 3, 4, 5] (fun m l w => ∃ (y3 : Bool) (y4 : Int) (j5 j6 : Value) (W7 : CW), W7.w = w ∧ Le [3] W1 W7 ∧ l = [vB y3, vI y4, j5, j6] ∧ Vm.spec_l7Ok_l1 x0 K8 m y3 y4 = some r) (((x0.Commits.length : Int) - 0).toNat + 1) ⟨false, 0, undef, undef, W1, rfl, Le.refl _ _, rfl, hm⟩ ?_
 rintro m9 _ _ σ ⟨y3, y4, j5, j6, W7, rfl, l7, rfl, hm⟩
 obtain _ | m9 := m9
 ·cases hm
 unfold Vm.spec_l7Ok_l1 at hm
 have a10 := a2.t l7 rfl
 have b11 := b1.up l7 rfl
 refine Cw.seq (Cw.seq (Cw.region ?_))
 have s12 := h0_0.ul a10
 refine Lw.m (vI y4) rfl (Lw.fa rfl (Lw.r rfl (R.ld (v := v0_0_) rfl rfl (b11.cell rfl)) (Lw.ln x0.Commits s12 rfl (Lw.lt rfl (Lw.nil (Cw.cond (b := decide ((y4 : Int) < ((x0.Commits.length : Int) : Int))) rfl (fun hc13 => ?_) (fun hc13 => ?_)))))))
 ·replace hm := bt hm hc13
  refine Cw.skip (Cw.seq (Cw.block (Cw.seq (Cw.region (Lw.fa rfl (Lw.r rfl (R.ld (v := v0_0_) rfl rfl (b11.cell rfl)) (Lw.m (vI y4) rfl ?_)))))))
  obtain ⟨u14, e15, hm⟩ := ob hm
  refine Lw.r rfl (R.ix (α := Commit) s12 e15 rfl rfl rfl) ?_
  obtain ⟨x16, c17, _, r18⟩ := (s12.at_ e15).cells
  obtain ⟨v19, v21, rfl, r20, r22⟩ := Commit.split r18
  refine Lw.r rfl (R.lda c17 rfl rfl) (Lw.t rfl (T.alloc 3 (cs := [.slice none 0 0, vS ([] : Str), .slice none 0 0]) rfl) ?_)
  rintro _ _ ⟨g23, W23, rfl, rfl, l23, b23⟩
  have a24 := l23.o
  refine Lw.u (T.sta (vs := [v19, vS u14.Who, v21]) b23 rfl rfl (oc_cons r20.oc (oc_cons rfl (oc_cons r22.oc oc_nil))) rfl rfl) ?_
  rintro _ _ ⟨W26, rfl, l26, b26⟩
  have a27 := l26.s rfl
  refine Lw.nil (Cw.seq (Cw.seq (Cw.region (Lw.g (vI 0) rfl (Lw.nil (Cw.block ?_))))))
  obtain ⟨K32, hK32, hm⟩ := jn_e hm
  refine Cw.loop 19 50 [2, 5] (fun m l w => ∃ (y29 : Bool) (y30 : Int) (W31 : CW), W31.w = w ∧ Le [] W26 W31 ∧ l = [vB y29, vI y30] ∧ Vm.spec_l7Ok_l2 y4 u14 K32 m y29 y30 = some r) (((u14.Parents.length : Int) - 0).toNat + 1) ⟨y3, 0, W26, rfl, Le.refl _ _, rfl, hm⟩ ?_
  rintro m33 _ _ σ ⟨y29, y30, W31, rfl, l31, rfl, hm⟩
  obtain _ | m33 := m33
  ·cases hm
  unfold Vm.spec_l7Ok_l2 at hm
  have a34 := l31.o
  have b36 := b26.up l31 rfl
  refine Cw.seq (Cw.seq (Cw.region ?_))
  have s37 := r20.ul ((a24.trans a27).trans a34)
  refine Lw.m (vI y30) rfl (Lw.fa rfl (Lw.r rfl (R.ld (v := v19) rfl rfl (b36.cell rfl)) (Lw.ln u14.Parents s37 rfl (Lw.lt rfl (Lw.nil (Cw.cond (b := decide ((y30 : Int) < ((u14.Parents.length : Int) : Int))) rfl (fun hc38 => ?_) (fun hc38 => ?_)))))))
  ·replace hm := bt hm hc38
   refine Cw.skip (Cw.seq (Cw.block ?_))
   obtain ⟨K41, hK41, hm⟩ := jn_e hm
   refine Cw.join 26 50 [50] (fun l w => ∃ (y39 : Bool) (W40 : CW), W40.w = w ∧ Le [] W31 W40 ∧ l = [vB y39] ∧ K41 y39 = some r) ?_ ?_
   ·rintro _ _ σ ⟨y39, W40, rfl, l40, rfl, hm⟩
    rw [hK41] at hm
    have a42 := (((a10.trans a24).trans a27).trans a34).n l40
    refine Cw.cond (b := y39) rfl (fun hc45 => ?_) (fun hc45 => ?_)
    ·replace hm := bt hm hc45
     refine Cw.seq (Cw.region (Lw.g (vB false) rfl (Lw.nil ?_)))
     cases hm
     exact Cw.ret (ret1 rfl (Res.mk a42 rfl))
    ·replace hm := bf hm hc45
     refine Cw.skip (Cw.region (Lw.m (vI y30) rfl (Lw.add rfl (Lw.g (vI (w64 (y30 + 1))) rfl (Lw.nil (⟨?_, m33, Nat.lt_succ_self m33, ⟨y29, w64 (y30 + 1), W40, rfl, (l31.trans l40), rfl, hm⟩⟩))))))
     iterate 3 (refine Agree.up rfl ?_)
     iterate 1 (refine Agree.up rfl ?_)
     refine Agree.ov0 rfl ?_
     iterate 5 (refine Agree.up rfl ?_)
     iterate 2 (refine Agree.up rfl ?_)
     exact Agree.base
   ·refine Cw.draw [] [(0, 0), (1, 1), (2, 0), (3, 0), (4, 1), (5, 0), (6, 0), (7, 2), (8, 0), (9, 0), (10, 0), (11, 0), (12, 0), (13, 0), (14, 1), (15, 0), (16, 0), (17, 1), (18, 0), (19, 1), (20, 0), (21, 1), (22, 0), (23, 0), (24, 0)] mixed (by kernel_rfl) fun W46 l46 => ?_
    have a47 := ((a24.trans a27).trans a34).n l46
    have b49 := b36.up l46 rfl
    refine Mw.p rfl rfl (fun _ => R.fa rfl) (Mw.q rfl rfl (fun _ c => R.ld (v := v19) rfl rfl (b49.clc rfl rfl c)) (Mw.p rfl rfl (fun _ => R.mv (v := vI y30) rfl) ?_))
    obtain ⟨u50, e51, hm⟩ := ob hm
    have s52 := r20.ul a47
    refine Mw.p rfl rfl (fun _ => R.ix (α := Int) s52 e51 rfl rfl rfl) (Mw.q rfl rfl (fun _ c => R.ld rfl rfl (cl_cell (s52.at_ e51).1 rfl (s52.at_ e51).int c)) (Mw.p rfl rfl (fun _ => R.mv (v := vI y4) rfl) (Mw.p rfl rfl (fun _ => R.sub rfl rfl) ?_)))
    obtain ⟨z53, e54, hm⟩ := ob hm
    refine Mw.t rfl rfl (T.call rfl (p31 (K := [0])   e54)) ?_
    rintro _ _ ⟨W55, rfl, l55, rfl⟩
    refine ⟨⟨_, rfl, (l55.sub (M := []) rfl)⟩, ?_⟩
    refine Mw.p rfl rfl (fun _ => R.not rfl) (Mw.p rfl rfl (fun _ => R.mv (v := vB (!z53)) rfl) (bsplit (!z53) (fun hc59 => ?_) (fun hc59 => ?_)))
    ·replace hm := bt hm hc59
     refine Mw.pass' hc59 rfl rfl rfl rfl rfl rfl (Mw.pass' hc59 rfl rfl rfl rfl rfl rfl (Mw.pass' hc59 rfl rfl rfl rfl rfl rfl (Mw.passU rfl rfl rfl rfl rfl (Mw.passU rfl rfl rfl rfl rfl (Mw.passU rfl rfl rfl rfl rfl (Mw.passU rfl rfl rfl rfl rfl (Mw.passU rfl rfl rfl rfl rfl (Mw.passU rfl rfl rfl rfl rfl (Mw.passU rfl rfl rfl rfl rfl (Mw.passU rfl rfl rfl rfl rfl (Mw.passU rfl rfl rfl rfl rfl (Mw.passU rfl rfl rfl rfl rfl (Mw.pass' hc59 rfl rfl rfl rfl rfl rfl (Mw.p rfl rfl (fun _ => R.pk hc59 rfl (v := vB true) rfl) (Mw.nil (⟨?_, ⟨true, W55, rfl, (l46.trans l55), rfl, hm⟩⟩))))))))))))))))
     iterate 25 (refine Agree.up rfl ?_)
     exact Agree.refl _
    ·replace hm := bf hm hc59
     refine Mw.gp hc59 rfl rfl rfl rfl rfl (fun _ => R.mv (v := vI y30) rfl) (Mw.gp hc59 rfl rfl rfl rfl rfl (fun _ => R.gt rfl rfl) (Mw.gp hc59 rfl rfl rfl rfl rfl (fun _ => R.mv (v := vB (decide ((0 : Int) < (y30 : Int)))) rfl) (bsplit (decide ((0 : Int) < (y30 : Int))) (fun hc60 => ?_) (fun hc60 => ?_))))
     ·replace hm := bt hm hc60
      refine Mw.gp hc60 rfl rfl rfl rfl rfl (fun _ => R.fa rfl) (Mw.gq hc60 rfl rfl rfl rfl rfl (fun _ c => R.ld (v := v19) rfl rfl (b49.clc rfl rfl c)) (Mw.gp hc60 rfl rfl rfl rfl rfl (fun _ => R.mv (v := vI y30) rfl) ?_))
      obtain ⟨u61, e62, hm⟩ := ob hm
      refine Mw.gp hc60 rfl rfl rfl rfl rfl (fun _ => R.ix (α := Int) s52 e62 rfl rfl rfl) (Mw.gq hc60 rfl rfl rfl rfl rfl (fun _ c => R.ld rfl rfl (cl_cell (s52.at_ e62).1 rfl (s52.at_ e62).int c)) (Mw.gp hc60 rfl rfl rfl rfl rfl (fun _ => R.fa rfl) (Mw.gq hc60 rfl rfl rfl rfl rfl (fun _ c => R.ld (v := v19) rfl rfl (b49.clc rfl rfl c)) ?_)))
      obtain ⟨u63, e64, hm⟩ := ob hm
      refine Mw.gp hc60 rfl rfl rfl rfl rfl (fun _ => R.ix (α := Int) s52 e64 rfl rfl rfl) (Mw.gq hc60 rfl rfl rfl rfl rfl (fun _ c => R.ld rfl rfl (cl_cell (s52.at_ e64).1 rfl (s52.at_ e64).int c)) (Mw.gp hc60 rfl rfl rfl rfl rfl (fun _ => R.eq rfl rfl) (Mw.gp hc59 rfl rfl rfl rfl rfl (fun _ => R.pk hc60 rfl (v := vB ((u61 : Int) == (u63 : Int))) rfl) (Mw.p rfl rfl (fun _ => R.pk hc59 rfl (v := vB ((u61 : Int) == (u63 : Int))) rfl) (Mw.nil (⟨?_, ⟨((u61 : Int) == (u63 : Int)), W55, rfl, (l46.trans l55), rfl, hm⟩⟩))))))
      iterate 25 (refine Agree.up rfl ?_)
      exact Agree.refl _
     ·replace hm := bf hm hc60
      refine Mw.pass' hc60 rfl rfl rfl rfl rfl rfl (Mw.pass' hc60 rfl rfl rfl rfl rfl rfl (Mw.pass' hc60 rfl rfl rfl rfl rfl rfl (Mw.pass' hc60 rfl rfl rfl rfl rfl rfl (Mw.pass' hc60 rfl rfl rfl rfl rfl rfl (Mw.pass' hc60 rfl rfl rfl rfl rfl rfl (Mw.pass' hc60 rfl rfl rfl rfl rfl rfl (Mw.pass' hc60 rfl rfl rfl rfl rfl rfl (Mw.pass' hc60 rfl rfl rfl rfl rfl rfl (Mw.pass' hc60 rfl rfl rfl rfl rfl rfl (Mw.gp hc59 rfl rfl rfl rfl rfl (fun _ => R.pk hc60 rfl (v := vB false) rfl) (Mw.p rfl rfl (fun _ => R.pk hc59 rfl (v := vB false) rfl) (Mw.nil (⟨?_, ⟨false, W55, rfl, (l46.trans l55), rfl, hm⟩⟩)))))))))))))
      iterate 25 (refine Agree.up rfl ?_)
      exact Agree.refl _
  ·replace hm := bf hm hc38
   refine Cw.exit ?_
   rw [hK32] at hm
   obtain ⟨K67, hK67, hm⟩ := jn_e hm
   refine Cw.join 51 66 [66] (fun l w => ∃ (y65 : Bool) (W66 : CW), W66.w = w ∧ Le [] W31 W66 ∧ l = [vB y65] ∧ K67 y65 = some r) ?_ ?_
   ·rintro _ _ σ ⟨y65, W66, rfl, l66, rfl, hm⟩
    rw [hK67] at hm
    have a68 := (((a10.trans a24).trans a27).trans a34).n l66
    refine Cw.cond (b := y65) rfl (fun hc71 => ?_) (fun hc71 => ?_)
    ·replace hm := bt hm hc71
     refine Cw.seq (Cw.region (Lw.g (vB false) rfl (Lw.nil ?_)))
     cases hm
     exact Cw.ret (ret1 rfl (Res.mk a68 rfl))
    ·replace hm := bf hm hc71
     refine Cw.skip (Cw.region (Lw.m (vI y4) rfl (Lw.add rfl (Lw.g (vI (w64 (y4 + 1))) rfl (Lw.nil (⟨?_, m9, Nat.lt_succ_self m9, ⟨y29, w64 (y4 + 1), ptr (bx g23), vI y30, W66, rfl, (l7.trans ((l23.sub rfl).trans (l26.trans ((l31.sub rfl).trans (l66.sub rfl))))), rfl, hm⟩⟩))))))
     iterate 3 (refine Agree.up rfl ?_)
     iterate 1 (refine Agree.up rfl ?_)
     refine Agree.ov0 rfl ?_
     iterate 5 (refine Agree.up rfl ?_)
     iterate 2 (refine Agree.up rfl ?_)
     refine Agree.ov0 rfl ?_
     iterate 12 (refine Agree.up rfl ?_)
     iterate 4 (refine Agree.up rfl ?_)
     exact Agree.base
   ·refine Cw.region (Lw.fa rfl (Lw.r rfl (R.ld (v := v19) rfl rfl (b36.cell rfl)) (Lw.ln u14.Parents s37 rfl (Lw.gt rfl (Lw.m (vB (decide ((2 : Int) < ((u14.Parents.length : Int) : Int)))) rfl (bsplit (decide ((2 : Int) < ((u14.Parents.length : Int) : Int))) (fun hc72 => ?_) (fun hc72 => ?_)))))))
    ·replace hm := bt hm hc72
     refine Lw.pass' hc72 rfl rfl rfl rfl rfl rfl rfl (Lw.pass' hc72 rfl rfl rfl rfl rfl rfl rfl (Lw.pass' hc72 rfl rfl rfl rfl rfl rfl rfl (Lw.pass' hc72 rfl rfl rfl rfl rfl rfl rfl (Lw.p hc72 (vB true) rfl (Lw.m (vB true) rfl (Lw.pass' rfl rfl rfl rfl rfl rfl rfl rfl (Lw.pass' rfl rfl rfl rfl rfl rfl rfl rfl (Lw.pass' rfl rfl rfl rfl rfl rfl rfl rfl (Lw.pass' rfl rfl rfl rfl rfl rfl rfl rfl (Lw.p rfl (vB true) rfl (Lw.nil (⟨?_, ⟨true, W31, rfl, Le.refl _ _, rfl, hm⟩⟩))))))))))))
     iterate 16 (refine Agree.up rfl ?_)
     exact Agree.refl _
    ·replace hm := bf hm hc72
     refine Lw.want' hc72 rfl rfl rfl rfl (Lw.fa rfl (Lw.want' hc72 rfl rfl rfl rfl (Lw.r rfl (R.ld (v := vS u14.Who) rfl rfl (b36.cell rfl)) (Lw.want' hc72 rfl rfl rfl rfl ?_))))
     obtain ⟨z73, e74, hm⟩ := ob hm
     refine Lw.t rfl (T.call rfl (p51 (K := [0])   e74)) ?_
     rintro _ _ ⟨W75, rfl, l75, rfl⟩
     have a76 := ((a24.trans a27).trans a34).n l75
     refine Lw.want' hc72 rfl rfl rfl rfl (Lw.r rfl (R.not rfl) (Lw.p hc72 (vB (!z73)) rfl (Lw.m (vB (!z73)) rfl (bsplit (!z73) (fun hc79 => ?_) (fun hc79 => ?_)))))
     ·replace hm := bt hm hc79
      refine Lw.pass' hc79 rfl rfl rfl rfl rfl rfl rfl (Lw.pass' hc79 rfl rfl rfl rfl rfl rfl rfl (Lw.pass' hc79 rfl rfl rfl rfl rfl rfl rfl (Lw.pass' hc79 rfl rfl rfl rfl rfl rfl rfl (Lw.p hc79 (vB true) rfl (Lw.nil (⟨?_, ⟨true, W75, rfl, l75, rfl, hm⟩⟩))))))
      iterate 16 (refine Agree.up rfl ?_)
      exact Agree.refl _
     ·replace hm := bf hm hc79
      refine Lw.want' hc79 rfl rfl rfl rfl (Lw.fa rfl (Lw.want' hc79 rfl rfl rfl rfl (Lw.r rfl (R.ld (v := v21) rfl rfl ((b36.up l75 rfl).cell rfl)) (Lw.want' hc79 rfl rfl rfl rfl ?_))))
      obtain ⟨z81, e82, hm⟩ := ob hm
      refine Lw.t rfl (T.call rfl (p52 (K := [0])  (r22.ul a76) e82)) ?_
      rintro _ _ ⟨W83, rfl, l83, rfl⟩
      refine Lw.want' hc79 rfl rfl rfl rfl (Lw.r rfl (R.not rfl) (Lw.p hc79 (vB (!z81)) rfl (Lw.nil (⟨?_, ⟨(!z81), W83, rfl, (l75.trans l83), rfl, hm⟩⟩))))
      iterate 16 (refine Agree.up rfl ?_)
      exact Agree.refl _
 ·replace hm := bf hm hc13
  refine Cw.exit ?_
  rw [hK8] at hm
  refine Cw.seq (Cw.seq (Cw.region (Lw.g (vI 0) rfl (Lw.nil (Cw.block ?_)))))
  obtain ⟨K90, hK90, hm⟩ := jn_e hm
  refine Cw.loop 67 115 [2, 6] (fun m l w => ∃ (y87 : Bool) (y88 : Int) (W89 : CW), W89.w = w ∧ Le [] W7 W89 ∧ l = [vB y87, vI y88] ∧ Vm.spec_l7Ok_l3 x0 K90 m y87 y88 = some r) (((x0.Heads.length : Int) - 0).toNat + 1) ⟨y3, 0, W7, rfl, Le.refl _ _, rfl, hm⟩ ?_
  rintro m91 _ _ σ ⟨y87, y88, W89, rfl, l89, rfl, hm⟩
  obtain _ | m91 := m91
  ·cases hm
  unfold Vm.spec_l7Ok_l3 at hm
  have a92 := a10.n l89
  have b93 := b11.up l89 rfl
  refine Cw.seq (Cw.seq (Cw.region (Lw.m (vI y88) rfl (Lw.fa rfl (Lw.r rfl (R.ld (v := v0_1_) rfl rfl (b93.cell rfl)) (Lw.ln x0.Heads (h0_1.ul a92) rfl (Lw.lt rfl (Lw.nil (Cw.cond (b := decide ((y88 : Int) < ((x0.Heads.length : Int) : Int))) rfl (fun hc95 => ?_) (fun hc95 => ?_))))))))))
  ·replace hm := bt hm hc95
   refine Cw.skip (Cw.seq (Cw.block ?_))
   obtain ⟨K98, hK98, hm⟩ := jn_e hm
   refine Cw.join 74 115 [115] (fun l w => ∃ (y96 : Bool) (W97 : CW), W97.w = w ∧ Le [] W89 W97 ∧ l = [vB y96] ∧ K98 y96 = some r) ?_ ?_
   ·rintro _ _ σ ⟨y96, W97, rfl, l97, rfl, hm⟩
    rw [hK98] at hm
    have a99 := a92.n l97
    refine Cw.cond (b := y96) rfl (fun hc101 => ?_) (fun hc101 => ?_)
    ·replace hm := bt hm hc101
     refine Cw.seq (Cw.region (Lw.g (vB false) rfl (Lw.nil ?_)))
     cases hm
     exact Cw.ret (ret1 rfl (Res.mk a99 rfl))
    ·replace hm := bf hm hc101
     refine Cw.skip (Cw.region (Lw.m (vI y88) rfl (Lw.add rfl (Lw.g (vI (w64 (y88 + 1))) rfl (Lw.nil (⟨?_, m91, Nat.lt_succ_self m91, ⟨y87, w64 (y88 + 1), W97, rfl, (l89.trans l97), rfl, hm⟩⟩))))))
     iterate 3 (refine Agree.up rfl ?_)
     iterate 1 (refine Agree.up rfl ?_)
     refine Agree.ov0 rfl ?_
     iterate 5 (refine Agree.up rfl ?_)
     iterate 2 (refine Agree.up rfl ?_)
     exact Agree.base
   ·refine Cw.draw [] [(0, 0), (1, 1), (2, 0), (3, 0), (4, 0), (5, 1), (6, 2), (7, 0), (8, 0), (9, 0), (10, 1), (11, 0), (12, 0), (13, 0), (14, 1), (15, 0), (16, 1), (17, 0), (18, 0), (19, 2), (20, 0), (21, 0), (22, 0), (23, 0), (24, 0), (25, 0), (26, 0), (27, 1), (28, 0), (29, 0), (30, 0), (31, 1), (32, 0), (33, 1), (34, 0), (35, 0), (36, 0), (37, 0), (38, 1), (39, 0), (40, 0), (41, 0)] mixed (by kernel_rfl) fun W102 l102 => ?_
    have a103 := a92.n l102
    have b104 := b93.up l102 rfl
    refine Mw.p rfl rfl (fun _ => R.fa rfl) (Mw.q rfl rfl (fun _ c => R.ld (v := v0_1_) rfl rfl (b104.clc rfl rfl c)) (Mw.p rfl rfl (fun _ => R.mv (v := vI y88) rfl) ?_))
    obtain ⟨u105, e106, hm⟩ := ob hm
    have s107 := h0_1.ul a103
    refine Mw.p rfl rfl (fun _ => R.ix (α := Head) s107 e106 rfl rfl rfl) (Mw.p rfl rfl (fun _ => R.fa rfl) (Mw.q rfl rfl (fun _ c => R.ld rfl rfl (cl_cell (Head.at0 (s107.at_ e106)).1 rfl (Head.at0 (s107.at_ e106)).str c)) ?_))
    obtain ⟨z108, e109, hm⟩ := ob hm
    refine Mw.t rfl rfl (T.call rfl (p51 (K := [0])   e109)) ?_
    rintro _ _ ⟨W110, rfl, l110, rfl⟩
    have a111 := a103.n l110
    refine ⟨⟨_, rfl, (l110.sub (M := []) rfl)⟩, ?_⟩
    refine Mw.p rfl rfl (fun _ => R.not rfl) (Mw.p rfl rfl (fun _ => R.mv (v := vB (!z108)) rfl) (bsplit (!z108) (fun hc113 => ?_) (fun hc113 => ?_)))
    ·replace hm := bt hm hc113
     refine Mw.pass' hc113 rfl rfl rfl rfl rfl rfl (Mw.pass' hc113 rfl rfl rfl rfl rfl rfl (Mw.pass' hc113 rfl rfl rfl rfl rfl rfl (Mw.pass' hc113 rfl rfl rfl rfl rfl rfl (Mw.pass' hc113 rfl rfl rfl rfl rfl rfl (Mw.pass' hc113 rfl rfl rfl rfl rfl rfl (Mw.pass' hc113 rfl rfl rfl rfl rfl rfl (Mw.pass' hc113 rfl rfl rfl rfl rfl rfl (Mw.pass' hc113 rfl rfl rfl rfl rfl rfl (Mw.pass' hc113 rfl rfl rfl rfl rfl rfl (Mw.pass' hc113 rfl rfl rfl rfl rfl rfl (Mw.pass' hc113 rfl rfl rfl rfl rfl rfl (Mw.p rfl rfl (fun _ => R.pk hc113 rfl (v := vB true) rfl) (Mw.p rfl rfl (fun _ => R.mv (v := vB true) rfl) (Mw.pass' rfl rfl rfl rfl rfl rfl rfl (Mw.pass' rfl rfl rfl rfl rfl rfl rfl (Mw.pass' rfl rfl rfl rfl rfl rfl rfl (Mw.passU rfl rfl rfl rfl rfl (Mw.passU rfl rfl rfl rfl rfl (Mw.passU rfl rfl rfl rfl rfl (Mw.passU rfl rfl rfl rfl rfl (Mw.passU rfl rfl rfl rfl rfl (Mw.passU rfl rfl rfl rfl rfl (Mw.passU rfl rfl rfl rfl rfl (Mw.passU rfl rfl rfl rfl rfl (Mw.passU rfl rfl rfl rfl rfl (Mw.passU rfl rfl rfl rfl rfl (Mw.passU rfl rfl rfl rfl rfl (Mw.passU rfl rfl rfl rfl rfl (Mw.passU rfl rfl rfl rfl rfl (Mw.passU rfl rfl rfl rfl rfl (Mw.pass' rfl rfl rfl rfl rfl rfl rfl (Mw.p rfl rfl (fun _ => R.pk rfl rfl (v := vB true) rfl) (Mw.nil (⟨?_, ⟨true, W110, rfl, (l102.trans l110), rfl, hm⟩⟩))))))))))))))))))))))))))))))))))
     iterate 42 (refine Agree.up rfl ?_)
     exact Agree.refl _
    ·replace hm := bf hm hc113
     refine Mw.gp hc113 rfl rfl rfl rfl rfl (fun _ => R.fa rfl) (Mw.gq hc113 rfl rfl rfl rfl rfl (fun _ c => R.ld (v := v0_1_) rfl rfl (b104.clc rfl rfl c)) (Mw.gp hc113 rfl rfl rfl rfl rfl (fun _ => R.mv (v := vI y88) rfl) ?_))
     obtain ⟨u114, e115, hm⟩ := ob hm
     refine Mw.gp hc113 rfl rfl rfl rfl rfl (fun _ => R.ix (α := Head) s107 e115 rfl rfl rfl) (Mw.gp hc113 rfl rfl rfl rfl rfl (fun _ => R.fa rfl) (Mw.gq hc113 rfl rfl rfl rfl rfl (fun _ c => R.ld rfl rfl (cl_cell (Head.at1 (s107.at_ e115)).1 rfl (Head.at1 (s107.at_ e115)).int c)) (Mw.gp hc113 rfl rfl rfl rfl rfl (fun _ => R.fa rfl) (Mw.gq hc113 rfl rfl rfl rfl rfl (fun _ c => R.ld (v := v0_0_) rfl rfl (b104.clc rfl rfl c)) (Mw.gp hc113 rfl rfl rfl rfl rfl (fun _ => lenR (xs := x0.Commits) (h0_0.ul a111) rfl) (Mw.gp hc113 rfl rfl rfl rfl rfl (fun _ => R.sub rfl rfl) ?_))))))
     obtain ⟨z117, e118, hm⟩ := ob hm
     refine Mw.gt hc113 rfl rfl rfl rfl rfl (T.call rfl (p31 (K := [0])   e118)) ?_
     rintro _ _ ⟨W119, rfl, l119, rfl⟩
     refine ⟨⟨_, rfl, ((l110.sub (M := []) rfl).trans (l119.sub (M := []) rfl))⟩, ?_⟩
     refine Mw.gp hc113 rfl rfl rfl rfl rfl (fun _ => R.not rfl) (Mw.p rfl rfl (fun _ => R.pk hc113 rfl (v := vB (!z117)) rfl) (Mw.p rfl rfl (fun _ => R.mv (v := vB (!z117)) rfl) (bsplit (!z117) (fun hc122 => ?_) (fun hc122 => ?_))))
     ·replace hm := bt hm hc122
      refine Mw.pass' hc122 rfl rfl rfl rfl rfl rfl (Mw.pass' hc122 rfl rfl rfl rfl rfl rfl (Mw.pass' hc122 rfl rfl rfl rfl rfl rfl (Mw.passU rfl rfl rfl rfl rfl (Mw.passU rfl rfl rfl rfl rfl (Mw.passU rfl rfl rfl rfl rfl (Mw.passU rfl rfl rfl rfl rfl (Mw.passU rfl rfl rfl rfl rfl (Mw.passU rfl rfl rfl rfl rfl (Mw.passU rfl rfl rfl rfl rfl (Mw.passU rfl rfl rfl rfl rfl (Mw.passU rfl rfl rfl rfl rfl (Mw.passU rfl rfl rfl rfl rfl (Mw.passU rfl rfl rfl rfl rfl (Mw.passU rfl rfl rfl rfl rfl (Mw.passU rfl rfl rfl rfl rfl (Mw.passU rfl rfl rfl rfl rfl (Mw.pass' hc122 rfl rfl rfl rfl rfl rfl (Mw.p rfl rfl (fun _ => R.pk hc122 rfl (v := vB true) rfl) (Mw.nil (⟨?_, ⟨true, W119, rfl, (l102.trans (l110.trans l119)), rfl, hm⟩⟩))))))))))))))))))))
      iterate 42 (refine Agree.up rfl ?_)
      exact Agree.refl _
     ·replace hm := bf hm hc122
      refine Mw.gp hc122 rfl rfl rfl rfl rfl (fun _ => R.mv (v := vI y88) rfl) (Mw.gp hc122 rfl rfl rfl rfl rfl (fun _ => R.gt rfl rfl) (Mw.gp hc122 rfl rfl rfl rfl rfl (fun _ => R.mv (v := vB (decide ((0 : Int) < (y88 : Int)))) rfl) (bsplit (decide ((0 : Int) < (y88 : Int))) (fun hc123 => ?_) (fun hc123 => ?_))))
      ·replace hm := bt hm hc123
       refine Mw.gp hc123 rfl rfl rfl rfl rfl (fun _ => R.fa rfl) (Mw.gq hc123 rfl rfl rfl rfl rfl (fun _ c => R.ld (v := v0_1_) rfl rfl (b104.clc rfl rfl c)) (Mw.gp hc123 rfl rfl rfl rfl rfl (fun _ => R.mv (v := vI y88) rfl) ?_))
       obtain ⟨u124, e125, hm⟩ := ob hm
       refine Mw.gp hc123 rfl rfl rfl rfl rfl (fun _ => R.ix (α := Head) s107 e125 rfl rfl rfl) (Mw.gp hc123 rfl rfl rfl rfl rfl (fun _ => R.fa rfl) (Mw.gq hc123 rfl rfl rfl rfl rfl (fun _ c => R.ld rfl rfl (cl_cell (Head.at0 (s107.at_ e125)).1 rfl (Head.at0 (s107.at_ e125)).str c)) (Mw.gp hc123 rfl rfl rfl rfl rfl (fun _ => R.fa rfl) (Mw.gq hc123 rfl rfl rfl rfl rfl (fun _ c => R.ld (v := v0_1_) rfl rfl (b104.clc rfl rfl c)) (Mw.gp hc123 rfl rfl rfl rfl rfl (fun _ => R.mv (v := vI y88) rfl) (Mw.gp hc123 rfl rfl rfl rfl rfl (fun _ => R.sub rfl rfl) ?_))))))
       obtain ⟨u126, e127, hm⟩ := ob hm
       refine Mw.gp hc123 rfl rfl rfl rfl rfl (fun _ => R.ix (α := Head) s107 e127 rfl rfl rfl) (Mw.gp hc123 rfl rfl rfl rfl rfl (fun _ => R.fa rfl) (Mw.gq hc123 rfl rfl rfl rfl rfl (fun _ c => R.ld rfl rfl (cl_cell (Head.at0 (s107.at_ e127)).1 rfl (Head.at0 (s107.at_ e127)).str c)) (Mw.gp hc123 rfl rfl rfl rfl rfl (fun _ => R.sle rfl rfl) (Mw.gp hc122 rfl rfl rfl rfl rfl (fun _ => R.pk hc123 rfl (v := vB (Op.bytesLess u124.Name u126.Name || u124.Name == u126.Name)) rfl) (Mw.p rfl rfl (fun _ => R.pk hc122 rfl (v := vB (Op.bytesLess u124.Name u126.Name || u124.Name == u126.Name)) rfl) (Mw.nil (⟨?_, ⟨(Op.bytesLess u124.Name u126.Name || u124.Name == u126.Name), W119, rfl, (l102.trans (l110.trans l119)), rfl, hm⟩⟩)))))))
       iterate 42 (refine Agree.up rfl ?_)
       exact Agree.refl _
      ·replace hm := bf hm hc123
       refine Mw.pass' hc123 rfl rfl rfl rfl rfl rfl (Mw.pass' hc123 rfl rfl rfl rfl rfl rfl (Mw.pass' hc123 rfl rfl rfl rfl rfl rfl (Mw.pass' hc123 rfl rfl rfl rfl rfl rfl (Mw.pass' hc123 rfl rfl rfl rfl rfl rfl (Mw.pass' hc123 rfl rfl rfl rfl rfl rfl (Mw.pass' hc123 rfl rfl rfl rfl rfl rfl (Mw.pass' hc123 rfl rfl rfl rfl rfl rfl (Mw.pass' hc123 rfl rfl rfl rfl rfl rfl (Mw.pass' hc123 rfl rfl rfl rfl rfl rfl (Mw.pass' hc123 rfl rfl rfl rfl rfl rfl (Mw.pass' hc123 rfl rfl rfl rfl rfl rfl (Mw.pass' hc123 rfl rfl rfl rfl rfl rfl (Mw.pass' hc123 rfl rfl rfl rfl rfl rfl (Mw.gp hc122 rfl rfl rfl rfl rfl (fun _ => R.pk hc123 rfl (v := vB false) rfl) (Mw.p rfl rfl (fun _ => R.pk hc122 rfl (v := vB false) rfl) (Mw.nil (⟨?_, ⟨false, W119, rfl, (l102.trans (l110.trans l119)), rfl, hm⟩⟩)))))))))))))))))
       iterate 42 (refine Agree.up rfl ?_)
       exact Agree.refl _
  ·replace hm := bf hm hc95
   refine Cw.exit ?_
   rw [hK90] at hm
   obtain ⟨K130, hK130, hm⟩ := jn_e hm
   refine Cw.join 116 125 [2] (fun l w => ∃ (y128 : Bool) (W129 : CW), W129.w = w ∧ Le [] W89 W129 ∧ l = [vB y128] ∧ K130 y128 = some r) ?_ ?_
   ·rintro _ _ σ ⟨y128, W129, rfl, l129, rfl, hm⟩
    rw [hK130] at hm
    have a131 := a92.n l129
    cases hm
    exact Cw.ret (ret1 rfl (Res.mk a131 rfl))
   ·refine Cw.region (Lw.fa rfl (Lw.r rfl (R.ld (v := v0_0_) rfl rfl (b93.cell rfl)) (Lw.ln x0.Commits (h0_0.ul a92) rfl (Lw.le rfl (Lw.m (vB (decide (((x0.Commits.length : Int) : Int) ≤ (16 : Int)))) rfl (bsplit (decide (((x0.Commits.length : Int) : Int) ≤ (16 : Int))) (fun hc134 => ?_) (fun hc134 => ?_)))))))
    ·replace hm := bt hm hc134
     refine Lw.want' hc134 rfl rfl rfl rfl (Lw.fa rfl (Lw.want' hc134 rfl rfl rfl rfl (Lw.r rfl (R.ld (v := v0_1_) rfl rfl (b93.cell rfl)) (Lw.want' hc134 rfl rfl rfl rfl (Lw.ln x0.Heads (h0_1.ul a92) rfl (Lw.want' hc134 rfl rfl rfl rfl (Lw.le rfl (Lw.p hc134 (vB (decide (((x0.Heads.length : Int) : Int) ≤ (5 : Int)))) rfl (Lw.g (vB (decide (((x0.Heads.length : Int) : Int) ≤ (5 : Int)))) rfl (Lw.nil (⟨?_, ⟨decide (((x0.Heads.length : Int) : Int) ≤ (5 : Int)), W89, rfl, Le.refl _ _, rfl, hm⟩⟩)))))))))))
     iterate 11 (refine Agree.up rfl ?_)
     exact Agree.refl _
    ·replace hm := bf hm hc134
     refine Lw.pass' hc134 rfl rfl rfl rfl rfl rfl rfl (Lw.pass' hc134 rfl rfl rfl rfl rfl rfl rfl (Lw.pass' hc134 rfl rfl rfl rfl rfl rfl rfl (Lw.pass' hc134 rfl rfl rfl rfl rfl rfl rfl (Lw.p hc134 (vB false) rfl (Lw.g (vB false) rfl (Lw.nil (⟨?_, ⟨false, W89, rfl, Le.refl _ _, rfl, hm⟩⟩)))))))
     iterate 11 (refine Agree.up rfl ?_)
     exact Agree.refl _

theorem p30 {W : CW} {K : List Nat} {x0 : Vm.Repo} {v0_0_ : Value} {v0_1_ : Value} {r : Bool} (h0 : Rd W K [v0_0_, v0_1_] x0) (hm : Vm.spec_l7Ok x0 = some r) : CallR Tryz.prog 30 [.agg [v0_0_, v0_1_].toArray].toArray W.w (Res W [] fun W' v => v = vB r) :=
 (c30 (V := W.view K []) (h0.view _) hm).ad (fk 0) fun _ _ e => e

theorem c66 {V : CW} {x0 : Vm.Commit} {v0_0_ : Value} {v0_2_ : Value} {r : Vm.Commit} (h0 : Rd V [0] [v0_0_, vS x0.Who, v0_2_] x0) (hm : Vm.spec_l7CopyCommit x0 = some r) : CallR Tryz.prog 66 [.agg [v0_0_, vS x0.Who, v0_2_].toArray].toArray V.w (Res V LL fun Wf v => ∃ (u0_0 : Value) (u0_2 : Value), v = .agg [u0_0, vS r.Who, u0_2].toArray ∧ OwS Wf [31] [] [u0_0] r.Parents ∧ OwS Wf [32] [] [u0_2] r.Tree) := by
 unfold Vm.spec_l7CopyCommit at hm
 obtain ⟨w0_0, w0_1, he0, h0_0, h0_2⟩ := Commit.split h0
 simp only [List.cons.injEq, and_true, true_and] at he0
 obtain ⟨rfl, rfl⟩ := he0
 obtain ⟨W0, hW0⟩ : ∃ W, W = V := ⟨V, rfl⟩
 subst hW0
 refine CallR.of Tryz.func66 rfl rfl rfl rfl (Cw.seq (Cw.region (Lw.t rfl (T.box 2 (v := .agg [v0_0_, vS x0.Who, v0_2_].toArray) (cs := [v0_0_, vS x0.Who, v0_2_]) rfl rfl) ?_)))
 rintro _ _ ⟨g1, W1, rfl, rfl, l1, b1⟩
 have a2 := l1.o
 refine Lw.t rfl (T.alloc 3 (cs := [.slice none 0 0, vS ([] : Str), .slice none 0 0]) rfl) ?_
 rintro _ _ ⟨g3, W3, rfl, rfl, l3, b3⟩
 have a4 := a2.n l3
 refine Lw.nil (Cw.seq (Cw.draw [4] [(1, 0), (2, 1), (4, 0), (5, 1), (6, 0), (7, 1), (0, 2), (3, 2), (8, 2), (9, 0), (10, 3)] mixed (by kernel_rfl) fun W6 l6 => ?_))
 have a7 := a4.n l6
 have b8 := (b1.up l3 rfl).up l6 rfl
 refine Mw.p rfl rfl (fun _ => R.fa rfl) (Mw.q rfl rfl (fun _ c => R.ld (v := v0_0_) rfl rfl (b8.clc rfl rfl c)) (Mw.p rfl rfl (fun _ => R.fa rfl) (Mw.q rfl rfl (fun _ c => R.ld (v := vS x0.Who) rfl rfl (b8.clc rfl rfl c)) (Mw.p rfl rfl (fun _ => R.fa rfl) (Mw.q rfl rfl (fun _ c => R.ld (v := v0_2_) rfl rfl (b8.clc rfl rfl c)) (Mw.t rfl rfl (T.lit0 (α := Int) 4 []) ?_))))))
 rintro v10 _ ⟨W10, rfl, l10, o10⟩
 have a11 := a7.n l10
 refine ⟨⟨_, rfl, (l10.sub (M := [4]) rfl)⟩, ?_⟩
 obtain ⟨q14, e15, hm⟩ := ob hm
 refine Mw.t rfl rfl (T.appP (α := Int) o10 (h0_0.ul a11) rfl rfl e15) ?_
 rintro v16 _ ⟨W16, rfl, l16, o16⟩
 have a18 := a11.t l16 rfl
 refine ⟨⟨_, rfl, ((l10.sub (M := [4]) rfl).trans (l16.sub (M := [4]) rfl))⟩, ?_⟩
 obtain ⟨z22, e23, hm⟩ := ob hm
 refine Mw.t rfl rfl (T.call rfl (p32 (K := [0]) (k0 := 5) (h0_2.ul a18) e23)) ?_
 rintro v0_24 _ ⟨W24, rfl, l24, ⟨_, rfl, f24_0⟩⟩
 have a25 := a18.n l24
 have o26 := o16.up l24 rfl
 refine ⟨⟨_, rfl, ((l10.sub (M := [4]) rfl).trans ((l16.sub (M := [4]) rfl).trans (l24.sub (M := [4]) rfl)))⟩, ?_⟩
 refine Mw.p rfl rfl (fun _ => R.bd (zs := [.slice none 0 0, vS ([] : Str), .slice none 0 0]) (cs := [v16, vS x0.Who, v0_24]) [(0, v16), (1, vS x0.Who), (2, v0_24)] rfl rfl rfl (bp_cons o26.oc rfl (bp_cons rfl rfl (bp_cons f24_0.oc rfl bp_nil)))) (Mw.lu rfl (T.sta (vs := [v16, vS x0.Who, v0_24]) ((((b3.up l6 rfl).up l10 rfl).up l16 rfl).up l24 rfl) rfl rfl (oc_cons o26.oc (oc_cons rfl (oc_cons f24_0.oc oc_nil))) rfl rfl) ?_)
 rintro _ _ ⟨W29, rfl, l29, b29⟩
 have a30 := a25.t l29 rfl
 refine Mw.nil ?_
 obtain ⟨W34, ew34, l34, o34⟩ := (o26.up l29 rfl).dyeO 31
 have a35 := a30.t l34 rfl
 obtain ⟨W39, ew39, l39, o39⟩ := ((f24_0.up l29 rfl).up l34 rfl).dyeO 32
 have a40 := a35.t l39 rfl
 cases hm
 rw [← ew39.trans (ew34)]
 exact Cw.ret (retA1 rfl ((b29.up l34 rfl).up l39 rfl) (Res.mk a40 ⟨v16, v0_24, rfl, (o34.up l39 rfl).s, o39.s⟩))

theorem p66 {W : CW} {K : List Nat} {x0 : Vm.Commit} {v0_0_ : Value} {v0_2_ : Value} {k0 : Nat} {k1 : Nat} {r : Vm.Commit} (h0 : Rd W K [v0_0_, vS x0.Who, v0_2_] x0) (hm : Vm.spec_l7CopyCommit x0 = some r) : CallR Tryz.prog 66 [.agg [v0_0_, vS x0.Who, v0_2_].toArray].toArray W.w (Res W [] fun W' v => ∃ (u0_0 : Value) (u0_2 : Value), v = .agg [u0_0, vS r.Who, u0_2].toArray ∧ Ow W' k0 [] [u0_0] r.Parents ∧ Ow W' k1 [] [u0_2] r.Tree) :=
 CallR.adJ (J := []) (fun c => bif Nat.beq c 0 then 0 else bif Nat.beq c 31 then k0 else bif Nat.beq c 32 then k1 else 0) (c66 (V := W.view K []) (h0.view _) hm) fun _ _ ⟨u0_0, u0_2, e, f0, f1⟩ => ⟨u0_0, u0_2, e, f0.one1.backN rfl, f1.one1.backN rfl⟩

theorem c58 {V : CW} {x0 : Vm.Repo} {v0_0_ : Value} {v0_1_ : Value} {r : Vm.Repo} (h0 : Rd V [0] [v0_0_, v0_1_] x0) (hm : Vm.spec_l7Copy x0 = some r) : CallR Tryz.prog 58 [.agg [v0_0_, v0_1_].toArray].toArray V.w (Res V LL fun Wf v => ∃ (u0_0 : Value) (u0_1 : Value), v = .agg [u0_0, u0_1].toArray ∧ OwS Wf [31] [] [u0_0] r.Commits ∧ OwS Wf [32] [] [u0_1] r.Heads) := by
 unfold Vm.spec_l7Copy at hm
 obtain ⟨w0_0, w0_1, he0, h0_0, h0_1⟩ := Repo.split h0
 simp only [List.cons.injEq, and_true, true_and] at he0
 obtain ⟨rfl, rfl⟩ := he0
 obtain ⟨W0, hW0⟩ : ∃ W, W = V := ⟨V, rfl⟩
 subst hW0
 refine CallR.of Tryz.func58 rfl rfl rfl rfl (Cw.seq (Cw.region (Lw.t rfl (T.box 2 (v := .agg [v0_0_, v0_1_].toArray) (cs := [v0_0_, v0_1_]) rfl rfl) ?_)))
 rintro _ _ ⟨g1, W1, rfl, rfl, l1, b1⟩
 have a2 := l1.o
 refine Lw.t rfl (T.alloc 3 (cs := [.slice none 0 0, .slice none 0 0]) rfl) ?_
 rintro _ _ ⟨g3, W3, rfl, rfl, l3, b3⟩
 have a4 := a2.n l3
 refine Lw.nil (Cw.seq (Cw.region (Lw.t rfl (T.lit0 (α := Head) 4 []) ?_)))
 rintro v6 _ ⟨W6, rfl, l6, o6⟩
 have a7 := a4.n l6
 have b8 := (b1.up l3 rfl).up l6 rfl
 refine Lw.fa rfl (Lw.r rfl (R.ld (v := v0_1_) rfl rfl (b8.cell rfl)) ?_)
 obtain ⟨q10, e11, hm⟩ := ob hm
 refine Lw.t rfl (T.appP (α := Head) o6 (h0_1.ul a7) rfl rfl e11) ?_
 rintro v12 _ ⟨W12, rfl, l12, o12⟩
 have a14 := a7.t l12 rfl
 refine Lw.r rfl (R.bd (zs := [.slice none 0 0, .slice none 0 0]) (cs := [.slice none 0 0, v12]) [(1, v12)] rfl rfl rfl (bp_cons o12.oc rfl bp_nil)) (Lw.t rfl (T.alloc 5 (cs := [.slice none 0 0, .slice none 0 0]) rfl) ?_)
 rintro _ _ ⟨g17, W17, rfl, rfl, l17, b17⟩
 have a18 := a14.n l17
 refine Lw.u (T.sta (vs := [.slice none 0 0, v12]) b17 rfl rfl (oc_cons rfl (oc_cons (o12.up l17 rfl).oc oc_nil)) rfl rfl) ?_
 rintro _ _ ⟨W22, rfl, l22, b22⟩
 have a23 := a18.t l22 rfl
 refine Lw.nil (Cw.seq (Cw.seq (Cw.region (Lw.g (vI 0) rfl (Lw.nil (Cw.block ?_))))))
 obtain ⟨K36, hK36, hm⟩ := jn_e hm
 refine Cw.loop 10 27 [4] (fun m l w => ∃ (y27 : Int) (y28 : List Vm.Commit) (y31 : List Vm.Head) (v29 v32 : Value) (W35 : CW), W35.w = w ∧ Le [5, 6, 7, 8] W22 W35 ∧ l = [vI y27] ∧ Ow W35 6 [] [v29] y28 ∧ Ow W35 4 [] [v32] y31 ∧ Bx W35 5 g17 [v29, v32] ∧ Vm.spec_l7Copy_l1 x0 K36 m y27 y28 y31 = some r) (((x0.Commits.length : Int) - 0).toNat + 1) ⟨0, ([] : List Commit), q10, .slice none 0 0, v12, W22, rfl, Le.refl _ _, rfl, owN 6 [], ((o12.up l17 rfl).up l22 rfl), b22, hm⟩ ?_
 rintro m37 _ _ σ ⟨y27, y28, y31, v29, v32, W35, rfl, l35, rfl, o30, o33, b34, hm⟩
 obtain _ | m37 := m37
 ·cases hm
 unfold Vm.spec_l7Copy_l1 at hm
 have a38 := a23.t l35 rfl
 have b39 := (((b8.up l12 rfl).up l17 rfl).up l22 rfl).up l35 rfl
 refine Cw.seq (Cw.seq (Cw.region (Lw.m (vI y27) rfl (Lw.fa rfl (Lw.r rfl (R.ld (v := v0_0_) rfl rfl (b39.cell rfl)) (Lw.ln x0.Commits (h0_0.ul a38) rfl (Lw.lt rfl (Lw.nil (Cw.cond (b := decide ((y27 : Int) < ((x0.Commits.length : Int) : Int))) rfl (fun hc42 => ?_) (fun hc42 => ?_))))))))))
 ·replace hm := bt hm hc42
  refine Cw.skip (Cw.seq (Cw.block (Cw.draw [6, 7, 8] [(0, 0), (1, 1), (2, 0), (3, 1), (4, 0), (5, 0), (6, 1), (7, 2), (8, 2), (9, 2), (10, 0), (11, 3)] mixed (by kernel_rfl) fun W43 l43 => ?_)))
  have a44 := a38.n l43
  refine Mw.p rfl rfl (fun _ => R.fa rfl) (Mw.q rfl rfl (fun _ c => R.ld (v := v29) rfl rfl ((b34.up l43 rfl).clc rfl rfl c)) (Mw.p rfl rfl (fun _ => R.fa rfl) (Mw.q rfl rfl (fun _ c => R.ld (v := v0_0_) rfl rfl ((b39.up l43 rfl).clc rfl rfl c)) (Mw.p rfl rfl (fun _ => R.mv (v := vI y27) rfl) ?_))))
  obtain ⟨u50, e51, hm⟩ := ob hm
  have s52 := h0_0.ul a44
  refine Mw.p rfl rfl (fun _ => R.ix (α := Commit) s52 e51 rfl rfl rfl) ?_
  obtain ⟨x53, c54, _, r55⟩ := (s52.at_ e51).cells
  obtain ⟨v56, v58, rfl, r57, r59⟩ := Commit.split r55
  refine Mw.q rfl rfl (fun _ c => R.lda (cl_cells (s52.at_ e51).1 rfl c54 c) rfl rfl) ?_
  obtain ⟨z60, e61, hm⟩ := ob hm
  refine Mw.t rfl rfl (T.call rfl (p66 (K := [0]) (k0 := 7) (k1 := 8) (Commit.rd (K := [0]) u50.Parents u50.Who u50.Tree r57 r59) e61)) ?_
  rintro _ _ ⟨W62, rfl, l62, ⟨v0_0_62, v0_2_62, rfl, f62_0, f62_1⟩⟩
  refine ⟨⟨_, rfl, (l62.sub (M := [6, 7, 8]) rfl)⟩, ?_⟩
  refine Mw.t rfl rfl (T.bs 9 [.agg [v0_0_62, vS z60.Who, v0_2_62].toArray] (cs := [v0_0_62, vS z60.Who, v0_2_62]) rfl rfl (bsA rfl)) ?_
  rintro _ _ ⟨g69, W69, rfl, rfl, l69, b69⟩
  refine ⟨⟨_, rfl, ((l62.sub (M := [6, 7, 8]) rfl).trans (l69.sub (M := [6, 7, 8]) rfl))⟩, ?_⟩
  obtain ⟨q78, e79, hm⟩ := ob hm
  refine Mw.t rfl rfl (T.app1 (α := Commit) (J := [7, 8]) (K' := []) (((o30.up l43 rfl).up l62 rfl).up l69 rfl) b69 (Commit.own z60.Parents z60.Who z60.Tree (f62_0.up l69 rfl).s (f62_1.up l69 rfl).s) rfl rfl e79) ?_
  rintro v80 _ ⟨W80, rfl, l80, o80⟩
  refine ⟨⟨_, rfl, ((l62.sub (M := [6, 7, 8]) rfl).trans ((l69.sub (M := [6, 7, 8]) rfl).trans (l80.sub (M := [6, 7, 8]) rfl)))⟩, ?_⟩
  refine Mw.p rfl rfl (fun _ => R.fa rfl) (Mw.lu rfl (T.st (j := 0) (v := v80) ((((b34.up l43 rfl).up l62 rfl).up l69 rfl).up l80 rfl) rfl rfl o80.oc rfl rfl) ?_)
  rintro _ _ ⟨W87, rfl, l87, b87⟩
  refine Mw.nil (Cw.region (Lw.m (vI y27) rfl (Lw.add rfl (Lw.g (vI (w64 (y27 + 1))) rfl (Lw.nil (⟨?_, m37, Nat.lt_succ_self m37, ⟨w64 (y27 + 1), q78, y31, v80, v32, W87, rfl, (l35.trans ((l43.sub rfl).trans ((l62.sub rfl).trans ((l69.sub rfl).trans ((l80.sub rfl).trans (l87.sub rfl)))))), rfl, (o80.up l87 rfl), (((((o33.up l43 rfl).up l62 rfl).up l69 rfl).up l80 rfl).up l87 rfl), b87, hm⟩⟩))))))
  iterate 19 (refine Agree.up rfl ?_)
  iterate 1 (refine Agree.up rfl ?_)
  exact Agree.base
 ·replace hm := bf hm hc42
  refine Cw.exit ?_
  rw [hK36] at hm
  refine Cw.seq (Cw.region (Lw.r rfl (R.lda (cs := [v29, v32]) b34.cells rfl rfl) (Lw.u (T.sta (vs := [v29, v32]) (((((b3.up l6 rfl).up l12 rfl).up l17 rfl).up l22 rfl).up l35 rfl) rfl rfl (oc_cons o30.oc (oc_cons o33.oc oc_nil)) rfl rfl) ?_)))
  rintro _ _ ⟨W94, rfl, l94, b94⟩
  have a95 := a38.t l94 rfl
  refine Lw.nil ?_
  obtain ⟨W100, ew100, l100, o100⟩ := (o30.up l94 rfl).dyeO 31
  have a101 := a95.t l100 rfl
  obtain ⟨W106, ew106, l106, o106⟩ := ((o33.up l94 rfl).up l100 rfl).dyeO 32
  have a107 := a101.t l106 rfl
  cases hm
  rw [← ew106.trans (ew100)]
  exact Cw.ret (retA1 rfl ((b94.up l100 rfl).up l106 rfl) (Res.mk a107 ⟨v29, v32, rfl, (o100.up l106 rfl).s, o106.s⟩))

theorem p58 {W : CW} {K : List Nat} {x0 : Vm.Repo} {v0_0_ : Value} {v0_1_ : Value} {k0 : Nat} {k1 : Nat} {r : Vm.Repo} (h0 : Rd W K [v0_0_, v0_1_] x0) (hm : Vm.spec_l7Copy x0 = some r) : CallR Tryz.prog 58 [.agg [v0_0_, v0_1_].toArray].toArray W.w (Res W [] fun W' v => ∃ (u0_0 : Value) (u0_1 : Value), v = .agg [u0_0, u0_1].toArray ∧ Ow W' k0 [] [u0_0] r.Commits ∧ Ow W' k1 [] [u0_1] r.Heads) :=
 CallR.adJ (J := []) (fun c => bif Nat.beq c 0 then 0 else bif Nat.beq c 31 then k0 else bif Nat.beq c 32 then k1 else 0) (c58 (V := W.view K []) (h0.view _) hm) fun _ _ ⟨u0_0, u0_1, e, f0, f1⟩ => ⟨u0_0, u0_1, e, f0.one1.backN rfl, f1.one1.backN rfl⟩

theorem c97 {V : CW} {x0 : Vm.Repo} {v0_0_ : Value} {v0_1_ : Value} {x1 : Str} {x2 : Int} {r : Vm.Repo} (h0 : Rd V [0] [v0_0_, v0_1_] x0) (hm : Vm.spec_l7Head x0 x1 x2 = some r) : CallR Tryz.prog 97 [.agg [v0_0_, v0_1_].toArray, vS x1, vI x2].toArray V.w (Res V LL fun Wf v => ∃ (u0_0 : Value) (u0_1 : Value), v = .agg [u0_0, u0_1].toArray ∧ Rd Wf [0] [u0_0] r.Commits ∧ Rd Wf [0] [u0_1] r.Heads) := by
 unfold Vm.spec_l7Head at hm
 obtain ⟨w0_0, w0_1, he0, h0_0, h0_1⟩ := Repo.split h0
 simp only [List.cons.injEq, and_true, true_and] at he0
 obtain ⟨rfl, rfl⟩ := he0
 obtain ⟨W0, hW0⟩ : ∃ W, W = V := ⟨V, rfl⟩
 subst hW0
 refine CallR.of Tryz.func97 rfl rfl rfl rfl (Cw.seq (Cw.region (Lw.t rfl (T.box 2 (v := .agg [v0_0_, v0_1_].toArray) (cs := [v0_0_, v0_1_]) rfl rfl) ?_)))
 rintro _ _ ⟨g1, W1, rfl, rfl, l1, b1⟩
 have a2 := l1.o
 refine Lw.t rfl (T.alloc 3 (cs := [.slice none 0 0, .slice none 0 0]) rfl) ?_
 rintro _ _ ⟨g3, W3, rfl, rfl, l3, b3⟩
 have a4 := a2.n l3
 refine Lw.nil (Cw.seq (Cw.region (Lw.fa rfl (Lw.r rfl (R.ld (v := v0_0_) rfl rfl ((b1.up l3 rfl).cell rfl)) (Lw.r rfl (R.bd (zs := [.slice none 0 0, .slice none 0 0]) (cs := [v0_0_, .slice none 0 0]) [(0, v0_0_)] rfl rfl rfl (bp_cons h0_0.oc rfl bp_nil)) (Lw.t rfl (T.alloc 4 (cs := [.slice none 0 0, .slice none 0 0]) rfl) ?_))))))
 rintro _ _ ⟨g6, W6, rfl, rfl, l6, b6⟩
 have a7 := a4.n l6
 refine Lw.u (T.sta (vs := [v0_0_, .slice none 0 0]) b6 rfl rfl (oc_cons h0_0.oc (oc_cons rfl oc_nil)) rfl rfl) ?_
 rintro _ _ ⟨W10, rfl, l10, b10⟩
 have a11 := a7.t l10 rfl
 refine Lw.nil (Cw.seq (Cw.region (Lw.g (vB false) rfl (Lw.nil (Cw.seq (Cw.seq (Cw.region (Lw.g (vI 0) rfl (Lw.nil (Cw.block ?_))))))))))
 obtain ⟨K24, hK24, hm⟩ := jn_e hm
 refine Cw.loop 13 57 [8, 9] (fun m l w => ∃ (y14 : Bool) (y15 : Int) (y16 : List Vm.Commit) (y19 : List Vm.Head) (v17 v20 : Value) (W23 : CW), W23.w = w ∧ Le [4, 5] W10 W23 ∧ l = [vB y14, vI y15] ∧ Rd W23 [0] [v17] y16 ∧ Ow W23 5 [] [v20] y19 ∧ Bx W23 4 g6 [v17, v20] ∧ Vm.spec_l7Head_l1 x0 x1 x2 K24 m y14 y15 y16 y19 = some r) (((x0.Heads.length : Int) - 0).toNat + 1) ⟨false, 0, x0.Commits, ([] : List Head), v0_0_, .slice none 0 0, W10, rfl, Le.refl _ _, rfl, (h0_0.ul a11), owN 5 [], b10, hm⟩ ?_
 rintro m26 _ _ σ ⟨y14, y15, y16, y19, v17, v20, W23, rfl, l23, rfl, r18, o21, b22, hm⟩
 obtain _ | m26 := m26
 ·cases hm
 unfold Vm.spec_l7Head_l1 at hm
 have a27 := a11.t l23 rfl
 have b28 := (((b1.up l3 rfl).up l6 rfl).up l10 rfl).up l23 rfl
 refine Cw.seq (Cw.seq (Cw.region ?_))
 have s30 := h0_1.ul a27
 refine Lw.m (vI y15) rfl (Lw.fa rfl (Lw.r rfl (R.ld (v := v0_1_) rfl rfl (b28.cell rfl)) (Lw.ln x0.Heads s30 rfl (Lw.lt rfl (Lw.nil (Cw.cond (b := decide ((y15 : Int) < ((x0.Heads.length : Int) : Int))) rfl (fun hc31 => ?_) (fun hc31 => ?_)))))))
 ·replace hm := bt hm hc31
  refine Cw.skip ?_
  obtain ⟨K41, hK41, hm⟩ := jn_e hm
  refine Cw.join 20 57 [8] (fun l w => ∃ (y32 : Bool) (y33 : List Vm.Commit) (y36 : List Vm.Head) (v34 v37 : Value) (W40 : CW), W40.w = w ∧ Le [4, 5] W23 W40 ∧ l = [vB y32] ∧ Rd W40 [0] [v34] y33 ∧ Ow W40 5 [] [v37] y36 ∧ Bx W40 4 g6 [v34, v37] ∧ K41 y32 y33 y36 = some r) ?_ ?_
  ·rintro _ _ σ ⟨y32, y33, y36, v34, v37, W40, rfl, l40, rfl, r35, o38, b39, hm⟩
   rw [hK41] at hm
   refine Cw.region (Lw.m (vI y15) rfl (Lw.add rfl (Lw.g (vI (w64 (y15 + 1))) rfl (Lw.nil (⟨?_, m26, Nat.lt_succ_self m26, ⟨y32, w64 (y15 + 1), y33, y36, v34, v37, W40, rfl, (l23.trans l40), rfl, r35, o38, b39, hm⟩⟩)))))
   iterate 3 (refine Agree.up rfl ?_)
   iterate 1 (refine Agree.up rfl ?_)
   refine Agree.ov0 rfl ?_
   iterate 5 (refine Agree.up rfl ?_)
   iterate 2 (refine Agree.up rfl ?_)
   exact Agree.base
  ·refine Cw.block ?_
   obtain ⟨K54, hK54, hm⟩ := jn_e hm
   refine Cw.join 20 39 [8] (fun l w => ∃ (y45 : Bool) (y46 : List Vm.Commit) (y49 : List Vm.Head) (v47 v50 : Value) (W53 : CW), W53.w = w ∧ Le [4, 5] W23 W53 ∧ l = [vB y45] ∧ Rd W53 [0] [v47] y46 ∧ Ow W53 5 [] [v50] y49 ∧ Bx W53 4 g6 [v47, v50] ∧ K54 y45 y46 y49 = some r) ?_ ?_
   ·rintro _ _ σ ⟨y45, y46, y49, v47, v50, W53, rfl, l53, rfl, r48, o51, b52, hm⟩
    rw [hK54] at hm
    have a55 := a27.t l53 rfl
    refine Cw.seq (Cw.region (Lw.fa rfl (Lw.r rfl (R.ld (v := v0_1_) rfl rfl ((b28.up l53 rfl).cell rfl)) (Lw.m (vI y15) rfl ?_))))
    obtain ⟨u58, e59, hm⟩ := ob hm
    refine Lw.r rfl (R.ix (α := Head) (h0_1.ul a55) e59 rfl rfl rfl) (Lw.fa rfl (Lw.r rfl (R.ld rfl rfl (Head.at0 ((h0_1.ul a55).at_ e59)).str) (Lw.m (vS x1) rfl (Lw.sne rfl (Lw.nil (Cw.cond (b := (u58.Name != x1)) rfl (fun hc61 => ?_) (fun hc61 => ?_)))))))
    ·replace hm := bt hm hc61
     refine Cw.draw [5] [(0, 0), (1, 1), (2, 0), (3, 1), (4, 0), (5, 0), (6, 1), (7, 2), (8, 2), (9, 0), (10, 3)] mixed (by kernel_rfl) fun W62 l62 => ?_
     have a63 := l62.o
     refine Mw.p rfl rfl (fun _ => R.fa rfl) (Mw.q rfl rfl (fun _ c => R.ld (v := v50) rfl rfl ((b52.up l62 rfl).clc rfl rfl c)) (Mw.p rfl rfl (fun _ => R.fa rfl) (Mw.q rfl rfl (fun _ c => R.ld (v := v0_1_) rfl rfl (((b28.up l53 rfl).up l62 rfl).clc rfl rfl c)) (Mw.p rfl rfl (fun _ => R.mv (v := vI y15) rfl) ?_))))
     obtain ⟨u68, e69, hm⟩ := ob hm
     have s70 := h0_1.ul (a55.trans a63)
     refine Mw.p rfl rfl (fun _ => R.ix (α := Head) s70 e69 rfl rfl rfl) ?_
     obtain ⟨x71, c72, _, r73⟩ := (s70.at_ e69).cells
     obtain rfl := Head.split r73
     refine Mw.q rfl rfl (fun _ c => R.lda (cl_cells (s70.at_ e69).1 rfl c72 c) rfl rfl) (Mw.t rfl rfl (T.bs 6 [.agg [vS u68.Name, vI u68.At].toArray] (cs := [vS u68.Name, vI u68.At]) rfl rfl (bsA rfl)) ?_)
     rintro _ _ ⟨g74, W74, rfl, rfl, l74, b74⟩
     have a75 := a63.n l74
     refine ⟨⟨_, rfl, (l74.sub (M := [5]) rfl)⟩, ?_⟩
     obtain ⟨q80, e81, hm⟩ := ob hm
     refine Mw.t rfl rfl (T.app1S (α := Head) (K' := []) ((o51.up l62 rfl).up l74 rfl) b74 (Head.rd (K := []) u68.Name u68.At) rfl rfl e81) ?_
     rintro v82 _ ⟨W82, rfl, l82, o82⟩
     have a83 := a75.t l82 rfl
     refine ⟨⟨_, rfl, ((l74.sub (M := [5]) rfl).trans (l82.sub (M := [5]) rfl))⟩, ?_⟩
     refine Mw.p rfl rfl (fun _ => R.fa rfl) (Mw.lu rfl (T.st (j := 1) (v := v82) (((b52.up l62 rfl).up l74 rfl).up l82 rfl) rfl rfl o82.oc rfl rfl) ?_)
     rintro _ _ ⟨W88, rfl, l88, b88⟩
     have a89 := a83.t l88 rfl
     refine Mw.nil (⟨?_, ⟨y45, y46, q80, v47, v82, W88, rfl, (l53.trans ((l62.sub rfl).trans ((l74.sub rfl).trans ((l82.sub rfl).trans (l88.sub rfl))))), rfl, (r48.ul a89), (o82.up l88 rfl), b88, hm⟩⟩)
     iterate 18 (refine Agree.up rfl ?_)
     iterate 1 (refine Agree.up rfl ?_)
     refine Agree.ov0 rfl ?_
     exact Agree.refl _
    ·replace hm := bf hm hc61
     refine Cw.skip (⟨?_, ⟨y45, y46, y49, v47, v50, W53, rfl, l53, rfl, r48, o51, b52, hm⟩⟩)
     iterate 8 (refine Agree.up rfl ?_)
     iterate 1 (refine Agree.up rfl ?_)
     refine Agree.ov0 rfl ?_
     exact Agree.refl _
   ·obtain ⟨K97, hK97, hm⟩ := jn_e hm
    refine Cw.join 20 31 [31] (fun l w => ∃ (y95 : Bool) (W96 : CW), W96.w = w ∧ Le [] W23 W96 ∧ l = [vB y95] ∧ K97 y95 = some r) ?_ ?_
    ·rintro _ _ σ ⟨y95, W96, rfl, l96, rfl, hm⟩
     rw [hK97] at hm
     have a98 := l96.o
     have b102 := b22.up l96 rfl
     refine Cw.cond (b := y95) rfl (fun hc103 => ?_) (fun hc103 => ?_)
     ·replace hm := bt hm hc103
      refine Cw.seq (Cw.region (Lw.fa rfl (Lw.r rfl (R.ld (v := v20) rfl rfl (b102.cell rfl)) (Lw.m (vS x1) rfl (Lw.m (vI x2) rfl (Lw.r rfl (R.bd (zs := [vS ([] : Str), vI 0]) (cs := [vS x1, vI x2]) [(0, vS x1), (1, vI x2)] rfl rfl rfl (bp_cons rfl rfl (bp_cons rfl rfl bp_nil))) (Lw.t rfl (T.bs 7 [.agg [vS x1, vI x2].toArray] (cs := [vS x1, vI x2]) rfl rfl (bsA rfl)) ?_)))))))
      rintro _ _ ⟨g104, W104, rfl, rfl, l104, b104⟩
      have a105 := a98.n l104
      obtain ⟨q110, e111, hm⟩ := ob hm
      refine Lw.t rfl (T.app1S (α := Head) (K' := []) ((o21.up l96 rfl).up l104 rfl) b104 (Head.rd (K := []) x1 x2) rfl rfl e111) ?_
      rintro v112 _ ⟨W112, rfl, l112, o112⟩
      have a113 := a105.t l112 rfl
      refine Lw.fa rfl (Lw.u (T.st (j := 1) (v := v112) ((b102.up l104 rfl).up l112 rfl) rfl rfl o112.oc rfl rfl) ?_)
      rintro _ _ ⟨W118, rfl, l118, b118⟩
      have a119 := a113.t l118 rfl
      refine Lw.nil (Cw.region (Lw.g (vB true) rfl (Lw.nil (⟨?_, ⟨true, y16, q110, v17, v112, W118, rfl, ((l96.sub rfl).trans ((l104.sub rfl).trans ((l112.sub rfl).trans (l118.sub rfl)))), rfl, (r18.ul a119), (o112.up l118 rfl), b118, hm⟩⟩))))
      iterate 9 (refine Agree.up rfl ?_)
      iterate 1 (refine Agree.up rfl ?_)
      refine Agree.ov0 rfl ?_
      exact Agree.refl _
     ·replace hm := bf hm hc103
      refine Cw.skip (⟨?_, ⟨y14, y16, y19, v17, v20, W96, rfl, (l96.sub rfl), rfl, (r18.ul a98), (o21.up l96 rfl), b102, hm⟩⟩)
      iterate 1 (refine Agree.up rfl ?_)
      refine Agree.ov0 rfl ?_
      exact Agree.refl _
    ·refine Cw.region (Lw.m (vB y14) rfl (Lw.r rfl (R.not rfl) (Lw.m (vB (!y14)) rfl (bsplit (!y14) (fun hc126 => ?_) (fun hc126 => ?_)))))
     ·replace hm := bt hm hc126
      refine Lw.want' hc126 rfl rfl rfl rfl (Lw.fa rfl (Lw.want' hc126 rfl rfl rfl rfl (Lw.r rfl (R.ld (v := v0_1_) rfl rfl (b28.cell rfl)) (Lw.want' hc126 rfl rfl rfl rfl (Lw.m (vI y15) rfl (Lw.want' hc126 rfl rfl rfl rfl ?_))))))
      obtain ⟨u127, e128, hm⟩ := ob hm
      refine Lw.r rfl (R.ix (α := Head) s30 e128 rfl rfl rfl) (Lw.want' hc126 rfl rfl rfl rfl (Lw.fa rfl (Lw.want' hc126 rfl rfl rfl rfl (Lw.r rfl (R.ld rfl rfl (Head.at0 (s30.at_ e128)).str) (Lw.want' hc126 rfl rfl rfl rfl (Lw.m (vS x1) rfl (Lw.want' hc126 rfl rfl rfl rfl (Lw.r rfl (R.sge rfl rfl) (Lw.p hc126 (vB (!Op.bytesLess u127.Name x1)) rfl (Lw.nil (⟨?_, ⟨(!Op.bytesLess u127.Name x1), W23, rfl, Le.refl _ _, rfl, hm⟩⟩)))))))))))
      iterate 12 (refine Agree.up rfl ?_)
      exact Agree.refl _
     ·replace hm := bf hm hc126
      refine Lw.pass' hc126 rfl rfl rfl rfl rfl rfl rfl (Lw.pass' hc126 rfl rfl rfl rfl rfl rfl rfl (Lw.pass' hc126 rfl rfl rfl rfl rfl rfl rfl (Lw.pass' hc126 rfl rfl rfl rfl rfl rfl rfl (Lw.pass' hc126 rfl rfl rfl rfl rfl rfl rfl (Lw.pass' hc126 rfl rfl rfl rfl rfl rfl rfl (Lw.pass' hc126 rfl rfl rfl rfl rfl rfl rfl (Lw.pass' hc126 rfl rfl rfl rfl rfl rfl rfl (Lw.p hc126 (vB false) rfl (Lw.nil (⟨?_, ⟨false, W23, rfl, Le.refl _ _, rfl, hm⟩⟩))))))))))
      iterate 12 (refine Agree.up rfl ?_)
      exact Agree.refl _
 ·replace hm := bf hm hc31
  refine Cw.exit ?_
  rw [hK24] at hm
  obtain ⟨K137, hK137, hm⟩ := jn_e hm
  refine Cw.join 58 67 [] (fun l w => ∃ (y129 : List Vm.Commit) (y132 : List Vm.Head) (v130 v133 : Value) (W136 : CW), W136.w = w ∧ Le [4, 5] W23 W136 ∧ l = [] ∧ Rd W136 [0] [v130] y129 ∧ Ow W136 5 [] [v133] y132 ∧ Bx W136 4 g6 [v130, v133] ∧ K137 y129 y132 = some r) ?_ ?_
  ·rintro _ _ σ ⟨y129, y132, v130, v133, W136, rfl, l136, rfl, r131, o134, b135, hm⟩
   rw [hK137] at hm
   have a138 := a27.t l136 rfl
   refine Cw.seq (Cw.region (Lw.r rfl (R.lda (cs := [v130, v133]) b135.cells rfl rfl) (Lw.u (T.sta (vs := [v130, v133]) ((((b3.up l6 rfl).up l10 rfl).up l23 rfl).up l136 rfl) rfl rfl (oc_cons r131.oc (oc_cons o134.oc oc_nil)) rfl rfl) ?_)))
   rintro _ _ ⟨W141, rfl, l141, b141⟩
   have a142 := l141.s rfl
   refine Lw.nil ?_
   obtain ⟨W146, ew146, l146, dj146⟩ := dyeE _ 5
   have s147 : Rd (α := List Vm.Head) W146 [0] [v133] y132 := by rw [dj146]; exact ((o134.up l141 rfl).rd.dye 5).sub (M := [0]) rfl
   have a148 := l146.s rfl
   cases hm
   rw [← ew146]
   exact Cw.ret (retA1 rfl (b141.up l146 rfl) (Res.mk ((a138.trans a142).trans a148) ⟨v130, v133, rfl, (r131.ul (a142.trans a148)), s147⟩))
  ·refine Cw.seq (Cw.region (Lw.m (vB y14) rfl (Lw.r rfl (R.not rfl) (Lw.nil (Cw.cond (b := (!y14)) rfl (fun hc153 => ?_) (fun hc153 => ?_))))))
   ·replace hm := bt hm hc153
    refine Cw.region (Lw.fa rfl (Lw.r rfl (R.ld (v := v20) rfl rfl (b22.cell rfl)) (Lw.m (vS x1) rfl (Lw.m (vI x2) rfl (Lw.r rfl (R.bd (zs := [vS ([] : Str), vI 0]) (cs := [vS x1, vI x2]) [(0, vS x1), (1, vI x2)] rfl rfl rfl (bp_cons rfl rfl (bp_cons rfl rfl bp_nil))) (Lw.t rfl (T.bs 8 [.agg [vS x1, vI x2].toArray] (cs := [vS x1, vI x2]) rfl rfl (bsA rfl)) ?_))))))
    rintro _ _ ⟨g154, W154, rfl, rfl, l154, b154⟩
    have a155 := l154.o
    obtain ⟨q160, e161, hm⟩ := ob hm
    refine Lw.t rfl (T.app1S (α := Head) (K' := []) (o21.up l154 rfl) b154 (Head.rd (K := []) x1 x2) rfl rfl e161) ?_
    rintro v162 _ ⟨W162, rfl, l162, o162⟩
    have a163 := a155.t l162 rfl
    refine Lw.fa rfl (Lw.u (T.st (j := 1) (v := v162) ((b22.up l154 rfl).up l162 rfl) rfl rfl o162.oc rfl rfl) ?_)
    rintro _ _ ⟨W168, rfl, l168, b168⟩
    have a169 := a163.t l168 rfl
    refine Lw.nil (⟨?_, ⟨y16, q160, v17, v162, W168, rfl, ((l154.sub rfl).trans ((l162.sub rfl).trans (l168.sub rfl))), rfl, (r18.ul a169), (o162.up l168 rfl), b168, hm⟩⟩)
    iterate 10 (refine Agree.up rfl ?_)
    exact Agree.refl _
   ·replace hm := bf hm hc153
    refine Cw.skip (⟨?_, ⟨y16, y19, v17, v20, W23, rfl, Le.refl _ _, rfl, r18, o21, b22, hm⟩⟩)
    iterate 2 (refine Agree.up rfl ?_)
    exact Agree.refl _

theorem p97 {W : CW} {K : List Nat} {x0 : Vm.Repo} {v0_0_ : Value} {v0_1_ : Value} {x1 : Str} {x2 : Int} {r : Vm.Repo} (h0 : Rd W K [v0_0_, v0_1_] x0) (hm : Vm.spec_l7Head x0 x1 x2 = some r) : CallR Tryz.prog 97 [.agg [v0_0_, v0_1_].toArray, vS x1, vI x2].toArray W.w (Res W [] fun W' v => ∃ (u0_0 : Value) (u0_1 : Value), v = .agg [u0_0, u0_1].toArray ∧ Rd W' (0 :: K) [u0_0] r.Commits ∧ Rd W' (0 :: K) [u0_1] r.Heads) :=
 (c97 (V := W.view K []) (h0.view _) hm).ad (fk 0) fun _ _ ⟨u0_0, u0_1, e, f0, f1⟩ => ⟨u0_0, u0_1, e, f0.back rfl, f1.back rfl⟩

end Go.Sx
