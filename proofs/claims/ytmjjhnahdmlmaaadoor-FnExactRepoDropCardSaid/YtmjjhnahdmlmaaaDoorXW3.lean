/- Walks: each function answers as its model, printed by a program of ours. Conditions: the arguments read as they are given. -/
import Derived.Test.YtmjjhnahdmlmaaaDoorXTs
import Derived.Test.YtmjjhnahdmlmaaaDoorXMd
import Derived.Test.YtmjjhnahdmlmaaaDoorXW2
namespace Go.Sx
open Go Go.Proofs Go.Vm Rp
set_option linter.unusedVariables false
set_option linter.unusedSimpArgs false

theorem c84 {V : CW} {x0 : Vm.Repo} {v0_0_ : Value} {v0_1_ : Value} {x1 : List Vm.Head} {v1_ : Value} {r : Bool} (h0 : Rd V [0] [v0_0_, v0_1_] x0) (h1 : Rd V [0] [v1_] x1) (hm : Vm.impl_headsOk x0 x1 = some r) : CallR Tryd.prog 84 [.agg [v0_0_, v0_1_].toArray, v1_].toArray V.w (Res V LL fun Wf v => v = vB r) := by
 unfold Vm.impl_headsOk at hm
 obtain ⟨w0_0, w0_1, he0, h0_0, h0_1⟩ := Repo.split h0
 simp only [List.cons.injEq, and_true, true_and] at he0
 obtain ⟨rfl, rfl⟩ := he0
 obtain ⟨W0, hW0⟩ : ∃ W, W = V := ⟨V, rfl⟩
 subst hW0
 refine CallR.of Tryd.func84 rfl rfl rfl rfl (Cw.seq (Cw.region (Lw.t rfl (T.box 2 (v := .agg [v0_0_, v0_1_].toArray) (cs := [v0_0_, v0_1_]) rfl rfl) ?_)))
 rintro _ _ ⟨g1, W1, rfl, rfl, l1, b1⟩
 have a2 := l1.o
 refine Lw.g (vB false) rfl (Lw.nil (Cw.seq (Cw.seq (Cw.region (Lw.m v1_ rfl (Lw.ln x1 (h1.ul a2) rfl (Lw.gt rfl (Lw.nil (Cw.cond (b := decide ((5 : Int) < ((x1.length : Int) : Int))) rfl (fun hc4 => ?_) (fun hc4 => ?_))))))))))
 ·replace hm := bt hm hc4
  refine Cw.seq (Cw.region (Lw.g (vB false) rfl (Lw.nil ?_)))
  cases hm
  exact Cw.ret (ret1 rfl (Res.mk a2 rfl))
 ·replace hm := bf hm hc4
  refine Cw.skip (Cw.seq (Cw.seq (Cw.region (Lw.m v1_ rfl (Lw.ln x1 (h1.ul a2) rfl (Lw.m (vI 0) rfl (Lw.nil (Cw.block ?_))))))))
  obtain ⟨K10, hK10, hm⟩ := jn_e hm
  refine Cw.loop 12 43 [4, 5, 6, 12] (fun m l w => ∃ (y5 : Bool) (y8 : Int) (j6 j7 : Value) (W9 : CW), W9.w = w ∧ Le [3] W1 W9 ∧ l = [vB y5, j6, j7, vI y8] ∧ Vm.impl_headsOk_l1 x0 x1 K10 m y5 y8 = some r) (((x1.length : Int) - 0).toNat + 1) ⟨false, 0, undef, undef, W1, rfl, Le.refl _ _, rfl, hm⟩ ?_
  rintro m11 _ _ σ ⟨y5, y8, j6, j7, W9, rfl, l9, rfl, hm⟩
  obtain _ | m11 := m11
  ·cases hm
  unfold Vm.impl_headsOk_l1 at hm
  have a12 := a2.t l9 rfl
  refine Cw.seq (Cw.region (Lw.lt rfl (Lw.nil (Cw.seq (Cw.cond (b := decide ((y8 : Int) < ((x1.length : Int) : Int))) rfl (fun hc14 => ?_) (fun hc14 => ?_))))))
  ·replace hm := bt hm hc14
   refine Cw.skip (Cw.seq (Cw.block (Cw.seq (Cw.region (Lw.m (vI y8) rfl ?_)))))
   obtain ⟨u15, e16, hm⟩ := ob hm
   refine Lw.r rfl (R.ix (α := Head) (h1.ul a12) e16 rfl rfl rfl) ?_
   obtain ⟨x18, c19, _, r20⟩ := ((h1.ul a12).at_ e16).cells
   obtain rfl := Head.split r20
   refine Lw.r rfl (R.lda c19 rfl rfl) (Lw.t rfl (T.alloc 3 (cs := [vS ([] : Str), vI 0]) rfl) ?_)
   rintro _ _ ⟨g21, W21, rfl, rfl, l21, b21⟩
   have a22 := a12.n l21
   refine Lw.g (vI y8) rfl (Lw.u (T.sta (vs := [vS u15.Name, vI u15.At]) b21 rfl rfl (oc_cons rfl (oc_cons rfl oc_nil)) rfl rfl) ?_)
   rintro _ _ ⟨W24, rfl, l24, b24⟩
   have a25 := a22.t l24 rfl
   refine Lw.nil ?_
   obtain ⟨K29, hK29, hm⟩ := jn_e hm
   refine Cw.join 17 42 [42] (fun l w => ∃ (y27 : Bool) (W28 : CW), W28.w = w ∧ Le [] W24 W28 ∧ l = [vB y27] ∧ K29 y27 = some r) ?_ ?_
   ·rintro _ _ σ ⟨y27, W28, rfl, l28, rfl, hm⟩
    rw [hK29] at hm
    have a30 := a25.n l28
    refine Cw.cond (b := y27) rfl (fun hc33 => ?_) (fun hc33 => ?_)
    ·replace hm := bt hm hc33
     refine Cw.seq (Cw.region (Lw.g (vB false) rfl (Lw.nil ?_)))
     cases hm
     exact Cw.ret (ret1 rfl (Res.mk a30 rfl))
    ·replace hm := bf hm hc33
     refine Cw.skip (Cw.region (Lw.add rfl (Lw.m (vI (w64 (y8 + 1))) rfl (Lw.nil (⟨?_, m11, Nat.lt_succ_self m11, ⟨y5, w64 (y8 + 1), vI y8, ptr (bx g21), W28, rfl, (l9.trans ((l21.sub rfl).trans (l24.trans (l28.sub rfl)))), rfl, hm⟩⟩)))))
     iterate 3 (refine .u ?_)
     refine Agree.ov0 rfl ?_
     iterate 10 (refine .u ?_)
     exact Agree.base
   ·refine Cw.draw [] [(0, 0), (1, 1), (2, 2), (3, 0), (4, 0), (5, 1), (6, 0), (7, 1), (8, 2), (9, 0), (10, 0), (11, 0), (12, 0), (13, 0), (14, 0), (15, 0), (16, 0), (17, 0), (18, 0), (19, 0), (20, 1), (21, 0), (22, 1), (23, 0), (24, 0), (25, 0)] mixed (by kernel_rfl) fun W34 l34 => ?_
    have a35 := a25.n l34
    have b37 := b24.up l34 rfl
    refine Mw.p rfl rfl (fun _ => R.fa rfl) (Mw.q rfl rfl (fun _ c => R.ld (v := vS u15.Name) rfl rfl (b37.clc rfl rfl c)) ?_)
    obtain ⟨z38, e39, hm⟩ := ob hm
    refine Mw.t rfl rfl (T.call rfl (p81 (K := [0])   e39)) ?_
    rintro _ _ ⟨W40, rfl, l40, rfl⟩
    have a41 := a35.n l40
    refine ⟨⟨_, rfl, (l40.sub (M := []) rfl)⟩, ?_⟩
    refine Mw.p rfl rfl (fun _ => R.not rfl) (Mw.p rfl rfl (fun _ => R.mv (v := vB (!z38)) rfl) (bsplit (!z38) (fun hc44 => ?_) (fun hc44 => ?_)))
    ·replace hm := bt hm hc44
     refine Mw.ps hc44 rfl rfl (Mw.ps hc44 rfl rfl (Mw.ps hc44 rfl rfl (Mw.ps hc44 rfl rfl (Mw.ps hc44 rfl rfl (Mw.p rfl rfl (fun _ => R.pk hc44 rfl (v := vB true) rfl) (Mw.p rfl rfl (fun _ => R.mv (v := vB true) rfl) (Mw.ps rfl rfl rfl (Mw.ps rfl rfl rfl (Mw.ps rfl rfl rfl (Mw.pu rfl rfl (Mw.pu rfl rfl (Mw.pu rfl rfl (Mw.pu rfl rfl (Mw.pu rfl rfl (Mw.pu rfl rfl (Mw.pu rfl rfl (Mw.pu rfl rfl (Mw.pu rfl rfl (Mw.ps rfl rfl rfl (Mw.p rfl rfl (fun _ => R.pk rfl rfl (v := vB true) rfl) (Mw.nil (⟨?_, ⟨true, W40, rfl, (l34.trans l40), rfl, hm⟩⟩))))))))))))))))))))))
     iterate 26 (refine .u ?_)
     exact Agree.refl _
    ·replace hm := bf hm hc44
     refine Mw.gq hc44 rfl rfl rfl rfl rfl (fun _ c => R.lda (cs := [v0_0_, v0_1_]) (((((b1.up l9 rfl).up l21 rfl).up l24 rfl).up l34 rfl).clcs rfl c) rfl rfl) (Mw.gp hc44 rfl rfl rfl rfl rfl (fun _ => R.fa rfl) (Mw.gq hc44 rfl rfl rfl rfl rfl (fun _ c => R.ld (v := vI u15.At) rfl rfl (b37.clc rfl rfl c)) ?_))
     obtain ⟨z47, e48, hm⟩ := ob hm
     refine Mw.gt hc44 rfl rfl rfl rfl rfl (T.call rfl (p125 (K := [0])  (Repo.rd (K := [0]) x0.Commits x0.Heads (h0_0.ul a41) (h0_1.ul a41)) e48)) ?_
     rintro _ _ ⟨W49, rfl, l49, rfl⟩
     refine ⟨⟨_, rfl, ((l40.sub (M := []) rfl).trans (l49.sub (M := []) rfl))⟩, ?_⟩
     refine Mw.gp hc44 rfl rfl rfl rfl rfl (fun _ => R.not rfl) (Mw.p rfl rfl (fun _ => R.pk hc44 rfl (v := vB (!z47)) rfl) (Mw.p rfl rfl (fun _ => R.mv (v := vB (!z47)) rfl) (bsplit (!z47) (fun hc53 => ?_) (fun hc53 => ?_))))
     ·replace hm := bt hm hc53
      refine Mw.ps hc53 rfl rfl (Mw.ps hc53 rfl rfl (Mw.ps hc53 rfl rfl (Mw.pu rfl rfl (Mw.pu rfl rfl (Mw.pu rfl rfl (Mw.pu rfl rfl (Mw.pu rfl rfl (Mw.pu rfl rfl (Mw.pu rfl rfl (Mw.pu rfl rfl (Mw.pu rfl rfl (Mw.ps hc53 rfl rfl (Mw.p rfl rfl (fun _ => R.pk hc53 rfl (v := vB true) rfl) (Mw.nil (⟨?_, ⟨true, W49, rfl, (l34.trans (l40.trans l49)), rfl, hm⟩⟩)))))))))))))))
      iterate 26 (refine .u ?_)
      exact Agree.refl _
     ·replace hm := bf hm hc53
      refine Mw.gp hc53 rfl rfl rfl rfl rfl (fun _ => R.mv (v := vI y8) rfl) (Mw.gp hc53 rfl rfl rfl rfl rfl (fun _ => R.gt rfl rfl) (Mw.gp hc53 rfl rfl rfl rfl rfl (fun _ => R.mv (v := vB (decide ((0 : Int) < (y8 : Int)))) rfl) (bsplit (decide ((0 : Int) < (y8 : Int))) (fun hc54 => ?_) (fun hc54 => ?_))))
      ·replace hm := bt hm hc54
       refine Mw.gp hc54 rfl rfl rfl rfl rfl (fun _ => R.mv (v := v1_) rfl) (Mw.gp hc54 rfl rfl rfl rfl rfl (fun _ => R.mv (v := vI y8) rfl) (Mw.gp hc54 rfl rfl rfl rfl rfl (fun _ => R.sub rfl rfl) ?_))
       obtain ⟨u55, e56, hm⟩ := ob hm
       refine Mw.gp hc54 rfl rfl rfl rfl rfl (fun _ => R.ix (α := Head) (h1.ul a35) e56 rfl rfl rfl) (Mw.gp hc54 rfl rfl rfl rfl rfl (fun _ => R.fa rfl) (Mw.gq hc54 rfl rfl rfl rfl rfl (fun _ c => R.ld rfl rfl (cl_cell (Head.at0 ((h1.ul a35).at_ e56)).1 rfl (Head.at0 ((h1.ul a35).at_ e56)).str c)) (Mw.gp hc54 rfl rfl rfl rfl rfl (fun _ => R.fa rfl) (Mw.gq hc54 rfl rfl rfl rfl rfl (fun _ c => R.ld (v := vS u15.Name) rfl rfl (b37.clc rfl rfl c)) (Mw.gp hc54 rfl rfl rfl rfl rfl (fun _ => R.sge rfl rfl) (Mw.gp hc53 rfl rfl rfl rfl rfl (fun _ => R.pk hc54 rfl (v := vB (!Op.bytesLess u55.Name u15.Name)) rfl) (Mw.p rfl rfl (fun _ => R.pk hc53 rfl (v := vB (!Op.bytesLess u55.Name u15.Name)) rfl) (Mw.nil (⟨?_, ⟨(!Op.bytesLess u55.Name u15.Name), W49, rfl, (l34.trans (l40.trans l49)), rfl, hm⟩⟩)))))))))
       iterate 26 (refine .u ?_)
       exact Agree.refl _
      ·replace hm := bf hm hc54
       refine Mw.ps hc54 rfl rfl (Mw.ps hc54 rfl rfl (Mw.ps hc54 rfl rfl (Mw.ps hc54 rfl rfl (Mw.ps hc54 rfl rfl (Mw.ps hc54 rfl rfl (Mw.ps hc54 rfl rfl (Mw.ps hc54 rfl rfl (Mw.ps hc54 rfl rfl (Mw.gp hc53 rfl rfl rfl rfl rfl (fun _ => R.pk hc54 rfl (v := vB false) rfl) (Mw.p rfl rfl (fun _ => R.pk hc53 rfl (v := vB false) rfl) (Mw.nil (⟨?_, ⟨false, W49, rfl, (l34.trans (l40.trans l49)), rfl, hm⟩⟩))))))))))))
       iterate 26 (refine .u ?_)
       exact Agree.refl _
  ·replace hm := bf hm hc14
   refine Cw.exit ?_
   rw [hK10] at hm
   refine Cw.seq (Cw.region (Lw.g (vB true) rfl (Lw.nil ?_)))
   cases hm
   exact Cw.ret (ret1 rfl (Res.mk a12 rfl))

theorem p84 {W : CW} {K : List Nat} {x0 : Vm.Repo} {v0_0_ : Value} {v0_1_ : Value} {x1 : List Vm.Head} {v1_ : Value} {r : Bool} (h0 : Rd W K [v0_0_, v0_1_] x0) (h1 : Rd W K [v1_] x1) (hm : Vm.impl_headsOk x0 x1 = some r) : CallR Tryd.prog 84 [.agg [v0_0_, v0_1_].toArray, v1_].toArray W.w (Res W [] fun W' v => v = vB r) :=
 (c84 (V := W.view K []) (h0.view _) (h1.view _) hm).ad (fk 0) fun _ _ e => e

theorem c33 {V : CW} {x0 : Vm.Repo} {v0_0_ : Value} {v0_1_ : Value} {r : Bool} (h0 : Rd V [0] [v0_0_, v0_1_] x0) (h99 : Gl 2 V [0]) (hm : Vm.impl_RepoOk x0 = some r) : CallR Tryd.prog 33 [.agg [v0_0_, v0_1_].toArray].toArray V.w (Res V LL fun Wf v => v = vB r) := by
 unfold Vm.impl_RepoOk at hm
 obtain ⟨w0_0, w0_1, he0, h0_0, h0_1⟩ := Repo.split h0
 simp only [List.cons.injEq, and_true, true_and] at he0
 obtain ⟨rfl, rfl⟩ := he0
 obtain ⟨W0, hW0⟩ : ∃ W, W = V := ⟨V, rfl⟩
 subst hW0
 refine CallR.of Tryd.func33 rfl rfl rfl rfl (Cw.seq (Cw.region (Lw.t rfl (T.box 2 (v := .agg [v0_0_, v0_1_].toArray) (cs := [v0_0_, v0_1_]) rfl rfl) ?_)))
 rintro _ _ ⟨g1, W1, rfl, rfl, l1, b1⟩
 have a2 := l1.o
 refine Lw.g (vB false) rfl (Lw.nil (Cw.seq (Cw.seq (Cw.region (Lw.fa rfl (Lw.r rfl (R.ld (v := v0_0_) rfl rfl (b1.cell rfl)) (Lw.ln x0.Commits (h0_0.ul a2) rfl (Lw.gt rfl (Lw.nil (Cw.cond (b := decide ((16 : Int) < ((x0.Commits.length : Int) : Int))) rfl (fun hc4 => ?_) (fun hc4 => ?_)))))))))))
 ·replace hm := bt hm hc4
  refine Cw.seq (Cw.region (Lw.g (vB false) rfl (Lw.nil ?_)))
  cases hm
  exact Cw.ret (ret1 rfl (Res.mk a2 rfl))
 ·replace hm := bf hm hc4
  refine Cw.skip (Cw.seq (Cw.seq (Cw.region (Lw.fa rfl (Lw.r rfl (R.ld (v := v0_0_) rfl rfl (b1.cell rfl)) (Lw.ln x0.Commits (h0_0.ul a2) rfl (Lw.m (vI 0) rfl (Lw.nil (Cw.block ?_)))))))))
  obtain ⟨K11, hK11, hm⟩ := jn_e hm
  refine Cw.loop 14 65 [2, 3, 4, 6, 14] (fun m l w => ∃ (y5 : Bool) (y9 : Int) (j6 j7 j8 : Value) (W10 : CW), W10.w = w ∧ Le [3] W1 W10 ∧ l = [vB y5, j6, j7, j8, vI y9] ∧ Vm.impl_RepoOk_l1 x0 K11 m y5 y9 = some r) (((x0.Commits.length : Int) - 0).toNat + 1) ⟨false, 0, undef, undef, undef, W1, rfl, Le.refl _ _, rfl, hm⟩ ?_
  rintro m12 _ _ σ ⟨y5, y9, j6, j7, j8, W10, rfl, l10, rfl, hm⟩
  obtain _ | m12 := m12
  ·cases hm
  unfold Vm.impl_RepoOk_l1 at hm
  have a13 := a2.t l10 rfl
  refine Cw.seq (Cw.region (Lw.lt rfl (Lw.nil (Cw.seq (Cw.cond (b := decide ((y9 : Int) < ((x0.Commits.length : Int) : Int))) rfl (fun hc15 => ?_) (fun hc15 => ?_))))))
  ·replace hm := bt hm hc15
   refine Cw.skip (Cw.seq (Cw.block (Cw.seq (Cw.region (Lw.m (vI y9) rfl ?_)))))
   obtain ⟨u16, e17, hm⟩ := ob hm
   refine Lw.r rfl (R.ix (α := Commit) (h0_0.ul a13) e17 rfl rfl rfl) ?_
   obtain ⟨x19, c20, _, r21⟩ := ((h0_0.ul a13).at_ e17).cells
   obtain ⟨v22, v24, rfl, r23, r25⟩ := Commit.split r21
   refine Lw.r rfl (R.lda c20 rfl rfl) (Lw.t rfl (T.alloc 3 (cs := [.slice none 0 0, vS ([] : Str), .slice none 0 0]) rfl) ?_)
   rintro _ _ ⟨g26, W26, rfl, rfl, l26, b26⟩
   have a27 := l26.o
   refine Lw.g (vI y9) rfl (Lw.u (T.sta (vs := [v22, vS u16.Who, v24]) b26 rfl rfl (oc_cons r23.oc (oc_cons rfl (oc_cons r25.oc oc_nil))) rfl rfl) ?_)
   rintro _ _ ⟨W29, rfl, l29, b29⟩
   have a30 := l29.s rfl
   refine Lw.nil (Cw.seq ?_)
   obtain ⟨K34, hK34, hm⟩ := jn_e hm
   refine Cw.join 19 51 [51] (fun l w => ∃ (y32 : Bool) (W33 : CW), W33.w = w ∧ Le [] W29 W33 ∧ l = [vB y32] ∧ K34 y32 = some r) ?_ ?_
   ·rintro _ _ σ ⟨y32, W33, rfl, l33, rfl, hm⟩
    rw [hK34] at hm
    have a35 := l33.o
    refine Cw.cond (b := y32) rfl (fun hc38 => ?_) (fun hc38 => ?_)
    ·replace hm := bt hm hc38
     refine Cw.seq (Cw.region (Lw.g (vB false) rfl (Lw.nil ?_)))
     cases hm
     exact Cw.ret (ret1 rfl (Res.mk (((a13.trans a27).trans a30).trans a35) rfl))
    ·replace hm := bf hm hc38
     refine Cw.skip (Cw.seq (Cw.region (Lw.fa rfl (Lw.r rfl (R.ld (v := v22) rfl rfl ((b29.up l33 rfl).cell rfl)) (Lw.ln u16.Parents (r23.ul ((a27.trans a30).trans a35)) rfl (Lw.m (vI 0) rfl (Lw.nil (Cw.block ?_))))))))
     obtain ⟨K44, hK44, hm⟩ := jn_e hm
     refine Cw.loop 55 64 [2, 6, 55] (fun m l w => ∃ (y40 : Bool) (y42 : Int) (j41 : Value) (W43 : CW), W43.w = w ∧ Le [] W33 W43 ∧ l = [vB y40, j41, vI y42] ∧ Vm.impl_RepoOk_l2 y9 u16 K44 m y40 y42 = some r) (((u16.Parents.length : Int) - 0).toNat + 1) ⟨y5, 0, j8, W33, rfl, Le.refl _ _, rfl, hm⟩ ?_
     rintro m45 _ _ σ ⟨y40, y42, j41, W43, rfl, l43, rfl, hm⟩
     obtain _ | m45 := m45
     ·cases hm
     unfold Vm.impl_RepoOk_l2 at hm
     have a46 := l43.o
     refine Cw.seq (Cw.region (Lw.lt rfl (Lw.nil (Cw.seq (Cw.cond (b := decide ((y42 : Int) < ((u16.Parents.length : Int) : Int))) rfl (fun hc49 => ?_) (fun hc49 => ?_))))))
     ·replace hm := bt hm hc49
      refine Cw.skip (Cw.seq (Cw.block (Cw.seq (Cw.region ?_))))
      obtain ⟨u50, e51, hm⟩ := ob hm
      have s52 := r23.ul (((a27.trans a30).trans a35).trans a46)
      refine Lw.r rfl (R.ix (α := Int) s52 e51 rfl rfl rfl) (Lw.r rfl (R.ld rfl rfl (s52.at_ e51).int) (Lw.g (vI u50) rfl (Lw.nil (Cw.seq (Cw.region (Lw.m (vI u50) rfl (Lw.m (vI y9) rfl (Lw.sub rfl ?_))))))))
      obtain ⟨z53, e54, hm⟩ := ob hm
      refine Lw.t rfl (T.call rfl (p83 (K := [0])   e54)) ?_
      rintro _ _ ⟨W55, rfl, l55, rfl⟩
      have a56 := ((((a13.trans a27).trans a30).trans a35).trans a46).n l55
      refine Lw.r rfl (R.not rfl) (Lw.nil (Cw.cond (b := (!z53)) rfl (fun hc59 => ?_) (fun hc59 => ?_)))
      ·replace hm := bt hm hc59
       refine Cw.seq (Cw.region (Lw.g (vB false) rfl (Lw.nil ?_)))
       cases hm
       exact Cw.ret (ret1 rfl (Res.mk a56 rfl))
      ·replace hm := bf hm hc59
       refine Cw.skip (Cw.region (Lw.add rfl (Lw.m (vI (w64 (y42 + 1))) rfl (Lw.nil (⟨?_, m45, Nat.lt_succ_self m45, ⟨y40, w64 (y42 + 1), vI u50, W55, rfl, (l43.trans l55), rfl, hm⟩⟩)))))
       iterate 14 (refine .u ?_)
       exact Agree.base
     ·replace hm := bf hm hc49
      refine Cw.exit ?_
      rw [hK44] at hm
      refine Cw.region (Lw.add rfl (Lw.m (vI (w64 (y9 + 1))) rfl (Lw.nil (⟨?_, m12, Nat.lt_succ_self m12, ⟨y40, w64 (y9 + 1), vI y9, ptr (bx g26), j41, W43, rfl, (l10.trans ((l26.sub rfl).trans (l29.trans ((l33.sub rfl).trans (l43.sub rfl))))), rfl, hm⟩⟩))))
      iterate 6 (refine .u ?_)
      refine Agree.ov0 rfl ?_
      iterate 5 (refine .u ?_)
      refine Agree.ov0 rfl ?_
      iterate 11 (refine .u ?_)
      exact Agree.base
   ·refine Cw.draw [] [(0, 0), (1, 1), (2, 0), (3, 0), (4, 0), (5, 0), (6, 1), (7, 0), (8, 0), (9, 0), (10, 0), (11, 1), (12, 0), (13, 1), (14, 0), (15, 1), (16, 0), (17, 1), (18, 0), (19, 0), (20, 0), (21, 0), (22, 0), (23, 1), (24, 2), (25, 0), (26, 0), (27, 0), (28, 0), (29, 1), (30, 2), (31, 0), (32, 0)] mixed (by kernel_rfl) fun W60 l60 => ?_
    have a61 := l60.o
    have b63 := b29.up l60 rfl
    have s64 := r23.ul ((a27.trans a30).trans a61)
    refine Mw.p rfl rfl (fun _ => R.fa rfl) (Mw.q rfl rfl (fun _ c => R.ld (v := v22) rfl rfl (b63.clc rfl rfl c)) (Mw.p rfl rfl (fun _ => lenR (xs := u16.Parents) s64 rfl) (Mw.p rfl rfl (fun _ => R.gt rfl rfl) (Mw.p rfl rfl (fun _ => R.mv (v := vB (decide ((2 : Int) < ((u16.Parents.length : Int) : Int)))) rfl) (bsplit (decide ((2 : Int) < ((u16.Parents.length : Int) : Int))) (fun hc65 => ?_) (fun hc65 => ?_))))))
    ·replace hm := bt hm hc65
     refine Mw.ps hc65 rfl rfl (Mw.ps hc65 rfl rfl (Mw.ps hc65 rfl rfl (Mw.ps hc65 rfl rfl (Mw.ps hc65 rfl rfl (Mw.pu rfl rfl (Mw.pu rfl rfl (Mw.pu rfl rfl (Mw.pu rfl rfl (Mw.pu rfl rfl (Mw.pu rfl rfl (Mw.pu rfl rfl (Mw.pu rfl rfl (Mw.pu rfl rfl (Mw.ps hc65 rfl rfl (Mw.p rfl rfl (fun _ => R.pk hc65 rfl (v := vB true) rfl) (Mw.p rfl rfl (fun _ => R.mv (v := vB true) rfl) (Mw.ps rfl rfl rfl (Mw.ps rfl rfl rfl (Mw.ps rfl rfl rfl (Mw.ps rfl rfl rfl (Mw.p rfl rfl (fun _ => R.pk rfl rfl (v := vB true) rfl) (Mw.p rfl rfl (fun _ => R.mv (v := vB true) rfl) (Mw.ps rfl rfl rfl (Mw.ps rfl rfl rfl (Mw.ps rfl rfl rfl (Mw.ps rfl rfl rfl (Mw.p rfl rfl (fun _ => R.pk rfl rfl (v := vB true) rfl) (Mw.nil (⟨?_, ⟨true, W60, rfl, l60, rfl, hm⟩⟩)))))))))))))))))))))))))))))
     iterate 33 (refine .u ?_)
     exact Agree.refl _
    ·replace hm := bf hm hc65
     refine Mw.gp hc65 rfl rfl rfl rfl rfl (fun _ => R.fa rfl) (Mw.gq hc65 rfl rfl rfl rfl rfl (fun _ c => R.ld (v := v22) rfl rfl (b63.clc rfl rfl c)) (Mw.gp hc65 rfl rfl rfl rfl rfl (fun _ => lenR (xs := u16.Parents) s64 rfl) (Mw.gp hc65 rfl rfl rfl rfl rfl (fun _ => R.eq rfl rfl) (Mw.gp hc65 rfl rfl rfl rfl rfl (fun _ => R.mv (v := vB (((u16.Parents.length : Int) : Int) == (2 : Int))) rfl) (bsplit (((u16.Parents.length : Int) : Int) == (2 : Int)) (fun hc66 => ?_) (fun hc66 => ?_))))))
     ·replace hm := bt hm hc66
      refine Mw.gp hc66 rfl rfl rfl rfl rfl (fun _ => R.fa rfl) (Mw.gq hc66 rfl rfl rfl rfl rfl (fun _ c => R.ld (v := v22) rfl rfl (b63.clc rfl rfl c)) ?_)
      obtain ⟨u67, e68, hm⟩ := ob hm
      refine Mw.gp hc66 rfl rfl rfl rfl rfl (fun _ => R.ix (α := Int) s64 e68 rfl rfl rfl) (Mw.gq hc66 rfl rfl rfl rfl rfl (fun _ c => R.ld rfl rfl (cl_cell (s64.at_ e68).1 rfl (s64.at_ e68).int c)) (Mw.gp hc66 rfl rfl rfl rfl rfl (fun _ => R.fa rfl) (Mw.gq hc66 rfl rfl rfl rfl rfl (fun _ c => R.ld (v := v22) rfl rfl (b63.clc rfl rfl c)) ?_)))
      obtain ⟨u69, e70, hm⟩ := ob hm
      refine Mw.gp hc66 rfl rfl rfl rfl rfl (fun _ => R.ix (α := Int) s64 e70 rfl rfl rfl) (Mw.gq hc66 rfl rfl rfl rfl rfl (fun _ c => R.ld rfl rfl (cl_cell (s64.at_ e70).1 rfl (s64.at_ e70).int c)) (Mw.gp hc66 rfl rfl rfl rfl rfl (fun _ => R.eq rfl rfl) (Mw.gp hc65 rfl rfl rfl rfl rfl (fun _ => R.pk hc66 rfl (v := vB ((u67 : Int) == (u69 : Int))) rfl) (Mw.p rfl rfl (fun _ => R.pk hc65 rfl (v := vB ((u67 : Int) == (u69 : Int))) rfl) (Mw.p rfl rfl (fun _ => R.mv (v := vB ((u67 : Int) == (u69 : Int))) rfl) (bsplit ((u67 : Int) == (u69 : Int)) (fun hc71 => ?_) (fun hc71 => ?_)))))))
      ·replace hm := bt hm hc71
       refine Mw.ps hc71 rfl rfl (Mw.ps hc71 rfl rfl (Mw.ps hc71 rfl rfl (Mw.ps hc71 rfl rfl (Mw.p rfl rfl (fun _ => R.pk hc71 rfl (v := vB true) rfl) (Mw.p rfl rfl (fun _ => R.mv (v := vB true) rfl) (Mw.ps rfl rfl rfl (Mw.ps rfl rfl rfl (Mw.ps rfl rfl rfl (Mw.ps rfl rfl rfl (Mw.p rfl rfl (fun _ => R.pk rfl rfl (v := vB true) rfl) (Mw.nil (⟨?_, ⟨true, W60, rfl, l60, rfl, hm⟩⟩))))))))))))
       iterate 33 (refine .u ?_)
       exact Agree.refl _
      ·replace hm := bf hm hc71
       refine Mw.gp hc71 rfl rfl rfl rfl rfl (fun _ => R.fa rfl) (Mw.gq hc71 rfl rfl rfl rfl rfl (fun _ c => R.ld (v := vS u16.Who) rfl rfl (b63.clc rfl rfl c)) ?_)
       obtain ⟨z72, e73, hm⟩ := ob hm
       refine Mw.gt hc71 rfl rfl rfl rfl rfl (T.call rfl (p81 (K := [0])   e73)) ?_
       rintro _ _ ⟨W74, rfl, l74, rfl⟩
       have a75 := l74.o
       refine ⟨⟨_, rfl, (l74.sub (M := []) rfl)⟩, ?_⟩
       refine Mw.gp hc71 rfl rfl rfl rfl rfl (fun _ => R.not rfl) (Mw.p rfl rfl (fun _ => R.pk hc71 rfl (v := vB (!z72)) rfl) (Mw.p rfl rfl (fun _ => R.mv (v := vB (!z72)) rfl) (bsplit (!z72) (fun hc78 => ?_) (fun hc78 => ?_))))
       ·replace hm := bt hm hc78
        refine Mw.ps hc78 rfl rfl (Mw.ps hc78 rfl rfl (Mw.ps hc78 rfl rfl (Mw.ps hc78 rfl rfl (Mw.p rfl rfl (fun _ => R.pk hc78 rfl (v := vB true) rfl) (Mw.nil (⟨?_, ⟨true, W74, rfl, (l60.trans l74), rfl, hm⟩⟩))))))
        iterate 33 (refine .u ?_)
        exact Agree.refl _
       ·replace hm := bf hm hc78
        refine Mw.gp hc78 rfl rfl rfl rfl rfl (fun _ => R.fa rfl) (Mw.gq hc78 rfl rfl rfl rfl rfl (fun _ c => R.ld (v := v24) rfl rfl (b63.clc rfl rfl c)) ?_)
        obtain ⟨z81, e82, hm⟩ := ob hm
        refine Mw.gt hc78 rfl rfl rfl rfl rfl (T.call rfl (p82 (K := [0])  (r25.ul (((a27.trans a30).trans a61).trans a75)) (h99.ul ((((a13.trans a27).trans a30).trans a61).trans a75)) e82)) ?_
        rintro _ _ ⟨W83, rfl, l83, rfl⟩
        refine ⟨⟨_, rfl, ((l74.sub (M := []) rfl).trans (l83.sub (M := []) rfl))⟩, ?_⟩
        refine Mw.gp hc78 rfl rfl rfl rfl rfl (fun _ => R.not rfl) (Mw.p rfl rfl (fun _ => R.pk hc78 rfl (v := vB (!z81)) rfl) (Mw.nil (⟨?_, ⟨(!z81), W83, rfl, (l60.trans (l74.trans l83)), rfl, hm⟩⟩)))
        iterate 33 (refine .u ?_)
        exact Agree.refl _
     ·replace hm := bf hm hc66
      refine Mw.ps hc66 rfl rfl (Mw.ps hc66 rfl rfl (Mw.ps hc66 rfl rfl (Mw.ps hc66 rfl rfl (Mw.ps hc66 rfl rfl (Mw.ps hc66 rfl rfl (Mw.ps hc66 rfl rfl (Mw.ps hc66 rfl rfl (Mw.ps hc66 rfl rfl (Mw.gp hc65 rfl rfl rfl rfl rfl (fun _ => R.pk hc66 rfl (v := vB false) rfl) (Mw.p rfl rfl (fun _ => R.pk hc65 rfl (v := vB false) rfl) (Mw.p rfl rfl (fun _ => R.mv (v := vB false) rfl) (Mw.gp rfl rfl rfl rfl rfl rfl (fun _ => R.fa rfl) (Mw.gq rfl rfl rfl rfl rfl rfl (fun _ c => R.ld (v := vS u16.Who) rfl rfl (b63.clc rfl rfl c)) ?_)))))))))))))
      obtain ⟨z87, e88, hm⟩ := ob hm
      refine Mw.gt rfl rfl rfl rfl rfl rfl (T.call rfl (p81 (K := [0])   e88)) ?_
      rintro _ _ ⟨W89, rfl, l89, rfl⟩
      have a90 := l89.o
      refine ⟨⟨_, rfl, (l89.sub (M := []) rfl)⟩, ?_⟩
      refine Mw.gp rfl rfl rfl rfl rfl rfl (fun _ => R.not rfl) (Mw.p rfl rfl (fun _ => R.pk rfl rfl (v := vB (!z87)) rfl) (Mw.p rfl rfl (fun _ => R.mv (v := vB (!z87)) rfl) (bsplit (!z87) (fun hc93 => ?_) (fun hc93 => ?_))))
      ·replace hm := bt hm hc93
       refine Mw.ps hc93 rfl rfl (Mw.ps hc93 rfl rfl (Mw.ps hc93 rfl rfl (Mw.ps hc93 rfl rfl (Mw.p rfl rfl (fun _ => R.pk hc93 rfl (v := vB true) rfl) (Mw.nil (⟨?_, ⟨true, W89, rfl, (l60.trans l89), rfl, hm⟩⟩))))))
       iterate 33 (refine .u ?_)
       exact Agree.refl _
      ·replace hm := bf hm hc93
       refine Mw.gp hc93 rfl rfl rfl rfl rfl (fun _ => R.fa rfl) (Mw.gq hc93 rfl rfl rfl rfl rfl (fun _ c => R.ld (v := v24) rfl rfl (b63.clc rfl rfl c)) ?_)
       obtain ⟨z96, e97, hm⟩ := ob hm
       refine Mw.gt hc93 rfl rfl rfl rfl rfl (T.call rfl (p82 (K := [0])  (r25.ul (((a27.trans a30).trans a61).trans a90)) (h99.ul ((((a13.trans a27).trans a30).trans a61).trans a90)) e97)) ?_
       rintro _ _ ⟨W98, rfl, l98, rfl⟩
       refine ⟨⟨_, rfl, ((l89.sub (M := []) rfl).trans (l98.sub (M := []) rfl))⟩, ?_⟩
       refine Mw.gp hc93 rfl rfl rfl rfl rfl (fun _ => R.not rfl) (Mw.p rfl rfl (fun _ => R.pk hc93 rfl (v := vB (!z96)) rfl) (Mw.nil (⟨?_, ⟨(!z96), W98, rfl, (l60.trans (l89.trans l98)), rfl, hm⟩⟩)))
       iterate 33 (refine .u ?_)
       exact Agree.refl _
  ·replace hm := bf hm hc15
   refine Cw.exit ?_
   rw [hK11] at hm
   refine Cw.seq (Cw.region (Lw.r rfl (R.lda (cs := [v0_0_, v0_1_]) (b1.up l10 rfl).cells rfl rfl) (Lw.fa rfl (Lw.r rfl (R.ld (v := v0_1_) rfl rfl ((b1.up l10 rfl).cell rfl)) ?_))))
   obtain ⟨z104, e105, hm⟩ := ob hm
   refine Lw.t rfl (T.call rfl (p84 (K := [0])  (Repo.rd (K := [0]) x0.Commits x0.Heads (h0_0.ul a13) (h0_1.ul a13)) (h0_1.ul a13) e105)) ?_
   rintro _ _ ⟨W106, rfl, l106, rfl⟩
   have a107 := a13.n l106
   refine Lw.g (vB z104) rfl (Lw.nil ?_)
   cases hm
   exact Cw.ret (ret1 rfl (Res.mk a107 rfl))

theorem p33 {W : CW} {K : List Nat} {x0 : Vm.Repo} {v0_0_ : Value} {v0_1_ : Value} {r : Bool} (h0 : Rd W K [v0_0_, v0_1_] x0) (h99 : Gl 2 W K) (hm : Vm.impl_RepoOk x0 = some r) : CallR Tryd.prog 33 [.agg [v0_0_, v0_1_].toArray].toArray W.w (Res W [] fun W' v => v = vB r) :=
 (c33 (V := W.view K []) (h0.view _) (h99.view _) hm).ad (fk 0) fun _ _ e => e

theorem c127 {V : CW} {x0 : List Str} {v0_ : Value} {r : (List Str)} (h0 : Rd V [0] [v0_] x0) (hm : Vm.impl_copyText x0 = some r) : CallR Tryd.prog 127 [v0_].toArray V.w (Res V LL fun Wf v => ∃ (u0 : Value), v = u0 ∧ OwS Wf LL [] [u0] r) := by
 unfold Vm.impl_copyText at hm
 obtain ⟨W0, hW0⟩ : ∃ W, W = V := ⟨V, rfl⟩
 subst hW0
 refine CallR.of Tryd.func127 rfl rfl rfl rfl (Cw.seq (Cw.region (Lw.g (.slice none 0 0) rfl (Lw.nil (Cw.seq (Cw.region (Lw.t rfl (T.lit0 (α := Str) 2 []) ?_)))))))
 rintro v1 _ ⟨W1, rfl, l1, o1⟩
 have a2 := l1.o
 refine Lw.m v0_ rfl ?_
 obtain ⟨q3, e4, hm⟩ := ob hm
 refine Lw.t rfl (T.appP (α := Str) o1 (h0.ul a2) rfl rfl e4) ?_
 rintro v5 _ ⟨W5, rfl, l5, o5⟩
 have a7 := a2.t l5 rfl
 refine Lw.g v5 rfl (Lw.nil ?_)
 cases hm
 exact Cw.ret (ret1 rfl (Res.mk a7 ⟨v5, rfl, o5.s.sub rfl rfl⟩))

theorem p127 {W : CW} {K : List Nat} {x0 : List Str} {v0_ : Value} {k0 : Nat} {r : (List Str)} (h0 : Rd W K [v0_] x0) (hm : Vm.impl_copyText x0 = some r) : CallR Tryd.prog 127 [v0_].toArray W.w (Res W [] fun W' v => ∃ (u0 : Value), v = u0 ∧ Ow W' k0 [] [u0] r) :=
 (c127 (V := W.view K []) (h0.view _) hm).ad (fk k0) fun _ _ ⟨u0, e, f0⟩ => ⟨u0, e, f0.back (fk_LL _)⟩

theorem c91 {V : CW} {x0 : List Vm.File} {v0_ : Value} {r : (List Vm.File)} (h0 : Rd V [0] [v0_] x0) (hm : Vm.impl_copyTree x0 = some r) : CallR Tryd.prog 91 [v0_].toArray V.w (Res V LL fun Wf v => ∃ (u0 : Value), v = u0 ∧ OwS Wf LL [] [u0] r) := by
 unfold Vm.impl_copyTree at hm
 obtain ⟨W0, hW0⟩ : ∃ W, W = V := ⟨V, rfl⟩
 subst hW0
 refine CallR.of Tryd.func91 rfl rfl rfl rfl (Cw.seq (Cw.region (Lw.g (.slice none 0 0) rfl (Lw.nil (Cw.seq (Cw.region (Lw.g (.slice none 0 0) rfl (Lw.nil (Cw.seq (Cw.seq (Cw.region (Lw.m v0_ rfl (Lw.ln x0 h0 rfl (Lw.m (vI 0) rfl (Lw.nil (Cw.block ?_))))))))))))))))
 obtain ⟨K7, hK7, hm⟩ := jn_e hm
 refine Cw.loop 8 21 [3, 5, 8] (fun m l w => ∃ (y1 : List Vm.File) (y5 : Int) (v2 j4 : Value) (W6 : CW), W6.w = w ∧ Le [2, 3, 4] W0 W6 ∧ l = [v2, j4, vI y5] ∧ Ow W6 2 [] [v2] y1 ∧ Vm.impl_copyTree_l1 x0 K7 m y1 y5 = some r) (((x0.length : Int) - 0).toNat + 1) ⟨([] : List File), 0, .slice none 0 0, undef, W0, rfl, Le.refl _ _, rfl, owN 2 [], hm⟩ ?_
 rintro m8 _ _ σ ⟨y1, y5, v2, j4, W6, rfl, l6, rfl, o3, hm⟩
 obtain _ | m8 := m8
 ·cases hm
 unfold Vm.impl_copyTree_l1 at hm
 have a9 := l6.s rfl
 refine Cw.seq (Cw.region (Lw.lt rfl (Lw.nil (Cw.seq (Cw.cond (b := decide ((y5 : Int) < ((x0.length : Int) : Int))) rfl (fun hc10 => ?_) (fun hc10 => ?_))))))
 ·replace hm := bt hm hc10
  refine Cw.skip (Cw.seq (Cw.block (Cw.seq (Cw.region ?_))))
  obtain ⟨u11, e12, hm⟩ := ob hm
  refine Lw.r rfl (R.ix (α := File) (h0.ul a9) e12 rfl rfl rfl) ?_
  obtain ⟨x14, c15, _, r16⟩ := ((h0.ul a9).at_ e12).cells
  obtain ⟨v17, rfl, r18⟩ := File.split r16
  refine Lw.r rfl (R.lda c15 rfl rfl) (Lw.t rfl (T.alloc 3 (cs := [vS ([] : Str), .slice none 0 0]) rfl) ?_)
  rintro _ _ ⟨g19, W19, rfl, rfl, l19, b19⟩
  have a20 := l19.o
  refine Lw.u (T.sta (vs := [vS u11.Path, v17]) b19 rfl rfl (oc_cons rfl (oc_cons r18.oc oc_nil)) rfl rfl) ?_
  rintro _ _ ⟨W22, rfl, l22, b22⟩
  have a23 := a20.t l22 rfl
  refine Lw.nil (Cw.draw [2, 4] [(0, 0), (1, 0), (2, 1), (3, 0), (4, 1), (5, 2), (6, 0), (7, 2), (8, 2), (9, 0)] mixed (by kernel_rfl) fun W25 l25 => ?_)
  have a26 := a23.n l25
  refine Mw.p rfl rfl (fun _ => R.mv (v := v2) rfl) (Mw.p rfl rfl (fun _ => R.fa rfl) (Mw.q rfl rfl (fun _ c => R.ld (v := vS u11.Path) rfl rfl ((b22.up l25 rfl).clc rfl rfl c)) (Mw.p rfl rfl (fun _ => R.fa rfl) (Mw.q rfl rfl (fun _ c => R.ld (v := v17) rfl rfl ((b22.up l25 rfl).clc rfl rfl c)) ?_))))
  obtain ⟨z30, e31, hm⟩ := ob hm
  refine Mw.t rfl rfl (T.call rfl (p127 (K := [0]) (k0 := 4) (r18.ul a26) e31)) ?_
  rintro v0_32 _ ⟨W32, rfl, l32, ⟨_, rfl, f32_0⟩⟩
  refine ⟨⟨_, rfl, (l32.sub (M := [2, 4]) rfl)⟩, ?_⟩
  refine Mw.p rfl rfl (fun _ => R.bd (zs := [vS ([] : Str), .slice none 0 0]) (cs := [vS u11.Path, v0_32]) [(0, vS u11.Path), (1, v0_32)] rfl rfl rfl (bp_cons rfl rfl (bp_cons f32_0.oc rfl bp_nil))) (Mw.t rfl rfl (T.bs 5 [.agg [vS u11.Path, v0_32].toArray] (cs := [vS u11.Path, v0_32]) rfl rfl (bsA rfl)) ?_)
  rintro _ _ ⟨g36, W36, rfl, rfl, l36, b36⟩
  refine ⟨⟨_, rfl, ((l32.sub (M := [2, 4]) rfl).trans (l36.sub (M := [2, 4]) rfl))⟩, ?_⟩
  obtain ⟨q41, e42, hm⟩ := ob hm
  refine Mw.t rfl rfl (T.app1 (α := File) (J := [4]) (K' := []) (((((o3.up l19 rfl).up l22 rfl).up l25 rfl).up l32 rfl).up l36 rfl) b36 (File.own u11.Path z30 (f32_0.up l36 rfl).s) rfl rfl e42) ?_
  rintro v43 _ ⟨W43, rfl, l43, o43⟩
  refine ⟨⟨_, rfl, ((l32.sub (M := [2, 4]) rfl).trans ((l36.sub (M := [2, 4]) rfl).trans (l43.sub (M := [2, 4]) rfl)))⟩, ?_⟩
  refine Mw.p rfl rfl (fun _ => R.as (v := v43) rfl) (Mw.nil (Cw.region (Lw.add rfl (Lw.m (vI (w64 (y5 + 1))) rfl (Lw.nil (⟨?_, m8, Nat.lt_succ_self m8, ⟨q41, w64 (y5 + 1), v43, ptr (bx g19), W43, rfl, (l6.trans ((l19.sub rfl).trans ((l22.sub rfl).trans ((l25.sub rfl).trans ((l32.sub rfl).trans ((l36.sub rfl).trans (l43.sub rfl))))))), rfl, o43, hm⟩⟩))))))
  iterate 19 (refine .u ?_)
  exact Agree.base
 ·replace hm := bf hm hc10
  refine Cw.exit ?_
  rw [hK7] at hm
  refine Cw.seq (Cw.region (Lw.m v2 rfl (Lw.g v2 rfl (Lw.nil ?_))))
  cases hm
  exact Cw.ret (ret1 rfl (Res.mk a9 ⟨v2, rfl, o3.s.sub rfl rfl⟩))

theorem p91 {W : CW} {K : List Nat} {x0 : List Vm.File} {v0_ : Value} {k0 : Nat} {r : (List Vm.File)} (h0 : Rd W K [v0_] x0) (hm : Vm.impl_copyTree x0 = some r) : CallR Tryd.prog 91 [v0_].toArray W.w (Res W [] fun W' v => ∃ (u0 : Value), v = u0 ∧ Ow W' k0 [] [u0] r) :=
 (c91 (V := W.view K []) (h0.view _) hm).ad (fk k0) fun _ _ ⟨u0, e, f0⟩ => ⟨u0, e, f0.back (fk_LL _)⟩

theorem c58 {V : CW} {x0 : Vm.Repo} {v0_0_ : Value} {v0_1_ : Value} {r : Vm.Repo} (h0 : Rd V [0] [v0_0_, v0_1_] x0) (hm : Vm.impl_Repo_own x0 = some r) : CallR Tryd.prog 58 [.agg [v0_0_, v0_1_].toArray].toArray V.w (Res V LL fun Wf v => ∃ (u0_0 : Value) (u0_1 : Value), v = .agg [u0_0, u0_1].toArray ∧ OwS Wf [31] [] [u0_0] r.Commits ∧ OwS Wf [32] [] [u0_1] r.Heads) := by
 unfold Vm.impl_Repo_own at hm
 obtain ⟨w0_0, w0_1, he0, h0_0, h0_1⟩ := Repo.split h0
 simp only [List.cons.injEq, and_true, true_and] at he0
 obtain ⟨rfl, rfl⟩ := he0
 obtain ⟨W0, hW0⟩ : ∃ W, W = V := ⟨V, rfl⟩
 subst hW0
 refine CallR.of Tryd.func58 rfl rfl rfl rfl (Cw.seq (Cw.region (Lw.t rfl (T.box 2 (v := .agg [v0_0_, v0_1_].toArray) (cs := [v0_0_, v0_1_]) rfl rfl) ?_)))
 rintro _ _ ⟨g1, W1, rfl, rfl, l1, b1⟩
 have a2 := l1.o
 refine Lw.t rfl (T.alloc 3 (cs := [.slice none 0 0, .slice none 0 0]) rfl) ?_
 rintro _ _ ⟨g3, W3, rfl, rfl, l3, b3⟩
 have a4 := a2.n l3
 refine Lw.nil (Cw.seq (Cw.region (Lw.t rfl (T.lit0 (α := Head) 4 []) ?_)))
 rintro v6 _ ⟨W6, rfl, l6, o6⟩
 have a7 := a4.n l6
 have b8 := (b1.up l3 rfl).up l6 rfl
 refine Lw.fa rfl (Lw.r rfl (R.ld (v := v0_1_) rfl rfl (b8.cell rfl)) ?_)
 obtain ⟨q10, e11, hm⟩ := ob hm
 refine Lw.t rfl (T.appP (α := Head) o6 (h0_1.ul a7) rfl rfl e11) ?_
 rintro v12 _ ⟨W12, rfl, l12, o12⟩
 have a14 := a7.t l12 rfl
 refine Lw.r rfl (R.bd (zs := [.slice none 0 0, .slice none 0 0]) (cs := [.slice none 0 0, v12]) [(1, v12)] rfl rfl rfl (bp_cons o12.oc rfl bp_nil)) (Lw.t rfl (T.alloc 5 (cs := [.slice none 0 0, .slice none 0 0]) rfl) ?_)
 rintro _ _ ⟨g17, W17, rfl, rfl, l17, b17⟩
 have a18 := a14.n l17
 refine Lw.u (T.sta (vs := [.slice none 0 0, v12]) b17 rfl rfl (oc_cons rfl (oc_cons (o12.up l17 rfl).oc oc_nil)) rfl rfl) ?_
 rintro _ _ ⟨W22, rfl, l22, b22⟩
 have a23 := a18.t l22 rfl
 refine Lw.nil (Cw.seq (Cw.seq (Cw.region (Lw.fa rfl (Lw.r rfl (R.ld (v := v0_0_) rfl rfl ((((b8.up l12 rfl).up l17 rfl).up l22 rfl).cell rfl)) (Lw.ln x0.Commits (h0_0.ul a23) rfl (Lw.m (vI 0) rfl (Lw.nil (Cw.block ?_)))))))))
 obtain ⟨K38, hK38, hm⟩ := jn_e hm
 refine Cw.loop 14 33 [5, 14] (fun m l w => ∃ (y29 : Int) (y30 : List Vm.Commit) (y33 : List Vm.Head) (j28 v31 v34 : Value) (W37 : CW), W37.w = w ∧ Le [5, 6, 7, 8, 9] W22 W37 ∧ l = [j28, vI y29] ∧ Ow W37 6 [] [v31] y30 ∧ Ow W37 4 [] [v34] y33 ∧ Bx W37 5 g17 [v31, v34] ∧ Vm.impl_Repo_own_l1 x0 K38 m y29 y30 y33 = some r) (((x0.Commits.length : Int) - 0).toNat + 1) ⟨0, ([] : List Commit), q10, undef, .slice none 0 0, v12, W22, rfl, Le.refl _ _, rfl, owN 6 [], ((o12.up l17 rfl).up l22 rfl), b22, hm⟩ ?_
 rintro m39 _ _ σ ⟨y29, y30, y33, j28, v31, v34, W37, rfl, l37, rfl, o32, o35, b36, hm⟩
 obtain _ | m39 := m39
 ·cases hm
 unfold Vm.impl_Repo_own_l1 at hm
 have a40 := a23.t l37 rfl
 refine Cw.seq (Cw.region (Lw.lt rfl (Lw.nil (Cw.seq (Cw.cond (b := decide ((y29 : Int) < ((x0.Commits.length : Int) : Int))) rfl (fun hc43 => ?_) (fun hc43 => ?_))))))
 ·replace hm := bt hm hc43
  refine Cw.skip (Cw.seq (Cw.block (Cw.seq (Cw.region ?_))))
  obtain ⟨u44, e45, hm⟩ := ob hm
  refine Lw.r rfl (R.ix (α := Commit) (h0_0.ul a40) e45 rfl rfl rfl) ?_
  obtain ⟨x47, c48, _, r49⟩ := ((h0_0.ul a40).at_ e45).cells
  obtain ⟨v50, v52, rfl, r51, r53⟩ := Commit.split r49
  refine Lw.r rfl (R.lda c48 rfl rfl) (Lw.t rfl (T.alloc 7 (cs := [.slice none 0 0, vS ([] : Str), .slice none 0 0]) rfl) ?_)
  rintro _ _ ⟨g54, W54, rfl, rfl, l54, b54⟩
  have a55 := l54.o
  refine Lw.u (T.sta (vs := [v50, vS u44.Who, v52]) b54 rfl rfl (oc_cons r51.oc (oc_cons rfl (oc_cons r53.oc oc_nil))) rfl rfl) ?_
  rintro _ _ ⟨W61, rfl, l61, b61⟩
  have a62 := a55.t l61 rfl
  refine Lw.nil (Cw.draw [6, 8, 9] [(0, 0), (1, 1), (3, 0), (4, 1), (6, 0), (7, 1), (8, 0), (9, 1), (2, 2), (5, 2), (10, 2), (11, 0), (12, 2), (13, 2), (14, 0), (15, 3)] mixed (by kernel_rfl) fun W68 l68 => ?_)
  have a69 := a62.n l68
  have b74 := ((b36.up l54 rfl).up l61 rfl).up l68 rfl
  have b75 := b61.up l68 rfl
  refine Mw.p rfl rfl (fun _ => R.fa rfl) (Mw.q rfl rfl (fun _ c => R.ld (v := v31) rfl rfl (b74.clc rfl rfl c)) (Mw.p rfl rfl (fun _ => R.fa rfl) (Mw.q rfl rfl (fun _ c => R.ld (v := v50) rfl rfl (b75.clc rfl rfl c)) (Mw.p rfl rfl (fun _ => R.fa rfl) (Mw.q rfl rfl (fun _ c => R.ld (v := vS u44.Who) rfl rfl (b75.clc rfl rfl c)) (Mw.p rfl rfl (fun _ => R.fa rfl) (Mw.q rfl rfl (fun _ c => R.ld (v := v52) rfl rfl (b75.clc rfl rfl c)) (Mw.t rfl rfl (T.lit0 (α := Int) 8 []) ?_))))))))
  rintro v76 _ ⟨W76, rfl, l76, o76⟩
  have a77 := a69.n l76
  refine ⟨⟨_, rfl, (l76.sub (M := [6, 8, 9]) rfl)⟩, ?_⟩
  obtain ⟨q84, e85, hm⟩ := ob hm
  refine Mw.t rfl rfl (T.appP (α := Int) o76 (r51.ul a77) rfl rfl e85) ?_
  rintro v86 _ ⟨W86, rfl, l86, o86⟩
  have a88 := a77.t l86 rfl
  refine ⟨⟨_, rfl, ((l76.sub (M := [6, 8, 9]) rfl).trans (l86.sub (M := [6, 8, 9]) rfl))⟩, ?_⟩
  obtain ⟨z96, e97, hm⟩ := ob hm
  refine Mw.t rfl rfl (T.call rfl (p91 (K := [0]) (k0 := 9) (r53.ul a88) e97)) ?_
  rintro v0_98 _ ⟨W98, rfl, l98, ⟨_, rfl, f98_0⟩⟩
  refine ⟨⟨_, rfl, ((l76.sub (M := [6, 8, 9]) rfl).trans ((l86.sub (M := [6, 8, 9]) rfl).trans (l98.sub (M := [6, 8, 9]) rfl)))⟩, ?_⟩
  refine Mw.p rfl rfl (fun _ => R.bd (zs := [.slice none 0 0, vS ([] : Str), .slice none 0 0]) (cs := [v86, vS u44.Who, v0_98]) [(0, v86), (1, vS u44.Who), (2, v0_98)] rfl rfl rfl (bp_cons (o86.up l98 rfl).oc rfl (bp_cons rfl rfl (bp_cons f98_0.oc rfl bp_nil)))) (Mw.t rfl rfl (T.bs 10 [.agg [v86, vS u44.Who, v0_98].toArray] (cs := [v86, vS u44.Who, v0_98]) rfl rfl (bsA rfl)) ?_)
  rintro _ _ ⟨g107, W107, rfl, rfl, l107, b107⟩
  refine ⟨⟨_, rfl, ((l76.sub (M := [6, 8, 9]) rfl).trans ((l86.sub (M := [6, 8, 9]) rfl).trans ((l98.sub (M := [6, 8, 9]) rfl).trans (l107.sub (M := [6, 8, 9]) rfl))))⟩, ?_⟩
  obtain ⟨q117, e118, hm⟩ := ob hm
  refine Mw.t rfl rfl (T.app1 (α := Commit) (J := [8, 9]) (K' := []) (((((((o32.up l54 rfl).up l61 rfl).up l68 rfl).up l76 rfl).up l86 rfl).up l98 rfl).up l107 rfl) b107 (Commit.own q84 u44.Who z96 ((o86.up l98 rfl).up l107 rfl).s (f98_0.up l107 rfl).s) rfl rfl e118) ?_
  rintro v119 _ ⟨W119, rfl, l119, o119⟩
  refine ⟨⟨_, rfl, ((l76.sub (M := [6, 8, 9]) rfl).trans ((l86.sub (M := [6, 8, 9]) rfl).trans ((l98.sub (M := [6, 8, 9]) rfl).trans ((l107.sub (M := [6, 8, 9]) rfl).trans (l119.sub (M := [6, 8, 9]) rfl)))))⟩, ?_⟩
  refine Mw.p rfl rfl (fun _ => R.fa rfl) (Mw.lu rfl (T.st (j := 0) (v := v119) (((((b74.up l76 rfl).up l86 rfl).up l98 rfl).up l107 rfl).up l119 rfl) rfl rfl o119.oc rfl rfl) ?_)
  rintro _ _ ⟨W127, rfl, l127, b127⟩
  refine Mw.nil (Cw.region (Lw.add rfl (Lw.m (vI (w64 (y29 + 1))) rfl (Lw.nil (⟨?_, m39, Nat.lt_succ_self m39, ⟨w64 (y29 + 1), q117, y33, ptr (bx g54), v119, v34, W127, rfl, (l37.trans ((l54.sub rfl).trans ((l61.sub rfl).trans ((l68.sub rfl).trans ((l76.sub rfl).trans ((l86.sub rfl).trans ((l98.sub rfl).trans ((l107.sub rfl).trans ((l119.sub rfl).trans (l127.sub rfl)))))))))), rfl, (o119.up l127 rfl), (((((((((o35.up l54 rfl).up l61 rfl).up l68 rfl).up l76 rfl).up l86 rfl).up l98 rfl).up l107 rfl).up l119 rfl).up l127 rfl), b127, hm⟩⟩)))))
  iterate 23 (refine .u ?_)
  exact Agree.base
 ·replace hm := bf hm hc43
  refine Cw.exit ?_
  rw [hK38] at hm
  refine Cw.seq (Cw.region (Lw.r rfl (R.lda (cs := [v31, v34]) b36.cells rfl rfl) (Lw.u (T.sta (vs := [v31, v34]) (((((b3.up l6 rfl).up l12 rfl).up l17 rfl).up l22 rfl).up l37 rfl) rfl rfl (oc_cons o32.oc (oc_cons o35.oc oc_nil)) rfl rfl) ?_)))
  rintro _ _ ⟨W135, rfl, l135, b135⟩
  have a136 := a40.t l135 rfl
  refine Lw.nil ?_
  obtain ⟨W141, ew141, l141, o141⟩ := (o32.up l135 rfl).dyeO 31
  have a142 := a136.t l141 rfl
  obtain ⟨W147, ew147, l147, o147⟩ := ((o35.up l135 rfl).up l141 rfl).dyeO 32
  have a148 := a142.t l147 rfl
  cases hm
  rw [← ew147.trans (ew141)]
  exact Cw.ret (retA1 rfl ((b135.up l141 rfl).up l147 rfl) (Res.mk a148 ⟨v31, v34, rfl, (o141.up l147 rfl).s, o147.s⟩))

theorem p58 {W : CW} {K : List Nat} {x0 : Vm.Repo} {v0_0_ : Value} {v0_1_ : Value} {k0 : Nat} {k1 : Nat} {r : Vm.Repo} (h0 : Rd W K [v0_0_, v0_1_] x0) (hm : Vm.impl_Repo_own x0 = some r) : CallR Tryd.prog 58 [.agg [v0_0_, v0_1_].toArray].toArray W.w (Res W [] fun W' v => ∃ (u0_0 : Value) (u0_1 : Value), v = .agg [u0_0, u0_1].toArray ∧ Ow W' k0 [] [u0_0] r.Commits ∧ Ow W' k1 [] [u0_1] r.Heads) :=
 CallR.adJ (J := []) (fun c => bif Nat.beq c 0 then 0 else bif Nat.beq c 31 then k0 else bif Nat.beq c 32 then k1 else 0) (c58 (V := W.view K []) (h0.view _) hm) fun _ _ ⟨u0_0, u0_1, e, f0, f1⟩ => ⟨u0_0, u0_1, e, f0.one1.backN rfl, f1.one1.backN rfl⟩

theorem c60 {V : CW} {x0 : Vm.Head} {x1 : Str} {g1_ : Nat} {r : Bool} (h0 : Rd V [0] [vS x0.Name, vI x0.At] x0) (hB1 : Bx V 2 g1_ [vS x1]) (hm : Vm.impl_RepoDrop_c1 x0 x1 = some r) : CallR Tryd.prog 60 [.agg [vS x0.Name, vI x0.At].toArray, ptr (bx g1_)].toArray V.w (Res V LL fun Wf v => v = vB r ∧ Bx Wf 2 g1_ [vS x1]) := by
 unfold Vm.impl_RepoDrop_c1 at hm
 obtain ⟨W0, hW0⟩ : ∃ W, W = V := ⟨V, rfl⟩
 subst hW0
 refine CallR.of Tryd.func60 rfl rfl rfl rfl (Cw.seq (Cw.region (Lw.t rfl (T.box 3 (v := .agg [vS x0.Name, vI x0.At].toArray) (cs := [vS x0.Name, vI x0.At]) rfl rfl) ?_)))
 rintro _ _ ⟨g1, W1, rfl, rfl, l1, b1⟩
 have a2 := l1.o
 have b3 := hB1.up l1 rfl
 refine Lw.g (vB false) rfl (Lw.nil (Cw.seq (Cw.region (Lw.fa rfl (Lw.r rfl (R.ld (v := vS x0.Name) rfl rfl (b1.cell rfl)) (Lw.r rfl (R.ld (v := vS x1) rfl rfl (b3.cell0 rfl)) (Lw.seq rfl (Lw.g (vB (x0.Name == x1)) rfl (Lw.nil ?_)))))))))
 cases hm
 exact Cw.ret (ret1 rfl (Res.mk a2 ⟨rfl, b3⟩))

theorem p60 {W : CW} {K : List Nat} {x0 : Vm.Head} {x1 : Str} {g1_ : Nat} {c0 : Nat} {r : Bool} (h0 : Rd W K [vS x0.Name, vI x0.At] x0) (hB1 : Bx W c0 g1_ [vS x1]) (hJ : okJ K [c0] = true) (hm : Vm.impl_RepoDrop_c1 x0 x1 = some r) : CallR Tryd.prog 60 [.agg [vS x0.Name, vI x0.At].toArray, ptr (bx g1_)].toArray W.w (Res W [c0] fun W' v => v = vB r ∧ Bx W' c0 g1_ [vS x1]) :=
 CallR.adJ (J := [c0]) (fun c => bif Nat.beq c 0 then 0 else bif Nat.beq c 2 then c0 else 0) (c60 (V := W.view K [c0]) (h0.view _) (hB1.viewJ 0 hJ) hm) fun _ _ ⟨e, f0⟩ => ⟨e, Bx.backJ 0 f0 rfl⟩

theorem c116_60 {V : CW} {x0 : List Vm.Head} {v0_ : Value} {x2 : Str} {g2_ : Nat} {r : Int} (h0 : Rd V [0] [v0_] x0) (hB2 : Bx V 2 g2_ [vS x2]) (hm : Vm.slices_IndexFunc_impl_Head_impl_Head_at60 x0 x2 = some r) : CallR Tryd.prog 116 [v0_, .func (.func 60) #[] [ptr (bx g2_)].toArray].toArray V.w (Res V LL fun Wf v => v = vI r ∧ Bx Wf 2 g2_ [vS x2]) := by
 unfold Vm.slices_IndexFunc_impl_Head_impl_Head_at60 at hm
 obtain ⟨W0, hW0⟩ : ∃ W, W = V := ⟨V, rfl⟩
 subst hW0
 refine CallR.of Tryd.func116 rfl rfl rfl rfl (Cw.seq (Cw.region (Lw.g (vI 0) rfl (Lw.nil (Cw.seq (Cw.seq (Cw.region (Lw.m v0_ rfl (Lw.ln x0 h0 rfl (Lw.m (vI 0) rfl (Lw.nil (Cw.block ?_))))))))))))
 obtain ⟨K6, hK6, hm⟩ := jn_e hm
 refine Cw.loop 8 18 [4, 5, 8] (fun m l w => ∃ (y1 : Int) (y3 : Int) (j2 : Value) (W5 : CW), W5.w = w ∧ Le [2] W0 W5 ∧ l = [vI y1, j2, vI y3] ∧ Bx W5 2 g2_ [vS x2] ∧ Vm.slices_IndexFunc_impl_Head_impl_Head_at60_l1 x0 x2 K6 m y1 y3 = some r) (((x0.length : Int) - 0).toNat + 1) ⟨0, 0, undef, W0, rfl, Le.refl _ _, rfl, hB2, hm⟩ ?_
 rintro m7 _ _ σ ⟨y1, y3, j2, W5, rfl, l5, rfl, b4, hm⟩
 obtain _ | m7 := m7
 ·cases hm
 unfold Vm.slices_IndexFunc_impl_Head_impl_Head_at60_l1 at hm
 have a8 := l5.s rfl
 refine Cw.seq (Cw.region (Lw.lt rfl (Lw.nil (Cw.seq (Cw.cond (b := decide ((y3 : Int) < ((x0.length : Int) : Int))) rfl (fun hc9 => ?_) (fun hc9 => ?_))))))
 ·replace hm := bt hm hc9
  refine Cw.skip (Cw.seq (Cw.block (Cw.seq (Cw.region (Lw.m (vI y3) rfl (Lw.g (vI y3) rfl (Lw.nil (Cw.seq (Cw.region (Lw.m (.func (.func 60) #[] [ptr (bx g2_)].toArray) rfl (Lw.m v0_ rfl (Lw.m (vI y3) rfl ?_))))))))))))
  obtain ⟨u10, e11, hm⟩ := ob hm
  refine Lw.r rfl (R.ix (α := Head) (h0.ul a8) e11 rfl rfl rfl) ?_
  obtain ⟨x13, c14, _, r15⟩ := ((h0.ul a8).at_ e11).cells
  obtain rfl := Head.split r15
  refine Lw.r rfl (R.lda c14 rfl rfl) ?_
  obtain ⟨z16, e17, hm⟩ := ob hm
  refine Lw.t rfl (T.callV (vals := [.agg [vS u10.Name, vI u10.At].toArray]) (caps := [ptr (bx g2_)]) rfl rfl (p60 (K := [0])  (c0 := 2) (x1 := x2) (Head.rd (K := [0]) u10.Name u10.At ) b4 rfl e17)) ?_
  rintro _ _ ⟨W18, rfl, l18, ⟨rfl, f18_0⟩⟩
  have a19 := a8.t l18 rfl
  refine Lw.nil (Cw.cond (b := z16) rfl (fun hc20 => ?_) (fun hc20 => ?_))
  ·replace hm := bt hm hc20
   refine Cw.seq (Cw.region (Lw.m (vI y3) rfl (Lw.g (vI y3) rfl (Lw.nil ?_))))
   cases hm
   exact Cw.ret (ret1 rfl (Res.mk a19 ⟨rfl, f18_0⟩))
  ·replace hm := bf hm hc20
   refine Cw.skip (Cw.region (Lw.add rfl (Lw.m (vI (w64 (y3 + 1))) rfl (Lw.nil (⟨?_, m7, Nat.lt_succ_self m7, ⟨y1, w64 (y3 + 1), vI y3, W18, rfl, (l5.trans l18), rfl, f18_0, hm⟩⟩)))))
   iterate 14 (refine .u ?_)
   exact Agree.base
 ·replace hm := bf hm hc9
  refine Cw.exit ?_
  rw [hK6] at hm
  refine Cw.seq (Cw.region (Lw.g (vI (-1)) rfl (Lw.nil ?_)))
  cases hm
  exact Cw.ret (ret1 rfl (Res.mk a8 ⟨rfl, b4⟩))

theorem p116_60 {W : CW} {K : List Nat} {x0 : List Vm.Head} {v0_ : Value} {x2 : Str} {g2_ : Nat} {c0 : Nat} {r : Int} (h0 : Rd W K [v0_] x0) (hB2 : Bx W c0 g2_ [vS x2]) (hJ : okJ K [c0] = true) (hm : Vm.slices_IndexFunc_impl_Head_impl_Head_at60 x0 x2 = some r) : CallR Tryd.prog 116 [v0_, .func (.func 60) #[] [ptr (bx g2_)].toArray].toArray W.w (Res W [c0] fun W' v => v = vI r ∧ Bx W' c0 g2_ [vS x2]) :=
 CallR.adJ (J := [c0]) (fun c => bif Nat.beq c 0 then 0 else bif Nat.beq c 2 then c0 else 0) (c116_60 (V := W.view K [c0]) (h0.view _) (hB2.viewJ 0 hJ) hm) fun _ _ ⟨e, f0⟩ => ⟨e, Bx.backJ 0 f0 rfl⟩

theorem c59_60 {V : CW} {x0 : List Vm.Head} {v0_ : Value} {x2 : Str} {g2_ : Nat} {r : (List Vm.Head)} (h0 : Ow V 2 [] [v0_] x0) (hB2 : Bx V 3 g2_ [vS x2]) (hm : Vm.slices_DeleteFunc_impl_Head_impl_Head_at60 x0 x2 = some r) : CallR Tryd.prog 59 [v0_, .func (.func 60) #[] [ptr (bx g2_)].toArray].toArray V.w (Res V LL fun Wf v => ∃ (u0 : Value), v = u0 ∧ OwS Wf [31] [] [u0] r ∧ Bx Wf 3 g2_ [vS x2]) := by
 unfold Vm.slices_DeleteFunc_impl_Head_impl_Head_at60 at hm
 obtain ⟨W0, hW0⟩ : ∃ W, W = V := ⟨V, rfl⟩
 subst hW0
 refine CallR.of Tryd.func59 rfl rfl rfl rfl (Cw.seq (Cw.region (Lw.g (.slice none 0 0) rfl (Lw.nil (Cw.seq (Cw.region (Lw.m v0_ rfl (Lw.m (.func (.func 60) #[] [ptr (bx g2_)].toArray) rfl ?_))))))))
 obtain ⟨z1, e2, hm⟩ := ob hm
 refine Lw.t rfl (T.call rfl (p116_60 (K := [2])  (c0 := 3) (x2 := x2) h0.rd hB2 rfl e2)) ?_
 rintro _ _ ⟨W3, rfl, l3, ⟨rfl, f3_0⟩⟩
 have a4 := l3.s rfl
 refine Lw.g (vI z1) rfl (Lw.nil (Cw.seq (Cw.seq (Cw.region (Lw.m (vI z1) rfl (Lw.eq rfl (Lw.nil (Cw.cond (b := ((z1 : Int) == ((-1) : Int))) rfl (fun hc6 => ?_) (fun hc6 => ?_)))))))))
 ·replace hm := bt hm hc6
  refine Cw.seq (Cw.region (Lw.m v0_ rfl (Lw.g v0_ rfl (Lw.nil ?_))))
  obtain ⟨W7, ew7, l7, o7⟩ := (h0.up l3 rfl).dyeO 31
  have a8 := a4.t l7 rfl
  cases hm
  rw [← ew7]
  exact Cw.ret (ret1 rfl (Res.mk a8 ⟨v0_, rfl, o7.s, (f3_0.up l7 rfl)⟩))
 ·replace hm := bf hm hc6
  refine Cw.skip (Cw.seq (Cw.seq (Cw.region (Lw.m (vI z1) rfl (Lw.add rfl (Lw.g (vI (w64 (z1 + 1))) rfl (Lw.nil (Cw.block ?_))))))))
  obtain ⟨K17, hK17, hm⟩ := jn_e hm
  refine Cw.loop 16 35 [5, 6, 7] (fun m l w => ∃ (y10 : Int) (y11 : Int) (y14 : List Vm.Head) (j12 : Value) (W16 : CW), W16.w = w ∧ Le [2, 3, 4] W3 W16 ∧ l = [vI y10, vI y11, j12] ∧ Bx W16 3 g2_ [vS x2] ∧ Ow W16 2 [] [v0_] y14 ∧ Vm.slices_DeleteFunc_impl_Head_impl_Head_at60_l1 x2 K17 m y10 y11 y14 = some r) (((x0.length : Int) - (w64 (z1 + 1))).toNat + 1) ⟨z1, w64 (z1 + 1), x0, undef, W3, rfl, Le.refl _ _, rfl, f3_0, (h0.up l3 rfl), hm⟩ ?_
  rintro m18 _ _ σ ⟨y10, y11, y14, j12, W16, rfl, l16, rfl, b13, o15, hm⟩
  obtain _ | m18 := m18
  ·cases hm
  unfold Vm.slices_DeleteFunc_impl_Head_impl_Head_at60_l1 at hm
  have a19 := a4.t l16 rfl
  refine Cw.seq (Cw.seq (Cw.region (Lw.m (vI y11) rfl (Lw.m v0_ rfl (Lw.ln y14 o15.rd rfl (Lw.lt rfl (Lw.nil (Cw.cond (b := decide ((y11 : Int) < ((y14.length : Int) : Int))) rfl (fun hc20 => ?_) (fun hc20 => ?_)))))))))
  ·replace hm := bt hm hc20
   refine Cw.skip ?_
   obtain ⟨K27, hK27, hm⟩ := jn_e hm
   refine Cw.join 22 35 [5, 7] (fun l w => ∃ (y21 : Int) (y24 : List Vm.Head) (j22 : Value) (W26 : CW), W26.w = w ∧ Le [2, 3, 4] W16 W26 ∧ l = [vI y21, j22] ∧ Bx W26 3 g2_ [vS x2] ∧ Ow W26 2 [] [v0_] y24 ∧ K27 y21 y24 = some r) ?_ ?_
   ·rintro _ _ σ ⟨y21, y24, j22, W26, rfl, l26, rfl, b23, o25, hm⟩
    rw [hK27] at hm
    refine Cw.region (Lw.m (vI y11) rfl (Lw.add rfl (Lw.g (vI (w64 (y11 + 1))) rfl (Lw.nil (⟨?_, m18, Nat.lt_succ_self m18, ⟨y21, w64 (y11 + 1), y24, j22, W26, rfl, (l16.trans l26), rfl, b23, o25, hm⟩⟩)))))
    iterate 5 (refine .u ?_)
    refine Agree.ov0 rfl ?_
    iterate 7 (refine .u ?_)
    exact Agree.base
   ·refine Cw.block (Cw.seq (Cw.region (Lw.m v0_ rfl (Lw.m (vI y11) rfl ?_))))
    obtain ⟨u29, e30, hm⟩ := ob hm
    refine Lw.r rfl (R.ix (α := Head) o15.rd e30 rfl rfl rfl) ?_
    obtain ⟨x31, c32, _, r33⟩ := (o15.rd.at_ e30).cells
    obtain rfl := Head.split r33
    refine Lw.r rfl (R.lda c32 rfl rfl) (Lw.t rfl (T.alloc 4 (cs := [vS ([] : Str), vI 0]) rfl) ?_)
    rintro _ _ ⟨g34, W34, rfl, rfl, l34, b34⟩
    refine Lw.u (T.sta (vs := [vS u29.Name, vI u29.At]) b34 rfl rfl (oc_cons rfl (oc_cons rfl oc_nil)) rfl rfl) ?_
    rintro _ _ ⟨W38, rfl, l38, b38⟩
    refine Lw.nil (Cw.seq (Cw.region (Lw.m (.func (.func 60) #[] [ptr (bx g2_)].toArray) rfl (Lw.r rfl (R.lda (cs := [vS u29.Name, vI u29.At]) b38.cells rfl rfl) ?_))))
    obtain ⟨z42, e43, hm⟩ := ob hm
    refine Lw.t rfl (T.callV (vals := [.agg [vS u29.Name, vI u29.At].toArray]) (caps := [ptr (bx g2_)]) rfl rfl (p60 (K := [0])  (c0 := 3) (x1 := x2) (Head.rd (K := [0]) u29.Name u29.At ) ((b13.up l34 rfl).up l38 rfl) rfl e43)) ?_
    rintro _ _ ⟨W44, rfl, l44, ⟨rfl, f44_0⟩⟩
    have o46 := ((o15.up l34 rfl).up l38 rfl).up l44 rfl
    refine Lw.r rfl (R.not rfl) (Lw.nil (Cw.cond (b := (!z42)) rfl (fun hc48 => ?_) (fun hc48 => ?_)))
    ·replace hm := bt hm hc48
     refine Cw.seq (Cw.region (Lw.m v0_ rfl (Lw.m (vI y10) rfl (Lw.r rfl (R.lda (cs := [vS u29.Name, vI u29.At]) (b38.up l44 rfl).cells rfl rfl) ?_))))
     obtain ⟨u49, e50, hm⟩ := ob hm
     refine Lw.r rfl (R.ix (α := Head) o46.rd e50 rfl rfl rfl) ?_
     obtain ⟨q52, e53, hm⟩ := ob hm
     refine Lw.u (T.stS (K' := []) o46 (Head.rd (K := []) u29.Name u29.At) e53 rfl rfl rfl) ?_
     rintro _ _ ⟨W51, rfl, l51, o51⟩
     refine Lw.nil (Cw.region (Lw.m (vI y10) rfl (Lw.add rfl (Lw.g (vI (w64 (y10 + 1))) rfl (Lw.nil (⟨?_, ⟨w64 (y10 + 1), q52, ptr (bx g34), W51, rfl, ((l34.sub rfl).trans ((l38.sub rfl).trans ((l44.sub rfl).trans (l51.sub rfl)))), rfl, (f44_0.up l51 rfl), o51, hm⟩⟩))))))
     iterate 16 (refine .u ?_)
     exact Agree.refl _
    ·replace hm := bf hm hc48
     refine Cw.skip (⟨?_, ⟨y10, y14, ptr (bx g34), W44, rfl, ((l34.sub rfl).trans ((l38.sub rfl).trans (l44.sub rfl))), rfl, f44_0, o46, hm⟩⟩)
     iterate 9 (refine .u ?_)
     exact Agree.refl _
  ·replace hm := bf hm hc20
   refine Cw.exit ?_
   rw [hK17] at hm
   refine Cw.seq (Cw.region (Lw.m v0_ rfl (Lw.m (vI y10) rfl ?_)))
   obtain ⟨q57, e58, hm⟩ := ob hm
   have r60 := o15.rd.cutV e58
   refine Lw.r rfl (R.sl o15.rd e58 rfl (.inr rfl) (.inl ⟨rfl, rfl⟩)) (Lw.u (T.clr o15 e58 rfl (Vm.Head.mk ([] : Str) 0 : Vm.Head)) ?_)
   rintro _ _ ⟨W61, rfl, l61, o61⟩
   have a62 := a19.t l61 rfl
   refine Lw.nil (Cw.seq (Cw.region (Lw.m v0_ rfl (Lw.m (vI y10) rfl ?_))))
   obtain ⟨q64, e65, hm⟩ := ob hm
   have r67 := o61.rd.cutV e65
   refine Lw.r rfl (R.sl o61.rd e65 rfl (.inl ⟨rfl, rfl⟩) (.inr rfl)) (Lw.g ((cutV v0_ (0 : Int).toNat (y10 : Int).toNat (Rp.sz (Head)))) rfl (Lw.nil ?_))
   have o68 := Ow.preM o61 e65
   obtain ⟨W69, ew69, l69, o69⟩ := o68.dyeO 31
   have a70 := a62.t l69 rfl
   cases hm
   rw [← ew69]
   exact Cw.ret (ret1 rfl (Res.mk a70 ⟨(cutV v0_ (0 : Int).toNat (y10 : Int).toNat (Rp.sz (Head))), rfl, o69.s, ((b13.up l61 rfl).up l69 rfl)⟩))

theorem p59_60 {W : CW} {K : List Nat} {x0 : List Vm.Head} {v0_ : Value} {x2 : Str} {g2_ : Nat} {k0 : Nat} {c0 : Nat} {c1 : Nat} {r : (List Vm.Head)} (h0 : Ow W c0 [] [v0_] x0) (hB2 : Bx W c1 g2_ [vS x2]) (hJ : okJ K [c0, c1] = true) (hm : Vm.slices_DeleteFunc_impl_Head_impl_Head_at60 x0 x2 = some r) : CallR Tryd.prog 59 [v0_, .func (.func 60) #[] [ptr (bx g2_)].toArray].toArray W.w (Res W [c0, c1] fun W' v => ∃ (u0 : Value), v = u0 ∧ Ow W' k0 [] [u0] r ∧ Bx W' c1 g2_ [vS x2]) :=
 CallR.adJ (J := [c0, c1]) (fun c => bif Nat.beq c 0 then 0 else bif Nat.beq c 2 then c0 else bif Nat.beq c 3 then c1 else bif Nat.beq c 31 then k0 else 0) (c59_60 (V := W.view K [c0, c1]) (h0.viewJ 0 hJ) (hB2.viewJ 1 hJ) hm) fun _ _ ⟨u0, e, f0, f1⟩ => ⟨u0, e, f0.one1.backN rfl, Bx.backJ 1 f1 rfl⟩

theorem c18 {V : CW} {x0 : Vm.Repo} {v0_0_ : Value} {v0_1_ : Value} {x1 : Str} {r : Vm.Repo × Bool} (h0 : Rd V [0] [v0_0_, v0_1_] x0) (h99 : Gl 2 V [0]) (hm : Vm.impl_RepoDrop x0 x1 = some r) : CallR Tryd.prog 18 [.agg [v0_0_, v0_1_].toArray, vS x1].toArray V.w (Res V LL fun Wf v => ∃ (u0_0 : Value) (u0_1 : Value), v = .tuple [.agg [u0_0, u0_1].toArray, vB r.2].toArray ∧ OwS Wf [31] [] [u0_0] r.1.Commits ∧ OwS Wf [32] [] [u0_1] r.1.Heads) := by
 unfold Vm.impl_RepoDrop at hm
 obtain ⟨w0_0, w0_1, he0, h0_0, h0_1⟩ := Repo.split h0
 simp only [List.cons.injEq, and_true, true_and] at he0
 obtain ⟨rfl, rfl⟩ := he0
 obtain ⟨W0, hW0⟩ : ∃ W, W = V := ⟨V, rfl⟩
 subst hW0
 refine CallR.of Tryd.func18 rfl rfl rfl rfl (Cw.seq (Cw.region (Lw.t rfl (T.box 2 (v := .agg [v0_0_, v0_1_].toArray) (cs := [v0_0_, v0_1_]) rfl rfl) ?_)))
 rintro _ _ ⟨g1, W1, rfl, rfl, l1, b1⟩
 have a2 := l1.o
 refine Lw.t rfl (T.box 3 (v := vS x1) (cs := [vS x1]) rfl rfl) ?_
 rintro _ _ ⟨g3, W3, rfl, rfl, l3, b3⟩
 have a4 := a2.n l3
 refine Lw.t rfl (T.alloc 4 (cs := [.slice none 0 0, .slice none 0 0]) rfl) ?_
 rintro _ _ ⟨g6, W6, rfl, rfl, l6, b6⟩
 have a7 := a4.n l6
 have b8 := (b1.up l3 rfl).up l6 rfl
 refine Lw.g (vB false) rfl (Lw.nil (Cw.seq (Cw.seq (Cw.region (Lw.r rfl (R.lda (cs := [v0_0_, v0_1_]) b8.cells rfl rfl) ?_)))))
 obtain ⟨z13, e14, hm⟩ := ob hm
 refine Lw.t rfl (T.call rfl (p33 (K := [0])  (Repo.rd (K := [0]) x0.Commits x0.Heads (h0_0.ul a7) (h0_1.ul a7)) (h99.ul a7) e14)) ?_
 rintro _ _ ⟨W15, rfl, l15, rfl⟩
 have a16 := a7.n l15
 refine Lw.r rfl (R.not rfl) (Lw.nil (Cw.cond (b := (!z13)) rfl (fun hc20 => ?_) (fun hc20 => ?_)))
 ·replace hm := bt hm hc20
  refine Cw.seq (Cw.region (Lw.r rfl (R.bd (zs := [.slice none 0 0, .slice none 0 0]) (cs := [.slice none 0 0, .slice none 0 0]) [] rfl rfl rfl bp_nil) (Lw.u (T.sta (vs := [.slice none 0 0, .slice none 0 0]) (b6.up l15 rfl) rfl rfl (oc_cons rfl (oc_cons rfl oc_nil)) rfl rfl) ?_)))
  rintro _ _ ⟨W21, rfl, l21, b21⟩
  have a22 := a16.t l21 rfl
  refine Lw.g (vB false) rfl (Lw.nil ?_)
  cases hm
  exact Cw.ret (retA2 rfl b21 rfl (Res.mk a22 ⟨.slice none 0 0, .slice none 0 0, rfl, (owsN []).sub rfl rfl, (owsN []).sub rfl rfl⟩))
 ·replace hm := bf hm hc20
  refine Cw.skip (Cw.seq (Cw.region (Lw.r rfl (R.lda (cs := [v0_0_, v0_1_]) (b8.up l15 rfl).cells rfl rfl) ?_)))
  obtain ⟨z27, e28, hm⟩ := ob hm
  refine Lw.t rfl (T.call rfl (p58 (K := [0]) (k0 := 5) (k1 := 6) (Repo.rd (K := [0]) x0.Commits x0.Heads (h0_0.ul a16) (h0_1.ul a16)) e28)) ?_
  rintro _ _ ⟨W29, rfl, l29, ⟨v0_0_29, v0_1_29, rfl, f29_0, f29_1⟩⟩
  have a30 := a16.n l29
  refine Lw.t rfl (T.alloc 7 (cs := [.slice none 0 0, .slice none 0 0]) rfl) ?_
  rintro _ _ ⟨g34, W34, rfl, rfl, l34, b34⟩
  have a35 := a30.n l34
  refine Lw.u (T.sta (vs := [v0_0_29, v0_1_29]) b34 rfl rfl (oc_cons (f29_0.up l34 rfl).oc (oc_cons (f29_1.up l34 rfl).oc oc_nil)) rfl rfl) ?_
  rintro _ _ ⟨W41, rfl, l41, b41⟩
  have a42 := a35.t l41 rfl
  refine Lw.nil (Cw.seq (Cw.region (Lw.fa rfl (Lw.r rfl (R.ld (v := v0_1_29) rfl rfl (b41.cell rfl)) (Lw.r rfl (R.mkF (vs := [ptr (bx g3)]) rfl) ?_)))))
  obtain ⟨z48, e49, hm⟩ := ob hm
  refine Lw.t rfl (T.call rfl (p59_60 (K := [0]) (k0 := 8) (c0 := 6) (c1 := 3) (x2 := x1) ((f29_1.up l34 rfl).up l41 rfl) (((((b3.up l6 rfl).up l15 rfl).up l29 rfl).up l34 rfl).up l41 rfl) rfl e49)) ?_
  rintro v0_50 _ ⟨W50, rfl, l50, ⟨_, rfl, f50_0, f50_1⟩⟩
  have a51 := a42.t l50 rfl
  refine Lw.fa rfl (Lw.u (T.st (j := 1) (v := v0_50) (b41.up l50 rfl) rfl rfl f50_0.oc rfl rfl) ?_)
  rintro _ _ ⟨W56, rfl, l56, b56⟩
  have a57 := a51.t l56 rfl
  refine Lw.nil (Cw.seq (Cw.draw [4] [(0, 1), (1, 0), (2, 1), (3, 0), (4, 0), (5, 1), (6, 0), (7, 0), (8, 2), (9, 0)] mixed (by kernel_rfl) fun W63 l63 => ?_))
  have a64 := a57.n l63
  have o65 := ((((f29_0.up l34 rfl).up l41 rfl).up l50 rfl).up l56 rfl).up l63 rfl
  have o66 := (f50_0.up l56 rfl).up l63 rfl
  refine Mw.q rfl rfl (fun _ c => R.lda (cs := [v0_0_29, v0_50]) ((b56.up l63 rfl).clcs rfl c) rfl rfl) (Mw.p rfl rfl (fun _ => R.fa rfl) (Mw.q rfl rfl (fun _ c => R.ld (v := v0_50) rfl rfl ((b56.up l63 rfl).clc rfl rfl c)) (Mw.p rfl rfl (fun _ => lenR (xs := z48) o66.rd rfl) (Mw.p rfl rfl (fun _ => R.fa rfl) (Mw.q rfl rfl (fun _ c => R.ld (v := v0_1_) rfl rfl ((((((((b8.up l15 rfl).up l29 rfl).up l34 rfl).up l41 rfl).up l50 rfl).up l56 rfl).up l63 rfl).clc rfl rfl c)) (Mw.p rfl rfl (fun _ => lenR (xs := x0.Heads) (h0_1.ul a64) rfl) (Mw.p rfl rfl (fun _ => R.lt rfl rfl) (Mw.tu rfl (T.sta (vs := [v0_0_29, v0_50]) (((((((b6.up l15 rfl).up l29 rfl).up l34 rfl).up l41 rfl).up l50 rfl).up l56 rfl).up l63 rfl) rfl rfl (oc_cons o65.oc (oc_cons o66.oc oc_nil)) rfl rfl) ?_))))))))
  rintro _ _ ⟨W72, rfl, l72, b72⟩
  have a73 := a64.t l72 rfl
  refine ⟨⟨_, rfl, (l72.sub (M := [4]) rfl)⟩, ?_⟩
  refine Mw.p rfl rfl (fun _ => R.as (v := vB (decide (((z48.length : Int) : Int) < ((x0.Heads.length : Int) : Int)))) rfl) (Mw.nil ?_)
  obtain ⟨W79, ew79, l79, o79⟩ := (o65.up l72 rfl).dyeO 31
  have a80 := a73.t l79 rfl
  obtain ⟨W86, ew86, l86, o86⟩ := ((o66.up l72 rfl).up l79 rfl).dyeO 32
  have a87 := a80.t l86 rfl
  cases hm
  rw [← ew86.trans (ew79)]
  exact Cw.ret (retA2 rfl ((b72.up l79 rfl).up l86 rfl) rfl (Res.mk a87 ⟨v0_0_29, v0_50, rfl, (o79.up l86 rfl).s, o86.s⟩))

theorem p18 {W : CW} {K : List Nat} {x0 : Vm.Repo} {v0_0_ : Value} {v0_1_ : Value} {x1 : Str} {k0 : Nat} {k1 : Nat} {r : Vm.Repo × Bool} (h0 : Rd W K [v0_0_, v0_1_] x0) (h99 : Gl 2 W K) (hm : Vm.impl_RepoDrop x0 x1 = some r) : CallR Tryd.prog 18 [.agg [v0_0_, v0_1_].toArray, vS x1].toArray W.w (Res W [] fun W' v => ∃ (u0_0 : Value) (u0_1 : Value), v = .tuple [.agg [u0_0, u0_1].toArray, vB r.2].toArray ∧ Ow W' k0 [] [u0_0] r.1.Commits ∧ Ow W' k1 [] [u0_1] r.1.Heads) :=
 CallR.adJ (J := []) (fun c => bif Nat.beq c 0 then 0 else bif Nat.beq c 31 then k0 else bif Nat.beq c 32 then k1 else 0) (c18 (V := W.view K []) (h0.view _) (h99.view _) hm) fun _ _ ⟨u0_0, u0_1, e, f0, f1⟩ => ⟨u0_0, u0_1, e, f0.one1.backN rfl, f1.one1.backN rfl⟩

theorem c39 {V : CW} {x0 : List Int} {v0_ : Value} {x1 : List Int} {v1_ : Value} {r : Bool} (h0 : Rd V [0] [v0_] x0) (h1 : Rd V [0] [v1_] x1) (hm : Vm.laws_eqIntS x0 x1 = some r) : CallR Tryd.prog 39 [v0_, v1_].toArray V.w (Res V LL fun Wf v => v = vB r) := by
 unfold Vm.laws_eqIntS at hm
 obtain ⟨W0, hW0⟩ : ∃ W, W = V := ⟨V, rfl⟩
 subst hW0
 refine CallR.of Tryd.func39 rfl rfl rfl rfl (Cw.seq (Cw.region (Lw.g (vB false) rfl (Lw.nil (Cw.seq (Cw.seq (Cw.region (Lw.m v0_ rfl (Lw.ln x0 h0 rfl (Lw.m v1_ rfl (Lw.ln x1 h1 rfl (Lw.ne rfl (Lw.nil (Cw.cond (b := (((x0.length : Int) : Int) != ((x1.length : Int) : Int))) rfl (fun hc1 => ?_) (fun hc1 => ?_)))))))))))))))
 ·replace hm := bt hm hc1
  refine Cw.seq (Cw.region (Lw.g (vB false) rfl (Lw.nil ?_)))
  cases hm
  exact Cw.ret (ret1 rfl (Res.mk (Le.refl _ _) rfl))
 ·replace hm := bf hm hc1
  refine Cw.skip (Cw.seq (Cw.seq (Cw.region (Lw.g (vI 0) rfl (Lw.nil (Cw.block ?_))))))
  obtain ⟨K5, hK5, hm⟩ := jn_e hm
  refine Cw.loop 11 25 [4, 5] (fun m l w => ∃ (y2 : Bool) (y3 : Int) (W4 : CW), W4.w = w ∧ Le [] W0 W4 ∧ l = [vB y2, vI y3] ∧ Vm.laws_eqIntS_l1 x0 x1 K5 m y2 y3 = some r) (((x0.length : Int) - 0).toNat + 1) ⟨false, 0, W0, rfl, Le.refl _ _, rfl, hm⟩ ?_
  rintro m6 _ _ σ ⟨y2, y3, W4, rfl, l4, rfl, hm⟩
  obtain _ | m6 := m6
  ·cases hm
  unfold Vm.laws_eqIntS_l1 at hm
  have a7 := l4.o
  refine Cw.seq (Cw.seq (Cw.region (Lw.m (vI y3) rfl (Lw.m v0_ rfl (Lw.ln x0 (h0.ul a7) rfl (Lw.lt rfl (Lw.nil (Cw.cond (b := decide ((y3 : Int) < ((x0.length : Int) : Int))) rfl (fun hc9 => ?_) (fun hc9 => ?_)))))))))
  ·replace hm := bt hm hc9
   refine Cw.skip (Cw.seq (Cw.block (Cw.seq (Cw.draw [] [(0, 0), (1, 0), (2, 0), (3, 1), (4, 0), (5, 0), (6, 0), (7, 1), (8, 0)] mixed (by kernel_rfl) fun W10 l10 => ?_))))
   have a11 := a7.n l10
   refine Mw.p rfl rfl (fun _ => R.mv (v := v0_) rfl) (Mw.p rfl rfl (fun _ => R.mv (v := vI y3) rfl) ?_)
   obtain ⟨u12, e13, hm⟩ := ob hm
   refine Mw.p rfl rfl (fun _ => R.ix (α := Int) (h0.ul a11) e13 rfl rfl rfl) (Mw.q rfl rfl (fun _ c => R.ld rfl rfl (cl_cell ((h0.ul a11).at_ e13).1 rfl ((h0.ul a11).at_ e13).int c)) (Mw.p rfl rfl (fun _ => R.mv (v := v1_) rfl) (Mw.p rfl rfl (fun _ => R.mv (v := vI y3) rfl) ?_)))
   obtain ⟨u15, e16, hm⟩ := ob hm
   refine Mw.p rfl rfl (fun _ => R.ix (α := Int) (h1.ul a11) e16 rfl rfl rfl) (Mw.q rfl rfl (fun _ c => R.ld rfl rfl (cl_cell ((h1.ul a11).at_ e16).1 rfl ((h1.ul a11).at_ e16).int c)) (Mw.p rfl rfl (fun _ => R.ne rfl rfl) (Mw.nil (Cw.cond (b := ((u12 : Int) != (u15 : Int))) rfl (fun hc18 => ?_) (fun hc18 => ?_)))))
   ·replace hm := bt hm hc18
    refine Cw.seq (Cw.region (Lw.g (vB false) rfl (Lw.nil ?_)))
    cases hm
    exact Cw.ret (ret1 rfl (Res.mk a11 rfl))
   ·replace hm := bf hm hc18
    refine Cw.skip (Cw.region (Lw.m (vI y3) rfl (Lw.add rfl (Lw.g (vI (w64 (y3 + 1))) rfl (Lw.nil (⟨?_, m6, Nat.lt_succ_self m6, ⟨y2, w64 (y3 + 1), W10, rfl, (l4.trans l10), rfl, hm⟩⟩))))))
    iterate 18 (refine .u ?_)
    exact Agree.base
  ·replace hm := bf hm hc9
   refine Cw.exit ?_
   rw [hK5] at hm
   refine Cw.seq (Cw.region (Lw.g (vB true) rfl (Lw.nil ?_)))
   cases hm
   exact Cw.ret (ret1 rfl (Res.mk a7 rfl))

theorem p39 {W : CW} {K : List Nat} {x0 : List Int} {v0_ : Value} {x1 : List Int} {v1_ : Value} {r : Bool} (h0 : Rd W K [v0_] x0) (h1 : Rd W K [v1_] x1) (hm : Vm.laws_eqIntS x0 x1 = some r) : CallR Tryd.prog 39 [v0_, v1_].toArray W.w (Res W [] fun W' v => v = vB r) :=
 (c39 (V := W.view K []) (h0.view _) (h1.view _) hm).ad (fk 0) fun _ _ e => e

end Go.Sx
