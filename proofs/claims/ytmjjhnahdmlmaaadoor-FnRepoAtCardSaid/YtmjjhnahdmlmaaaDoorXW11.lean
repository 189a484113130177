/- Walks: each function answers as its model, printed by a program of ours. Conditions: the arguments read as they are given. -/
import Derived.Test.YtmjjhnahdmlmaaaDoorXTs
import Derived.Test.YtmjjhnahdmlmaaaDoorXMd
import Derived.Test.YtmjjhnahdmlmaaaDoorXW10
import Derived.Test.YtmjjhnahdmlmaaaDoorXW2
import Derived.Test.YtmjjhnahdmlmaaaDoorXW3
import Derived.Test.YtmjjhnahdmlmaaaDoorXW9
namespace Go.Sx
open Go Go.Proofs Go.Vm Rp
set_option linter.unusedVariables false
set_option linter.unusedSimpArgs false

theorem c33 {V : CW} {x0 : Vm.Repo} {v0_0_ : Value} {v0_1_ : Value} {r : Bool} (h0 : Rd V [0] [v0_0_, v0_1_] x0) (h99 : Gl 2 V [0]) (hm : Vm.impl_RepoOk x0 = some r) : CallR Tryd.prog 33 [.agg [v0_0_, v0_1_].toArray].toArray V.w (Res V LL fun Wf v => v = vB r) := by
 unfold Vm.impl_RepoOk at hm
 obtain ⟨w0_0, w0_1, he0, h0_0, h0_1⟩ := Repo.split h0
 simp only [List.cons.injEq, and_true, true_and] at he0
 obtain ⟨rfl, rfl⟩ := he0
 obtain ⟨W0, hW0⟩ : ∃ W, W = V := ⟨V, rfl⟩
 subst hW0
 refine CallR.of Tryd.func33 rfl rfl rfl rfl (Cw.seq (Cw.region (Lw.t rfl (T.box 2 (v := .agg [v0_0_, v0_1_].toArray) (cs := [v0_0_, v0_1_]) rfl rfl) ?_)))
 rintro _ _ ⟨g1, W1, rfl, rfl, l1, b1⟩
 have a2 := l1.o
 refine Lw.g (vB false) rfl (Lw.nil (Cw.seq (Cw.seq (Cw.region (Lw.fa rfl (Lw.r rfl (R.ld (v := v0_0_) rfl rfl (b1.cell rfl)) (Lw.ln x0.Commits (h0_0.ul a2) rfl (Lw.gt rfl (Lw.nil (Cw.cond (b := decide ((16 : Int) < ((x0.Commits.length : Int) : Int))) rfl (fun hc4 => ?_) (fun hc4 => ?_)))))))))))
 ·replace hm := bt hm hc4
  refine Cw.seq (Cw.region (Lw.g (vB false) rfl (Lw.nil ?_)))
  cases hm
  exact Cw.ret (ret1 rfl (Res.mk a2 rfl))
 ·replace hm := bf hm hc4
  refine Cw.skip (Cw.seq (Cw.seq (Cw.region (Lw.fa rfl (Lw.r rfl (R.ld (v := v0_0_) rfl rfl (b1.cell rfl)) (Lw.ln x0.Commits (h0_0.ul a2) rfl (Lw.m (vI 0) rfl (Lw.nil (Cw.block ?_)))))))))
  obtain ⟨K11, hK11, hm⟩ := jn_e hm
  refine Cw.loop 14 65 [2, 3, 4, 6, 14] (fun m l w => ∃ (y5 : Bool) (y9 : Int) (j6 j7 j8 : Value) (W10 : CW), W10.w = w ∧ Le [3] W1 W10 ∧ l = [vB y5, j6, j7, j8, vI y9] ∧ Vm.impl_RepoOk_l1 x0 K11 m y5 y9 = some r) (((x0.Commits.length : Int) - 0).toNat + 1) ⟨false, 0, undef, undef, undef, W1, rfl, Le.refl _ _, rfl, hm⟩ ?_
  rintro m12 _ _ σ ⟨y5, y9, j6, j7, j8, W10, rfl, l10, rfl, hm⟩
  obtain _ | m12 := m12
  ·cases hm
  unfold Vm.impl_RepoOk_l1 at hm
  have a13 := a2.t l10 rfl
  refine Cw.seq (Cw.region (Lw.lt rfl (Lw.nil (Cw.seq (Cw.cond (b := decide ((y9 : Int) < ((x0.Commits.length : Int) : Int))) rfl (fun hc15 => ?_) (fun hc15 => ?_))))))
  ·replace hm := bt hm hc15
   refine Cw.skip (Cw.seq (Cw.block (Cw.seq (Cw.region (Lw.m (vI y9) rfl ?_)))))
   obtain ⟨u16, e17, hm⟩ := ob hm
   refine Lw.r rfl (R.ix (α := Commit) (h0_0.ul a13) e17 rfl rfl rfl) ?_
   obtain ⟨x19, c20, _, r21⟩ := ((h0_0.ul a13).at_ e17).cells
   obtain ⟨v22, v24, rfl, r23, r25⟩ := Commit.split r21
   refine Lw.r rfl (R.lda c20 rfl rfl) (Lw.t rfl (T.alloc 3 (cs := [.slice none 0 0, vS ([] : Str), .slice none 0 0]) rfl) ?_)
   rintro _ _ ⟨g26, W26, rfl, rfl, l26, b26⟩
   have a27 := l26.o
   refine Lw.g (vI y9) rfl (Lw.u (T.sta (vs := [v22, vS u16.Who, v24]) b26 rfl rfl (oc_cons r23.oc (oc_cons rfl (oc_cons r25.oc oc_nil))) rfl rfl) ?_)
   rintro _ _ ⟨W29, rfl, l29, b29⟩
   have a30 := l29.s rfl
   refine Lw.nil (Cw.seq ?_)
   obtain ⟨K34, hK34, hm⟩ := jn_e hm
   refine Cw.join 19 51 [51] (fun l w => ∃ (y32 : Bool) (W33 : CW), W33.w = w ∧ Le [] W29 W33 ∧ l = [vB y32] ∧ K34 y32 = some r) ?_ ?_
   ·rintro _ _ σ ⟨y32, W33, rfl, l33, rfl, hm⟩
    rw [hK34] at hm
    have a35 := l33.o
    refine Cw.cond (b := y32) rfl (fun hc38 => ?_) (fun hc38 => ?_)
    ·replace hm := bt hm hc38
     refine Cw.seq (Cw.region (Lw.g (vB false) rfl (Lw.nil ?_)))
     cases hm
     exact Cw.ret (ret1 rfl (Res.mk (((a13.trans a27).trans a30).trans a35) rfl))
    ·replace hm := bf hm hc38
     refine Cw.skip (Cw.seq (Cw.region (Lw.fa rfl (Lw.r rfl (R.ld (v := v22) rfl rfl ((b29.up l33 rfl).cell rfl)) (Lw.ln u16.Parents (r23.ul ((a27.trans a30).trans a35)) rfl (Lw.m (vI 0) rfl (Lw.nil (Cw.block ?_))))))))
     obtain ⟨K44, hK44, hm⟩ := jn_e hm
     refine Cw.loop 55 64 [2, 6, 55] (fun m l w => ∃ (y40 : Bool) (y42 : Int) (j41 : Value) (W43 : CW), W43.w = w ∧ Le [] W33 W43 ∧ l = [vB y40, j41, vI y42] ∧ Vm.impl_RepoOk_l2 y9 u16 K44 m y40 y42 = some r) (((u16.Parents.length : Int) - 0).toNat + 1) ⟨y5, 0, j8, W33, rfl, Le.refl _ _, rfl, hm⟩ ?_
     rintro m45 _ _ σ ⟨y40, y42, j41, W43, rfl, l43, rfl, hm⟩
     obtain _ | m45 := m45
     ·cases hm
     unfold Vm.impl_RepoOk_l2 at hm
     have a46 := l43.o
     refine Cw.seq (Cw.region (Lw.lt rfl (Lw.nil (Cw.seq (Cw.cond (b := decide ((y42 : Int) < ((u16.Parents.length : Int) : Int))) rfl (fun hc49 => ?_) (fun hc49 => ?_))))))
     ·replace hm := bt hm hc49
      refine Cw.skip (Cw.seq (Cw.block (Cw.seq (Cw.region ?_))))
      obtain ⟨u50, e51, hm⟩ := ob hm
      have s52 := r23.ul (((a27.trans a30).trans a35).trans a46)
      refine Lw.r rfl (R.ix (α := Int) s52 e51 rfl rfl rfl) (Lw.r rfl (R.ld rfl rfl (s52.at_ e51).int) (Lw.g (vI u50) rfl (Lw.nil (Cw.seq (Cw.region (Lw.m (vI u50) rfl (Lw.m (vI y9) rfl (Lw.sub rfl ?_))))))))
      obtain ⟨z53, e54, hm⟩ := ob hm
      refine Lw.t rfl (T.call rfl (p83 (K := [0])   e54)) ?_
      rintro _ _ ⟨W55, rfl, l55, rfl⟩
      have a56 := ((((a13.trans a27).trans a30).trans a35).trans a46).n l55
      refine Lw.r rfl (R.not rfl) (Lw.nil (Cw.cond (b := (!z53)) rfl (fun hc59 => ?_) (fun hc59 => ?_)))
      ·replace hm := bt hm hc59
       refine Cw.seq (Cw.region (Lw.g (vB false) rfl (Lw.nil ?_)))
       cases hm
       exact Cw.ret (ret1 rfl (Res.mk a56 rfl))
      ·replace hm := bf hm hc59
       refine Cw.skip (Cw.region (Lw.add rfl (Lw.m (vI (w64 (y42 + 1))) rfl (Lw.nil (⟨?_, m45, Nat.lt_succ_self m45, ⟨y40, w64 (y42 + 1), vI u50, W55, rfl, (l43.trans l55), rfl, hm⟩⟩)))))
       iterate 11 (refine Agree.up rfl ?_)
       iterate 3 (refine Agree.up rfl ?_)
       exact Agree.base
     ·replace hm := bf hm hc49
      refine Cw.exit ?_
      rw [hK44] at hm
      refine Cw.region (Lw.add rfl (Lw.m (vI (w64 (y9 + 1))) rfl (Lw.nil (⟨?_, m12, Nat.lt_succ_self m12, ⟨y40, w64 (y9 + 1), vI y9, ptr (bx g26), j41, W43, rfl, (l10.trans ((l26.sub rfl).trans (l29.trans ((l33.sub rfl).trans (l43.sub rfl))))), rfl, hm⟩⟩))))
      iterate 3 (refine Agree.up rfl ?_)
      iterate 3 (refine Agree.up rfl ?_)
      refine Agree.ov0 rfl ?_
      iterate 4 (refine Agree.up rfl ?_)
      iterate 1 (refine Agree.up rfl ?_)
      refine Agree.ov0 rfl ?_
      iterate 6 (refine Agree.up rfl ?_)
      iterate 5 (refine Agree.up rfl ?_)
      exact Agree.base
   ·refine Cw.draw [] [(0, 0), (1, 1), (2, 0), (3, 0), (4, 0), (5, 0), (6, 1), (7, 0), (8, 0), (9, 0), (10, 0), (11, 1), (12, 0), (13, 1), (14, 0), (15, 1), (16, 0), (17, 1), (18, 0), (19, 0), (20, 0), (21, 0), (22, 0), (23, 1), (24, 2), (25, 0), (26, 0), (27, 0), (28, 0), (29, 1), (30, 2), (31, 0), (32, 0)] mixed (by kernel_rfl) fun W60 l60 => ?_
    have a61 := l60.o
    have b63 := b29.up l60 rfl
    have s64 := r23.ul ((a27.trans a30).trans a61)
    refine Mw.p rfl rfl (fun _ => R.fa rfl) (Mw.q rfl rfl (fun _ c => R.ld (v := v22) rfl rfl (b63.clc rfl rfl c)) (Mw.p rfl rfl (fun _ => lenR (xs := u16.Parents) s64 rfl) (Mw.p rfl rfl (fun _ => R.gt rfl rfl) (Mw.p rfl rfl (fun _ => R.mv (v := vB (decide ((2 : Int) < ((u16.Parents.length : Int) : Int)))) rfl) (bsplit (decide ((2 : Int) < ((u16.Parents.length : Int) : Int))) (fun hc65 => ?_) (fun hc65 => ?_))))))
    ·replace hm := bt hm hc65
     refine Mw.pass' hc65 rfl rfl rfl rfl rfl rfl (Mw.pass' hc65 rfl rfl rfl rfl rfl rfl (Mw.pass' hc65 rfl rfl rfl rfl rfl rfl (Mw.pass' hc65 rfl rfl rfl rfl rfl rfl (Mw.pass' hc65 rfl rfl rfl rfl rfl rfl (Mw.passU rfl rfl rfl rfl rfl (Mw.passU rfl rfl rfl rfl rfl (Mw.passU rfl rfl rfl rfl rfl (Mw.passU rfl rfl rfl rfl rfl (Mw.passU rfl rfl rfl rfl rfl (Mw.passU rfl rfl rfl rfl rfl (Mw.passU rfl rfl rfl rfl rfl (Mw.passU rfl rfl rfl rfl rfl (Mw.passU rfl rfl rfl rfl rfl (Mw.pass' hc65 rfl rfl rfl rfl rfl rfl (Mw.p rfl rfl (fun _ => R.pk hc65 rfl (v := vB true) rfl) (Mw.p rfl rfl (fun _ => R.mv (v := vB true) rfl) (Mw.pass' rfl rfl rfl rfl rfl rfl rfl (Mw.pass' rfl rfl rfl rfl rfl rfl rfl (Mw.pass' rfl rfl rfl rfl rfl rfl rfl (Mw.pass' rfl rfl rfl rfl rfl rfl rfl (Mw.p rfl rfl (fun _ => R.pk rfl rfl (v := vB true) rfl) (Mw.p rfl rfl (fun _ => R.mv (v := vB true) rfl) (Mw.pass' rfl rfl rfl rfl rfl rfl rfl (Mw.pass' rfl rfl rfl rfl rfl rfl rfl (Mw.pass' rfl rfl rfl rfl rfl rfl rfl (Mw.pass' rfl rfl rfl rfl rfl rfl rfl (Mw.p rfl rfl (fun _ => R.pk rfl rfl (v := vB true) rfl) (Mw.nil (⟨?_, ⟨true, W60, rfl, l60, rfl, hm⟩⟩)))))))))))))))))))))))))))))
     iterate 33 (refine Agree.up rfl ?_)
     exact Agree.refl _
    ·replace hm := bf hm hc65
     refine Mw.gp hc65 rfl rfl rfl rfl rfl (fun _ => R.fa rfl) (Mw.gq hc65 rfl rfl rfl rfl rfl (fun _ c => R.ld (v := v22) rfl rfl (b63.clc rfl rfl c)) (Mw.gp hc65 rfl rfl rfl rfl rfl (fun _ => lenR (xs := u16.Parents) s64 rfl) (Mw.gp hc65 rfl rfl rfl rfl rfl (fun _ => R.eq rfl rfl) (Mw.gp hc65 rfl rfl rfl rfl rfl (fun _ => R.mv (v := vB (((u16.Parents.length : Int) : Int) == (2 : Int))) rfl) (bsplit (((u16.Parents.length : Int) : Int) == (2 : Int)) (fun hc66 => ?_) (fun hc66 => ?_))))))
     ·replace hm := bt hm hc66
      refine Mw.gp hc66 rfl rfl rfl rfl rfl (fun _ => R.fa rfl) (Mw.gq hc66 rfl rfl rfl rfl rfl (fun _ c => R.ld (v := v22) rfl rfl (b63.clc rfl rfl c)) ?_)
      obtain ⟨u67, e68, hm⟩ := ob hm
      refine Mw.gp hc66 rfl rfl rfl rfl rfl (fun _ => R.ix (α := Int) s64 e68 rfl rfl rfl) (Mw.gq hc66 rfl rfl rfl rfl rfl (fun _ c => R.ld rfl rfl (cl_cell (s64.at_ e68).1 rfl (s64.at_ e68).int c)) (Mw.gp hc66 rfl rfl rfl rfl rfl (fun _ => R.fa rfl) (Mw.gq hc66 rfl rfl rfl rfl rfl (fun _ c => R.ld (v := v22) rfl rfl (b63.clc rfl rfl c)) ?_)))
      obtain ⟨u69, e70, hm⟩ := ob hm
      refine Mw.gp hc66 rfl rfl rfl rfl rfl (fun _ => R.ix (α := Int) s64 e70 rfl rfl rfl) (Mw.gq hc66 rfl rfl rfl rfl rfl (fun _ c => R.ld rfl rfl (cl_cell (s64.at_ e70).1 rfl (s64.at_ e70).int c)) (Mw.gp hc66 rfl rfl rfl rfl rfl (fun _ => R.eq rfl rfl) (Mw.gp hc65 rfl rfl rfl rfl rfl (fun _ => R.pk hc66 rfl (v := vB ((u67 : Int) == (u69 : Int))) rfl) (Mw.p rfl rfl (fun _ => R.pk hc65 rfl (v := vB ((u67 : Int) == (u69 : Int))) rfl) (Mw.p rfl rfl (fun _ => R.mv (v := vB ((u67 : Int) == (u69 : Int))) rfl) (bsplit ((u67 : Int) == (u69 : Int)) (fun hc71 => ?_) (fun hc71 => ?_)))))))
      ·replace hm := bt hm hc71
       refine Mw.pass' hc71 rfl rfl rfl rfl rfl rfl (Mw.pass' hc71 rfl rfl rfl rfl rfl rfl (Mw.pass' hc71 rfl rfl rfl rfl rfl rfl (Mw.pass' hc71 rfl rfl rfl rfl rfl rfl (Mw.p rfl rfl (fun _ => R.pk hc71 rfl (v := vB true) rfl) (Mw.p rfl rfl (fun _ => R.mv (v := vB true) rfl) (Mw.pass' rfl rfl rfl rfl rfl rfl rfl (Mw.pass' rfl rfl rfl rfl rfl rfl rfl (Mw.pass' rfl rfl rfl rfl rfl rfl rfl (Mw.pass' rfl rfl rfl rfl rfl rfl rfl (Mw.p rfl rfl (fun _ => R.pk rfl rfl (v := vB true) rfl) (Mw.nil (⟨?_, ⟨true, W60, rfl, l60, rfl, hm⟩⟩))))))))))))
       iterate 33 (refine Agree.up rfl ?_)
       exact Agree.refl _
      ·replace hm := bf hm hc71
       refine Mw.gp hc71 rfl rfl rfl rfl rfl (fun _ => R.fa rfl) (Mw.gq hc71 rfl rfl rfl rfl rfl (fun _ c => R.ld (v := vS u16.Who) rfl rfl (b63.clc rfl rfl c)) ?_)
       obtain ⟨z72, e73, hm⟩ := ob hm
       refine Mw.gt hc71 rfl rfl rfl rfl rfl (T.call rfl (p81 (K := [0])   e73)) ?_
       rintro _ _ ⟨W74, rfl, l74, rfl⟩
       have a75 := l74.o
       refine ⟨⟨_, rfl, (l74.sub (M := []) rfl)⟩, ?_⟩
       refine Mw.gp hc71 rfl rfl rfl rfl rfl (fun _ => R.not rfl) (Mw.p rfl rfl (fun _ => R.pk hc71 rfl (v := vB (!z72)) rfl) (Mw.p rfl rfl (fun _ => R.mv (v := vB (!z72)) rfl) (bsplit (!z72) (fun hc78 => ?_) (fun hc78 => ?_))))
       ·replace hm := bt hm hc78
        refine Mw.pass' hc78 rfl rfl rfl rfl rfl rfl (Mw.pass' hc78 rfl rfl rfl rfl rfl rfl (Mw.pass' hc78 rfl rfl rfl rfl rfl rfl (Mw.pass' hc78 rfl rfl rfl rfl rfl rfl (Mw.p rfl rfl (fun _ => R.pk hc78 rfl (v := vB true) rfl) (Mw.nil (⟨?_, ⟨true, W74, rfl, (l60.trans l74), rfl, hm⟩⟩))))))
        iterate 33 (refine Agree.up rfl ?_)
        exact Agree.refl _
       ·replace hm := bf hm hc78
        refine Mw.gp hc78 rfl rfl rfl rfl rfl (fun _ => R.fa rfl) (Mw.gq hc78 rfl rfl rfl rfl rfl (fun _ c => R.ld (v := v24) rfl rfl (b63.clc rfl rfl c)) ?_)
        obtain ⟨z81, e82, hm⟩ := ob hm
        refine Mw.gt hc78 rfl rfl rfl rfl rfl (T.call rfl (p82 (K := [0])  (r25.ul (((a27.trans a30).trans a61).trans a75)) (h99.ul ((((a13.trans a27).trans a30).trans a61).trans a75)) e82)) ?_
        rintro _ _ ⟨W83, rfl, l83, rfl⟩
        refine ⟨⟨_, rfl, ((l74.sub (M := []) rfl).trans (l83.sub (M := []) rfl))⟩, ?_⟩
        refine Mw.gp hc78 rfl rfl rfl rfl rfl (fun _ => R.not rfl) (Mw.p rfl rfl (fun _ => R.pk hc78 rfl (v := vB (!z81)) rfl) (Mw.nil (⟨?_, ⟨(!z81), W83, rfl, (l60.trans (l74.trans l83)), rfl, hm⟩⟩)))
        iterate 33 (refine Agree.up rfl ?_)
        exact Agree.refl _
     ·replace hm := bf hm hc66
      refine Mw.pass' hc66 rfl rfl rfl rfl rfl rfl (Mw.pass' hc66 rfl rfl rfl rfl rfl rfl (Mw.pass' hc66 rfl rfl rfl rfl rfl rfl (Mw.pass' hc66 rfl rfl rfl rfl rfl rfl (Mw.pass' hc66 rfl rfl rfl rfl rfl rfl (Mw.pass' hc66 rfl rfl rfl rfl rfl rfl (Mw.pass' hc66 rfl rfl rfl rfl rfl rfl (Mw.pass' hc66 rfl rfl rfl rfl rfl rfl (Mw.pass' hc66 rfl rfl rfl rfl rfl rfl (Mw.gp hc65 rfl rfl rfl rfl rfl (fun _ => R.pk hc66 rfl (v := vB false) rfl) (Mw.p rfl rfl (fun _ => R.pk hc65 rfl (v := vB false) rfl) (Mw.p rfl rfl (fun _ => R.mv (v := vB false) rfl) (Mw.gp rfl rfl rfl rfl rfl rfl (fun _ => R.fa rfl) (Mw.gq rfl rfl rfl rfl rfl rfl (fun _ c => R.ld (v := vS u16.Who) rfl rfl (b63.clc rfl rfl c)) ?_)))))))))))))
      obtain ⟨z87, e88, hm⟩ := ob hm
      refine Mw.gt rfl rfl rfl rfl rfl rfl (T.call rfl (p81 (K := [0])   e88)) ?_
      rintro _ _ ⟨W89, rfl, l89, rfl⟩
      have a90 := l89.o
      refine ⟨⟨_, rfl, (l89.sub (M := []) rfl)⟩, ?_⟩
      refine Mw.gp rfl rfl rfl rfl rfl rfl (fun _ => R.not rfl) (Mw.p rfl rfl (fun _ => R.pk rfl rfl (v := vB (!z87)) rfl) (Mw.p rfl rfl (fun _ => R.mv (v := vB (!z87)) rfl) (bsplit (!z87) (fun hc93 => ?_) (fun hc93 => ?_))))
      ·replace hm := bt hm hc93
       refine Mw.pass' hc93 rfl rfl rfl rfl rfl rfl (Mw.pass' hc93 rfl rfl rfl rfl rfl rfl (Mw.pass' hc93 rfl rfl rfl rfl rfl rfl (Mw.pass' hc93 rfl rfl rfl rfl rfl rfl (Mw.p rfl rfl (fun _ => R.pk hc93 rfl (v := vB true) rfl) (Mw.nil (⟨?_, ⟨true, W89, rfl, (l60.trans l89), rfl, hm⟩⟩))))))
       iterate 33 (refine Agree.up rfl ?_)
       exact Agree.refl _
      ·replace hm := bf hm hc93
       refine Mw.gp hc93 rfl rfl rfl rfl rfl (fun _ => R.fa rfl) (Mw.gq hc93 rfl rfl rfl rfl rfl (fun _ c => R.ld (v := v24) rfl rfl (b63.clc rfl rfl c)) ?_)
       obtain ⟨z96, e97, hm⟩ := ob hm
       refine Mw.gt hc93 rfl rfl rfl rfl rfl (T.call rfl (p82 (K := [0])  (r25.ul (((a27.trans a30).trans a61).trans a90)) (h99.ul ((((a13.trans a27).trans a30).trans a61).trans a90)) e97)) ?_
       rintro _ _ ⟨W98, rfl, l98, rfl⟩
       refine ⟨⟨_, rfl, ((l89.sub (M := []) rfl).trans (l98.sub (M := []) rfl))⟩, ?_⟩
       refine Mw.gp hc93 rfl rfl rfl rfl rfl (fun _ => R.not rfl) (Mw.p rfl rfl (fun _ => R.pk hc93 rfl (v := vB (!z96)) rfl) (Mw.nil (⟨?_, ⟨(!z96), W98, rfl, (l60.trans (l89.trans l98)), rfl, hm⟩⟩)))
       iterate 33 (refine Agree.up rfl ?_)
       exact Agree.refl _
  ·replace hm := bf hm hc15
   refine Cw.exit ?_
   rw [hK11] at hm
   refine Cw.seq (Cw.region (Lw.r rfl (R.lda (cs := [v0_0_, v0_1_]) (b1.up l10 rfl).cells rfl rfl) (Lw.fa rfl (Lw.r rfl (R.ld (v := v0_1_) rfl rfl ((b1.up l10 rfl).cell rfl)) ?_))))
   obtain ⟨z104, e105, hm⟩ := ob hm
   refine Lw.t rfl (T.call rfl (p84 (K := [0])  (Repo.rd (K := [0]) x0.Commits x0.Heads (h0_0.ul a13) (h0_1.ul a13)) (h0_1.ul a13) e105)) ?_
   rintro _ _ ⟨W106, rfl, l106, rfl⟩
   have a107 := a13.n l106
   refine Lw.g (vB z104) rfl (Lw.nil ?_)
   cases hm
   exact Cw.ret (ret1 rfl (Res.mk a107 rfl))

theorem p33 {W : CW} {K : List Nat} {x0 : Vm.Repo} {v0_0_ : Value} {v0_1_ : Value} {r : Bool} (h0 : Rd W K [v0_0_, v0_1_] x0) (h99 : Gl 2 W K) (hm : Vm.impl_RepoOk x0 = some r) : CallR Tryd.prog 33 [.agg [v0_0_, v0_1_].toArray].toArray W.w (Res W [] fun W' v => v = vB r) :=
 (c33 (V := W.view K []) (h0.view _) (h99.view _) hm).ad (fk 0) fun _ _ e => e

theorem c67 {V : CW} {x0 : Vm.Repo} {v0_0_ : Value} {v0_1_ : Value} {x1 : Str} {r : Int} (h0 : Rd V [0] [v0_0_, v0_1_] x0) (hm : Vm.impl_Repo_at x0 x1 = some r) : CallR Tryd.prog 67 [.agg [v0_0_, v0_1_].toArray, vS x1].toArray V.w (Res V LL fun Wf v => v = vI r) := by
 unfold Vm.impl_Repo_at at hm
 obtain ⟨w0_0, w0_1, he0, h0_0, h0_1⟩ := Repo.split h0
 simp only [List.cons.injEq, and_true, true_and] at he0
 obtain ⟨rfl, rfl⟩ := he0
 obtain ⟨W0, hW0⟩ : ∃ W, W = V := ⟨V, rfl⟩
 subst hW0
 refine CallR.of Tryd.func67 rfl rfl rfl rfl (Cw.seq (Cw.region (Lw.t rfl (T.box 2 (v := .agg [v0_0_, v0_1_].toArray) (cs := [v0_0_, v0_1_]) rfl rfl) ?_)))
 rintro _ _ ⟨g1, W1, rfl, rfl, l1, b1⟩
 have a2 := l1.o
 refine Lw.g (vI 0) rfl (Lw.nil (Cw.seq (Cw.seq (Cw.region (Lw.fa rfl (Lw.r rfl (R.ld (v := v0_1_) rfl rfl (b1.cell rfl)) (Lw.ln x0.Heads (h0_1.ul a2) rfl (Lw.m (vI 0) rfl (Lw.nil (Cw.block ?_))))))))))
 obtain ⟨K8, hK8, hm⟩ := jn_e hm
 refine Cw.loop 10 20 [4, 6, 10] (fun m l w => ∃ (y4 : Int) (y6 : Int) (j5 : Value) (W7 : CW), W7.w = w ∧ Le [3] W1 W7 ∧ l = [vI y4, j5, vI y6] ∧ Vm.impl_Repo_at_l1 x0 x1 K8 m y4 y6 = some r) (((x0.Heads.length : Int) - 0).toNat + 1) ⟨0, 0, undef, W1, rfl, Le.refl _ _, rfl, hm⟩ ?_
 rintro m9 _ _ σ ⟨y4, y6, j5, W7, rfl, l7, rfl, hm⟩
 obtain _ | m9 := m9
 ·cases hm
 unfold Vm.impl_Repo_at_l1 at hm
 have a10 := a2.t l7 rfl
 refine Cw.seq (Cw.region (Lw.lt rfl (Lw.nil (Cw.seq (Cw.cond (b := decide ((y6 : Int) < ((x0.Heads.length : Int) : Int))) rfl (fun hc12 => ?_) (fun hc12 => ?_))))))
 ·replace hm := bt hm hc12
  refine Cw.skip (Cw.seq (Cw.block (Cw.seq (Cw.region ?_))))
  obtain ⟨u13, e14, hm⟩ := ob hm
  refine Lw.r rfl (R.ix (α := Head) (h0_1.ul a10) e14 rfl rfl rfl) ?_
  obtain ⟨x16, c17, _, r18⟩ := ((h0_1.ul a10).at_ e14).cells
  obtain rfl := Head.split r18
  refine Lw.r rfl (R.lda c17 rfl rfl) (Lw.t rfl (T.alloc 3 (cs := [vS ([] : Str), vI 0]) rfl) ?_)
  rintro _ _ ⟨g19, W19, rfl, rfl, l19, b19⟩
  have a20 := a10.n l19
  refine Lw.u (T.sta (vs := [vS u13.Name, vI u13.At]) b19 rfl rfl (oc_cons rfl (oc_cons rfl oc_nil)) rfl rfl) ?_
  rintro _ _ ⟨W22, rfl, l22, b22⟩
  have a23 := a20.t l22 rfl
  refine Lw.nil (Cw.seq (Cw.region (Lw.fa rfl (Lw.r rfl (R.ld (v := vS u13.Name) rfl rfl (b22.cell rfl)) (Lw.m (vS x1) rfl (Lw.seq rfl (Lw.nil (Cw.cond (b := (u13.Name == x1)) rfl (fun hc25 => ?_) (fun hc25 => ?_)))))))))
  ·replace hm := bt hm hc25
   refine Cw.seq (Cw.region (Lw.fa rfl (Lw.r rfl (R.ld (v := vI u13.At) rfl rfl (b22.cell rfl)) (Lw.g (vI u13.At) rfl (Lw.nil ?_)))))
   cases hm
   exact Cw.ret (ret1 rfl (Res.mk a23 rfl))
  ·replace hm := bf hm hc25
   refine Cw.skip (Cw.region (Lw.add rfl (Lw.m (vI (w64 (y6 + 1))) rfl (Lw.nil (⟨?_, m9, Nat.lt_succ_self m9, ⟨y4, w64 (y6 + 1), ptr (bx g19), W22, rfl, (l7.trans ((l19.sub rfl).trans l22)), rfl, hm⟩⟩)))))
   iterate 10 (refine Agree.up rfl ?_)
   iterate 3 (refine Agree.up rfl ?_)
   exact Agree.base
 ·replace hm := bf hm hc12
  refine Cw.exit ?_
  rw [hK8] at hm
  refine Cw.seq (Cw.region (Lw.g (vI (-1)) rfl (Lw.nil ?_)))
  cases hm
  exact Cw.ret (ret1 rfl (Res.mk a10 rfl))

theorem p67 {W : CW} {K : List Nat} {x0 : Vm.Repo} {v0_0_ : Value} {v0_1_ : Value} {x1 : Str} {r : Int} (h0 : Rd W K [v0_0_, v0_1_] x0) (hm : Vm.impl_Repo_at x0 x1 = some r) : CallR Tryd.prog 67 [.agg [v0_0_, v0_1_].toArray, vS x1].toArray W.w (Res W [] fun W' v => v = vI r) :=
 (c67 (V := W.view K []) (h0.view _) hm).ad (fk 0) fun _ _ e => e

theorem c31 {V : CW} {x0 : Vm.Repo} {v0_0_ : Value} {v0_1_ : Value} {x1 : Str} {r : Int} (h0 : Rd V [0] [v0_0_, v0_1_] x0) (h99 : Gl 2 V [0]) (hm : Vm.impl_RepoAt x0 x1 = some r) : CallR Tryd.prog 31 [.agg [v0_0_, v0_1_].toArray, vS x1].toArray V.w (Res V LL fun Wf v => v = vI r) := by
 unfold Vm.impl_RepoAt at hm
 obtain ⟨w0_0, w0_1, he0, h0_0, h0_1⟩ := Repo.split h0
 simp only [List.cons.injEq, and_true, true_and] at he0
 obtain ⟨rfl, rfl⟩ := he0
 obtain ⟨W0, hW0⟩ : ∃ W, W = V := ⟨V, rfl⟩
 subst hW0
 refine CallR.of Tryd.func31 rfl rfl rfl rfl (Cw.seq (Cw.region (Lw.t rfl (T.box 2 (v := .agg [v0_0_, v0_1_].toArray) (cs := [v0_0_, v0_1_]) rfl rfl) ?_)))
 rintro _ _ ⟨g1, W1, rfl, rfl, l1, b1⟩
 have a2 := l1.o
 refine Lw.g (vI 0) rfl (Lw.nil (Cw.seq (Cw.seq (Cw.region (Lw.r rfl (R.lda (cs := [v0_0_, v0_1_]) b1.cells rfl rfl) ?_)))))
 obtain ⟨z6, e7, hm⟩ := ob hm
 refine Lw.t rfl (T.call rfl (p33 (K := [0])  (Repo.rd (K := [0]) x0.Commits x0.Heads (h0_0.ul a2) (h0_1.ul a2)) (h99.ul a2) e7)) ?_
 rintro _ _ ⟨W8, rfl, l8, rfl⟩
 have a9 := a2.n l8
 refine Lw.r rfl (R.not rfl) (Lw.nil (Cw.cond (b := (!z6)) rfl (fun hc11 => ?_) (fun hc11 => ?_)))
 ·replace hm := bt hm hc11
  refine Cw.seq (Cw.region (Lw.g (vI (-1)) rfl (Lw.nil ?_)))
  cases hm
  exact Cw.ret (ret1 rfl (Res.mk a9 rfl))
 ·replace hm := bf hm hc11
  refine Cw.skip (Cw.seq (Cw.region (Lw.r rfl (R.lda (cs := [v0_0_, v0_1_]) (b1.up l8 rfl).cells rfl rfl) (Lw.m (vS x1) rfl ?_))))
  obtain ⟨z14, e15, hm⟩ := ob hm
  refine Lw.t rfl (T.call rfl (p67 (K := [0])  (Repo.rd (K := [0]) x0.Commits x0.Heads (h0_0.ul a9) (h0_1.ul a9)) e15)) ?_
  rintro _ _ ⟨W16, rfl, l16, rfl⟩
  have a17 := a9.n l16
  refine Lw.g (vI z14) rfl (Lw.nil ?_)
  cases hm
  exact Cw.ret (ret1 rfl (Res.mk a17 rfl))

theorem p31 {W : CW} {K : List Nat} {x0 : Vm.Repo} {v0_0_ : Value} {v0_1_ : Value} {x1 : Str} {r : Int} (h0 : Rd W K [v0_0_, v0_1_] x0) (h99 : Gl 2 W K) (hm : Vm.impl_RepoAt x0 x1 = some r) : CallR Tryd.prog 31 [.agg [v0_0_, v0_1_].toArray, vS x1].toArray W.w (Res W [] fun W' v => v = vI r) :=
 (c31 (V := W.view K []) (h0.view _) (h99.view _) hm).ad (fk 0) fun _ _ e => e

theorem c32 {V : CW} {x0 : Vm.Repo} {v0_0_ : Value} {v0_1_ : Value} {x1 : Str} {r : Int} (h0 : Rd V [0] [v0_0_, v0_1_] x0) (hm : Vm.spec_RepoAt x0 x1 = some r) : CallR Tryd.prog 32 [.agg [v0_0_, v0_1_].toArray, vS x1].toArray V.w (Res V LL fun Wf v => v = vI r) := by
 unfold Vm.spec_RepoAt at hm
 obtain ⟨w0_0, w0_1, he0, h0_0, h0_1⟩ := Repo.split h0
 simp only [List.cons.injEq, and_true, true_and] at he0
 obtain ⟨rfl, rfl⟩ := he0
 obtain ⟨W0, hW0⟩ : ∃ W, W = V := ⟨V, rfl⟩
 subst hW0
 refine CallR.of Tryd.func32 rfl rfl rfl rfl (Cw.seq (Cw.region (Lw.t rfl (T.box 2 (v := .agg [v0_0_, v0_1_].toArray) (cs := [v0_0_, v0_1_]) rfl rfl) ?_)))
 rintro _ _ ⟨g1, W1, rfl, rfl, l1, b1⟩
 have a2 := l1.o
 refine Lw.g (vI 0) rfl (Lw.nil (Cw.seq (Cw.seq (Cw.region (Lw.r rfl (R.lda (cs := [v0_0_, v0_1_]) b1.cells rfl rfl) ?_)))))
 obtain ⟨z5, e6, hm⟩ := ob hm
 refine Lw.t rfl (T.call rfl (p55 (K := [0])  (Repo.rd (K := [0]) x0.Commits x0.Heads (h0_0.ul a2) (h0_1.ul a2)) e6)) ?_
 rintro _ _ ⟨W7, rfl, l7, rfl⟩
 have a8 := a2.n l7
 refine Lw.r rfl (R.not rfl) (Lw.nil (Cw.cond (b := (!z5)) rfl (fun hc10 => ?_) (fun hc10 => ?_)))
 ·replace hm := bt hm hc10
  refine Cw.seq (Cw.region (Lw.g (vI (-1)) rfl (Lw.nil ?_)))
  cases hm
  exact Cw.ret (ret1 rfl (Res.mk a8 rfl))
 ·replace hm := bf hm hc10
  refine Cw.skip (Cw.seq (Cw.region (Lw.r rfl (R.lda (cs := [v0_0_, v0_1_]) (b1.up l7 rfl).cells rfl rfl) (Lw.m (vS x1) rfl ?_))))
  obtain ⟨z13, e14, hm⟩ := ob hm
  refine Lw.t rfl (T.call rfl (p66 (K := [0])  (Repo.rd (K := [0]) x0.Commits x0.Heads (h0_0.ul a8) (h0_1.ul a8)) e14)) ?_
  rintro _ _ ⟨W15, rfl, l15, rfl⟩
  have a16 := a8.n l15
  refine Lw.g (vI z13) rfl (Lw.nil ?_)
  cases hm
  exact Cw.ret (ret1 rfl (Res.mk a16 rfl))

theorem p32 {W : CW} {K : List Nat} {x0 : Vm.Repo} {v0_0_ : Value} {v0_1_ : Value} {x1 : Str} {r : Int} (h0 : Rd W K [v0_0_, v0_1_] x0) (hm : Vm.spec_RepoAt x0 x1 = some r) : CallR Tryd.prog 32 [.agg [v0_0_, v0_1_].toArray, vS x1].toArray W.w (Res W [] fun W' v => v = vI r) :=
 (c32 (V := W.view K []) (h0.view _) hm).ad (fk 0) fun _ _ e => e

theorem c7 {V : CW} {x0 : List Byte} {v0_ : Value} {r : Bool} (h0 : Rd V [0] [v0_] x0) (h99 : Gl 2 V [0]) (hm : Vm.laws_FnRepoAt x0 = some r) : CallR Tryd.prog 7 [v0_].toArray V.w (Res V LL fun Wf v => v = vB r) := by
 unfold Vm.laws_FnRepoAt at hm
 obtain ⟨W0, hW0⟩ : ∃ W, W = V := ⟨V, rfl⟩
 subst hW0
 refine CallR.of Tryd.func7 rfl rfl rfl rfl (Cw.seq (Cw.region (Lw.g (vB false) rfl (Lw.nil (Cw.seq (Cw.seq (Cw.region (Lw.m v0_ rfl (Lw.ln x0 h0 rfl (Lw.gt rfl (Lw.nil (Cw.cond (b := decide ((1048576 : Int) < ((x0.length : Int) : Int))) rfl (fun hc1 => ?_) (fun hc1 => ?_)))))))))))))
 ·replace hm := bt hm hc1
  refine Cw.seq (Cw.region (Lw.g (vB true) rfl (Lw.nil ?_)))
  cases hm
  exact Cw.ret (ret1 rfl (Res.mk (Le.refl _ _) rfl))
 ·replace hm := bf hm hc1
  refine Cw.skip (Cw.seq (Cw.region (Lw.m v0_ rfl ?_)))
  obtain ⟨z2, e3, hm⟩ := ob hm
  refine Lw.t rfl (T.call rfl (p30 (K := [0]) (k0 := 2) (k1 := 3) h0 e3)) ?_
  rintro _ _ ⟨W4, rfl, l4, ⟨v0_0_4, v0_1_4, rfl, f4_0, f4_1⟩⟩
  have a5 := l4.o
  refine Lw.m (.tuple [.agg [v0_0_4, v0_1_4].toArray, vS z2.2].toArray) rfl (Lw.r rfl (R.ext (vs := [.agg [v0_0_4, v0_1_4].toArray, vS z2.2]) (v := .agg [v0_0_4, v0_1_4].toArray) rfl rfl) (Lw.r rfl (R.ext (vs := [.agg [v0_0_4, v0_1_4].toArray, vS z2.2]) (v := vS z2.2) rfl rfl) (Lw.t rfl (T.alloc 4 (cs := [.slice none 0 0, .slice none 0 0]) rfl) ?_)))
  rintro _ _ ⟨g6, W6, rfl, rfl, l6, b6⟩
  have a7 := a5.n l6
  refine Lw.u (T.sta (vs := [v0_0_4, v0_1_4]) b6 rfl rfl (oc_cons (f4_0.up l6 rfl).oc (oc_cons (f4_1.up l6 rfl).oc oc_nil)) rfl rfl) ?_
  rintro _ _ ⟨W10, rfl, l10, b10⟩
  have a11 := a7.t l10 rfl
  have o12 := (f4_0.up l6 rfl).up l10 rfl
  have o13 := (f4_1.up l6 rfl).up l10 rfl
  refine Lw.g (vS z2.2) rfl (Lw.nil (Cw.seq (Cw.region (Lw.r rfl (R.lda (cs := [v0_0_4, v0_1_4]) b10.cells rfl rfl) (Lw.m (vS z2.2) rfl ?_)))))
  obtain ⟨z15, e16, hm⟩ := ob hm
  refine Lw.t rfl (T.call rfl (p31 (K := [0, 2, 3])  (x0 := (Vm.Repo.mk z2.1.Commits z2.1.Heads)) ((Repo.rd (K := [2, 3]) z2.1.Commits z2.1.Heads (o12.rd.sub (M := [2, 3]) rfl) (o13.rd.sub (M := [2, 3]) rfl)).sub (M := [0, 2, 3]) rfl) ((h99.ul a11).sub (M := [0, 2, 3]) rfl) e16)) ?_
  rintro _ _ ⟨W17, rfl, l17, rfl⟩
  have a18 := a11.n l17
  have o19 := o12.up l17 rfl
  have o20 := o13.up l17 rfl
  have b21 := b10.up l17 rfl
  refine Lw.g (vI z15) rfl (Lw.nil (Cw.seq ?_))
  obtain ⟨K24, hK24, hm⟩ := jn_e hm
  refine Cw.join 18 27 [27] (fun l w => ∃ (y22 : Bool) (W23 : CW), W23.w = w ∧ Le [] W17 W23 ∧ l = [vB y22] ∧ K24 y22 = some r) ?_ ?_
  ·rintro _ _ σ ⟨y22, W23, rfl, l23, rfl, hm⟩
   rw [hK24] at hm
   have a25 := a18.n l23
   refine Cw.cond (b := y22) rfl (fun hc29 => ?_) (fun hc29 => ?_)
   ·replace hm := bt hm hc29
    refine Cw.seq (Cw.region (Lw.m (vI z15) rfl (Lw.r rfl (R.lda (cs := [v0_0_4, v0_1_4]) (b21.up l23 rfl).cells rfl rfl) (Lw.m (vS z2.2) rfl ?_))))
    obtain ⟨z30, e31, hm⟩ := ob hm
    refine Lw.t rfl (T.call rfl (p32 (K := [2, 3])  (x0 := (Vm.Repo.mk z2.1.Commits z2.1.Heads)) (Repo.rd (K := [2, 3]) z2.1.Commits z2.1.Heads ((o19.up l23 rfl).rd.sub (M := [2, 3]) rfl) ((o20.up l23 rfl).rd.sub (M := [2, 3]) rfl)) e31)) ?_
    rintro _ _ ⟨W32, rfl, l32, rfl⟩
    have a33 := a25.n l32
    refine Lw.eq rfl (Lw.g (vB ((z15 : Int) == (z30 : Int))) rfl (Lw.nil ?_))
    cases hm
    exact Cw.ret (ret1 rfl (Res.mk a33 rfl))
   ·replace hm := bf hm hc29
    refine Cw.skip (Cw.seq (Cw.seq (Cw.region (Lw.g (vI 0) rfl (Lw.nil (Cw.block ?_))))))
    obtain ⟨K40, hK40, hm⟩ := jn_e hm
    refine Cw.loop 33 62 [2, 6] (fun m l w => ∃ (y37 : Bool) (y38 : Int) (W39 : CW), W39.w = w ∧ Le [] W23 W39 ∧ l = [vB y37, vI y38] ∧ Vm.laws_FnRepoAt_l1 z2 z15 K40 m y37 y38 = some r) (((z2.1.Heads.length : Int) - 0).toNat + 1) ⟨false, 0, W23, rfl, Le.refl _ _, rfl, hm⟩ ?_
    rintro m41 _ _ σ ⟨y37, y38, W39, rfl, l39, rfl, hm⟩
    obtain _ | m41 := m41
    ·cases hm
    unfold Vm.laws_FnRepoAt_l1 at hm
    have a42 := a25.n l39
    have o44 := (o20.up l23 rfl).up l39 rfl
    have b45 := (b21.up l23 rfl).up l39 rfl
    refine Cw.seq (Cw.seq (Cw.region (Lw.m (vI y38) rfl (Lw.fa rfl (Lw.r rfl (R.ld (v := v0_1_4) rfl rfl (b45.cell rfl)) (Lw.ln z2.1.Heads o44.rd rfl (Lw.lt rfl (Lw.nil (Cw.cond (b := decide ((y38 : Int) < ((z2.1.Heads.length : Int) : Int))) rfl (fun hc46 => ?_) (fun hc46 => ?_))))))))))
    ·replace hm := bt hm hc46
     refine Cw.skip (Cw.seq (Cw.block (Cw.seq (Cw.region (Lw.fa rfl (Lw.r rfl (R.ld (v := v0_1_4) rfl rfl (b45.cell rfl)) (Lw.m (vI y38) rfl ?_)))))))
     obtain ⟨u47, e48, hm⟩ := ob hm
     refine Lw.r rfl (R.ix (α := Head) o44.rd e48 rfl rfl rfl) (Lw.fa rfl (Lw.r rfl (R.ld rfl rfl (Head.at0 (o44.rd.at_ e48)).str) (Lw.m (vS z2.2) rfl (Lw.seq rfl (Lw.nil (Cw.cond (b := (u47.Name == z2.2)) rfl (fun hc49 => ?_) (fun hc49 => ?_)))))))
     ·replace hm := bt hm hc49
      obtain ⟨K52, hK52, hm⟩ := jn_e hm
      refine Cw.join 48 62 [2] (fun l w => ∃ (y50 : Bool) (W51 : CW), W51.w = w ∧ Le [] W39 W51 ∧ l = [vB y50] ∧ K52 y50 = some r) ?_ ?_
      ·rintro _ _ σ ⟨y50, W51, rfl, l51, rfl, hm⟩
       rw [hK52] at hm
       have a53 := a42.n l51
       cases hm
       exact Cw.ret (ret1 rfl (Res.mk a53 rfl))
      ·refine Cw.region (Lw.m (vI z15) rfl (Lw.fa rfl (Lw.r rfl (R.ld (v := v0_1_4) rfl rfl (b45.cell rfl)) (Lw.m (vI y38) rfl ?_))))
       obtain ⟨u57, e58, hm⟩ := ob hm
       refine Lw.r rfl (R.ix (α := Head) o44.rd e58 rfl rfl rfl) (Lw.fa rfl (Lw.r rfl (R.ld rfl rfl (Head.at1 (o44.rd.at_ e58)).int) (Lw.eq rfl (Lw.m (vB ((z15 : Int) == (u57.At : Int))) rfl (bsplit ((z15 : Int) == (u57.At : Int)) (fun hc59 => ?_) (fun hc59 => ?_))))))
       ·replace hm := bt hm hc59
        refine Lw.want' hc59 rfl rfl rfl rfl (Lw.m (vI z15) rfl (Lw.want' hc59 rfl rfl rfl rfl (Lw.fa rfl (Lw.want' hc59 rfl rfl rfl rfl (Lw.r rfl (R.ld (v := v0_0_4) rfl rfl (b45.cell rfl)) (Lw.want' hc59 rfl rfl rfl rfl (Lw.ln z2.1.Commits ((o19.up l23 rfl).up l39 rfl).rd rfl (Lw.want' hc59 rfl rfl rfl rfl (Lw.lt rfl (Lw.p hc59 (vB (decide ((z15 : Int) < ((z2.1.Commits.length : Int) : Int)))) rfl (Lw.g (vB (decide ((z15 : Int) < ((z2.1.Commits.length : Int) : Int)))) rfl (Lw.nil (⟨?_, ⟨decide ((z15 : Int) < ((z2.1.Commits.length : Int) : Int)), W39, rfl, Le.refl _ _, rfl, hm⟩⟩)))))))))))))
        iterate 16 (refine Agree.up rfl ?_)
        exact Agree.refl _
       ·replace hm := bf hm hc59
        refine Lw.pass' hc59 rfl rfl rfl rfl rfl rfl rfl (Lw.pass' hc59 rfl rfl rfl rfl rfl rfl rfl (Lw.pass' hc59 rfl rfl rfl rfl rfl rfl rfl (Lw.pass' hc59 rfl rfl rfl rfl rfl rfl rfl (Lw.pass' hc59 rfl rfl rfl rfl rfl rfl rfl (Lw.p hc59 (vB false) rfl (Lw.g (vB false) rfl (Lw.nil (⟨?_, ⟨false, W39, rfl, Le.refl _ _, rfl, hm⟩⟩))))))))
        iterate 16 (refine Agree.up rfl ?_)
        exact Agree.refl _
     ·replace hm := bf hm hc49
      refine Cw.skip (Cw.region (Lw.m (vI y38) rfl (Lw.add rfl (Lw.g (vI (w64 (y38 + 1))) rfl (Lw.nil (⟨?_, m41, Nat.lt_succ_self m41, ⟨y37, w64 (y38 + 1), W39, rfl, l39, rfl, hm⟩⟩))))))
      iterate 16 (refine Agree.up rfl ?_)
      iterate 2 (refine Agree.up rfl ?_)
      exact Agree.base
    ·replace hm := bf hm hc46
     refine Cw.exit ?_
     rw [hK40] at hm
     refine Cw.seq (Cw.region (Lw.m (vI z15) rfl (Lw.eq rfl (Lw.g (vB ((z15 : Int) == ((-1) : Int))) rfl (Lw.nil ?_)))))
     cases hm
     exact Cw.ret (ret1 rfl (Res.mk a42 rfl))
  ·refine Cw.region (Lw.m (vI z15) rfl (Lw.r rfl (R.lda (cs := [v0_0_4, v0_1_4]) b21.cells rfl rfl) (Lw.m (vS z2.2) rfl ?_)))
   obtain ⟨z60, e61, hm⟩ := ob hm
   refine Lw.t rfl (T.call rfl (p32 (K := [2, 3])  (x0 := (Vm.Repo.mk z2.1.Commits z2.1.Heads)) (Repo.rd (K := [2, 3]) z2.1.Commits z2.1.Heads (o19.rd.sub (M := [2, 3]) rfl) (o20.rd.sub (M := [2, 3]) rfl)) e61)) ?_
   rintro _ _ ⟨W62, rfl, l62, rfl⟩
   have a63 := a18.n l62
   refine Lw.ne rfl (Lw.m (vB ((z15 : Int) != (z60 : Int))) rfl (bsplit ((z15 : Int) != (z60 : Int)) (fun hc67 => ?_) (fun hc67 => ?_)))
   ·replace hm := bt hm hc67
    refine Lw.pass' hc67 rfl rfl rfl rfl rfl rfl rfl (Lw.pass' hc67 rfl rfl rfl rfl rfl rfl rfl (Lw.pass' hc67 rfl rfl rfl rfl rfl rfl rfl (Lw.p hc67 (vB true) rfl (Lw.nil (⟨?_, ⟨true, W62, rfl, l62, rfl, hm⟩⟩)))))
    iterate 10 (refine Agree.up rfl ?_)
    exact Agree.refl _
   ·replace hm := bf hm hc67
    refine Lw.want' hc67 rfl rfl rfl rfl (Lw.r rfl (R.lda (cs := [v0_0_4, v0_1_4]) (b21.up l62 rfl).cells rfl rfl) (Lw.want' hc67 rfl rfl rfl rfl ?_))
    obtain ⟨z69, e70, hm⟩ := ob hm
    refine Lw.t rfl (T.call rfl (p33 (K := [0, 2, 3])  (x0 := (Vm.Repo.mk z2.1.Commits z2.1.Heads)) ((Repo.rd (K := [2, 3]) z2.1.Commits z2.1.Heads ((o19.up l62 rfl).rd.sub (M := [2, 3]) rfl) ((o20.up l62 rfl).rd.sub (M := [2, 3]) rfl)).sub (M := [0, 2, 3]) rfl) ((h99.ul a63).sub (M := [0, 2, 3]) rfl) e70)) ?_
    rintro _ _ ⟨W71, rfl, l71, rfl⟩
    refine Lw.want' hc67 rfl rfl rfl rfl (Lw.r rfl (R.not rfl) (Lw.p hc67 (vB (!z69)) rfl (Lw.nil (⟨?_, ⟨(!z69), W71, rfl, (l62.trans l71), rfl, hm⟩⟩))))
    iterate 10 (refine Agree.up rfl ?_)
    exact Agree.refl _

theorem p7 {W : CW} {K : List Nat} {x0 : List Byte} {v0_ : Value} {r : Bool} (h0 : Rd W K [v0_] x0) (h99 : Gl 2 W K) (hm : Vm.laws_FnRepoAt x0 = some r) : CallR Tryd.prog 7 [v0_].toArray W.w (Res W [] fun W' v => v = vB r) :=
 (c7 (V := W.view K []) (h0.view _) (h99.view _) hm).ad (fk 0) fun _ _ e => e

end Go.Sx
