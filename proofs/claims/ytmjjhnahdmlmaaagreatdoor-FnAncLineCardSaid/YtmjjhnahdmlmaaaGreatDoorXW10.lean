/- Walks: each function answers as its model, printed by a program of ours. Conditions: the arguments read as they are given. -/
import Derived.Test.YtmjjhnahdmlmaaaGreatDoorXTs
import Derived.Test.YtmjjhnahdmlmaaaGreatDoorXMd
import Derived.Test.YtmjjhnahdmlmaaaGreatDoorXW0
import Derived.Test.YtmjjhnahdmlmaaaGreatDoorXW2
import Derived.Test.YtmjjhnahdmlmaaaGreatDoorXW9
namespace Go.Sx
open Go Go.Proofs Go.Vm Rp
set_option linter.unusedVariables false
set_option linter.unusedSimpArgs false

theorem c15 {V : CW} {x0 : Vm.Repo} {v0_0_ : Value} {v0_1_ : Value} {r : Bool} (h0 : Rd V [0] [v0_0_, v0_1_] x0) (h99 : Gl 0 V [0]) (hm : Vm.impl_RepoOk x0 = some r) : CallR Tryz.prog 15 [.agg [v0_0_, v0_1_].toArray].toArray V.w (Res V LL fun Wf v => v = vB r) := by
 unfold Vm.impl_RepoOk at hm
 obtain ⟨w0_0, w0_1, he0, h0_0, h0_1⟩ := Repo.split h0
 simp only [List.cons.injEq, and_true, true_and] at he0
 obtain ⟨rfl, rfl⟩ := he0
 obtain ⟨W0, hW0⟩ : ∃ W, W = V := ⟨V, rfl⟩
 subst hW0
 refine CallR.of Tryz.func15 rfl rfl rfl rfl (Cw.seq (Cw.region (Lw.t rfl (T.box 2 (v := .agg [v0_0_, v0_1_].toArray) (cs := [v0_0_, v0_1_]) rfl rfl) ?_)))
 rintro _ _ ⟨g1, W1, rfl, rfl, l1, b1⟩
 have a2 := l1.o
 refine Lw.g (vB false) rfl (Lw.nil (Cw.seq (Cw.seq (Cw.region (Lw.fa rfl (Lw.r rfl (R.ld (v := v0_0_) rfl rfl (b1.cell rfl)) (Lw.ln x0.Commits (h0_0.ul a2) rfl (Lw.gt rfl (Lw.nil (Cw.cond (b := decide ((16 : Int) < ((x0.Commits.length : Int) : Int))) rfl (fun hc4 => ?_) (fun hc4 => ?_)))))))))))
 ·replace hm := bt hm hc4
  refine Cw.seq (Cw.region (Lw.g (vB false) rfl (Lw.nil ?_)))
  cases hm
  exact Cw.ret (ret1 rfl (Res.mk a2 rfl))
 ·replace hm := bf hm hc4
  refine Cw.skip (Cw.seq (Cw.seq (Cw.region (Lw.fa rfl (Lw.r rfl (R.ld (v := v0_0_) rfl rfl (b1.cell rfl)) (Lw.ln x0.Commits (h0_0.ul a2) rfl (Lw.m (vI 0) rfl (Lw.nil (Cw.block ?_)))))))))
  obtain ⟨K11, hK11, hm⟩ := jn_e hm
  refine Cw.loop 14 65 [2, 3, 4, 6, 14] (fun m l w => ∃ (y5 : Bool) (y9 : Int) (j6 j7 j8 : Value) (W10 : CW), W10.w = w ∧ Le [3] W1 W10 ∧ l = [vB y5, j6, j7, j8, vI y9] ∧ Vm.impl_RepoOk_l1 x0 K11 m y5 y9 = some r) (((x0.Commits.length : Int) - 0).toNat + 1) ⟨false, 0, undef, undef, undef, W1, rfl, Le.refl _ _, rfl, hm⟩ ?_
  rintro m12 _ _ σ ⟨y5, y9, j6, j7, j8, W10, rfl, l10, rfl, hm⟩
  obtain _ | m12 := m12
  ·cases hm
  unfold Vm.impl_RepoOk_l1 at hm
  have a13 := a2.t l10 rfl
  refine Cw.seq (Cw.region (Lw.lt rfl (Lw.nil (Cw.seq (Cw.cond (b := decide ((y9 : Int) < ((x0.Commits.length : Int) : Int))) rfl (fun hc15 => ?_) (fun hc15 => ?_))))))
  ·replace hm := bt hm hc15
   refine Cw.skip (Cw.seq (Cw.block (Cw.seq (Cw.region (Lw.m (vI y9) rfl ?_)))))
   obtain ⟨u16, e17, hm⟩ := ob hm
   refine Lw.r rfl (R.ix (α := Commit) (h0_0.ul a13) e17 rfl rfl rfl) ?_
   obtain ⟨x19, c20, _, r21⟩ := ((h0_0.ul a13).at_ e17).cells
   obtain ⟨v22, v24, rfl, r23, r25⟩ := Commit.split r21
   refine Lw.r rfl (R.lda c20 rfl rfl) (Lw.t rfl (T.alloc 3 (cs := [.slice none 0 0, vS ([] : Str), .slice none 0 0]) rfl) ?_)
   rintro _ _ ⟨g26, W26, rfl, rfl, l26, b26⟩
   have a27 := l26.o
   refine Lw.g (vI y9) rfl (Lw.u (T.sta (vs := [v22, vS u16.Who, v24]) b26 rfl rfl (oc_cons r23.oc (oc_cons rfl (oc_cons r25.oc oc_nil))) rfl rfl) ?_)
   rintro _ _ ⟨W29, rfl, l29, b29⟩
   have a30 := l29.s rfl
   refine Lw.nil (Cw.seq ?_)
   obtain ⟨K34, hK34, hm⟩ := jn_e hm
   refine Cw.join 19 51 [51] (fun l w => ∃ (y32 : Bool) (W33 : CW), W33.w = w ∧ Le [] W29 W33 ∧ l = [vB y32] ∧ K34 y32 = some r) ?_ ?_
   ·rintro _ _ σ ⟨y32, W33, rfl, l33, rfl, hm⟩
    rw [hK34] at hm
    have a35 := l33.o
    refine Cw.cond (b := y32) rfl (fun hc38 => ?_) (fun hc38 => ?_)
    ·replace hm := bt hm hc38
     refine Cw.seq (Cw.region (Lw.g (vB false) rfl (Lw.nil ?_)))
     cases hm
     exact Cw.ret (ret1 rfl (Res.mk (((a13.trans a27).trans a30).trans a35) rfl))
    ·replace hm := bf hm hc38
     refine Cw.skip (Cw.seq (Cw.region (Lw.fa rfl (Lw.r rfl (R.ld (v := v22) rfl rfl ((b29.up l33 rfl).cell rfl)) (Lw.ln u16.Parents (r23.ul ((a27.trans a30).trans a35)) rfl (Lw.m (vI 0) rfl (Lw.nil (Cw.block ?_))))))))
     obtain ⟨K44, hK44, hm⟩ := jn_e hm
     refine Cw.loop 55 64 [2, 6, 55] (fun m l w => ∃ (y40 : Bool) (y42 : Int) (j41 : Value) (W43 : CW), W43.w = w ∧ Le [] W33 W43 ∧ l = [vB y40, j41, vI y42] ∧ Vm.impl_RepoOk_l2 y9 u16 K44 m y40 y42 = some r) (((u16.Parents.length : Int) - 0).toNat + 1) ⟨y5, 0, j8, W33, rfl, Le.refl _ _, rfl, hm⟩ ?_
     rintro m45 _ _ σ ⟨y40, y42, j41, W43, rfl, l43, rfl, hm⟩
     obtain _ | m45 := m45
     ·cases hm
     unfold Vm.impl_RepoOk_l2 at hm
     have a46 := l43.o
     refine Cw.seq (Cw.region (Lw.lt rfl (Lw.nil (Cw.seq (Cw.cond (b := decide ((y42 : Int) < ((u16.Parents.length : Int) : Int))) rfl (fun hc49 => ?_) (fun hc49 => ?_))))))
     ·replace hm := bt hm hc49
      refine Cw.skip (Cw.seq (Cw.block (Cw.seq (Cw.region ?_))))
      obtain ⟨u50, e51, hm⟩ := ob hm
      have s52 := r23.ul (((a27.trans a30).trans a35).trans a46)
      refine Lw.r rfl (R.ix (α := Int) s52 e51 rfl rfl rfl) (Lw.r rfl (R.ld rfl rfl (s52.at_ e51).int) (Lw.g (vI u50) rfl (Lw.nil (Cw.seq (Cw.region (Lw.m (vI u50) rfl (Lw.m (vI y9) rfl (Lw.sub rfl ?_))))))))
      obtain ⟨z53, e54, hm⟩ := ob hm
      refine Lw.t rfl (T.call rfl (p42 (K := [0])   e54)) ?_
      rintro _ _ ⟨W55, rfl, l55, rfl⟩
      have a56 := ((((a13.trans a27).trans a30).trans a35).trans a46).n l55
      refine Lw.r rfl (R.not rfl) (Lw.nil (Cw.cond (b := (!z53)) rfl (fun hc59 => ?_) (fun hc59 => ?_)))
      ·replace hm := bt hm hc59
       refine Cw.seq (Cw.region (Lw.g (vB false) rfl (Lw.nil ?_)))
       cases hm
       exact Cw.ret (ret1 rfl (Res.mk a56 rfl))
      ·replace hm := bf hm hc59
       refine Cw.skip (Cw.region (Lw.add rfl (Lw.m (vI (w64 (y42 + 1))) rfl (Lw.nil (⟨?_, m45, Nat.lt_succ_self m45, ⟨y40, w64 (y42 + 1), vI u50, W55, rfl, (l43.trans l55), rfl, hm⟩⟩)))))
       iterate 14 (refine .u ?_)
       exact Agree.base
     ·replace hm := bf hm hc49
      refine Cw.exit ?_
      rw [hK44] at hm
      refine Cw.region (Lw.add rfl (Lw.m (vI (w64 (y9 + 1))) rfl (Lw.nil (⟨?_, m12, Nat.lt_succ_self m12, ⟨y40, w64 (y9 + 1), vI y9, ptr (bx g26), j41, W43, rfl, (l10.trans ((l26.sub rfl).trans (l29.trans ((l33.sub rfl).trans (l43.sub rfl))))), rfl, hm⟩⟩))))
      iterate 6 (refine .u ?_)
      refine Agree.ov0 rfl ?_
      iterate 5 (refine .u ?_)
      refine Agree.ov0 rfl ?_
      iterate 11 (refine .u ?_)
      exact Agree.base
   ·refine Cw.draw [] [(0, 0), (1, 1), (2, 0), (3, 0), (4, 0), (5, 0), (6, 1), (7, 0), (8, 0), (9, 0), (10, 0), (11, 1), (12, 0), (13, 1), (14, 0), (15, 1), (16, 0), (17, 1), (18, 0), (19, 0), (20, 0), (21, 0), (22, 0), (23, 1), (24, 2), (25, 0), (26, 0), (27, 0), (28, 0), (29, 1), (30, 2), (31, 0), (32, 0)] mixed (by kernel_rfl) fun W60 l60 => ?_
    have a61 := l60.o
    have b63 := b29.up l60 rfl
    have s64 := r23.ul ((a27.trans a30).trans a61)
    refine Mw.p rfl rfl (fun _ => R.fa rfl) (Mw.q rfl rfl (fun _ c => R.ld (v := v22) rfl rfl (b63.clc rfl rfl c)) (Mw.p rfl rfl (fun _ => lenR (xs := u16.Parents) s64 rfl) (Mw.p rfl rfl (fun _ => R.gt rfl rfl) (Mw.p rfl rfl (fun _ => R.mv (v := vB (decide ((2 : Int) < ((u16.Parents.length : Int) : Int)))) rfl) (bsplit (decide ((2 : Int) < ((u16.Parents.length : Int) : Int))) (fun hc65 => ?_) (fun hc65 => ?_))))))
    ·replace hm := bt hm hc65
     refine Mw.ps hc65 rfl rfl (Mw.ps hc65 rfl rfl (Mw.ps hc65 rfl rfl (Mw.ps hc65 rfl rfl (Mw.ps hc65 rfl rfl (Mw.pu rfl rfl (Mw.pu rfl rfl (Mw.pu rfl rfl (Mw.pu rfl rfl (Mw.pu rfl rfl (Mw.pu rfl rfl (Mw.pu rfl rfl (Mw.pu rfl rfl (Mw.pu rfl rfl (Mw.ps hc65 rfl rfl (Mw.p rfl rfl (fun _ => R.pk hc65 rfl (v := vB true) rfl) (Mw.p rfl rfl (fun _ => R.mv (v := vB true) rfl) (Mw.ps rfl rfl rfl (Mw.ps rfl rfl rfl (Mw.ps rfl rfl rfl (Mw.ps rfl rfl rfl (Mw.p rfl rfl (fun _ => R.pk rfl rfl (v := vB true) rfl) (Mw.p rfl rfl (fun _ => R.mv (v := vB true) rfl) (Mw.ps rfl rfl rfl (Mw.ps rfl rfl rfl (Mw.ps rfl rfl rfl (Mw.ps rfl rfl rfl (Mw.p rfl rfl (fun _ => R.pk rfl rfl (v := vB true) rfl) (Mw.nil (⟨?_, ⟨true, W60, rfl, l60, rfl, hm⟩⟩)))))))))))))))))))))))))))))
     iterate 33 (refine .u ?_)
     exact Agree.refl _
    ·replace hm := bf hm hc65
     refine Mw.gp hc65 rfl rfl rfl rfl rfl (fun _ => R.fa rfl) (Mw.gq hc65 rfl rfl rfl rfl rfl (fun _ c => R.ld (v := v22) rfl rfl (b63.clc rfl rfl c)) (Mw.gp hc65 rfl rfl rfl rfl rfl (fun _ => lenR (xs := u16.Parents) s64 rfl) (Mw.gp hc65 rfl rfl rfl rfl rfl (fun _ => R.eq rfl rfl) (Mw.gp hc65 rfl rfl rfl rfl rfl (fun _ => R.mv (v := vB (((u16.Parents.length : Int) : Int) == (2 : Int))) rfl) (bsplit (((u16.Parents.length : Int) : Int) == (2 : Int)) (fun hc66 => ?_) (fun hc66 => ?_))))))
     ·replace hm := bt hm hc66
      refine Mw.gp hc66 rfl rfl rfl rfl rfl (fun _ => R.fa rfl) (Mw.gq hc66 rfl rfl rfl rfl rfl (fun _ c => R.ld (v := v22) rfl rfl (b63.clc rfl rfl c)) ?_)
      obtain ⟨u67, e68, hm⟩ := ob hm
      refine Mw.gp hc66 rfl rfl rfl rfl rfl (fun _ => R.ix (α := Int) s64 e68 rfl rfl rfl) (Mw.gq hc66 rfl rfl rfl rfl rfl (fun _ c => R.ld rfl rfl (cl_cell (s64.at_ e68).1 rfl (s64.at_ e68).int c)) (Mw.gp hc66 rfl rfl rfl rfl rfl (fun _ => R.fa rfl) (Mw.gq hc66 rfl rfl rfl rfl rfl (fun _ c => R.ld (v := v22) rfl rfl (b63.clc rfl rfl c)) ?_)))
      obtain ⟨u69, e70, hm⟩ := ob hm
      refine Mw.gp hc66 rfl rfl rfl rfl rfl (fun _ => R.ix (α := Int) s64 e70 rfl rfl rfl) (Mw.gq hc66 rfl rfl rfl rfl rfl (fun _ c => R.ld rfl rfl (cl_cell (s64.at_ e70).1 rfl (s64.at_ e70).int c)) (Mw.gp hc66 rfl rfl rfl rfl rfl (fun _ => R.eq rfl rfl) (Mw.gp hc65 rfl rfl rfl rfl rfl (fun _ => R.pk hc66 rfl (v := vB ((u67 : Int) == (u69 : Int))) rfl) (Mw.p rfl rfl (fun _ => R.pk hc65 rfl (v := vB ((u67 : Int) == (u69 : Int))) rfl) (Mw.p rfl rfl (fun _ => R.mv (v := vB ((u67 : Int) == (u69 : Int))) rfl) (bsplit ((u67 : Int) == (u69 : Int)) (fun hc71 => ?_) (fun hc71 => ?_)))))))
      ·replace hm := bt hm hc71
       refine Mw.ps hc71 rfl rfl (Mw.ps hc71 rfl rfl (Mw.ps hc71 rfl rfl (Mw.ps hc71 rfl rfl (Mw.p rfl rfl (fun _ => R.pk hc71 rfl (v := vB true) rfl) (Mw.p rfl rfl (fun _ => R.mv (v := vB true) rfl) (Mw.ps rfl rfl rfl (Mw.ps rfl rfl rfl (Mw.ps rfl rfl rfl (Mw.ps rfl rfl rfl (Mw.p rfl rfl (fun _ => R.pk rfl rfl (v := vB true) rfl) (Mw.nil (⟨?_, ⟨true, W60, rfl, l60, rfl, hm⟩⟩))))))))))))
       iterate 33 (refine .u ?_)
       exact Agree.refl _
      ·replace hm := bf hm hc71
       refine Mw.gp hc71 rfl rfl rfl rfl rfl (fun _ => R.fa rfl) (Mw.gq hc71 rfl rfl rfl rfl rfl (fun _ c => R.ld (v := vS u16.Who) rfl rfl (b63.clc rfl rfl c)) ?_)
       obtain ⟨z72, e73, hm⟩ := ob hm
       refine Mw.gt hc71 rfl rfl rfl rfl rfl (T.call rfl (p41 (K := [0])   e73)) ?_
       rintro _ _ ⟨W74, rfl, l74, rfl⟩
       have a75 := l74.o
       refine ⟨⟨_, rfl, (l74.sub (M := []) rfl)⟩, ?_⟩
       refine Mw.gp hc71 rfl rfl rfl rfl rfl (fun _ => R.not rfl) (Mw.p rfl rfl (fun _ => R.pk hc71 rfl (v := vB (!z72)) rfl) (Mw.p rfl rfl (fun _ => R.mv (v := vB (!z72)) rfl) (bsplit (!z72) (fun hc78 => ?_) (fun hc78 => ?_))))
       ·replace hm := bt hm hc78
        refine Mw.ps hc78 rfl rfl (Mw.ps hc78 rfl rfl (Mw.ps hc78 rfl rfl (Mw.ps hc78 rfl rfl (Mw.p rfl rfl (fun _ => R.pk hc78 rfl (v := vB true) rfl) (Mw.nil (⟨?_, ⟨true, W74, rfl, (l60.trans l74), rfl, hm⟩⟩))))))
        iterate 33 (refine .u ?_)
        exact Agree.refl _
       ·replace hm := bf hm hc78
        refine Mw.gp hc78 rfl rfl rfl rfl rfl (fun _ => R.fa rfl) (Mw.gq hc78 rfl rfl rfl rfl rfl (fun _ c => R.ld (v := v24) rfl rfl (b63.clc rfl rfl c)) ?_)
        obtain ⟨z81, e82, hm⟩ := ob hm
        refine Mw.gt hc78 rfl rfl rfl rfl rfl (T.call rfl (p11 (K := [0])  (r25.ul (((a27.trans a30).trans a61).trans a75)) (h99.ul ((((a13.trans a27).trans a30).trans a61).trans a75)) e82)) ?_
        rintro _ _ ⟨W83, rfl, l83, rfl⟩
        refine ⟨⟨_, rfl, ((l74.sub (M := []) rfl).trans (l83.sub (M := []) rfl))⟩, ?_⟩
        refine Mw.gp hc78 rfl rfl rfl rfl rfl (fun _ => R.not rfl) (Mw.p rfl rfl (fun _ => R.pk hc78 rfl (v := vB (!z81)) rfl) (Mw.nil (⟨?_, ⟨(!z81), W83, rfl, (l60.trans (l74.trans l83)), rfl, hm⟩⟩)))
        iterate 33 (refine .u ?_)
        exact Agree.refl _
     ·replace hm := bf hm hc66
      refine Mw.ps hc66 rfl rfl (Mw.ps hc66 rfl rfl (Mw.ps hc66 rfl rfl (Mw.ps hc66 rfl rfl (Mw.ps hc66 rfl rfl (Mw.ps hc66 rfl rfl (Mw.ps hc66 rfl rfl (Mw.ps hc66 rfl rfl (Mw.ps hc66 rfl rfl (Mw.gp hc65 rfl rfl rfl rfl rfl (fun _ => R.pk hc66 rfl (v := vB false) rfl) (Mw.p rfl rfl (fun _ => R.pk hc65 rfl (v := vB false) rfl) (Mw.p rfl rfl (fun _ => R.mv (v := vB false) rfl) (Mw.gp rfl rfl rfl rfl rfl rfl (fun _ => R.fa rfl) (Mw.gq rfl rfl rfl rfl rfl rfl (fun _ c => R.ld (v := vS u16.Who) rfl rfl (b63.clc rfl rfl c)) ?_)))))))))))))
      obtain ⟨z87, e88, hm⟩ := ob hm
      refine Mw.gt rfl rfl rfl rfl rfl rfl (T.call rfl (p41 (K := [0])   e88)) ?_
      rintro _ _ ⟨W89, rfl, l89, rfl⟩
      have a90 := l89.o
      refine ⟨⟨_, rfl, (l89.sub (M := []) rfl)⟩, ?_⟩
      refine Mw.gp rfl rfl rfl rfl rfl rfl (fun _ => R.not rfl) (Mw.p rfl rfl (fun _ => R.pk rfl rfl (v := vB (!z87)) rfl) (Mw.p rfl rfl (fun _ => R.mv (v := vB (!z87)) rfl) (bsplit (!z87) (fun hc93 => ?_) (fun hc93 => ?_))))
      ·replace hm := bt hm hc93
       refine Mw.ps hc93 rfl rfl (Mw.ps hc93 rfl rfl (Mw.ps hc93 rfl rfl (Mw.ps hc93 rfl rfl (Mw.p rfl rfl (fun _ => R.pk hc93 rfl (v := vB true) rfl) (Mw.nil (⟨?_, ⟨true, W89, rfl, (l60.trans l89), rfl, hm⟩⟩))))))
       iterate 33 (refine .u ?_)
       exact Agree.refl _
      ·replace hm := bf hm hc93
       refine Mw.gp hc93 rfl rfl rfl rfl rfl (fun _ => R.fa rfl) (Mw.gq hc93 rfl rfl rfl rfl rfl (fun _ c => R.ld (v := v24) rfl rfl (b63.clc rfl rfl c)) ?_)
       obtain ⟨z96, e97, hm⟩ := ob hm
       refine Mw.gt hc93 rfl rfl rfl rfl rfl (T.call rfl (p11 (K := [0])  (r25.ul (((a27.trans a30).trans a61).trans a90)) (h99.ul ((((a13.trans a27).trans a30).trans a61).trans a90)) e97)) ?_
       rintro _ _ ⟨W98, rfl, l98, rfl⟩
       refine ⟨⟨_, rfl, ((l89.sub (M := []) rfl).trans (l98.sub (M := []) rfl))⟩, ?_⟩
       refine Mw.gp hc93 rfl rfl rfl rfl rfl (fun _ => R.not rfl) (Mw.p rfl rfl (fun _ => R.pk hc93 rfl (v := vB (!z96)) rfl) (Mw.nil (⟨?_, ⟨(!z96), W98, rfl, (l60.trans (l89.trans l98)), rfl, hm⟩⟩)))
       iterate 33 (refine .u ?_)
       exact Agree.refl _
  ·replace hm := bf hm hc15
   refine Cw.exit ?_
   rw [hK11] at hm
   refine Cw.seq (Cw.region (Lw.r rfl (R.lda (cs := [v0_0_, v0_1_]) (b1.up l10 rfl).cells rfl rfl) (Lw.fa rfl (Lw.r rfl (R.ld (v := v0_1_) rfl rfl ((b1.up l10 rfl).cell rfl)) ?_))))
   obtain ⟨z104, e105, hm⟩ := ob hm
   refine Lw.t rfl (T.call rfl (p43 (K := [0])  (Repo.rd (K := [0]) x0.Commits x0.Heads (h0_0.ul a13) (h0_1.ul a13)) (h0_1.ul a13) e105)) ?_
   rintro _ _ ⟨W106, rfl, l106, rfl⟩
   have a107 := a13.n l106
   refine Lw.g (vB z104) rfl (Lw.nil ?_)
   cases hm
   exact Cw.ret (ret1 rfl (Res.mk a107 rfl))

theorem p15 {W : CW} {K : List Nat} {x0 : Vm.Repo} {v0_0_ : Value} {v0_1_ : Value} {r : Bool} (h0 : Rd W K [v0_0_, v0_1_] x0) (h99 : Gl 0 W K) (hm : Vm.impl_RepoOk x0 = some r) : CallR Tryz.prog 15 [.agg [v0_0_, v0_1_].toArray].toArray W.w (Res W [] fun W' v => v = vB r) :=
 (c15 (V := W.view K []) (h0.view _) (h99.view _) hm).ad (fk 0) fun _ _ e => e

theorem c29 {V : CW} {x0 : Vm.Repo} {v0_0_ : Value} {v0_1_ : Value} {x1 : Int} {r : (List Vm.File)} (h0 : Rd V [0] [v0_0_, v0_1_] x0) (hm : Vm.impl_Repo_tree x0 x1 = some r) : CallR Tryz.prog 29 [.agg [v0_0_, v0_1_].toArray, vI x1].toArray V.w (Res V LL fun Wf v => ∃ (u0 : Value), v = u0 ∧ Rd Wf [0] [u0] r) := by
 unfold Vm.impl_Repo_tree at hm
 obtain ⟨w0_0, w0_1, he0, h0_0, h0_1⟩ := Repo.split h0
 simp only [List.cons.injEq, and_true, true_and] at he0
 obtain ⟨rfl, rfl⟩ := he0
 obtain ⟨W0, hW0⟩ : ∃ W, W = V := ⟨V, rfl⟩
 subst hW0
 refine CallR.of Tryz.func29 rfl rfl rfl rfl (Cw.seq (Cw.region (Lw.t rfl (T.box 2 (v := .agg [v0_0_, v0_1_].toArray) (cs := [v0_0_, v0_1_]) rfl rfl) ?_)))
 rintro _ _ ⟨g1, W1, rfl, rfl, l1, b1⟩
 have a2 := l1.o
 refine Lw.g (.slice none 0 0) rfl (Lw.nil (Cw.seq (Cw.seq (Cw.region (Lw.m (vI x1) rfl (Lw.lt rfl (Lw.nil (Cw.cond (b := decide ((x1 : Int) < (0 : Int))) rfl (fun hc3 => ?_) (fun hc3 => ?_)))))))))
 ·replace hm := bt hm hc3
  refine Cw.seq (Cw.region (Lw.g (.slice none 0 0) rfl (Lw.nil ?_)))
  cases hm
  exact Cw.ret (ret1 rfl (Res.mk a2 ⟨.slice none 0 0, rfl, (rdN (K := [0]))⟩))
 ·replace hm := bf hm hc3
  refine Cw.skip (Cw.seq (Cw.region (Lw.fa rfl (Lw.r rfl (R.ld (v := v0_0_) rfl rfl (b1.cell rfl)) (Lw.m (vI x1) rfl ?_)))))
  obtain ⟨u4, e5, hm⟩ := ob hm
  refine Lw.r rfl (R.ix (α := Commit) (h0_0.ul a2) e5 rfl rfl rfl) (Lw.fa rfl ?_)
  obtain ⟨v7, c8, r9⟩ := (Commit.at2 ((h0_0.ul a2).at_ e5)).cell rfl
  refine Lw.r rfl (R.ld rfl rfl c8) (Lw.g v7 rfl (Lw.nil ?_))
  cases hm
  exact Cw.ret (ret1 rfl (Res.mk a2 ⟨v7, rfl, r9⟩))

theorem p29 {W : CW} {K : List Nat} {x0 : Vm.Repo} {v0_0_ : Value} {v0_1_ : Value} {x1 : Int} {r : (List Vm.File)} (h0 : Rd W K [v0_0_, v0_1_] x0) (hm : Vm.impl_Repo_tree x0 x1 = some r) : CallR Tryz.prog 29 [.agg [v0_0_, v0_1_].toArray, vI x1].toArray W.w (Res W [] fun W' v => ∃ (u0 : Value), v = u0 ∧ Rd W' (0 :: K) [u0] r) :=
 (c29 (V := W.view K []) (h0.view _) hm).ad (fk 0) fun _ _ ⟨u0, e, f0⟩ => ⟨u0, e, f0.back rfl⟩

theorem c50 {V : CW} {x0 : List Str} {v0_ : Value} {r : (List Str)} (h0 : Rd V [0] [v0_] x0) (hm : Vm.impl_copyText x0 = some r) : CallR Tryz.prog 50 [v0_].toArray V.w (Res V LL fun Wf v => ∃ (u0 : Value), v = u0 ∧ OwS Wf LL [] [u0] r) := by
 unfold Vm.impl_copyText at hm
 obtain ⟨W0, hW0⟩ : ∃ W, W = V := ⟨V, rfl⟩
 subst hW0
 refine CallR.of Tryz.func50 rfl rfl rfl rfl (Cw.seq (Cw.region (Lw.g (.slice none 0 0) rfl (Lw.nil (Cw.seq (Cw.region (Lw.t rfl (T.lit0 (α := Str) 2 []) ?_)))))))
 rintro v1 _ ⟨W1, rfl, l1, o1⟩
 have a2 := l1.o
 refine Lw.m v0_ rfl ?_
 obtain ⟨q3, e4, hm⟩ := ob hm
 refine Lw.t rfl (T.appP (α := Str) o1 (h0.ul a2) rfl rfl e4) ?_
 rintro v5 _ ⟨W5, rfl, l5, o5⟩
 have a7 := a2.t l5 rfl
 refine Lw.g v5 rfl (Lw.nil ?_)
 cases hm
 exact Cw.ret (ret1 rfl (Res.mk a7 ⟨v5, rfl, o5.s.sub rfl rfl⟩))

theorem p50 {W : CW} {K : List Nat} {x0 : List Str} {v0_ : Value} {k0 : Nat} {r : (List Str)} (h0 : Rd W K [v0_] x0) (hm : Vm.impl_copyText x0 = some r) : CallR Tryz.prog 50 [v0_].toArray W.w (Res W [] fun W' v => ∃ (u0 : Value), v = u0 ∧ Ow W' k0 [] [u0] r) :=
 (c50 (V := W.view K []) (h0.view _) hm).ad (fk k0) fun _ _ ⟨u0, e, f0⟩ => ⟨u0, e, f0.back (fk_LL _)⟩

theorem c28 {V : CW} {x0 : List Vm.File} {v0_ : Value} {r : (List Vm.File)} (h0 : Rd V [0] [v0_] x0) (hm : Vm.impl_copyTree x0 = some r) : CallR Tryz.prog 28 [v0_].toArray V.w (Res V LL fun Wf v => ∃ (u0 : Value), v = u0 ∧ OwS Wf LL [] [u0] r) := by
 unfold Vm.impl_copyTree at hm
 obtain ⟨W0, hW0⟩ : ∃ W, W = V := ⟨V, rfl⟩
 subst hW0
 refine CallR.of Tryz.func28 rfl rfl rfl rfl (Cw.seq (Cw.region (Lw.g (.slice none 0 0) rfl (Lw.nil (Cw.seq (Cw.region (Lw.g (.slice none 0 0) rfl (Lw.nil (Cw.seq (Cw.seq (Cw.region (Lw.m v0_ rfl (Lw.ln x0 h0 rfl (Lw.m (vI 0) rfl (Lw.nil (Cw.block ?_))))))))))))))))
 obtain ⟨K7, hK7, hm⟩ := jn_e hm
 refine Cw.loop 8 21 [3, 5, 8] (fun m l w => ∃ (y1 : List Vm.File) (y5 : Int) (v2 j4 : Value) (W6 : CW), W6.w = w ∧ Le [2, 3, 4] W0 W6 ∧ l = [v2, j4, vI y5] ∧ Ow W6 2 [] [v2] y1 ∧ Vm.impl_copyTree_l1 x0 K7 m y1 y5 = some r) (((x0.length : Int) - 0).toNat + 1) ⟨([] : List File), 0, .slice none 0 0, undef, W0, rfl, Le.refl _ _, rfl, owN 2 [], hm⟩ ?_
 rintro m8 _ _ σ ⟨y1, y5, v2, j4, W6, rfl, l6, rfl, o3, hm⟩
 obtain _ | m8 := m8
 ·cases hm
 unfold Vm.impl_copyTree_l1 at hm
 have a9 := l6.s rfl
 refine Cw.seq (Cw.region (Lw.lt rfl (Lw.nil (Cw.seq (Cw.cond (b := decide ((y5 : Int) < ((x0.length : Int) : Int))) rfl (fun hc10 => ?_) (fun hc10 => ?_))))))
 ·replace hm := bt hm hc10
  refine Cw.skip (Cw.seq (Cw.block (Cw.seq (Cw.region ?_))))
  obtain ⟨u11, e12, hm⟩ := ob hm
  refine Lw.r rfl (R.ix (α := File) (h0.ul a9) e12 rfl rfl rfl) ?_
  obtain ⟨x14, c15, _, r16⟩ := ((h0.ul a9).at_ e12).cells
  obtain ⟨v17, rfl, r18⟩ := File.split r16
  refine Lw.r rfl (R.lda c15 rfl rfl) (Lw.t rfl (T.alloc 3 (cs := [vS ([] : Str), .slice none 0 0]) rfl) ?_)
  rintro _ _ ⟨g19, W19, rfl, rfl, l19, b19⟩
  have a20 := l19.o
  refine Lw.u (T.sta (vs := [vS u11.Path, v17]) b19 rfl rfl (oc_cons rfl (oc_cons r18.oc oc_nil)) rfl rfl) ?_
  rintro _ _ ⟨W22, rfl, l22, b22⟩
  have a23 := a20.t l22 rfl
  refine Lw.nil (Cw.draw [2, 4] [(0, 0), (1, 0), (2, 1), (3, 0), (4, 1), (5, 2), (6, 0), (7, 2), (8, 2), (9, 0)] mixed (by kernel_rfl) fun W25 l25 => ?_)
  have a26 := a23.n l25
  refine Mw.p rfl rfl (fun _ => R.mv (v := v2) rfl) (Mw.p rfl rfl (fun _ => R.fa rfl) (Mw.q rfl rfl (fun _ c => R.ld (v := vS u11.Path) rfl rfl ((b22.up l25 rfl).clc rfl rfl c)) (Mw.p rfl rfl (fun _ => R.fa rfl) (Mw.q rfl rfl (fun _ c => R.ld (v := v17) rfl rfl ((b22.up l25 rfl).clc rfl rfl c)) ?_))))
  obtain ⟨z30, e31, hm⟩ := ob hm
  refine Mw.t rfl rfl (T.call rfl (p50 (K := [0]) (k0 := 4) (r18.ul a26) e31)) ?_
  rintro v0_32 _ ⟨W32, rfl, l32, ⟨_, rfl, f32_0⟩⟩
  refine ⟨⟨_, rfl, (l32.sub (M := [2, 4]) rfl)⟩, ?_⟩
  refine Mw.p rfl rfl (fun _ => R.bd (zs := [vS ([] : Str), .slice none 0 0]) (cs := [vS u11.Path, v0_32]) [(0, vS u11.Path), (1, v0_32)] rfl rfl rfl (bp_cons rfl rfl (bp_cons f32_0.oc rfl bp_nil))) (Mw.t rfl rfl (T.bs 5 [.agg [vS u11.Path, v0_32].toArray] (cs := [vS u11.Path, v0_32]) rfl rfl (bsA rfl)) ?_)
  rintro _ _ ⟨g36, W36, rfl, rfl, l36, b36⟩
  refine ⟨⟨_, rfl, ((l32.sub (M := [2, 4]) rfl).trans (l36.sub (M := [2, 4]) rfl))⟩, ?_⟩
  obtain ⟨q41, e42, hm⟩ := ob hm
  refine Mw.t rfl rfl (T.app1 (α := File) (J := [4]) (K' := []) (((((o3.up l19 rfl).up l22 rfl).up l25 rfl).up l32 rfl).up l36 rfl) b36 (File.own u11.Path z30 (f32_0.up l36 rfl).s) rfl rfl e42) ?_
  rintro v43 _ ⟨W43, rfl, l43, o43⟩
  refine ⟨⟨_, rfl, ((l32.sub (M := [2, 4]) rfl).trans ((l36.sub (M := [2, 4]) rfl).trans (l43.sub (M := [2, 4]) rfl)))⟩, ?_⟩
  refine Mw.p rfl rfl (fun _ => R.as (v := v43) rfl) (Mw.nil (Cw.region (Lw.add rfl (Lw.m (vI (w64 (y5 + 1))) rfl (Lw.nil (⟨?_, m8, Nat.lt_succ_self m8, ⟨q41, w64 (y5 + 1), v43, ptr (bx g19), W43, rfl, (l6.trans ((l19.sub rfl).trans ((l22.sub rfl).trans ((l25.sub rfl).trans ((l32.sub rfl).trans ((l36.sub rfl).trans (l43.sub rfl))))))), rfl, o43, hm⟩⟩))))))
  iterate 19 (refine .u ?_)
  exact Agree.base
 ·replace hm := bf hm hc10
  refine Cw.exit ?_
  rw [hK7] at hm
  refine Cw.seq (Cw.region (Lw.m v2 rfl (Lw.g v2 rfl (Lw.nil ?_))))
  cases hm
  exact Cw.ret (ret1 rfl (Res.mk a9 ⟨v2, rfl, o3.s.sub rfl rfl⟩))

theorem p28 {W : CW} {K : List Nat} {x0 : List Vm.File} {v0_ : Value} {k0 : Nat} {r : (List Vm.File)} (h0 : Rd W K [v0_] x0) (hm : Vm.impl_copyTree x0 = some r) : CallR Tryz.prog 28 [v0_].toArray W.w (Res W [] fun W' v => ∃ (u0 : Value), v = u0 ∧ Ow W' k0 [] [u0] r) :=
 (c28 (V := W.view K []) (h0.view _) hm).ad (fk k0) fun _ _ ⟨u0, e, f0⟩ => ⟨u0, e, f0.back (fk_LL _)⟩

theorem c8 {V : CW} {x0 : Vm.Repo} {v0_0_ : Value} {v0_1_ : Value} {x1 : Int} {r : (List Vm.File) × Bool} (h0 : Rd V [0] [v0_0_, v0_1_] x0) (h99 : Gl 0 V [0]) (hm : Vm.impl_RepoTree x0 x1 = some r) : CallR Tryz.prog 8 [.agg [v0_0_, v0_1_].toArray, vI x1].toArray V.w (Res V LL fun Wf v => ∃ (u0 : Value), v = .tuple [u0, vB r.2].toArray ∧ OwS Wf LL [] [u0] r.1) := by
 unfold Vm.impl_RepoTree at hm
 obtain ⟨w0_0, w0_1, he0, h0_0, h0_1⟩ := Repo.split h0
 simp only [List.cons.injEq, and_true, true_and] at he0
 obtain ⟨rfl, rfl⟩ := he0
 obtain ⟨W0, hW0⟩ : ∃ W, W = V := ⟨V, rfl⟩
 subst hW0
 refine CallR.of Tryz.func8 rfl rfl rfl rfl (Cw.seq (Cw.region (Lw.t rfl (T.box 2 (v := .agg [v0_0_, v0_1_].toArray) (cs := [v0_0_, v0_1_]) rfl rfl) ?_)))
 rintro _ _ ⟨g1, W1, rfl, rfl, l1, b1⟩
 have a2 := l1.o
 refine Lw.g (.slice none 0 0) rfl (Lw.g (vB false) rfl (Lw.nil (Cw.seq ?_)))
 obtain ⟨K5, hK5, hm⟩ := jn_e hm
 refine Cw.join 6 14 [14] (fun l w => ∃ (y3 : Bool) (W4 : CW), W4.w = w ∧ Le [] W1 W4 ∧ l = [vB y3] ∧ K5 y3 = some r) ?_ ?_
 ·rintro _ _ σ ⟨y3, W4, rfl, l4, rfl, hm⟩
  rw [hK5] at hm
  have a6 := a2.n l4
  refine Cw.cond (b := y3) rfl (fun hc8 => ?_) (fun hc8 => ?_)
  ·replace hm := bt hm hc8
   refine Cw.seq (Cw.region (Lw.g (.slice none 0 0) rfl (Lw.g (vB false) rfl (Lw.nil ?_))))
   cases hm
   exact Cw.ret (ret2 rfl rfl (Res.mk a6 ⟨.slice none 0 0, rfl, (owsN []).sub rfl rfl⟩))
  ·replace hm := bf hm hc8
   refine Cw.skip (Cw.seq (Cw.region (Lw.r rfl (R.lda (cs := [v0_0_, v0_1_]) (b1.up l4 rfl).cells rfl rfl) (Lw.m (vI x1) rfl ?_))))
   obtain ⟨z11, e12, hm⟩ := ob hm
   refine Lw.t rfl (T.call rfl (p29 (K := [0])  (Repo.rd (K := [0]) x0.Commits x0.Heads (h0_0.ul a6) (h0_1.ul a6)) e12)) ?_
   rintro v0_13 _ ⟨W13, rfl, l13, ⟨_, rfl, f13_0⟩⟩
   have s14 := f13_0.sub (M := [0]) rfl
   have a15 := a6.n l13
   obtain ⟨z17, e18, hm⟩ := ob hm
   refine Lw.t rfl (T.call rfl (p28 (K := [0]) (k0 := 3) s14 e18)) ?_
   rintro v0_19 _ ⟨W19, rfl, l19, ⟨_, rfl, f19_0⟩⟩
   have a20 := a15.n l19
   refine Lw.g v0_19 rfl (Lw.g (vB true) rfl (Lw.nil ?_))
   cases hm
   exact Cw.ret (ret2 rfl rfl (Res.mk a20 ⟨v0_19, rfl, f19_0.s.sub rfl rfl⟩))
 ·refine Cw.region (Lw.r rfl (R.lda (cs := [v0_0_, v0_1_]) b1.cells rfl rfl) ?_)
  obtain ⟨z25, e26, hm⟩ := ob hm
  refine Lw.t rfl (T.call rfl (p15 (K := [0])  (Repo.rd (K := [0]) x0.Commits x0.Heads (h0_0.ul a2) (h0_1.ul a2)) (h99.ul a2) e26)) ?_
  rintro _ _ ⟨W27, rfl, l27, rfl⟩
  have a28 := a2.n l27
  refine Lw.r rfl (R.not rfl) (Lw.m (vB (!z25)) rfl (bsplit (!z25) (fun hc30 => ?_) (fun hc30 => ?_)))
  ·replace hm := bt hm hc30
   refine Lw.ps hc30 rfl (Lw.ps hc30 rfl (Lw.ps hc30 rfl (Lw.ps hc30 rfl (Lw.p hc30 (vB true) rfl (Lw.nil (⟨?_, ⟨true, W27, rfl, l27, rfl, hm⟩⟩))))))
   iterate 9 (refine .u ?_)
   exact Agree.refl _
  ·replace hm := bf hm hc30
   refine Lw.wa hc30 rfl (Lw.r rfl (R.lda (cs := [v0_0_, v0_1_]) (b1.up l27 rfl).cells rfl rfl) (Lw.wa hc30 rfl (Lw.m (vI x1) rfl (Lw.wa hc30 rfl ?_))))
   obtain ⟨z33, e34, hm⟩ := ob hm
   refine Lw.t rfl (T.call rfl (p27 (K := [0])  (Repo.rd (K := [0]) x0.Commits x0.Heads (h0_0.ul a28) (h0_1.ul a28)) e34)) ?_
   rintro _ _ ⟨W35, rfl, l35, rfl⟩
   refine Lw.wa hc30 rfl (Lw.r rfl (R.not rfl) (Lw.p hc30 (vB (!z33)) rfl (Lw.nil (⟨?_, ⟨(!z33), W35, rfl, (l27.trans l35), rfl, hm⟩⟩))))
   iterate 9 (refine .u ?_)
   exact Agree.refl _

theorem p8 {W : CW} {K : List Nat} {x0 : Vm.Repo} {v0_0_ : Value} {v0_1_ : Value} {x1 : Int} {k0 : Nat} {r : (List Vm.File) × Bool} (h0 : Rd W K [v0_0_, v0_1_] x0) (h99 : Gl 0 W K) (hm : Vm.impl_RepoTree x0 x1 = some r) : CallR Tryz.prog 8 [.agg [v0_0_, v0_1_].toArray, vI x1].toArray W.w (Res W [] fun W' v => ∃ (u0 : Value), v = .tuple [u0, vB r.2].toArray ∧ Ow W' k0 [] [u0] r.1) :=
 (c8 (V := W.view K []) (h0.view _) (h99.view _) hm).ad (fk k0) fun _ _ ⟨u0, e, f0⟩ => ⟨u0, e, f0.back (fk_LL _)⟩

theorem c9 {V : CW} {x0 : Vm.Repo} {v0_0_ : Value} {v0_1_ : Value} {x1 : Int} {r : (List Vm.File) × Bool} (h0 : Rd V [0] [v0_0_, v0_1_] x0) (hm : Vm.spec_RepoTree x0 x1 = some r) : CallR Tryz.prog 9 [.agg [v0_0_, v0_1_].toArray, vI x1].toArray V.w (Res V LL fun Wf v => ∃ (u0 : Value), v = .tuple [u0, vB r.2].toArray ∧ OwS Wf LL [] [u0] r.1) := by
 unfold Vm.spec_RepoTree at hm
 obtain ⟨w0_0, w0_1, he0, h0_0, h0_1⟩ := Repo.split h0
 simp only [List.cons.injEq, and_true, true_and] at he0
 obtain ⟨rfl, rfl⟩ := he0
 obtain ⟨W0, hW0⟩ : ∃ W, W = V := ⟨V, rfl⟩
 subst hW0
 refine CallR.of Tryz.func9 rfl rfl rfl rfl (Cw.seq (Cw.region (Lw.t rfl (T.box 2 (v := .agg [v0_0_, v0_1_].toArray) (cs := [v0_0_, v0_1_]) rfl rfl) ?_)))
 rintro _ _ ⟨g1, W1, rfl, rfl, l1, b1⟩
 have a2 := l1.o
 refine Lw.g (.slice none 0 0) rfl (Lw.g (vB false) rfl (Lw.nil (Cw.seq ?_)))
 obtain ⟨K5, hK5, hm⟩ := jn_e hm
 refine Cw.join 6 17 [17] (fun l w => ∃ (y3 : Bool) (W4 : CW), W4.w = w ∧ Le [] W1 W4 ∧ l = [vB y3] ∧ K5 y3 = some r) ?_ ?_
 ·rintro _ _ σ ⟨y3, W4, rfl, l4, rfl, hm⟩
  rw [hK5] at hm
  have a6 := a2.n l4
  refine Cw.cond (b := y3) rfl (fun hc8 => ?_) (fun hc8 => ?_)
  ·replace hm := bt hm hc8
   refine Cw.seq (Cw.region (Lw.g (.slice none 0 0) rfl (Lw.g (vB false) rfl (Lw.nil ?_))))
   cases hm
   exact Cw.ret (ret2 rfl rfl (Res.mk a6 ⟨.slice none 0 0, rfl, (owsN []).sub rfl rfl⟩))
  ·replace hm := bf hm hc8
   refine Cw.skip (Cw.seq (Cw.region (Lw.fa rfl (Lw.r rfl (R.ld (v := v0_0_) rfl rfl ((b1.up l4 rfl).cell rfl)) (Lw.m (vI x1) rfl ?_)))))
   obtain ⟨u9, e10, hm⟩ := ob hm
   refine Lw.r rfl (R.ix (α := Commit) (h0_0.ul a6) e10 rfl rfl rfl) (Lw.fa rfl ?_)
   obtain ⟨v12, c13, r14⟩ := (Commit.at2 ((h0_0.ul a6).at_ e10)).cell rfl
   refine Lw.r rfl (R.ld rfl rfl c13) ?_
   obtain ⟨z15, e16, hm⟩ := ob hm
   refine Lw.t rfl (T.call rfl (p32 (K := [0]) (k0 := 3) r14 e16)) ?_
   rintro v0_17 _ ⟨W17, rfl, l17, ⟨_, rfl, f17_0⟩⟩
   have a18 := a6.n l17
   refine Lw.g v0_17 rfl (Lw.g (vB true) rfl (Lw.nil ?_))
   cases hm
   exact Cw.ret (ret2 rfl rfl (Res.mk a18 ⟨v0_17, rfl, f17_0.s.sub rfl rfl⟩))
 ·refine Cw.region (Lw.r rfl (R.lda (cs := [v0_0_, v0_1_]) b1.cells rfl rfl) ?_)
  obtain ⟨z22, e23, hm⟩ := ob hm
  refine Lw.t rfl (T.call rfl (p30 (K := [0])  (Repo.rd (K := [0]) x0.Commits x0.Heads (h0_0.ul a2) (h0_1.ul a2)) e23)) ?_
  rintro _ _ ⟨W24, rfl, l24, rfl⟩
  have a25 := a2.n l24
  refine Lw.r rfl (R.not rfl) (Lw.m (vB (!z22)) rfl (bsplit (!z22) (fun hc27 => ?_) (fun hc27 => ?_)))
  ·replace hm := bt hm hc27
   refine Lw.ps hc27 rfl (Lw.ps hc27 rfl (Lw.ps hc27 rfl (Lw.ps hc27 rfl (Lw.ps hc27 rfl (Lw.ps hc27 rfl (Lw.ps hc27 rfl (Lw.p hc27 (vB true) rfl (Lw.nil (⟨?_, ⟨true, W24, rfl, l24, rfl, hm⟩⟩)))))))))
   iterate 12 (refine .u ?_)
   exact Agree.refl _
  ·replace hm := bf hm hc27
   refine Lw.wa hc27 rfl (Lw.m (vI x1) rfl (Lw.wa hc27 rfl (Lw.fa rfl (Lw.wa hc27 rfl (Lw.r rfl (R.ld (v := v0_0_) rfl rfl ((b1.up l24 rfl).cell rfl)) (Lw.wa hc27 rfl (Lw.ln x0.Commits (h0_0.ul a25) rfl (Lw.wa hc27 rfl (Lw.sub rfl (Lw.wa hc27 rfl ?_))))))))))
   obtain ⟨z29, e30, hm⟩ := ob hm
   refine Lw.t rfl (T.call rfl (p31 (K := [0])   e30)) ?_
   rintro _ _ ⟨W31, rfl, l31, rfl⟩
   refine Lw.wa hc27 rfl (Lw.r rfl (R.not rfl) (Lw.p hc27 (vB (!z29)) rfl (Lw.nil (⟨?_, ⟨(!z29), W31, rfl, (l24.trans l31), rfl, hm⟩⟩))))
   iterate 12 (refine .u ?_)
   exact Agree.refl _

theorem p9 {W : CW} {K : List Nat} {x0 : Vm.Repo} {v0_0_ : Value} {v0_1_ : Value} {x1 : Int} {k0 : Nat} {r : (List Vm.File) × Bool} (h0 : Rd W K [v0_0_, v0_1_] x0) (hm : Vm.spec_RepoTree x0 x1 = some r) : CallR Tryz.prog 9 [.agg [v0_0_, v0_1_].toArray, vI x1].toArray W.w (Res W [] fun W' v => ∃ (u0 : Value), v = .tuple [u0, vB r.2].toArray ∧ Ow W' k0 [] [u0] r.1) :=
 (c9 (V := W.view K []) (h0.view _) hm).ad (fk k0) fun _ _ ⟨u0, e, f0⟩ => ⟨u0, e, f0.back (fk_LL _)⟩

theorem c33 {V : CW} {x0 : List Str} {v0_ : Value} {x1 : List Str} {v1_ : Value} {r : Bool} (h0 : Rd V [0] [v0_] x0) (h1 : Rd V [0] [v1_] x1) (hm : Vm.laws_smTexts x0 x1 = some r) : CallR Tryz.prog 33 [v0_, v1_].toArray V.w (Res V LL fun Wf v => v = vB r) := by
 unfold Vm.laws_smTexts at hm
 obtain ⟨W0, hW0⟩ : ∃ W, W = V := ⟨V, rfl⟩
 subst hW0
 refine CallR.of Tryz.func33 rfl rfl rfl rfl (Cw.seq (Cw.region (Lw.g (vB false) rfl (Lw.nil (Cw.seq (Cw.seq (Cw.region (Lw.m v0_ rfl (Lw.ln x0 h0 rfl (Lw.m v1_ rfl (Lw.ln x1 h1 rfl (Lw.ne rfl (Lw.nil (Cw.cond (b := (((x0.length : Int) : Int) != ((x1.length : Int) : Int))) rfl (fun hc1 => ?_) (fun hc1 => ?_)))))))))))))))
 ·replace hm := bt hm hc1
  refine Cw.seq (Cw.region (Lw.g (vB false) rfl (Lw.nil ?_)))
  cases hm
  exact Cw.ret (ret1 rfl (Res.mk (Le.refl _ _) rfl))
 ·replace hm := bf hm hc1
  refine Cw.skip (Cw.seq (Cw.seq (Cw.region (Lw.g (vI 0) rfl (Lw.nil (Cw.block ?_))))))
  obtain ⟨K5, hK5, hm⟩ := jn_e hm
  refine Cw.loop 11 25 [4, 5] (fun m l w => ∃ (y2 : Bool) (y3 : Int) (W4 : CW), W4.w = w ∧ Le [] W0 W4 ∧ l = [vB y2, vI y3] ∧ Vm.laws_smTexts_l1 x0 x1 K5 m y2 y3 = some r) (((x0.length : Int) - 0).toNat + 1) ⟨false, 0, W0, rfl, Le.refl _ _, rfl, hm⟩ ?_
  rintro m6 _ _ σ ⟨y2, y3, W4, rfl, l4, rfl, hm⟩
  obtain _ | m6 := m6
  ·cases hm
  unfold Vm.laws_smTexts_l1 at hm
  have a7 := l4.o
  refine Cw.seq (Cw.seq (Cw.region (Lw.m (vI y3) rfl (Lw.m v0_ rfl (Lw.ln x0 (h0.ul a7) rfl (Lw.lt rfl (Lw.nil (Cw.cond (b := decide ((y3 : Int) < ((x0.length : Int) : Int))) rfl (fun hc9 => ?_) (fun hc9 => ?_)))))))))
  ·replace hm := bt hm hc9
   refine Cw.skip (Cw.seq (Cw.block (Cw.seq (Cw.draw [] [(0, 0), (1, 0), (2, 0), (3, 1), (4, 0), (5, 0), (6, 0), (7, 1), (8, 0)] mixed (by kernel_rfl) fun W10 l10 => ?_))))
   have a11 := a7.n l10
   refine Mw.p rfl rfl (fun _ => R.mv (v := v0_) rfl) (Mw.p rfl rfl (fun _ => R.mv (v := vI y3) rfl) ?_)
   obtain ⟨u12, e13, hm⟩ := ob hm
   refine Mw.p rfl rfl (fun _ => R.ix (α := Str) (h0.ul a11) e13 rfl rfl rfl) (Mw.q rfl rfl (fun _ c => R.ld rfl rfl (cl_cell ((h0.ul a11).at_ e13).1 rfl ((h0.ul a11).at_ e13).str c)) (Mw.p rfl rfl (fun _ => R.mv (v := v1_) rfl) (Mw.p rfl rfl (fun _ => R.mv (v := vI y3) rfl) ?_)))
   obtain ⟨u15, e16, hm⟩ := ob hm
   refine Mw.p rfl rfl (fun _ => R.ix (α := Str) (h1.ul a11) e16 rfl rfl rfl) (Mw.q rfl rfl (fun _ c => R.ld rfl rfl (cl_cell ((h1.ul a11).at_ e16).1 rfl ((h1.ul a11).at_ e16).str c)) (Mw.p rfl rfl (fun _ => R.sne rfl rfl) (Mw.nil (Cw.cond (b := (u12 != u15)) rfl (fun hc18 => ?_) (fun hc18 => ?_)))))
   ·replace hm := bt hm hc18
    refine Cw.seq (Cw.region (Lw.g (vB false) rfl (Lw.nil ?_)))
    cases hm
    exact Cw.ret (ret1 rfl (Res.mk a11 rfl))
   ·replace hm := bf hm hc18
    refine Cw.skip (Cw.region (Lw.m (vI y3) rfl (Lw.add rfl (Lw.g (vI (w64 (y3 + 1))) rfl (Lw.nil (⟨?_, m6, Nat.lt_succ_self m6, ⟨y2, w64 (y3 + 1), W10, rfl, (l4.trans l10), rfl, hm⟩⟩))))))
    iterate 18 (refine .u ?_)
    exact Agree.base
  ·replace hm := bf hm hc9
   refine Cw.exit ?_
   rw [hK5] at hm
   refine Cw.seq (Cw.region (Lw.g (vB true) rfl (Lw.nil ?_)))
   cases hm
   exact Cw.ret (ret1 rfl (Res.mk a7 rfl))

theorem p33 {W : CW} {K : List Nat} {x0 : List Str} {v0_ : Value} {x1 : List Str} {v1_ : Value} {r : Bool} (h0 : Rd W K [v0_] x0) (h1 : Rd W K [v1_] x1) (hm : Vm.laws_smTexts x0 x1 = some r) : CallR Tryz.prog 33 [v0_, v1_].toArray W.w (Res W [] fun W' v => v = vB r) :=
 (c33 (V := W.view K []) (h0.view _) (h1.view _) hm).ad (fk 0) fun _ _ e => e

theorem c10 {V : CW} {x0 : List Vm.File} {v0_ : Value} {x1 : List Vm.File} {v1_ : Value} {r : Bool} (h0 : Rd V [0] [v0_] x0) (h1 : Rd V [0] [v1_] x1) (hm : Vm.laws_smTree x0 x1 = some r) : CallR Tryz.prog 10 [v0_, v1_].toArray V.w (Res V LL fun Wf v => v = vB r) := by
 unfold Vm.laws_smTree at hm
 obtain ⟨W0, hW0⟩ : ∃ W, W = V := ⟨V, rfl⟩
 subst hW0
 refine CallR.of Tryz.func10 rfl rfl rfl rfl (Cw.seq (Cw.region (Lw.g (vB false) rfl (Lw.nil (Cw.seq (Cw.seq (Cw.region (Lw.m v0_ rfl (Lw.ln x0 h0 rfl (Lw.m v1_ rfl (Lw.ln x1 h1 rfl (Lw.ne rfl (Lw.nil (Cw.cond (b := (((x0.length : Int) : Int) != ((x1.length : Int) : Int))) rfl (fun hc1 => ?_) (fun hc1 => ?_)))))))))))))))
 ·replace hm := bt hm hc1
  refine Cw.seq (Cw.region (Lw.g (vB false) rfl (Lw.nil ?_)))
  cases hm
  exact Cw.ret (ret1 rfl (Res.mk (Le.refl _ _) rfl))
 ·replace hm := bf hm hc1
  refine Cw.skip (Cw.seq (Cw.seq (Cw.region (Lw.g (vI 0) rfl (Lw.nil (Cw.block ?_))))))
  obtain ⟨K5, hK5, hm⟩ := jn_e hm
  refine Cw.loop 11 41 [4, 5] (fun m l w => ∃ (y2 : Bool) (y3 : Int) (W4 : CW), W4.w = w ∧ Le [] W0 W4 ∧ l = [vB y2, vI y3] ∧ Vm.laws_smTree_l1 x0 x1 K5 m y2 y3 = some r) (((x0.length : Int) - 0).toNat + 1) ⟨false, 0, W0, rfl, Le.refl _ _, rfl, hm⟩ ?_
  rintro m6 _ _ σ ⟨y2, y3, W4, rfl, l4, rfl, hm⟩
  obtain _ | m6 := m6
  ·cases hm
  unfold Vm.laws_smTree_l1 at hm
  have a7 := l4.o
  refine Cw.seq (Cw.seq (Cw.region (Lw.m (vI y3) rfl (Lw.m v0_ rfl (Lw.ln x0 (h0.ul a7) rfl (Lw.lt rfl (Lw.nil (Cw.cond (b := decide ((y3 : Int) < ((x0.length : Int) : Int))) rfl (fun hc9 => ?_) (fun hc9 => ?_)))))))))
  ·replace hm := bt hm hc9
   refine Cw.skip (Cw.seq (Cw.block ?_))
   obtain ⟨K12, hK12, hm⟩ := jn_e hm
   refine Cw.join 17 41 [41] (fun l w => ∃ (y10 : Bool) (W11 : CW), W11.w = w ∧ Le [] W4 W11 ∧ l = [vB y10] ∧ K12 y10 = some r) ?_ ?_
   ·rintro _ _ σ ⟨y10, W11, rfl, l11, rfl, hm⟩
    rw [hK12] at hm
    have a13 := a7.n l11
    refine Cw.cond (b := y10) rfl (fun hc14 => ?_) (fun hc14 => ?_)
    ·replace hm := bt hm hc14
     refine Cw.seq (Cw.region (Lw.g (vB false) rfl (Lw.nil ?_)))
     cases hm
     exact Cw.ret (ret1 rfl (Res.mk a13 rfl))
    ·replace hm := bf hm hc14
     refine Cw.skip (Cw.region (Lw.m (vI y3) rfl (Lw.add rfl (Lw.g (vI (w64 (y3 + 1))) rfl (Lw.nil (⟨?_, m6, Nat.lt_succ_self m6, ⟨y2, w64 (y3 + 1), W11, rfl, (l4.trans l11), rfl, hm⟩⟩))))))
     iterate 4 (refine .u ?_)
     refine Agree.ov0 rfl ?_
     iterate 6 (refine .u ?_)
     exact Agree.base
   ·refine Cw.draw [] [(0, 0), (1, 0), (2, 0), (3, 0), (4, 1), (5, 0), (6, 0), (7, 0), (8, 0), (9, 1), (10, 0), (11, 0), (12, 0), (13, 0), (14, 0), (15, 0), (16, 1), (17, 0), (18, 0), (19, 0), (20, 0), (21, 1), (22, 2), (23, 0), (24, 0)] mixed (by kernel_rfl) fun W15 l15 => ?_
    have a16 := a7.n l15
    refine Mw.p rfl rfl (fun _ => R.mv (v := v0_) rfl) (Mw.p rfl rfl (fun _ => R.mv (v := vI y3) rfl) ?_)
    obtain ⟨u17, e18, hm⟩ := ob hm
    have s19 := h0.ul a16
    refine Mw.p rfl rfl (fun _ => R.ix (α := File) s19 e18 rfl rfl rfl) (Mw.p rfl rfl (fun _ => R.fa rfl) (Mw.q rfl rfl (fun _ c => R.ld rfl rfl (cl_cell (File.at0 (s19.at_ e18)).1 rfl (File.at0 (s19.at_ e18)).str c)) (Mw.p rfl rfl (fun _ => R.mv (v := v1_) rfl) (Mw.p rfl rfl (fun _ => R.mv (v := vI y3) rfl) ?_))))
    obtain ⟨u20, e21, hm⟩ := ob hm
    have s22 := h1.ul a16
    refine Mw.p rfl rfl (fun _ => R.ix (α := File) s22 e21 rfl rfl rfl) (Mw.p rfl rfl (fun _ => R.fa rfl) (Mw.q rfl rfl (fun _ c => R.ld rfl rfl (cl_cell (File.at0 (s22.at_ e21)).1 rfl (File.at0 (s22.at_ e21)).str c)) (Mw.p rfl rfl (fun _ => R.sne rfl rfl) (Mw.p rfl rfl (fun _ => R.mv (v := vB (u17.Path != u20.Path)) rfl) (bsplit (u17.Path != u20.Path) (fun hc23 => ?_) (fun hc23 => ?_))))))
    ·replace hm := bt hm hc23
     refine Mw.ps hc23 rfl rfl (Mw.ps hc23 rfl rfl (Mw.ps hc23 rfl rfl (Mw.ps hc23 rfl rfl (Mw.ps hc23 rfl rfl (Mw.ps hc23 rfl rfl (Mw.ps hc23 rfl rfl (Mw.ps hc23 rfl rfl (Mw.ps hc23 rfl rfl (Mw.ps hc23 rfl rfl (Mw.ps hc23 rfl rfl (Mw.ps hc23 rfl rfl (Mw.p rfl rfl (fun _ => R.pk hc23 rfl (v := vB true) rfl) (Mw.nil (⟨?_, ⟨true, W15, rfl, l15, rfl, hm⟩⟩))))))))))))))
     iterate 25 (refine .u ?_)
     exact Agree.refl _
    ·replace hm := bf hm hc23
     refine Mw.gp hc23 rfl rfl rfl rfl rfl (fun _ => R.mv (v := v0_) rfl) (Mw.gp hc23 rfl rfl rfl rfl rfl (fun _ => R.mv (v := vI y3) rfl) ?_)
     obtain ⟨u24, e25, hm⟩ := ob hm
     refine Mw.gp hc23 rfl rfl rfl rfl rfl (fun _ => R.ix (α := File) s19 e25 rfl rfl rfl) (Mw.gp hc23 rfl rfl rfl rfl rfl (fun _ => R.fa rfl) ?_)
     obtain ⟨v26, c27, r28⟩ := (File.at1 (s19.at_ e25)).cell rfl
     refine Mw.gq hc23 rfl rfl rfl rfl rfl (fun _ c => R.ld rfl rfl (cl_cell (File.at1 (s19.at_ e25)).1 rfl c27 c)) (Mw.gp hc23 rfl rfl rfl rfl rfl (fun _ => R.mv (v := v1_) rfl) (Mw.gp hc23 rfl rfl rfl rfl rfl (fun _ => R.mv (v := vI y3) rfl) ?_))
     obtain ⟨u29, e30, hm⟩ := ob hm
     refine Mw.gp hc23 rfl rfl rfl rfl rfl (fun _ => R.ix (α := File) s22 e30 rfl rfl rfl) (Mw.gp hc23 rfl rfl rfl rfl rfl (fun _ => R.fa rfl) ?_)
     obtain ⟨v31, c32, r33⟩ := (File.at1 (s22.at_ e30)).cell rfl
     refine Mw.gq hc23 rfl rfl rfl rfl rfl (fun _ c => R.ld rfl rfl (cl_cell (File.at1 (s22.at_ e30)).1 rfl c32 c)) ?_
     obtain ⟨z34, e35, hm⟩ := ob hm
     refine Mw.gt hc23 rfl rfl rfl rfl rfl (T.call rfl (p33 (K := [0])  r28 r33 e35)) ?_
     rintro _ _ ⟨W36, rfl, l36, rfl⟩
     refine ⟨⟨_, rfl, (l36.sub (M := []) rfl)⟩, ?_⟩
     refine Mw.gp hc23 rfl rfl rfl rfl rfl (fun _ => R.not rfl) (Mw.p rfl rfl (fun _ => R.pk hc23 rfl (v := vB (!z34)) rfl) (Mw.nil (⟨?_, ⟨(!z34), W36, rfl, (l15.trans l36), rfl, hm⟩⟩)))
     iterate 25 (refine .u ?_)
     exact Agree.refl _
  ·replace hm := bf hm hc9
   refine Cw.exit ?_
   rw [hK5] at hm
   refine Cw.seq (Cw.region (Lw.g (vB true) rfl (Lw.nil ?_)))
   cases hm
   exact Cw.ret (ret1 rfl (Res.mk a7 rfl))

theorem p10 {W : CW} {K : List Nat} {x0 : List Vm.File} {v0_ : Value} {x1 : List Vm.File} {v1_ : Value} {r : Bool} (h0 : Rd W K [v0_] x0) (h1 : Rd W K [v1_] x1) (hm : Vm.laws_smTree x0 x1 = some r) : CallR Tryz.prog 10 [v0_, v1_].toArray W.w (Res W [] fun W' v => v = vB r) :=
 (c10 (V := W.view K []) (h0.view _) (h1.view _) hm).ad (fk 0) fun _ _ e => e

theorem c3 {V : CW} {x0 : List Byte} {v0_ : Value} {r : Bool} (h0 : Rd V [0] [v0_] x0) (h99 : Gl 0 V [0]) (hm : Vm.laws_FnRepoTree x0 = some r) : CallR Tryz.prog 3 [v0_].toArray V.w (Res V LL fun Wf v => v = vB r) := by
 unfold Vm.laws_FnRepoTree at hm
 obtain ⟨W0, hW0⟩ : ∃ W, W = V := ⟨V, rfl⟩
 subst hW0
 refine CallR.of Tryz.func3 rfl rfl rfl rfl (Cw.seq (Cw.region (Lw.g (vB false) rfl (Lw.nil (Cw.seq (Cw.seq (Cw.region (Lw.m v0_ rfl (Lw.ln x0 h0 rfl (Lw.gt rfl (Lw.nil (Cw.cond (b := decide ((1048576 : Int) < ((x0.length : Int) : Int))) rfl (fun hc1 => ?_) (fun hc1 => ?_)))))))))))))
 ·replace hm := bt hm hc1
  refine Cw.seq (Cw.region (Lw.g (vB true) rfl (Lw.nil ?_)))
  cases hm
  exact Cw.ret (ret1 rfl (Res.mk (Le.refl _ _) rfl))
 ·replace hm := bf hm hc1
  refine Cw.skip (Cw.seq (Cw.region (Lw.m v0_ rfl ?_)))
  obtain ⟨z2, e3, hm⟩ := ob hm
  refine Lw.t rfl (T.call rfl (p7 (K := [0]) (k0 := 2) (k1 := 3) h0 e3)) ?_
  rintro _ _ ⟨W4, rfl, l4, ⟨v0_0_4, v0_1_4, rfl, f4_0, f4_1⟩⟩
  have a5 := l4.o
  refine Lw.m (.tuple [.agg [v0_0_4, v0_1_4].toArray, vI z2.2].toArray) rfl (Lw.r rfl (R.ext (vs := [.agg [v0_0_4, v0_1_4].toArray, vI z2.2]) (v := .agg [v0_0_4, v0_1_4].toArray) rfl rfl) (Lw.r rfl (R.ext (vs := [.agg [v0_0_4, v0_1_4].toArray, vI z2.2]) (v := vI z2.2) rfl rfl) (Lw.t rfl (T.alloc 4 (cs := [.slice none 0 0, .slice none 0 0]) rfl) ?_)))
  rintro _ _ ⟨g6, W6, rfl, rfl, l6, b6⟩
  have a7 := a5.n l6
  refine Lw.u (T.sta (vs := [v0_0_4, v0_1_4]) b6 rfl rfl (oc_cons (f4_0.up l6 rfl).oc (oc_cons (f4_1.up l6 rfl).oc oc_nil)) rfl rfl) ?_
  rintro _ _ ⟨W10, rfl, l10, b10⟩
  have a11 := a7.t l10 rfl
  have o12 := (f4_0.up l6 rfl).up l10 rfl
  have o13 := (f4_1.up l6 rfl).up l10 rfl
  refine Lw.g (vI z2.2) rfl (Lw.nil (Cw.seq (Cw.region (Lw.r rfl (R.lda (cs := [v0_0_4, v0_1_4]) b10.cells rfl rfl) (Lw.m (vI z2.2) rfl ?_)))))
  obtain ⟨z15, e16, hm⟩ := ob hm
  refine Lw.t rfl (T.call rfl (p8 (K := [0, 2, 3]) (k0 := 5) (x0 := (Vm.Repo.mk z2.1.Commits z2.1.Heads)) ((Repo.rd (K := [2, 3]) z2.1.Commits z2.1.Heads (o12.rd.sub (M := [2, 3]) rfl) (o13.rd.sub (M := [2, 3]) rfl)).sub (M := [0, 2, 3]) rfl) ((h99.ul a11).sub (M := [0, 2, 3]) rfl) e16)) ?_
  rintro _ _ ⟨W17, rfl, l17, ⟨v0_17, rfl, f17_0⟩⟩
  have a18 := a11.n l17
  refine Lw.m (.tuple [v0_17, vB z15.2].toArray) rfl (Lw.r rfl (R.ext (vs := [v0_17, vB z15.2]) (v := v0_17) rfl rfl) (Lw.r rfl (R.ext (vs := [v0_17, vB z15.2]) (v := vB z15.2) rfl rfl) (Lw.g v0_17 rfl (Lw.g (vB z15.2) rfl (Lw.nil (Cw.seq (Cw.region (Lw.r rfl (R.lda (cs := [v0_0_4, v0_1_4]) (b10.up l17 rfl).cells rfl rfl) (Lw.m (vI z2.2) rfl ?_)))))))))
  obtain ⟨z22, e23, hm⟩ := ob hm
  refine Lw.t rfl (T.call rfl (p9 (K := [2, 3]) (k0 := 6) (x0 := (Vm.Repo.mk z2.1.Commits z2.1.Heads)) (Repo.rd (K := [2, 3]) z2.1.Commits z2.1.Heads ((o12.up l17 rfl).rd.sub (M := [2, 3]) rfl) ((o13.up l17 rfl).rd.sub (M := [2, 3]) rfl)) e23)) ?_
  rintro _ _ ⟨W24, rfl, l24, ⟨v0_24, rfl, f24_0⟩⟩
  have a25 := a18.n l24
  refine Lw.m (.tuple [v0_24, vB z22.2].toArray) rfl (Lw.r rfl (R.ext (vs := [v0_24, vB z22.2]) (v := v0_24) rfl rfl) (Lw.r rfl (R.ext (vs := [v0_24, vB z22.2]) (v := vB z22.2) rfl rfl) (Lw.g v0_24 rfl (Lw.g (vB z22.2) rfl (Lw.nil (Cw.seq ?_))))))
  obtain ⟨K32, hK32, hm⟩ := jn_e hm
  refine Cw.join 29 41 [41] (fun l w => ∃ (y30 : Bool) (W31 : CW), W31.w = w ∧ Le [] W24 W31 ∧ l = [vB y30] ∧ K32 y30 = some r) ?_ ?_
  ·rintro _ _ σ ⟨y30, W31, rfl, l31, rfl, hm⟩
   rw [hK32] at hm
   have a33 := a25.n l31
   have o36 := (f17_0.up l24 rfl).up l31 rfl
   refine Cw.cond (b := y30) rfl (fun hc39 => ?_) (fun hc39 => ?_)
   ·replace hm := bt hm hc39
    obtain ⟨K42, hK42, hm⟩ := jn_e hm
    refine Cw.join 42 49 [2] (fun l w => ∃ (y40 : Bool) (W41 : CW), W41.w = w ∧ Le [] W31 W41 ∧ l = [vB y40] ∧ K42 y40 = some r) ?_ ?_
    ·rintro _ _ σ ⟨y40, W41, rfl, l41, rfl, hm⟩
     rw [hK42] at hm
     have a43 := a33.n l41
     cases hm
     exact Cw.ret (ret1 rfl (Res.mk a43 rfl))
    ·refine Cw.region (Lw.m (vB z15.2) rfl (Lw.m (vB z22.2) rfl (Lw.r rfl (R.beq rfl rfl) (Lw.m (vB (z15.2 == z22.2)) rfl (bsplit (z15.2 == z22.2) (fun hc49 => ?_) (fun hc49 => ?_))))))
     ·replace hm := bt hm hc49
      refine Lw.wa hc49 rfl (Lw.m v0_17 rfl (Lw.wa hc49 rfl (Lw.m v0_24 rfl (Lw.wa hc49 rfl ?_))))
      obtain ⟨z50, e51, hm⟩ := ob hm
      refine Lw.t rfl (T.call rfl (p10 (K := [5, 6])  (o36.rd.sub (M := [5, 6]) rfl) ((f24_0.up l31 rfl).rd.sub (M := [5, 6]) rfl) e51)) ?_
      rintro _ _ ⟨W52, rfl, l52, rfl⟩
      refine Lw.p hc49 (vB z50) rfl (Lw.g (vB z50) rfl (Lw.nil (⟨?_, ⟨z50, W52, rfl, l52, rfl, hm⟩⟩)))
      iterate 9 (refine .u ?_)
      exact Agree.refl _
     ·replace hm := bf hm hc49
      refine Lw.ps hc49 rfl (Lw.ps hc49 rfl (Lw.ps hc49 rfl (Lw.p hc49 (vB false) rfl (Lw.g (vB false) rfl (Lw.nil (⟨?_, ⟨false, W31, rfl, Le.refl _ _, rfl, hm⟩⟩))))))
      iterate 9 (refine .u ?_)
      exact Agree.refl _
   ·replace hm := bf hm hc39
    refine Cw.skip ?_
    obtain ⟨K61, hK61, hm⟩ := jn_e hm
    refine Cw.join 50 61 [2] (fun l w => ∃ (y59 : Bool) (W60 : CW), W60.w = w ∧ Le [] W31 W60 ∧ l = [vB y59] ∧ K61 y59 = some r) ?_ ?_
    ·rintro _ _ σ ⟨y59, W60, rfl, l60, rfl, hm⟩
     rw [hK61] at hm
     have a62 := a33.n l60
     cases hm
     exact Cw.ret (ret1 rfl (Res.mk a62 rfl))
    ·refine Cw.region (Lw.m v0_17 rfl ?_)
     obtain ⟨z69, e70, hm⟩ := ob hm
     refine Lw.t rfl (T.call rfl (p11 (K := [0, 5])  (o36.rd.sub (M := [0, 5]) rfl) ((h99.ul a33).sub (M := [0, 5]) rfl) e70)) ?_
     rintro _ _ ⟨W71, rfl, l71, rfl⟩
     have o73 := (((o12.up l17 rfl).up l24 rfl).up l31 rfl).up l71 rfl
     refine Lw.m (vB z69) rfl (bsplit z69 (fun hc78 => ?_) (fun hc78 => ?_))
     ·replace hm := bt hm hc78
      refine Lw.wa hc78 rfl (Lw.m v0_17 rfl (Lw.wa hc78 rfl (Lw.fa rfl (Lw.wa hc78 rfl (Lw.r rfl (R.ld (v := v0_0_4) rfl rfl (((((b10.up l17 rfl).up l24 rfl).up l31 rfl).up l71 rfl).cell rfl)) (Lw.wa hc78 rfl (Lw.m (vI z2.2) rfl (Lw.wa hc78 rfl ?_))))))))
      obtain ⟨u79, e80, hm⟩ := ob hm
      refine Lw.r rfl (R.ix (α := Commit) o73.rd e80 rfl rfl rfl) (Lw.wa hc78 rfl (Lw.fa rfl (Lw.wa hc78 rfl ?_)))
      obtain ⟨v81, c82, r83⟩ := (Commit.at2 (o73.rd.at_ e80)).cell rfl
      refine Lw.r rfl (R.ld rfl rfl c82) (Lw.wa hc78 rfl ?_)
      obtain ⟨z84, e85, hm⟩ := ob hm
      refine Lw.t rfl (T.call rfl (p10 (K := [2, 5])  ((o36.up l71 rfl).rd.sub (M := [2, 5]) rfl) (r83.sub (M := [2, 5]) rfl) e85)) ?_
      rintro _ _ ⟨W86, rfl, l86, rfl⟩
      refine Lw.p hc78 (vB z84) rfl (Lw.g (vB z84) rfl (Lw.nil (⟨?_, ⟨z84, W86, rfl, (l71.trans l86), rfl, hm⟩⟩)))
      iterate 13 (refine .u ?_)
      exact Agree.refl _
     ·replace hm := bf hm hc78
      refine Lw.ps hc78 rfl (Lw.ps hc78 rfl (Lw.ps hc78 rfl (Lw.ps hc78 rfl (Lw.ps hc78 rfl (Lw.ps hc78 rfl (Lw.ps hc78 rfl (Lw.ps hc78 rfl (Lw.p hc78 (vB false) rfl (Lw.g (vB false) rfl (Lw.nil (⟨?_, ⟨false, W71, rfl, l71, rfl, hm⟩⟩)))))))))))
      iterate 13 (refine .u ?_)
      exact Agree.refl _
  ·refine Cw.region (Lw.m (vB z15.2) rfl (Lw.m (vB z22.2) rfl (Lw.r rfl (R.bne rfl rfl) (Lw.m (vB (z15.2 != z22.2)) rfl (bsplit (z15.2 != z22.2) (fun hc93 => ?_) (fun hc93 => ?_))))))
   ·replace hm := bt hm hc93
    refine Lw.ps hc93 rfl (Lw.ps hc93 rfl (Lw.ps hc93 rfl (Lw.ps hc93 rfl (Lw.p hc93 (vB true) rfl (Lw.m (vB true) rfl (Lw.ps rfl rfl (Lw.ps rfl rfl (Lw.p rfl (vB true) rfl (Lw.nil (⟨?_, ⟨true, W24, rfl, Le.refl _ _, rfl, hm⟩⟩))))))))))
    iterate 13 (refine .u ?_)
    exact Agree.refl _
   ·replace hm := bf hm hc93
    refine Lw.wa hc93 rfl (Lw.m v0_17 rfl (Lw.wa hc93 rfl (Lw.m v0_24 rfl (Lw.wa hc93 rfl ?_))))
    obtain ⟨z94, e95, hm⟩ := ob hm
    refine Lw.t rfl (T.call rfl (p10 (K := [5, 6])  ((f17_0.up l24 rfl).rd.sub (M := [5, 6]) rfl) (f24_0.rd.sub (M := [5, 6]) rfl) e95)) ?_
    rintro _ _ ⟨W96, rfl, l96, rfl⟩
    refine Lw.wa hc93 rfl (Lw.r rfl (R.not rfl) (Lw.p hc93 (vB (!z94)) rfl (Lw.m (vB (!z94)) rfl (bsplit (!z94) (fun hc103 => ?_) (fun hc103 => ?_)))))
    ·replace hm := bt hm hc103
     refine Lw.ps hc103 rfl (Lw.ps hc103 rfl (Lw.p hc103 (vB true) rfl (Lw.nil (⟨?_, ⟨true, W96, rfl, l96, rfl, hm⟩⟩))))
     iterate 13 (refine .u ?_)
     exact Agree.refl _
    ·replace hm := bf hm hc103
     refine Lw.wa hc103 rfl (Lw.m (vB z15.2) rfl (Lw.wa hc103 rfl (Lw.r rfl (R.not rfl) (Lw.p hc103 (vB (!z15.2)) rfl (Lw.nil (⟨?_, ⟨(!z15.2), W96, rfl, l96, rfl, hm⟩⟩))))))
     iterate 13 (refine .u ?_)
     exact Agree.refl _

theorem p3 {W : CW} {K : List Nat} {x0 : List Byte} {v0_ : Value} {r : Bool} (h0 : Rd W K [v0_] x0) (h99 : Gl 0 W K) (hm : Vm.laws_FnRepoTree x0 = some r) : CallR Tryz.prog 3 [v0_].toArray W.w (Res W [] fun W' v => v = vB r) :=
 (c3 (V := W.view K []) (h0.view _) (h99.view _) hm).ad (fk 0) fun _ _ e => e

end Go.Sx
