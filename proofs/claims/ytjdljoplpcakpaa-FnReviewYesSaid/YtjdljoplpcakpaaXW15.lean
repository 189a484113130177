/- Walks: each function answers as its model, printed by a program of ours. Conditions: the arguments read as they are given. -/
import Derived.Test.YtjdljoplpcakpaaXTs
import Derived.Test.YtjdljoplpcakpaaXMd
import Derived.Test.YtjdljoplpcakpaaXW14
import Derived.Test.YtjdljoplpcakpaaXW3
namespace Go.Sx
open Go Go.Proofs Go.Vm Rp
set_option linter.unusedVariables false
set_option linter.unusedSimpArgs false

theorem c85 {V : CW} {x0 : Vm.Review} {v0_3_ : Value} {r : Bool} (h0 : Rd V [0] [vS x0.Branch, vS x0.Into, vS x0.By, v0_3_] x0) (hm : Vm.spec_l17Ok x0 = some r) : CallR Try.prog 85 [.agg [vS x0.Branch, vS x0.Into, vS x0.By, v0_3_].toArray].toArray V.w (Res V LL fun Wf v => v = vB r) := by
 unfold Vm.spec_l17Ok at hm
 obtain ⟨w0_0, he0, h0_3⟩ := Review.split h0
 simp only [List.cons.injEq, and_true, true_and] at he0
 obtain rfl := he0
 obtain ⟨W0, hW0⟩ : ∃ W, W = V := ⟨V, rfl⟩
 subst hW0
 refine CallR.of Try.func85 rfl rfl rfl rfl (Cw.seq (Cw.region (Lw.t rfl (T.box 2 (v := .agg [vS x0.Branch, vS x0.Into, vS x0.By, v0_3_].toArray) (cs := [vS x0.Branch, vS x0.Into, vS x0.By, v0_3_]) rfl rfl) ?_)))
 rintro _ _ ⟨g1, W1, rfl, rfl, l1, b1⟩
 have a2 := l1.o
 refine Lw.g (vB false) rfl (Lw.nil (Cw.seq (Cw.seq (Cw.region (Lw.g (vI 0) rfl (Lw.nil (Cw.block ?_)))))))
 obtain ⟨K6, hK6, hm⟩ := jn_e hm
 refine Cw.loop 4 35 [2, 3] (fun m l w => ∃ (y3 : Bool) (y4 : Int) (W5 : CW), W5.w = w ∧ Le [] W1 W5 ∧ l = [vB y3, vI y4] ∧ Vm.spec_l17Ok_l1 x0 K6 m y3 y4 = some r) (((x0.Yes.length : Int) - 0).toNat + 1) ⟨false, 0, W1, rfl, Le.refl _ _, rfl, hm⟩ ?_
 rintro m7 _ _ σ ⟨y3, y4, W5, rfl, l5, rfl, hm⟩
 obtain _ | m7 := m7
 ·cases hm
 unfold Vm.spec_l17Ok_l1 at hm
 have a8 := a2.n l5
 have b9 := b1.up l5 rfl
 refine Cw.seq (Cw.seq (Cw.region (Lw.m (vI y4) rfl (Lw.fa rfl (Lw.r rfl (R.ld (v := v0_3_) rfl rfl (b9.cell rfl)) (Lw.ln x0.Yes (h0_3.ul a8) rfl (Lw.lt rfl (Lw.nil (Cw.cond (b := decide ((y4 : Int) < ((x0.Yes.length : Int) : Int))) rfl (fun hc11 => ?_) (fun hc11 => ?_))))))))))
 ·replace hm := bt hm hc11
  refine Cw.skip (Cw.seq (Cw.block ?_))
  obtain ⟨K14, hK14, hm⟩ := jn_e hm
  refine Cw.join 11 35 [35] (fun l w => ∃ (y12 : Bool) (W13 : CW), W13.w = w ∧ Le [] W5 W13 ∧ l = [vB y12] ∧ K14 y12 = some r) ?_ ?_
  ·rintro _ _ σ ⟨y12, W13, rfl, l13, rfl, hm⟩
   rw [hK14] at hm
   have a15 := a8.n l13
   refine Cw.cond (b := y12) rfl (fun hc17 => ?_) (fun hc17 => ?_)
   ·replace hm := bt hm hc17
    refine Cw.seq (Cw.region (Lw.g (vB false) rfl (Lw.nil ?_)))
    cases hm
    exact Cw.ret (ret1 rfl (Res.mk a15 rfl))
   ·replace hm := bf hm hc17
    refine Cw.skip (Cw.region (Lw.m (vI y4) rfl (Lw.add rfl (Lw.g (vI (w64 (y4 + 1))) rfl (Lw.nil (⟨?_, m7, Nat.lt_succ_self m7, ⟨y3, w64 (y4 + 1), W13, rfl, (l5.trans l13), rfl, hm⟩⟩))))))
    iterate 3 (refine Agree.up rfl ?_)
    iterate 1 (refine Agree.up rfl ?_)
    refine Agree.ov0 rfl ?_
    iterate 5 (refine Agree.up rfl ?_)
    iterate 2 (refine Agree.up rfl ?_)
    exact Agree.base
  ·refine Cw.draw [] [(0, 0), (1, 1), (2, 0), (3, 0), (4, 1), (5, 2), (6, 0), (7, 0), (8, 0), (9, 0), (10, 0), (11, 0), (12, 1), (13, 0), (14, 0), (15, 1), (16, 0), (17, 1), (18, 0), (19, 0), (20, 0), (21, 1), (22, 0), (23, 0), (24, 0)] mixed (by kernel_rfl) fun W18 l18 => ?_
   have a19 := a8.n l18
   have b20 := b9.up l18 rfl
   refine Mw.p rfl rfl (fun _ => R.fa rfl) (Mw.q rfl rfl (fun _ c => R.ld (v := v0_3_) rfl rfl (b20.clc rfl rfl c)) (Mw.p rfl rfl (fun _ => R.mv (v := vI y4) rfl) ?_))
   obtain ⟨u21, e22, hm⟩ := ob hm
   have s23 := h0_3.ul a19
   refine Mw.p rfl rfl (fun _ => R.ix (α := Str) s23 e22 rfl rfl rfl) (Mw.q rfl rfl (fun _ c => R.ld rfl rfl (cl_cell (s23.at_ e22).1 rfl (s23.at_ e22).str c)) ?_)
   obtain ⟨z24, e25, hm⟩ := ob hm
   refine Mw.t rfl rfl (T.call rfl (p102 (K := [0])   e25)) ?_
   rintro _ _ ⟨W26, rfl, l26, rfl⟩
   refine ⟨⟨_, rfl, (l26.sub (M := []) rfl)⟩, ?_⟩
   refine Mw.p rfl rfl (fun _ => R.not rfl) (Mw.p rfl rfl (fun _ => R.mv (v := vB (!z24)) rfl) (bsplit (!z24) (fun hc29 => ?_) (fun hc29 => ?_)))
   ·replace hm := bt hm hc29
    refine Mw.pass' hc29 rfl rfl rfl rfl rfl rfl (Mw.pass' hc29 rfl rfl rfl rfl rfl rfl (Mw.pass' hc29 rfl rfl rfl rfl rfl rfl (Mw.passU rfl rfl rfl rfl rfl (Mw.passU rfl rfl rfl rfl rfl (Mw.passU rfl rfl rfl rfl rfl (Mw.passU rfl rfl rfl rfl rfl (Mw.passU rfl rfl rfl rfl rfl (Mw.passU rfl rfl rfl rfl rfl (Mw.passU rfl rfl rfl rfl rfl (Mw.passU rfl rfl rfl rfl rfl (Mw.passU rfl rfl rfl rfl rfl (Mw.passU rfl rfl rfl rfl rfl (Mw.passU rfl rfl rfl rfl rfl (Mw.passU rfl rfl rfl rfl rfl (Mw.pass' hc29 rfl rfl rfl rfl rfl rfl (Mw.p rfl rfl (fun _ => R.pk hc29 rfl (v := vB true) rfl) (Mw.nil (⟨?_, ⟨true, W26, rfl, (l18.trans l26), rfl, hm⟩⟩))))))))))))))))))
    iterate 25 (refine Agree.up rfl ?_)
    exact Agree.refl _
   ·replace hm := bf hm hc29
    refine Mw.gp hc29 rfl rfl rfl rfl rfl (fun _ => R.mv (v := vI y4) rfl) (Mw.gp hc29 rfl rfl rfl rfl rfl (fun _ => R.gt rfl rfl) (Mw.gp hc29 rfl rfl rfl rfl rfl (fun _ => R.mv (v := vB (decide ((0 : Int) < (y4 : Int)))) rfl) (bsplit (decide ((0 : Int) < (y4 : Int))) (fun hc30 => ?_) (fun hc30 => ?_))))
    ·replace hm := bt hm hc30
     refine Mw.gp hc30 rfl rfl rfl rfl rfl (fun _ => R.fa rfl) (Mw.gq hc30 rfl rfl rfl rfl rfl (fun _ c => R.ld (v := v0_3_) rfl rfl (b20.clc rfl rfl c)) (Mw.gp hc30 rfl rfl rfl rfl rfl (fun _ => R.mv (v := vI y4) rfl) ?_))
     obtain ⟨u31, e32, hm⟩ := ob hm
     refine Mw.gp hc30 rfl rfl rfl rfl rfl (fun _ => R.ix (α := Str) s23 e32 rfl rfl rfl) (Mw.gq hc30 rfl rfl rfl rfl rfl (fun _ c => R.ld rfl rfl (cl_cell (s23.at_ e32).1 rfl (s23.at_ e32).str c)) (Mw.gp hc30 rfl rfl rfl rfl rfl (fun _ => R.fa rfl) (Mw.gq hc30 rfl rfl rfl rfl rfl (fun _ c => R.ld (v := v0_3_) rfl rfl (b20.clc rfl rfl c)) (Mw.gp hc30 rfl rfl rfl rfl rfl (fun _ => R.mv (v := vI y4) rfl) (Mw.gp hc30 rfl rfl rfl rfl rfl (fun _ => R.sub rfl rfl) ?_)))))
     obtain ⟨u33, e34, hm⟩ := ob hm
     refine Mw.gp hc30 rfl rfl rfl rfl rfl (fun _ => R.ix (α := Str) s23 e34 rfl rfl rfl) (Mw.gq hc30 rfl rfl rfl rfl rfl (fun _ c => R.ld rfl rfl (cl_cell (s23.at_ e34).1 rfl (s23.at_ e34).str c)) (Mw.gp hc30 rfl rfl rfl rfl rfl (fun _ => R.sle rfl rfl) (Mw.gp hc29 rfl rfl rfl rfl rfl (fun _ => R.pk hc30 rfl (v := vB (Op.bytesLess u31 u33 || u31 == u33)) rfl) (Mw.p rfl rfl (fun _ => R.pk hc29 rfl (v := vB (Op.bytesLess u31 u33 || u31 == u33)) rfl) (Mw.nil (⟨?_, ⟨(Op.bytesLess u31 u33 || u31 == u33), W26, rfl, (l18.trans l26), rfl, hm⟩⟩))))))
     iterate 25 (refine Agree.up rfl ?_)
     exact Agree.refl _
    ·replace hm := bf hm hc30
     refine Mw.pass' hc30 rfl rfl rfl rfl rfl rfl (Mw.pass' hc30 rfl rfl rfl rfl rfl rfl (Mw.pass' hc30 rfl rfl rfl rfl rfl rfl (Mw.pass' hc30 rfl rfl rfl rfl rfl rfl (Mw.pass' hc30 rfl rfl rfl rfl rfl rfl (Mw.pass' hc30 rfl rfl rfl rfl rfl rfl (Mw.pass' hc30 rfl rfl rfl rfl rfl rfl (Mw.pass' hc30 rfl rfl rfl rfl rfl rfl (Mw.pass' hc30 rfl rfl rfl rfl rfl rfl (Mw.pass' hc30 rfl rfl rfl rfl rfl rfl (Mw.pass' hc30 rfl rfl rfl rfl rfl rfl (Mw.pass' hc30 rfl rfl rfl rfl rfl rfl (Mw.gp hc29 rfl rfl rfl rfl rfl (fun _ => R.pk hc30 rfl (v := vB false) rfl) (Mw.p rfl rfl (fun _ => R.pk hc29 rfl (v := vB false) rfl) (Mw.nil (⟨?_, ⟨false, W26, rfl, (l18.trans l26), rfl, hm⟩⟩)))))))))))))))
     iterate 25 (refine Agree.up rfl ?_)
     exact Agree.refl _
 ·replace hm := bf hm hc11
  refine Cw.exit ?_
  rw [hK6] at hm
  obtain ⟨K37, hK37, hm⟩ := jn_e hm
  refine Cw.join 36 61 [2] (fun l w => ∃ (y35 : Bool) (W36 : CW), W36.w = w ∧ Le [] W5 W36 ∧ l = [vB y35] ∧ K37 y35 = some r) ?_ ?_
  ·rintro _ _ σ ⟨y35, W36, rfl, l36, rfl, hm⟩
   rw [hK37] at hm
   have a38 := a8.n l36
   cases hm
   exact Cw.ret (ret1 rfl (Res.mk a38 rfl))
  ·refine Cw.region (Lw.fa rfl (Lw.r rfl (R.ld (v := vS x0.Branch) rfl rfl (b9.cell rfl)) ?_))
   obtain ⟨z40, e41, hm⟩ := ob hm
   refine Lw.t rfl (T.call rfl (p102 (K := [0])   e41)) ?_
   rintro _ _ ⟨W42, rfl, l42, rfl⟩
   have a43 := a8.n l42
   refine Lw.m (vB z40) rfl (bsplit z40 (fun hc45 => ?_) (fun hc45 => ?_))
   ·replace hm := bt hm hc45
    refine Lw.want' hc45 rfl rfl rfl rfl (Lw.fa rfl (Lw.want' hc45 rfl rfl rfl rfl (Lw.r rfl (R.ld (v := vS x0.Into) rfl rfl ((b9.up l42 rfl).cell rfl)) (Lw.want' hc45 rfl rfl rfl rfl ?_))))
    obtain ⟨z46, e47, hm⟩ := ob hm
    refine Lw.t rfl (T.call rfl (p102 (K := [0])   e47)) ?_
    rintro _ _ ⟨W48, rfl, l48, rfl⟩
    have a49 := a43.n l48
    have b50 := (b9.up l42 rfl).up l48 rfl
    refine Lw.p hc45 (vB z46) rfl (Lw.m (vB z46) rfl (bsplit z46 (fun hc51 => ?_) (fun hc51 => ?_)))
    ·replace hm := bt hm hc51
     refine Lw.want' hc51 rfl rfl rfl rfl (Lw.fa rfl (Lw.want' hc51 rfl rfl rfl rfl (Lw.r rfl (R.ld (v := vS x0.By) rfl rfl (b50.cell rfl)) (Lw.want' hc51 rfl rfl rfl rfl ?_))))
     obtain ⟨z52, e53, hm⟩ := ob hm
     refine Lw.t rfl (T.call rfl (p102 (K := [0])   e53)) ?_
     rintro _ _ ⟨W54, rfl, l54, rfl⟩
     have a55 := a49.n l54
     have b56 := b50.up l54 rfl
     refine Lw.p hc51 (vB z52) rfl (Lw.m (vB z52) rfl (bsplit z52 (fun hc57 => ?_) (fun hc57 => ?_)))
     ·replace hm := bt hm hc57
      refine Lw.want' hc57 rfl rfl rfl rfl (Lw.fa rfl (Lw.want' hc57 rfl rfl rfl rfl (Lw.r rfl (R.ld (v := vS x0.Branch) rfl rfl (b56.cell rfl)) (Lw.want' hc57 rfl rfl rfl rfl (Lw.fa rfl (Lw.want' hc57 rfl rfl rfl rfl (Lw.r rfl (R.ld (v := vS x0.Into) rfl rfl (b56.cell rfl)) (Lw.want' hc57 rfl rfl rfl rfl (Lw.sne rfl (Lw.p hc57 (vB (x0.Branch != x0.Into)) rfl (Lw.m (vB (x0.Branch != x0.Into)) rfl (bsplit (x0.Branch != x0.Into) (fun hc58 => ?_) (fun hc58 => ?_)))))))))))))
      ·replace hm := bt hm hc58
       refine Lw.want' hc58 rfl rfl rfl rfl (Lw.fa rfl (Lw.want' hc58 rfl rfl rfl rfl (Lw.r rfl (R.ld (v := v0_3_) rfl rfl (b56.cell rfl)) (Lw.want' hc58 rfl rfl rfl rfl (Lw.ln x0.Yes (h0_3.ul a55) rfl (Lw.want' hc58 rfl rfl rfl rfl (Lw.le rfl (Lw.p hc58 (vB (decide (((x0.Yes.length : Int) : Int) ≤ (5 : Int)))) rfl (Lw.g (vB (decide (((x0.Yes.length : Int) : Int) ≤ (5 : Int)))) rfl (Lw.nil (⟨?_, ⟨decide (((x0.Yes.length : Int) : Int) ≤ (5 : Int)), W54, rfl, (l42.trans (l48.trans l54)), rfl, hm⟩⟩)))))))))))
       iterate 27 (refine Agree.up rfl ?_)
       exact Agree.refl _
      ·replace hm := bf hm hc58
       refine Lw.pass' hc58 rfl rfl rfl rfl rfl rfl rfl (Lw.pass' hc58 rfl rfl rfl rfl rfl rfl rfl (Lw.pass' hc58 rfl rfl rfl rfl rfl rfl rfl (Lw.pass' hc58 rfl rfl rfl rfl rfl rfl rfl (Lw.p hc58 (vB false) rfl (Lw.g (vB false) rfl (Lw.nil (⟨?_, ⟨false, W54, rfl, (l42.trans (l48.trans l54)), rfl, hm⟩⟩)))))))
       iterate 27 (refine Agree.up rfl ?_)
       exact Agree.refl _
     ·replace hm := bf hm hc57
      refine Lw.pass' hc57 rfl rfl rfl rfl rfl rfl rfl (Lw.pass' hc57 rfl rfl rfl rfl rfl rfl rfl (Lw.pass' hc57 rfl rfl rfl rfl rfl rfl rfl (Lw.pass' hc57 rfl rfl rfl rfl rfl rfl rfl (Lw.pass' hc57 rfl rfl rfl rfl rfl rfl rfl (Lw.p hc57 (vB false) rfl (Lw.m (vB false) rfl (Lw.pass' rfl rfl rfl rfl rfl rfl rfl rfl (Lw.pass' rfl rfl rfl rfl rfl rfl rfl rfl (Lw.pass' rfl rfl rfl rfl rfl rfl rfl rfl (Lw.pass' rfl rfl rfl rfl rfl rfl rfl rfl (Lw.p rfl (vB false) rfl (Lw.g (vB false) rfl (Lw.nil (⟨?_, ⟨false, W54, rfl, (l42.trans (l48.trans l54)), rfl, hm⟩⟩))))))))))))))
      iterate 27 (refine Agree.up rfl ?_)
      exact Agree.refl _
    ·replace hm := bf hm hc51
     refine Lw.pass' hc51 rfl rfl rfl rfl rfl rfl rfl (Lw.pass' hc51 rfl rfl rfl rfl rfl rfl rfl (Lw.pass' hc51 rfl rfl rfl rfl rfl rfl rfl (Lw.p hc51 (vB false) rfl (Lw.m (vB false) rfl (Lw.pass' rfl rfl rfl rfl rfl rfl rfl rfl (Lw.pass' rfl rfl rfl rfl rfl rfl rfl rfl (Lw.pass' rfl rfl rfl rfl rfl rfl rfl rfl (Lw.pass' rfl rfl rfl rfl rfl rfl rfl rfl (Lw.pass' rfl rfl rfl rfl rfl rfl rfl rfl (Lw.p rfl (vB false) rfl (Lw.m (vB false) rfl (Lw.pass' rfl rfl rfl rfl rfl rfl rfl rfl (Lw.pass' rfl rfl rfl rfl rfl rfl rfl rfl (Lw.pass' rfl rfl rfl rfl rfl rfl rfl rfl (Lw.pass' rfl rfl rfl rfl rfl rfl rfl rfl (Lw.p rfl (vB false) rfl (Lw.g (vB false) rfl (Lw.nil (⟨?_, ⟨false, W48, rfl, (l42.trans l48), rfl, hm⟩⟩)))))))))))))))))))
     iterate 27 (refine Agree.up rfl ?_)
     exact Agree.refl _
   ·replace hm := bf hm hc45
    refine Lw.pass' hc45 rfl rfl rfl rfl rfl rfl rfl (Lw.pass' hc45 rfl rfl rfl rfl rfl rfl rfl (Lw.pass' hc45 rfl rfl rfl rfl rfl rfl rfl (Lw.p hc45 (vB false) rfl (Lw.m (vB false) rfl (Lw.pass' rfl rfl rfl rfl rfl rfl rfl rfl (Lw.pass' rfl rfl rfl rfl rfl rfl rfl rfl (Lw.pass' rfl rfl rfl rfl rfl rfl rfl rfl (Lw.p rfl (vB false) rfl (Lw.m (vB false) rfl (Lw.pass' rfl rfl rfl rfl rfl rfl rfl rfl (Lw.pass' rfl rfl rfl rfl rfl rfl rfl rfl (Lw.pass' rfl rfl rfl rfl rfl rfl rfl rfl (Lw.pass' rfl rfl rfl rfl rfl rfl rfl rfl (Lw.pass' rfl rfl rfl rfl rfl rfl rfl rfl (Lw.p rfl (vB false) rfl (Lw.m (vB false) rfl (Lw.pass' rfl rfl rfl rfl rfl rfl rfl rfl (Lw.pass' rfl rfl rfl rfl rfl rfl rfl rfl (Lw.pass' rfl rfl rfl rfl rfl rfl rfl rfl (Lw.pass' rfl rfl rfl rfl rfl rfl rfl rfl (Lw.p rfl (vB false) rfl (Lw.g (vB false) rfl (Lw.nil (⟨?_, ⟨false, W42, rfl, l42, rfl, hm⟩⟩))))))))))))))))))))))))
    iterate 27 (refine Agree.up rfl ?_)
    exact Agree.refl _

theorem p85 {W : CW} {K : List Nat} {x0 : Vm.Review} {v0_3_ : Value} {r : Bool} (h0 : Rd W K [vS x0.Branch, vS x0.Into, vS x0.By, v0_3_] x0) (hm : Vm.spec_l17Ok x0 = some r) : CallR Try.prog 85 [.agg [vS x0.Branch, vS x0.Into, vS x0.By, v0_3_].toArray].toArray W.w (Res W [] fun W' v => v = vB r) :=
 (c85 (V := W.view K []) (h0.view _) hm).ad (fk 0) fun _ _ e => e

theorem c86 {V : CW} {x0 : List Str} {v0_ : Value} {x1 : Str} {r : (List Str)} (h0 : Rd V [0] [v0_] x0) (hm : Vm.spec_l5Put x0 x1 = some r) : CallR Try.prog 86 [v0_, vS x1].toArray V.w (Res V LL fun Wf v => ∃ (u0 : Value), v = u0 ∧ Rd Wf [0] [u0] r) := by
 unfold Vm.spec_l5Put at hm
 obtain ⟨W0, hW0⟩ : ∃ W, W = V := ⟨V, rfl⟩
 subst hW0
 refine CallR.of Try.func86 rfl rfl rfl rfl (Cw.seq (Cw.region (Lw.g (.slice none 0 0) rfl (Lw.nil (Cw.seq (Cw.region (Lw.g (vI 0) rfl (Lw.nil (Cw.seq (Cw.block ?_))))))))))
 obtain ⟨K3, hK3, hm⟩ := jn_e hm
 refine Cw.loop 7 20 [5] (fun m l w => ∃ (y1 : Int) (W2 : CW), W2.w = w ∧ Le [] W0 W2 ∧ l = [vI y1] ∧ Vm.spec_l5Put_l1 x0 x1 K3 m y1 = some r) (x0.length + 1) ⟨0, W0, rfl, Le.refl _ _, rfl, hm⟩ ?_
 rintro m4 _ _ σ ⟨y1, W2, rfl, l2, rfl, hm⟩
 obtain _ | m4 := m4
 ·cases hm
 unfold Vm.spec_l5Put_l1 at hm
 have a5 := l2.o
 refine Cw.seq ?_
 obtain ⟨K8, hK8, hm⟩ := jn_e hm
 refine Cw.join 7 18 [18] (fun l w => ∃ (y6 : Bool) (W7 : CW), W7.w = w ∧ Le [] W2 W7 ∧ l = [vB y6] ∧ K8 y6 = some r) ?_ ?_
 ·rintro _ _ σ ⟨y6, W7, rfl, l7, rfl, hm⟩
  rw [hK8] at hm
  have a9 := a5.n l7
  refine Cw.cond (b := y6) rfl (fun hc10 => ?_) (fun hc10 => ?_)
  ·replace hm := bt hm hc10
   refine Cw.skip (Cw.block (Cw.region (Lw.m (vI y1) rfl (Lw.add rfl (Lw.g (vI (w64 (y1 + 1))) rfl (Lw.nil (⟨?_, m4, Nat.lt_succ_self m4, ⟨w64 (y1 + 1), W7, rfl, (l2.trans l7), rfl, hm⟩⟩)))))))
   iterate 3 (refine Agree.up rfl ?_)
   iterate 1 (refine Agree.up rfl ?_)
   refine Agree.ov0 rfl ?_
   iterate 1 (refine Agree.up rfl ?_)
   exact Agree.base
  ·replace hm := bf hm hc10
   refine Cw.exit ?_
   rw [hK3] at hm
   refine Cw.seq ?_
   obtain ⟨K13, hK13, hm⟩ := jn_e hm
   refine Cw.join 21 32 [32] (fun l w => ∃ (y11 : Bool) (W12 : CW), W12.w = w ∧ Le [] W7 W12 ∧ l = [vB y11] ∧ K13 y11 = some r) ?_ ?_
   ·rintro _ _ σ ⟨y11, W12, rfl, l12, rfl, hm⟩
    rw [hK13] at hm
    have a14 := a9.n l12
    refine Cw.cond (b := y11) rfl (fun hc15 => ?_) (fun hc15 => ?_)
    ·replace hm := bt hm hc15
     refine Cw.seq (Cw.region (Lw.m v0_ rfl (Lw.g v0_ rfl (Lw.nil ?_))))
     cases hm
     exact Cw.ret (ret1 rfl (Res.mk a14 ⟨v0_, rfl, (h0.ul a14)⟩))
    ·replace hm := bf hm hc15
     refine Cw.skip (Cw.seq (Cw.region (Lw.t rfl (T.lit0 (α := Str) 2 []) ?_)))
     rintro v17 _ ⟨W17, rfl, l17, o17⟩
     have a18 := a14.n l17
     refine Lw.m v0_ rfl (Lw.m (vI y1) rfl ?_)
     obtain ⟨q19, e20, hm⟩ := ob hm
     have r23 := (h0.ul a18).cutV e20
     refine Lw.r rfl (R.sl (h0.ul a18) e20 rfl (.inl ⟨rfl, rfl⟩) (.inr rfl)) ?_
     obtain ⟨q24, e25, hm⟩ := ob hm
     refine Lw.t rfl (T.appP (α := Str) o17 r23 rfl rfl e25) ?_
     rintro v26 _ ⟨W26, rfl, l26, o26⟩
     have a27 := a18.t l26 rfl
     refine Lw.g v26 rfl (Lw.nil (Cw.seq (Cw.region (Lw.m v26 rfl (Lw.m (vS x1) rfl (Lw.t rfl (T.bs 3 [vS x1] (cs := [vS x1]) rfl rfl (bsv rfl)) ?_))))))
     rintro _ _ ⟨g28, W28, rfl, rfl, l28, b28⟩
     have a29 := a27.n l28
     obtain ⟨q31, e32, hm⟩ := ob hm
     refine Lw.t rfl (T.app1S (α := Str) (K' := []) (o26.up l28 rfl) b28 (rdS _) rfl rfl e32) ?_
     rintro v33 _ ⟨W33, rfl, l33, o33⟩
     have a34 := a29.t l33 rfl
     refine Lw.g v33 rfl (Lw.nil (Cw.seq (Cw.region (Lw.m v33 rfl (Lw.m v0_ rfl (Lw.m (vI y1) rfl ?_))))))
     obtain ⟨q36, e37, hm⟩ := ob hm
     have r40 := (h0.ul a34).cutV e37
     refine Lw.r rfl (R.sl (h0.ul a34) e37 rfl (.inr rfl) (.inl ⟨rfl, rfl⟩)) ?_
     obtain ⟨q41, e42, hm⟩ := ob hm
     refine Lw.t rfl (T.appP (α := Str) o33 r40 rfl rfl e42) ?_
     rintro v43 _ ⟨W43, rfl, l43, o43⟩
     have a44 := a34.t l43 rfl
     refine Lw.g v43 rfl (Lw.nil ?_)
     obtain ⟨W46, ew46, l46, dj46⟩ := dyeE _ 2
     have s47 : Rd (α := List Str) W46 [0] [v43] q41 := by rw [dj46]; exact (o43.rd.dye 2).sub (M := [0]) rfl
     have a48 := a44.t l46 rfl
     cases hm
     rw [← ew46]
     exact Cw.ret (ret1 rfl (Res.mk a48 ⟨v43, rfl, s47⟩))
   ·refine Cw.region (Lw.m (vI y1) rfl (Lw.m v0_ rfl (Lw.ln x0 (h0.ul a9) rfl (Lw.lt rfl (Lw.m (vB (decide ((y1 : Int) < ((x0.length : Int) : Int)))) rfl (bsplit (decide ((y1 : Int) < ((x0.length : Int) : Int))) (fun hc51 => ?_) (fun hc51 => ?_)))))))
    ·replace hm := bt hm hc51
     refine Lw.want' hc51 rfl rfl rfl rfl (Lw.m v0_ rfl (Lw.want' hc51 rfl rfl rfl rfl (Lw.m (vI y1) rfl (Lw.want' hc51 rfl rfl rfl rfl ?_))))
     obtain ⟨u52, e53, hm⟩ := ob hm
     refine Lw.r rfl (R.ix (α := Str) (h0.ul a9) e53 rfl rfl rfl) (Lw.want' hc51 rfl rfl rfl rfl (Lw.r rfl (R.ld rfl rfl ((h0.ul a9).at_ e53).str) (Lw.want' hc51 rfl rfl rfl rfl (Lw.m (vS x1) rfl (Lw.want' hc51 rfl rfl rfl rfl (Lw.seq rfl (Lw.p hc51 (vB (u52 == x1)) rfl (Lw.nil (⟨?_, ⟨(u52 == x1), W7, rfl, Le.refl _ _, rfl, hm⟩⟩)))))))))
     iterate 12 (refine Agree.up rfl ?_)
     exact Agree.refl _
    ·replace hm := bf hm hc51
     refine Lw.pass' hc51 rfl rfl rfl rfl rfl rfl rfl (Lw.pass' hc51 rfl rfl rfl rfl rfl rfl rfl (Lw.pass' hc51 rfl rfl rfl rfl rfl rfl rfl (Lw.pass' hc51 rfl rfl rfl rfl rfl rfl rfl (Lw.pass' hc51 rfl rfl rfl rfl rfl rfl rfl (Lw.pass' hc51 rfl rfl rfl rfl rfl rfl rfl (Lw.p hc51 (vB false) rfl (Lw.nil (⟨?_, ⟨false, W7, rfl, Le.refl _ _, rfl, hm⟩⟩))))))))
     iterate 12 (refine Agree.up rfl ?_)
     exact Agree.refl _
 ·refine Cw.region (Lw.m (vI y1) rfl (Lw.m v0_ rfl (Lw.ln x0 (h0.ul a5) rfl (Lw.lt rfl (Lw.m (vB (decide ((y1 : Int) < ((x0.length : Int) : Int)))) rfl (bsplit (decide ((y1 : Int) < ((x0.length : Int) : Int))) (fun hc55 => ?_) (fun hc55 => ?_)))))))
  ·replace hm := bt hm hc55
   refine Lw.want' hc55 rfl rfl rfl rfl (Lw.m v0_ rfl (Lw.want' hc55 rfl rfl rfl rfl (Lw.m (vI y1) rfl (Lw.want' hc55 rfl rfl rfl rfl ?_))))
   obtain ⟨u56, e57, hm⟩ := ob hm
   refine Lw.r rfl (R.ix (α := Str) (h0.ul a5) e57 rfl rfl rfl) (Lw.want' hc55 rfl rfl rfl rfl (Lw.r rfl (R.ld rfl rfl ((h0.ul a5).at_ e57).str) (Lw.want' hc55 rfl rfl rfl rfl (Lw.m (vS x1) rfl (Lw.want' hc55 rfl rfl rfl rfl (Lw.r rfl (R.slt rfl rfl) (Lw.p hc55 (vB (Op.bytesLess u56 x1)) rfl (Lw.nil (⟨?_, ⟨Op.bytesLess u56 x1, W2, rfl, Le.refl _ _, rfl, hm⟩⟩)))))))))
   iterate 12 (refine Agree.up rfl ?_)
   exact Agree.refl _
  ·replace hm := bf hm hc55
   refine Lw.pass' hc55 rfl rfl rfl rfl rfl rfl rfl (Lw.pass' hc55 rfl rfl rfl rfl rfl rfl rfl (Lw.pass' hc55 rfl rfl rfl rfl rfl rfl rfl (Lw.pass' hc55 rfl rfl rfl rfl rfl rfl rfl (Lw.pass' hc55 rfl rfl rfl rfl rfl rfl rfl (Lw.pass' hc55 rfl rfl rfl rfl rfl rfl rfl (Lw.p hc55 (vB false) rfl (Lw.nil (⟨?_, ⟨false, W2, rfl, Le.refl _ _, rfl, hm⟩⟩))))))))
   iterate 12 (refine Agree.up rfl ?_)
   exact Agree.refl _

theorem p86 {W : CW} {K : List Nat} {x0 : List Str} {v0_ : Value} {x1 : Str} {r : (List Str)} (h0 : Rd W K [v0_] x0) (hm : Vm.spec_l5Put x0 x1 = some r) : CallR Try.prog 86 [v0_, vS x1].toArray W.w (Res W [] fun W' v => ∃ (u0 : Value), v = u0 ∧ Rd W' (0 :: K) [u0] r) :=
 (c86 (V := W.view K []) (h0.view _) hm).ad (fk 0) fun _ _ ⟨u0, e, f0⟩ => ⟨u0, e, f0.back rfl⟩

theorem c48 {V : CW} {x0 : Vm.Review} {v0_3_ : Value} {x1 : Str} {r : Vm.Review × Bool} (h0 : Rd V [0] [vS x0.Branch, vS x0.Into, vS x0.By, v0_3_] x0) (hm : Vm.spec_ReviewYes x0 x1 = some r) : CallR Try.prog 48 [.agg [vS x0.Branch, vS x0.Into, vS x0.By, v0_3_].toArray, vS x1].toArray V.w (Res V LL fun Wf v => ∃ (u0_3 : Value), v = .tuple [.agg [vS r.1.Branch, vS r.1.Into, vS r.1.By, u0_3].toArray, vB r.2].toArray ∧ Rd Wf [0] [u0_3] r.1.Yes) := by
 unfold Vm.spec_ReviewYes at hm
 obtain ⟨w0_0, he0, h0_3⟩ := Review.split h0
 simp only [List.cons.injEq, and_true, true_and] at he0
 obtain rfl := he0
 obtain ⟨W0, hW0⟩ : ∃ W, W = V := ⟨V, rfl⟩
 subst hW0
 refine CallR.of Try.func48 rfl rfl rfl rfl (Cw.seq (Cw.region (Lw.t rfl (T.box 2 (v := .agg [vS x0.Branch, vS x0.Into, vS x0.By, v0_3_].toArray) (cs := [vS x0.Branch, vS x0.Into, vS x0.By, v0_3_]) rfl rfl) ?_)))
 rintro _ _ ⟨g1, W1, rfl, rfl, l1, b1⟩
 have a2 := l1.o
 refine Lw.t rfl (T.alloc 3 (cs := [vS ([] : Str), vS ([] : Str), vS ([] : Str), .slice none 0 0]) rfl) ?_
 rintro _ _ ⟨g3, W3, rfl, rfl, l3, b3⟩
 have a4 := a2.n l3
 refine Lw.g (vB false) rfl (Lw.nil (Cw.seq (Cw.seq (Cw.region (Lw.r rfl (R.lda (cs := [vS x0.Branch, vS x0.Into, vS x0.By, v0_3_]) (b1.up l3 rfl).cells rfl rfl) ?_)))))
 obtain ⟨z7, e8, hm⟩ := ob hm
 refine Lw.t rfl (T.call rfl (p85 (K := [0])  (Review.rd (K := [0]) x0.Branch x0.Into x0.By x0.Yes (h0_3.ul a4)) e8)) ?_
 rintro _ _ ⟨W9, rfl, l9, rfl⟩
 have a10 := a4.n l9
 refine Lw.r rfl (R.not rfl) (Lw.nil (Cw.cond (b := (!z7)) rfl (fun hc13 => ?_) (fun hc13 => ?_)))
 ·replace hm := bt hm hc13
  refine Cw.seq (Cw.region (Lw.r rfl (R.bd (zs := [vS ([] : Str), vS ([] : Str), vS ([] : Str), .slice none 0 0]) (cs := [vS ([] : Str), vS ([] : Str), vS ([] : Str), .slice none 0 0]) [] rfl rfl rfl bp_nil) (Lw.u (T.sta (vs := [vS ([] : Str), vS ([] : Str), vS ([] : Str), .slice none 0 0]) (b3.up l9 rfl) rfl rfl (oc_cons rfl (oc_cons rfl (oc_cons rfl (oc_cons rfl oc_nil)))) rfl rfl) ?_)))
  rintro _ _ ⟨W14, rfl, l14, b14⟩
  have a15 := a10.t l14 rfl
  refine Lw.g (vB false) rfl (Lw.nil ?_)
  cases hm
  exact Cw.ret (retA2 rfl b14 rfl (Res.mk a15 ⟨.slice none 0 0, rfl, (rdN (K := [0]))⟩))
 ·replace hm := bf hm hc13
  refine Cw.skip (Cw.seq ?_)
  obtain ⟨q25, e26, hm⟩ := ob hm
  obtain ⟨z32, e33, hm⟩ := ob hm
  refine Cw.par [[], [0], [], [2], [], [4], [], [], [7], [6, 7, 8], [], [6, 7, 8, 9, 10], [0, 1, 2, 3, 4, 5, 6, 7, 8, 9, 10, 11], [], [0, 1, 2, 3, 4, 5, 6, 7, 8, 9, 10, 11, 12, 13]] [[], [0], [], [2], [], [4], [], [], [7], [6, 8], [], [9, 10], [1, 3, 5, 11], [], [11, 12, 13]] [[], [], [], [], [], [], [], [], [], [4], [], [], [], [], [5]] [[0], [1], [2], [3], [4], [5], [6], [7], [8], [9], [10], [11], [11, 12], [13], [11, 13]] [[], [], [], [], [], [], [4], [], [], [4], [], [0, 4], [], [5], [5]] [0, 1, 2, 3, 4, 5, 7, 8, 9, 10, 11, 12, 14] [4, 5] [fun vs W => (vs 0) = ptr ((bx g1).add 0), fun vs W => (vs 1) = vS x0.Branch, fun vs W => (vs 2) = ptr ((bx g1).add 1), fun vs W => (vs 3) = vS x0.Into, fun vs W => (vs 4) = ptr ((bx g1).add 2), fun vs W => (vs 5) = vS x0.By, fun vs W => Ow W 4 [] [(vs 6)] ([] : List Str), fun vs W => (vs 7) = ptr ((bx g1).add 3), fun vs W => (vs 8) = v0_3_, fun vs W => Ow W 4 [] [(vs 9)] q25, fun vs W => (vs 10) = vS x1, fun vs W => Rd W [0, 4] [(vs 11)] z32, fun vs W => (vs 12) = .agg [vS x0.Branch, vS x0.Into, vS x0.By, (vs 11)].toArray, fun vs W => (vs 13) = ptr (bx (pg (vs 13))) ∧ Bx W 5 (pg (vs 13)) [vS ([] : Str), vS ([] : Str), vS ([] : Str), .slice none 0 0], fun vs W => (vs 13) = ptr (bx (pg (vs 13))) ∧ Bx W 5 (pg (vs 13)) [vS x0.Branch, vS x0.Into, vS x0.By, (vs 11)]] [] mixed (by kernel_rfl) rfl AllF.nil ?_
  intro W50 l50
  have a51 := a10.n l50
  have b52 := ((b1.up l3 rfl).up l9 rfl).up l50 rfl
  refine ⟨(Steps.cons ?_ (Steps.cons ?_ (Steps.cons ?_ (Steps.cons ?_ (Steps.cons ?_ (Steps.cons ?_ (Steps.cons ?_ (Steps.cons ?_ (Steps.cons ?_ (Steps.cons ?_ (Steps.cons ?_ (Steps.cons ?_ (Steps.cons ?_ (Steps.cons ?_ (Steps.cons ?_ Steps.nil))))))))))))))), (Sups.cons (fun vs vs' W W' _ hv l hd h => by (show (vs' 0) = ptr ((bx g1).add 0)); rw [hv 0 (anyb rfl)]; exact h) (Sups.cons (fun vs vs' W W' _ hv l hd h => by (show (vs' 1) = vS x0.Branch); rw [hv 1 (anyb rfl)]; exact h) (Sups.cons (fun vs vs' W W' _ hv l hd h => by (show (vs' 2) = ptr ((bx g1).add 1)); rw [hv 2 (anyb rfl)]; exact h) (Sups.cons (fun vs vs' W W' _ hv l hd h => by (show (vs' 3) = vS x0.Into); rw [hv 3 (anyb rfl)]; exact h) (Sups.cons (fun vs vs' W W' _ hv l hd h => by (show (vs' 4) = ptr ((bx g1).add 2)); rw [hv 4 (anyb rfl)]; exact h) (Sups.cons (fun vs vs' W W' _ hv l hd h => by (show (vs' 5) = vS x0.By); rw [hv 5 (anyb rfl)]; exact h) (Sups.cons (fun vs vs' W W' _ hv l hd h => by (show Ow W' 4 [] [(vs' 6)] ([] : List Str)); rw [hv 6 (anyb rfl)]; exact h.upv l (disj_mem hd (c := 4) rfl)) (Sups.cons (fun vs vs' W W' _ hv l hd h => by (show (vs' 7) = ptr ((bx g1).add 3)); rw [hv 7 (anyb rfl)]; exact h) (Sups.cons (fun vs vs' W W' _ hv l hd h => by (show (vs' 8) = v0_3_); rw [hv 8 (anyb rfl)]; exact h) (Sups.cons (fun vs vs' W W' _ hv l hd h => by (show Ow W' 4 [] [(vs' 9)] q25); rw [hv 9 (anyb rfl)]; exact h.upv l (disj_mem hd (c := 4) rfl)) (Sups.cons (fun vs vs' W W' _ hv l hd h => by (show (vs' 10) = vS x1); rw [hv 10 (anyb rfl)]; exact h) (Sups.cons (fun vs vs' W W' _ hv l hd h => by (show Rd W' [0, 4] [(vs' 11)] z32); rw [hv 11 (anyb rfl)]; exact h.up l (disj_sub hd (K := [0, 4]) rfl)) (Sups.cons (fun vs vs' W W' _ hv l hd h => by (show (vs' 12) = .agg [vS x0.Branch, vS x0.Into, vS x0.By, (vs' 11)].toArray); rw [hv 11 (anyb rfl), hv 12 (anyb rfl)]; exact h) (Sups.cons (fun vs vs' W W' _ hv l hd h => by (show (vs' 13) = ptr (bx (pg (vs' 13))) ∧ Bx W' 5 (pg (vs' 13)) [vS ([] : Str), vS ([] : Str), vS ([] : Str), .slice none 0 0]); rw [hv 13 (anyb rfl)]; exact ⟨h.1, h.2.up l (disj_mem hd (c := 5) rfl)⟩) (Sups.cons (fun vs vs' W W' _ hv l hd h => by (show (vs' 13) = ptr (bx (pg (vs' 13))) ∧ Bx W' 5 (pg (vs' 13)) [vS x0.Branch, vS x0.Into, vS x0.By, (vs' 11)]); rw [hv 11 (anyb rfl), hv 13 (anyb rfl)]; exact ⟨h.1, h.2.up l (disj_mem hd (c := 5) rfl)⟩) Sups.nil))))))))))))))), ?_⟩
  ·intro vs W lW hN
   obtain ⟨W54, hW54⟩ : ∃ X, X = W := ⟨W, rfl⟩
   subst hW54
   refine Tr.mono (Run.tr (R.fa rfl)) ?_
   rintro _ _ ⟨hu, rfl⟩
   obtain rfl := hu.symm
   exact ⟨W54, rfl, Le.refl _ _, (show (ptr ((bx g1).add 0) : Value) = ptr ((bx g1).add 0) from rfl)⟩
  ·intro vs W lW hN
   obtain ⟨W58, hW58⟩ : ∃ X, X = W := ⟨W, rfl⟩
   subst hW58
   have e0_ : vs 0 = ptr ((bx g1).add 0) := (hN 0 (anyb rfl))
   obtain ⟨vs, rfl⟩ := up_eq e0_
   refine Tr.mono (Run.tr (R.ld (v := vS x0.Branch) rfl rfl ((b52.up lW rfl).cell rfl))) ?_
   rintro _ _ ⟨hu, rfl⟩
   obtain rfl := hu.symm
   exact ⟨W58, rfl, Le.refl _ _, (show (vS x0.Branch : Value) = vS x0.Branch from rfl)⟩
  ·intro vs W lW hN
   obtain ⟨W62, hW62⟩ : ∃ X, X = W := ⟨W, rfl⟩
   subst hW62
   refine Tr.mono (Run.tr (R.fa rfl)) ?_
   rintro _ _ ⟨hu, rfl⟩
   obtain rfl := hu.symm
   exact ⟨W62, rfl, Le.refl _ _, (show (ptr ((bx g1).add 1) : Value) = ptr ((bx g1).add 1) from rfl)⟩
  ·intro vs W lW hN
   obtain ⟨W66, hW66⟩ : ∃ X, X = W := ⟨W, rfl⟩
   subst hW66
   have e2_ : vs 2 = ptr ((bx g1).add 1) := (hN 2 (anyb rfl))
   obtain ⟨vs, rfl⟩ := up_eq e2_
   refine Tr.mono (Run.tr (R.ld (v := vS x0.Into) rfl rfl ((b52.up lW rfl).cell rfl))) ?_
   rintro _ _ ⟨hu, rfl⟩
   obtain rfl := hu.symm
   exact ⟨W66, rfl, Le.refl _ _, (show (vS x0.Into : Value) = vS x0.Into from rfl)⟩
  ·intro vs W lW hN
   obtain ⟨W70, hW70⟩ : ∃ X, X = W := ⟨W, rfl⟩
   subst hW70
   refine Tr.mono (Run.tr (R.fa rfl)) ?_
   rintro _ _ ⟨hu, rfl⟩
   obtain rfl := hu.symm
   exact ⟨W70, rfl, Le.refl _ _, (show (ptr ((bx g1).add 2) : Value) = ptr ((bx g1).add 2) from rfl)⟩
  ·intro vs W lW hN
   obtain ⟨W74, hW74⟩ : ∃ X, X = W := ⟨W, rfl⟩
   subst hW74
   have e4_ : vs 4 = ptr ((bx g1).add 2) := (hN 4 (anyb rfl))
   obtain ⟨vs, rfl⟩ := up_eq e4_
   refine Tr.mono (Run.tr (R.ld (v := vS x0.By) rfl rfl ((b52.up lW rfl).cell rfl))) ?_
   rintro _ _ ⟨hu, rfl⟩
   obtain rfl := hu.symm
   exact ⟨W74, rfl, Le.refl _ _, (show (vS x0.By : Value) = vS x0.By from rfl)⟩
  ·intro vs W lW hN
   obtain ⟨W78, hW78⟩ : ∃ X, X = W := ⟨W, rfl⟩
   subst hW78
   refine Tr.mono (T.lit0 (α := Str) 4 []) ?_
   rintro v82 _ ⟨W82, rfl, l82, o82⟩
   exact ⟨W82, rfl, l82, (show Ow W82 4 [] [v82] ([] : List Str) from o82)⟩
  ·intro vs W lW hN
   obtain ⟨W86, hW86⟩ : ∃ X, X = W := ⟨W, rfl⟩
   subst hW86
   refine Tr.mono (Run.tr (R.fa rfl)) ?_
   rintro _ _ ⟨hu, rfl⟩
   obtain rfl := hu.symm
   exact ⟨W86, rfl, Le.refl _ _, (show (ptr ((bx g1).add 3) : Value) = ptr ((bx g1).add 3) from rfl)⟩
  ·intro vs W lW hN
   obtain ⟨W90, hW90⟩ : ∃ X, X = W := ⟨W, rfl⟩
   subst hW90
   have e7_ : vs 7 = ptr ((bx g1).add 3) := (hN 7 (anyb rfl))
   obtain ⟨vs, rfl⟩ := up_eq e7_
   refine Tr.mono (Run.tr (R.ld (v := v0_3_) rfl rfl ((b52.up lW rfl).cell rfl))) ?_
   rintro _ _ ⟨hu, rfl⟩
   obtain rfl := hu.symm
   exact ⟨W90, rfl, Le.refl _ _, (show (v0_3_ : Value) = v0_3_ from rfl)⟩
  ·intro vs W lW hN
   obtain ⟨W94, hW94⟩ : ∃ X, X = W := ⟨W, rfl⟩
   subst hW94
   have a95 := a51.t lW rfl
   obtain ⟨pv6, e6_⟩ : ∃ v, vs 6 = v := ⟨_, rfl⟩
   obtain ⟨vs, rfl⟩ := up_eq e6_
   have o98 : Ow W94 4 [] [pv6] ([] : List Str) := (hN 6 (anyb rfl))
   have e8_ : vs 8 = v0_3_ := (hN 8 (anyb rfl))
   obtain ⟨vs, rfl⟩ := up_eq e8_
   refine Tr.mono (T.appP (α := Str) o98 (h0_3.ul a95) rfl rfl e26) ?_
   rintro v99 _ ⟨W99, rfl, l99, o99⟩
   exact ⟨W99, rfl, l99, (show Ow W99 4 [] [v99] q25 from o99)⟩
  ·intro vs W lW hN
   obtain ⟨W104, hW104⟩ : ∃ X, X = W := ⟨W, rfl⟩
   subst hW104
   refine Tr.mono (Run.tr (R.mv (v := vS x1) rfl)) ?_
   rintro _ _ ⟨hu, rfl⟩
   obtain rfl := hu.symm
   exact ⟨W104, rfl, Le.refl _ _, (show (vS x1 : Value) = vS x1 from rfl)⟩
  ·intro vs W lW hN
   obtain ⟨W108, hW108⟩ : ∃ X, X = W := ⟨W, rfl⟩
   subst hW108
   obtain ⟨pv9, e9_⟩ : ∃ v, vs 9 = v := ⟨_, rfl⟩
   obtain ⟨vs, rfl⟩ := up_eq e9_
   have o112 : Ow W108 4 [] [pv9] q25 := (hN 9 (anyb rfl))
   have e10_ : vs 10 = vS x1 := (hN 10 (anyb rfl))
   obtain ⟨vs, rfl⟩ := up_eq e10_
   refine Tr.mono (T.call rfl (p86 (K := [4])  o112.rd e33)) ?_
   rintro v0_113 _ ⟨W113, rfl, l113, ⟨_, rfl, f113_0⟩⟩
   have s114 := f113_0.sub (M := [0, 4]) rfl
   exact ⟨W113, rfl, l113, (show Rd W113 [0, 4] [v0_113] z32 from s114)⟩
  ·intro vs W lW hN
   obtain ⟨W119, hW119⟩ : ∃ X, X = W := ⟨W, rfl⟩
   subst hW119
   have e1_ : vs 1 = vS x0.Branch := (hN 1 (anyb rfl))
   obtain ⟨vs, rfl⟩ := up_eq e1_
   have e3_ : vs 3 = vS x0.Into := (hN 3 (anyb rfl))
   obtain ⟨vs, rfl⟩ := up_eq e3_
   have e5_ : vs 5 = vS x0.By := (hN 5 (anyb rfl))
   obtain ⟨vs, rfl⟩ := up_eq e5_
   obtain ⟨pv11, e11_⟩ : ∃ v, vs 11 = v := ⟨_, rfl⟩
   obtain ⟨vs, rfl⟩ := up_eq e11_
   have o123 : Rd W119 [0, 4] [pv11] z32 := (hN 11 (anyb rfl))
   refine Tr.mono (Run.tr (R.bd (zs := [vS ([] : Str), vS ([] : Str), vS ([] : Str), .slice none 0 0]) (cs := [vS x0.Branch, vS x0.Into, vS x0.By, pv11]) [(0, vS x0.Branch), (1, vS x0.Into), (2, vS x0.By), (3, pv11)] rfl rfl rfl (bp_cons rfl rfl (bp_cons rfl rfl (bp_cons rfl rfl (bp_cons o123.oc rfl bp_nil)))))) ?_
   rintro _ _ ⟨hu, rfl⟩
   obtain rfl := hu.symm
   exact ⟨W119, rfl, Le.refl _ _, (show (.agg [vS x0.Branch, vS x0.Into, vS x0.By, pv11].toArray : Value) = .agg [vS x0.Branch, vS x0.Into, vS x0.By, pv11].toArray from rfl)⟩
  ·intro vs W lW hN
   obtain ⟨W124, hW124⟩ : ∃ X, X = W := ⟨W, rfl⟩
   subst hW124
   refine Tr.mono (T.alloc 5 (cs := [vS ([] : Str), vS ([] : Str), vS ([] : Str), .slice none 0 0]) rfl) ?_
   rintro _ _ ⟨g128, W128, rfl, rfl, l128, b128⟩
   exact ⟨W128, rfl, l128, (show (ptr (bx g128) : Value) = ptr (bx g128) ∧ Bx W128 5 g128 [vS ([] : Str), vS ([] : Str), vS ([] : Str), .slice none 0 0] from ⟨rfl, b128⟩)⟩
  ·intro vs W lW hN
   obtain ⟨W132, hW132⟩ : ∃ X, X = W := ⟨W, rfl⟩
   subst hW132
   obtain ⟨pv11, e11_⟩ : ∃ v, vs 11 = v := ⟨_, rfl⟩
   obtain ⟨vs, rfl⟩ := up_eq e11_
   have o136 : Rd W132 [0, 4] [pv11] z32 := (hN 11 (anyb rfl))
   have e12_ : vs 12 = .agg [vS x0.Branch, vS x0.Into, vS x0.By, pv11].toArray := (hN 12 (anyb rfl))
   obtain ⟨vs, rfl⟩ := up_eq e12_
   obtain ⟨pg13, e13_⟩ : ∃ pg13, vs 13 = ptr (bx pg13) := ⟨_, ((hN 13 (anyb rfl))).1⟩
   obtain ⟨vs, rfl⟩ := up_eq e13_
   have o137 : Bx W132 5 pg13 [vS ([] : Str), vS ([] : Str), vS ([] : Str), .slice none 0 0] := (hN 13 (anyb rfl)).2
   refine Tr.mono (T.sta (vs := [vS x0.Branch, vS x0.Into, vS x0.By, pv11]) o137 rfl rfl (oc_cons rfl (oc_cons rfl (oc_cons rfl (oc_cons o136.oc oc_nil)))) rfl rfl) ?_
   rintro _ _ ⟨W138, rfl, l138, b138⟩
   exact ⟨W138, rfl, l138, (show (ptr (bx pg13)) = ptr (bx pg13) ∧ Bx W138 5 pg13 [vS x0.Branch, vS x0.Into, vS x0.By, pv11] from ⟨rfl, b138⟩)⟩
  ·intro vs W lW hN
   obtain ⟨W142, hW142⟩ : ∃ X, X = W := ⟨W, rfl⟩
   subst hW142
   have a143 := a51.t lW rfl
   obtain ⟨l142, hl142⟩ : ∃ x, x = lW := ⟨lW, rfl⟩
   have e0_ : vs 0 = ptr ((bx g1).add 0) := (hN 0 (anyb rfl))
   obtain ⟨vs, rfl⟩ := up_eq e0_
   have e1_ : vs 1 = vS x0.Branch := (hN 1 (anyb rfl))
   obtain ⟨vs, rfl⟩ := up_eq e1_
   have e2_ : vs 2 = ptr ((bx g1).add 1) := (hN 2 (anyb rfl))
   obtain ⟨vs, rfl⟩ := up_eq e2_
   have e3_ : vs 3 = vS x0.Into := (hN 3 (anyb rfl))
   obtain ⟨vs, rfl⟩ := up_eq e3_
   have e4_ : vs 4 = ptr ((bx g1).add 2) := (hN 4 (anyb rfl))
   obtain ⟨vs, rfl⟩ := up_eq e4_
   have e5_ : vs 5 = vS x0.By := (hN 5 (anyb rfl))
   obtain ⟨vs, rfl⟩ := up_eq e5_
   have e7_ : vs 7 = ptr ((bx g1).add 3) := (hN 7 (anyb rfl))
   obtain ⟨vs, rfl⟩ := up_eq e7_
   have e8_ : vs 8 = v0_3_ := (hN 8 (anyb rfl))
   obtain ⟨vs, rfl⟩ := up_eq e8_
   obtain ⟨pv9, e9_⟩ : ∃ v, vs 9 = v := ⟨_, rfl⟩
   obtain ⟨vs, rfl⟩ := up_eq e9_
   have o146 : Ow W142 4 [] [pv9] q25 := (hN 9 (anyb rfl))
   have e10_ : vs 10 = vS x1 := (hN 10 (anyb rfl))
   obtain ⟨vs, rfl⟩ := up_eq e10_
   obtain ⟨pv11, e11_⟩ : ∃ v, vs 11 = v := ⟨_, rfl⟩
   obtain ⟨vs, rfl⟩ := up_eq e11_
   have o147 : Rd W142 [0, 4] [pv11] z32 := (hN 11 (anyb rfl))
   have e12_ : vs 12 = .agg [vS x0.Branch, vS x0.Into, vS x0.By, pv11].toArray := (hN 12 (anyb rfl))
   obtain ⟨vs, rfl⟩ := up_eq e12_
   obtain ⟨pg13, e13_⟩ : ∃ pg13, vs 13 = ptr (bx pg13) := ⟨_, (hN 14 (anyb rfl)).1⟩
   obtain ⟨vs, rfl⟩ := up_eq e13_
   have o148 : Bx W142 5 pg13 [vS x0.Branch, vS x0.Into, vS x0.By, pv11] := (hN 14 (anyb rfl)).2
   refine Cw.seq (Cw.seq (Cw.region (Lw.r rfl (R.lda (cs := [vS x0.Branch, vS x0.Into, vS x0.By, pv11]) o148.cells rfl rfl) ?_)))
   obtain ⟨z149, e150, hm⟩ := ob hm
   refine Lw.t rfl (T.call rfl (p85 (K := [0, 4])  (x0 := (Vm.Review.mk x0.Branch x0.Into x0.By z32)) (Review.rd (K := [0, 4]) x0.Branch x0.Into x0.By z32 o147) e150)) ?_
   rintro _ _ ⟨W151, rfl, l151, rfl⟩
   have a152 := a143.n l151
   have b155 := (((b3.up l9 rfl).up l50 rfl).up lW rfl).up l151 rfl
   refine Lw.r rfl (R.not rfl) (Lw.nil (Cw.cond (b := (!z149)) rfl (fun hc157 => ?_) (fun hc157 => ?_)))
   ·replace hm := bt hm hc157
    refine Cw.seq (Cw.region (Lw.t rfl (T.lit0 (α := Str) 6 []) ?_))
    rintro v158 _ ⟨W158, rfl, l158, o158⟩
    have a159 := a152.n l158
    refine Lw.fa rfl (Lw.r rfl (R.ld (v := v0_3_) rfl rfl ((((b52.up lW rfl).up l151 rfl).up l158 rfl).cell rfl)) ?_)
    obtain ⟨q164, e165, hm⟩ := ob hm
    refine Lw.t rfl (T.appP (α := Str) o158 (h0_3.ul a159) rfl rfl e165) ?_
    rintro v166 _ ⟨W166, rfl, l166, o166⟩
    have a168 := a159.t l166 rfl
    refine Lw.fa rfl (Lw.u (T.st (j := 3) (v := v166) (((o148.up l151 rfl).up l158 rfl).up l166 rfl) rfl rfl o166.oc rfl rfl) ?_)
    rintro _ _ ⟨W173, rfl, l173, b173⟩
    have a174 := a168.t l173 rfl
    refine Lw.nil (Cw.seq (Cw.region (Lw.r rfl (R.lda (cs := [vS x0.Branch, vS x0.Into, vS x0.By, v166]) b173.cells rfl rfl) (Lw.u (T.sta (vs := [vS x0.Branch, vS x0.Into, vS x0.By, v166]) (((b155.up l158 rfl).up l166 rfl).up l173 rfl) rfl rfl (oc_cons rfl (oc_cons rfl (oc_cons rfl (oc_cons (o166.up l173 rfl).oc oc_nil)))) rfl rfl) ?_))))
    rintro _ _ ⟨W179, rfl, l179, b179⟩
    have a180 := a174.t l179 rfl
    refine Lw.g (vB false) rfl (Lw.nil ?_)
    obtain ⟨W185, ew185, l185, dj185⟩ := dyeE _ 6
    have s186 : Rd (α := List Str) W185 [0] [v166] q164 := by rw [dj185]; exact (((o166.up l173 rfl).up l179 rfl).rd.dye 6).sub (M := [0]) rfl
    have a187 := a180.t l185 rfl
    cases hm
    rw [← ew185]
    exact Cw.ret (retA2 rfl (b179.up l185 rfl) rfl (Res.mk a187 ⟨v166, rfl, s186⟩))
   ·replace hm := bf hm hc157
    refine Cw.skip (Cw.seq (Cw.region (Lw.r rfl (R.lda (cs := [vS x0.Branch, vS x0.Into, vS x0.By, pv11]) (o148.up l151 rfl).cells rfl rfl) (Lw.u (T.sta (vs := [vS x0.Branch, vS x0.Into, vS x0.By, pv11]) b155 rfl rfl (oc_cons rfl (oc_cons rfl (oc_cons rfl (oc_cons o147.oc oc_nil)))) rfl rfl) ?_))))
    rintro _ _ ⟨W192, rfl, l192, b192⟩
    have a193 := a152.t l192 rfl
    refine Lw.g (vB true) rfl (Lw.nil ?_)
    have s197 := o147.up ((l151.sub (M := [3]) rfl).trans (l192.sub (M := [3]) rfl)) rfl
    obtain ⟨W198, ew198, l198, dj198⟩ := dyeE _ 4
    have s199 : Rd W198 [0] [pv11] z32 := by rw [dj198]; exact (s197.dye 4).sub (M := [0]) rfl
    have s200 : Rd (α := List Str) W198 [0] [pv9] q25 := by rw [dj198]; exact (((o146.up l151 rfl).up l192 rfl).rd.dye 4).sub (M := [0]) rfl
    have a201 := a193.t l198 rfl
    cases hm
    rw [← ew198]
    exact Cw.ret (retA2 rfl (b192.up l198 rfl) rfl (Res.mk a201 ⟨pv11, rfl, s199⟩))

theorem p48 {W : CW} {K : List Nat} {x0 : Vm.Review} {v0_3_ : Value} {x1 : Str} {r : Vm.Review × Bool} (h0 : Rd W K [vS x0.Branch, vS x0.Into, vS x0.By, v0_3_] x0) (hm : Vm.spec_ReviewYes x0 x1 = some r) : CallR Try.prog 48 [.agg [vS x0.Branch, vS x0.Into, vS x0.By, v0_3_].toArray, vS x1].toArray W.w (Res W [] fun W' v => ∃ (u0_3 : Value), v = .tuple [.agg [vS r.1.Branch, vS r.1.Into, vS r.1.By, u0_3].toArray, vB r.2].toArray ∧ Rd W' (0 :: K) [u0_3] r.1.Yes) :=
 (c48 (V := W.view K []) (h0.view _) hm).ad (fk 0) fun _ _ ⟨u0_3, e, f0⟩ => ⟨u0_3, e, f0.back rfl⟩

theorem c49 {V : CW} {x0 : Vm.Review} {v0_3_ : Value} {x1 : Vm.Review} {v1_3_ : Value} {r : Bool} (h0 : Rd V [0] [vS x0.Branch, vS x0.Into, vS x0.By, v0_3_] x0) (h1 : Rd V [0] [vS x1.Branch, vS x1.Into, vS x1.By, v1_3_] x1) (hm : Vm.laws_smReview x0 x1 = some r) : CallR Try.prog 49 [.agg [vS x0.Branch, vS x0.Into, vS x0.By, v0_3_].toArray, .agg [vS x1.Branch, vS x1.Into, vS x1.By, v1_3_].toArray].toArray V.w (Res V LL fun Wf v => v = vB r) := by
 unfold Vm.laws_smReview at hm
 obtain ⟨w0_0, he0, h0_3⟩ := Review.split h0
 simp only [List.cons.injEq, and_true, true_and] at he0
 obtain rfl := he0
 obtain ⟨w1_0, he1, h1_3⟩ := Review.split h1
 simp only [List.cons.injEq, and_true, true_and] at he1
 obtain rfl := he1
 obtain ⟨W0, hW0⟩ : ∃ W, W = V := ⟨V, rfl⟩
 subst hW0
 refine CallR.of Try.func49 rfl rfl rfl rfl (Cw.seq (Cw.region (Lw.t rfl (T.box 2 (v := .agg [vS x0.Branch, vS x0.Into, vS x0.By, v0_3_].toArray) (cs := [vS x0.Branch, vS x0.Into, vS x0.By, v0_3_]) rfl rfl) ?_)))
 rintro _ _ ⟨g1, W1, rfl, rfl, l1, b1⟩
 have a2 := l1.o
 refine Lw.t rfl (T.box 3 (v := .agg [vS x1.Branch, vS x1.Into, vS x1.By, v1_3_].toArray) (cs := [vS x1.Branch, vS x1.Into, vS x1.By, v1_3_]) rfl rfl) ?_
 rintro _ _ ⟨g3, W3, rfl, rfl, l3, b3⟩
 have a4 := a2.n l3
 have b5 := b1.up l3 rfl
 refine Lw.g (vB false) rfl (Lw.nil ?_)
 obtain ⟨K8, hK8, hm⟩ := jn_e hm
 refine Cw.join 5 30 [4] (fun l w => ∃ (y6 : Bool) (W7 : CW), W7.w = w ∧ Le [] W3 W7 ∧ l = [vB y6] ∧ K8 y6 = some r) ?_ ?_
 ·rintro _ _ σ ⟨y6, W7, rfl, l7, rfl, hm⟩
  rw [hK8] at hm
  have a9 := a4.n l7
  cases hm
  exact Cw.ret (ret1 rfl (Res.mk a9 rfl))
 ·refine Cw.region (Lw.fa rfl (Lw.r rfl (R.ld (v := vS x0.Branch) rfl rfl (b5.cell rfl)) (Lw.fa rfl (Lw.r rfl (R.ld (v := vS x1.Branch) rfl rfl (b3.cell rfl)) (Lw.seq rfl (Lw.m (vB (x0.Branch == x1.Branch)) rfl (bsplit (x0.Branch == x1.Branch) (fun hc12 => ?_) (fun hc12 => ?_))))))))
  ·replace hm := bt hm hc12
   refine Lw.want' hc12 rfl rfl rfl rfl (Lw.fa rfl (Lw.want' hc12 rfl rfl rfl rfl (Lw.r rfl (R.ld (v := vS x0.Into) rfl rfl (b5.cell rfl)) (Lw.want' hc12 rfl rfl rfl rfl (Lw.fa rfl (Lw.want' hc12 rfl rfl rfl rfl (Lw.r rfl (R.ld (v := vS x1.Into) rfl rfl (b3.cell rfl)) (Lw.want' hc12 rfl rfl rfl rfl (Lw.seq rfl (Lw.p hc12 (vB (x0.Into == x1.Into)) rfl (Lw.m (vB (x0.Into == x1.Into)) rfl (bsplit (x0.Into == x1.Into) (fun hc13 => ?_) (fun hc13 => ?_)))))))))))))
   ·replace hm := bt hm hc13
    refine Lw.want' hc13 rfl rfl rfl rfl (Lw.fa rfl (Lw.want' hc13 rfl rfl rfl rfl (Lw.r rfl (R.ld (v := vS x0.By) rfl rfl (b5.cell rfl)) (Lw.want' hc13 rfl rfl rfl rfl (Lw.fa rfl (Lw.want' hc13 rfl rfl rfl rfl (Lw.r rfl (R.ld (v := vS x1.By) rfl rfl (b3.cell rfl)) (Lw.want' hc13 rfl rfl rfl rfl (Lw.seq rfl (Lw.p hc13 (vB (x0.By == x1.By)) rfl (Lw.m (vB (x0.By == x1.By)) rfl (bsplit (x0.By == x1.By) (fun hc14 => ?_) (fun hc14 => ?_)))))))))))))
    ·replace hm := bt hm hc14
     refine Lw.want' hc14 rfl rfl rfl rfl (Lw.fa rfl (Lw.want' hc14 rfl rfl rfl rfl (Lw.r rfl (R.ld (v := v0_3_) rfl rfl (b5.cell rfl)) (Lw.want' hc14 rfl rfl rfl rfl (Lw.fa rfl (Lw.want' hc14 rfl rfl rfl rfl (Lw.r rfl (R.ld (v := v1_3_) rfl rfl (b3.cell rfl)) (Lw.want' hc14 rfl rfl rfl rfl ?_))))))))
     obtain ⟨z17, e18, hm⟩ := ob hm
     refine Lw.t rfl (T.call rfl (p39 (K := [0])  (h0_3.ul a4) (h1_3.ul a4) e18)) ?_
     rintro _ _ ⟨W19, rfl, l19, rfl⟩
     refine Lw.p hc14 (vB z17) rfl (Lw.g (vB z17) rfl (Lw.nil (⟨?_, ⟨z17, W19, rfl, l19, rfl, hm⟩⟩)))
     iterate 27 (refine Agree.up rfl ?_)
     exact Agree.refl _
    ·replace hm := bf hm hc14
     refine Lw.pass' hc14 rfl rfl rfl rfl rfl rfl rfl (Lw.pass' hc14 rfl rfl rfl rfl rfl rfl rfl (Lw.pass' hc14 rfl rfl rfl rfl rfl rfl rfl (Lw.pass' hc14 rfl rfl rfl rfl rfl rfl rfl (Lw.pass' hc14 rfl rfl rfl rfl rfl rfl rfl (Lw.p hc14 (vB false) rfl (Lw.g (vB false) rfl (Lw.nil (⟨?_, ⟨false, W3, rfl, Le.refl _ _, rfl, hm⟩⟩))))))))
     iterate 27 (refine Agree.up rfl ?_)
     exact Agree.refl _
   ·replace hm := bf hm hc13
    refine Lw.pass' hc13 rfl rfl rfl rfl rfl rfl rfl (Lw.pass' hc13 rfl rfl rfl rfl rfl rfl rfl (Lw.pass' hc13 rfl rfl rfl rfl rfl rfl rfl (Lw.pass' hc13 rfl rfl rfl rfl rfl rfl rfl (Lw.pass' hc13 rfl rfl rfl rfl rfl rfl rfl (Lw.p hc13 (vB false) rfl (Lw.m (vB false) rfl (Lw.pass' rfl rfl rfl rfl rfl rfl rfl rfl (Lw.pass' rfl rfl rfl rfl rfl rfl rfl rfl (Lw.pass' rfl rfl rfl rfl rfl rfl rfl rfl (Lw.pass' rfl rfl rfl rfl rfl rfl rfl rfl (Lw.pass' rfl rfl rfl rfl rfl rfl rfl rfl (Lw.p rfl (vB false) rfl (Lw.g (vB false) rfl (Lw.nil (⟨?_, ⟨false, W3, rfl, Le.refl _ _, rfl, hm⟩⟩)))))))))))))))
    iterate 27 (refine Agree.up rfl ?_)
    exact Agree.refl _
  ·replace hm := bf hm hc12
   refine Lw.pass' hc12 rfl rfl rfl rfl rfl rfl rfl (Lw.pass' hc12 rfl rfl rfl rfl rfl rfl rfl (Lw.pass' hc12 rfl rfl rfl rfl rfl rfl rfl (Lw.pass' hc12 rfl rfl rfl rfl rfl rfl rfl (Lw.pass' hc12 rfl rfl rfl rfl rfl rfl rfl (Lw.p hc12 (vB false) rfl (Lw.m (vB false) rfl (Lw.pass' rfl rfl rfl rfl rfl rfl rfl rfl (Lw.pass' rfl rfl rfl rfl rfl rfl rfl rfl (Lw.pass' rfl rfl rfl rfl rfl rfl rfl rfl (Lw.pass' rfl rfl rfl rfl rfl rfl rfl rfl (Lw.pass' rfl rfl rfl rfl rfl rfl rfl rfl (Lw.p rfl (vB false) rfl (Lw.m (vB false) rfl (Lw.pass' rfl rfl rfl rfl rfl rfl rfl rfl (Lw.pass' rfl rfl rfl rfl rfl rfl rfl rfl (Lw.pass' rfl rfl rfl rfl rfl rfl rfl rfl (Lw.pass' rfl rfl rfl rfl rfl rfl rfl rfl (Lw.pass' rfl rfl rfl rfl rfl rfl rfl rfl (Lw.p rfl (vB false) rfl (Lw.g (vB false) rfl (Lw.nil (⟨?_, ⟨false, W3, rfl, Le.refl _ _, rfl, hm⟩⟩))))))))))))))))))))))
   iterate 27 (refine Agree.up rfl ?_)
   exact Agree.refl _

theorem p49 {W : CW} {K : List Nat} {x0 : Vm.Review} {v0_3_ : Value} {x1 : Vm.Review} {v1_3_ : Value} {r : Bool} (h0 : Rd W K [vS x0.Branch, vS x0.Into, vS x0.By, v0_3_] x0) (h1 : Rd W K [vS x1.Branch, vS x1.Into, vS x1.By, v1_3_] x1) (hm : Vm.laws_smReview x0 x1 = some r) : CallR Try.prog 49 [.agg [vS x0.Branch, vS x0.Into, vS x0.By, v0_3_].toArray, .agg [vS x1.Branch, vS x1.Into, vS x1.By, v1_3_].toArray].toArray W.w (Res W [] fun W' v => v = vB r) :=
 (c49 (V := W.view K []) (h0.view _) (h1.view _) hm).ad (fk 0) fun _ _ e => e

theorem c51 {V : CW} {x0 : Vm.Review} {v0_3_ : Value} {r : Bool} (h0 : Rd V [0] [vS x0.Branch, vS x0.Into, vS x0.By, v0_3_] x0) (hm : Vm.spec_ReviewOk x0 = some r) : CallR Try.prog 51 [.agg [vS x0.Branch, vS x0.Into, vS x0.By, v0_3_].toArray].toArray V.w (Res V LL fun Wf v => v = vB r) := by
 unfold Vm.spec_ReviewOk at hm
 obtain ⟨w0_0, he0, h0_3⟩ := Review.split h0
 simp only [List.cons.injEq, and_true, true_and] at he0
 obtain rfl := he0
 obtain ⟨W0, hW0⟩ : ∃ W, W = V := ⟨V, rfl⟩
 subst hW0
 refine CallR.of Try.func51 rfl rfl rfl rfl (Cw.seq (Cw.region (Lw.t rfl (T.box 2 (v := .agg [vS x0.Branch, vS x0.Into, vS x0.By, v0_3_].toArray) (cs := [vS x0.Branch, vS x0.Into, vS x0.By, v0_3_]) rfl rfl) ?_)))
 rintro _ _ ⟨g1, W1, rfl, rfl, l1, b1⟩
 have a2 := l1.o
 refine Lw.g (vB false) rfl (Lw.nil (Cw.seq (Cw.region (Lw.r rfl (R.lda (cs := [vS x0.Branch, vS x0.Into, vS x0.By, v0_3_]) b1.cells rfl rfl) ?_))))
 obtain ⟨z4, e5, hm⟩ := ob hm
 refine Lw.t rfl (T.call rfl (p85 (K := [0])  (Review.rd (K := [0]) x0.Branch x0.Into x0.By x0.Yes (h0_3.ul a2)) e5)) ?_
 rintro _ _ ⟨W6, rfl, l6, rfl⟩
 have a7 := a2.n l6
 refine Lw.g (vB z4) rfl (Lw.nil ?_)
 cases hm
 exact Cw.ret (ret1 rfl (Res.mk a7 rfl))

theorem p51 {W : CW} {K : List Nat} {x0 : Vm.Review} {v0_3_ : Value} {r : Bool} (h0 : Rd W K [vS x0.Branch, vS x0.Into, vS x0.By, v0_3_] x0) (hm : Vm.spec_ReviewOk x0 = some r) : CallR Try.prog 51 [.agg [vS x0.Branch, vS x0.Into, vS x0.By, v0_3_].toArray].toArray W.w (Res W [] fun W' v => v = vB r) :=
 (c51 (V := W.view K []) (h0.view _) hm).ad (fk 0) fun _ _ e => e

theorem c52 {V : CW} {x0 : List Str} {v0_ : Value} {x1 : Str} {r : Bool} (h0 : Rd V [0] [v0_] x0) (hm : Vm.laws_smHas x0 x1 = some r) : CallR Try.prog 52 [v0_, vS x1].toArray V.w (Res V LL fun Wf v => v = vB r) := by
 unfold Vm.laws_smHas at hm
 obtain ⟨W0, hW0⟩ : ∃ W, W = V := ⟨V, rfl⟩
 subst hW0
 refine CallR.of Try.func52 rfl rfl rfl rfl (Cw.seq (Cw.region (Lw.g (vB false) rfl (Lw.nil (Cw.seq (Cw.seq (Cw.region (Lw.g (vI 0) rfl (Lw.nil (Cw.block ?_))))))))))
 obtain ⟨K4, hK4, hm⟩ := jn_e hm
 refine Cw.loop 6 17 [4, 5] (fun m l w => ∃ (y1 : Bool) (y2 : Int) (W3 : CW), W3.w = w ∧ Le [] W0 W3 ∧ l = [vB y1, vI y2] ∧ Vm.laws_smHas_l1 x0 x1 K4 m y1 y2 = some r) (((x0.length : Int) - 0).toNat + 1) ⟨false, 0, W0, rfl, Le.refl _ _, rfl, hm⟩ ?_
 rintro m5 _ _ σ ⟨y1, y2, W3, rfl, l3, rfl, hm⟩
 obtain _ | m5 := m5
 ·cases hm
 unfold Vm.laws_smHas_l1 at hm
 have a6 := l3.o
 refine Cw.seq (Cw.seq (Cw.region ?_))
 have s7 := h0.ul a6
 refine Lw.m (vI y2) rfl (Lw.m v0_ rfl (Lw.ln x0 s7 rfl (Lw.lt rfl (Lw.nil (Cw.cond (b := decide ((y2 : Int) < ((x0.length : Int) : Int))) rfl (fun hc8 => ?_) (fun hc8 => ?_))))))
 ·replace hm := bt hm hc8
  refine Cw.skip (Cw.seq (Cw.block (Cw.seq (Cw.region (Lw.m v0_ rfl (Lw.m (vI y2) rfl ?_))))))
  obtain ⟨u9, e10, hm⟩ := ob hm
  refine Lw.r rfl (R.ix (α := Str) s7 e10 rfl rfl rfl) (Lw.r rfl (R.ld rfl rfl (s7.at_ e10).str) (Lw.m (vS x1) rfl (Lw.seq rfl (Lw.nil (Cw.cond (b := (u9 == x1)) rfl (fun hc11 => ?_) (fun hc11 => ?_))))))
  ·replace hm := bt hm hc11
   refine Cw.seq (Cw.region (Lw.g (vB true) rfl (Lw.nil ?_)))
   cases hm
   exact Cw.ret (ret1 rfl (Res.mk a6 rfl))
  ·replace hm := bf hm hc11
   refine Cw.skip (Cw.region (Lw.m (vI y2) rfl (Lw.add rfl (Lw.g (vI (w64 (y2 + 1))) rfl (Lw.nil (⟨?_, m5, Nat.lt_succ_self m5, ⟨y1, w64 (y2 + 1), W3, rfl, l3, rfl, hm⟩⟩))))))
   iterate 13 (refine Agree.up rfl ?_)
   iterate 2 (refine Agree.up rfl ?_)
   exact Agree.base
 ·replace hm := bf hm hc8
  refine Cw.exit ?_
  rw [hK4] at hm
  refine Cw.seq (Cw.region (Lw.g (vB false) rfl (Lw.nil ?_)))
  cases hm
  exact Cw.ret (ret1 rfl (Res.mk a6 rfl))

theorem p52 {W : CW} {K : List Nat} {x0 : List Str} {v0_ : Value} {x1 : Str} {r : Bool} (h0 : Rd W K [v0_] x0) (hm : Vm.laws_smHas x0 x1 = some r) : CallR Try.prog 52 [v0_, vS x1].toArray W.w (Res W [] fun W' v => v = vB r) :=
 (c52 (V := W.view K []) (h0.view _) hm).ad (fk 0) fun _ _ e => e

end Go.Sx
