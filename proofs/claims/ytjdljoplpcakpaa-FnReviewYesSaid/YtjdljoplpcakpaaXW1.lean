/- Walks: each function answers as its model, printed by a program of ours. Conditions: the arguments read as they are given. -/
import Derived.Test.YtjdljoplpcakpaaXTs
import Derived.Test.YtjdljoplpcakpaaXMd
import Derived.Test.YtjdljoplpcakpaaXW0
namespace Go.Sx
open Go Go.Proofs Go.Vm Rp
set_option linter.unusedVariables false
set_option linter.unusedSimpArgs false

theorem c55 {V : CW} {x0 : List Str} {v0_ : Value} {r : Bool} (h0 : Rd V [0] [v0_] x0) (hm : Vm.impl_TextOk x0 = some r) : CallR Try.prog 55 [v0_].toArray V.w (Res V LL fun Wf v => v = vB r) := by
 unfold Vm.impl_TextOk at hm
 obtain ⟨W0, hW0⟩ : ∃ W, W = V := ⟨V, rfl⟩
 subst hW0
 refine CallR.of Try.func55 rfl rfl rfl rfl (Cw.seq (Cw.region (Lw.g (vB false) rfl (Lw.nil (Cw.seq (Cw.seq (Cw.region (Lw.m v0_ rfl (Lw.ln x0 h0 rfl (Lw.gt rfl (Lw.nil (Cw.cond (b := decide ((10 : Int) < ((x0.length : Int) : Int))) rfl (fun hc1 => ?_) (fun hc1 => ?_)))))))))))))
 ·replace hm := bt hm hc1
  refine Cw.seq (Cw.region (Lw.g (vB false) rfl (Lw.nil ?_)))
  cases hm
  exact Cw.ret (ret1 rfl (Res.mk (Le.refl _ _) rfl))
 ·replace hm := bf hm hc1
  refine Cw.skip (Cw.seq (Cw.seq (Cw.region (Lw.m v0_ rfl (Lw.ln x0 h0 rfl (Lw.m (vI 0) rfl (Lw.nil (Cw.block ?_))))))))
  obtain ⟨K6, hK6, hm⟩ := jn_e hm
  refine Cw.loop 10 17 [2, 4, 10] (fun m l w => ∃ (y2 : Bool) (y4 : Int) (j3 : Value) (W5 : CW), W5.w = w ∧ Le [] W0 W5 ∧ l = [vB y2, j3, vI y4] ∧ Vm.impl_TextOk_l1 x0 K6 m y2 y4 = some r) (((x0.length : Int) - 0).toNat + 1) ⟨false, 0, undef, W0, rfl, Le.refl _ _, rfl, hm⟩ ?_
  rintro m7 _ _ σ ⟨y2, y4, j3, W5, rfl, l5, rfl, hm⟩
  obtain _ | m7 := m7
  ·cases hm
  unfold Vm.impl_TextOk_l1 at hm
  have a8 := l5.o
  refine Cw.seq (Cw.region (Lw.lt rfl (Lw.nil (Cw.seq (Cw.cond (b := decide ((y4 : Int) < ((x0.length : Int) : Int))) rfl (fun hc9 => ?_) (fun hc9 => ?_))))))
  ·replace hm := bt hm hc9
   refine Cw.skip (Cw.seq (Cw.block (Cw.seq (Cw.region ?_))))
   obtain ⟨u10, e11, hm⟩ := ob hm
   refine Lw.r rfl (R.ix (α := Str) (h0.ul a8) e11 rfl rfl rfl) (Lw.r rfl (R.ld rfl rfl ((h0.ul a8).at_ e11).str) (Lw.g (vS u10) rfl (Lw.nil (Cw.seq (Cw.region (Lw.m (vS u10) rfl ?_))))))
   obtain ⟨z13, e14, hm⟩ := ob hm
   refine Lw.t rfl (T.call rfl (p90 (K := [0])   e14)) ?_
   rintro _ _ ⟨W15, rfl, l15, rfl⟩
   have a16 := a8.n l15
   refine Lw.r rfl (R.not rfl) (Lw.nil (Cw.cond (b := (!z13)) rfl (fun hc17 => ?_) (fun hc17 => ?_)))
   ·replace hm := bt hm hc17
    refine Cw.seq (Cw.region (Lw.g (vB false) rfl (Lw.nil ?_)))
    cases hm
    exact Cw.ret (ret1 rfl (Res.mk a16 rfl))
   ·replace hm := bf hm hc17
    refine Cw.skip (Cw.region (Lw.add rfl (Lw.m (vI (w64 (y4 + 1))) rfl (Lw.nil (⟨?_, m7, Nat.lt_succ_self m7, ⟨y2, w64 (y4 + 1), vS u10, W15, rfl, (l5.trans l15), rfl, hm⟩⟩)))))
    iterate 9 (refine Agree.up rfl ?_)
    iterate 3 (refine Agree.up rfl ?_)
    exact Agree.base
  ·replace hm := bf hm hc9
   refine Cw.exit ?_
   rw [hK6] at hm
   refine Cw.seq (Cw.region (Lw.g (vB true) rfl (Lw.nil ?_)))
   cases hm
   exact Cw.ret (ret1 rfl (Res.mk a8 rfl))

theorem p55 {W : CW} {K : List Nat} {x0 : List Str} {v0_ : Value} {r : Bool} (h0 : Rd W K [v0_] x0) (hm : Vm.impl_TextOk x0 = some r) : CallR Try.prog 55 [v0_].toArray W.w (Res W [] fun W' v => v = vB r) :=
 (c55 (V := W.view K []) (h0.view _) hm).ad (fk 0) fun _ _ e => e

theorem c54 {V : CW} {x0 : List Str} {v0_ : Value} {x1 : List Str} {v1_ : Value} {x2 : List Str} {v2_ : Value} {r : Bool} (h0 : Rd V [0] [v0_] x0) (h1 : Rd V [0] [v1_] x1) (h2 : Rd V [0] [v2_] x2) (hm : Vm.impl_areTexts x0 x1 x2 = some r) : CallR Try.prog 54 [v0_, v1_, v2_].toArray V.w (Res V LL fun Wf v => v = vB r) := by
 unfold Vm.impl_areTexts at hm
 obtain ⟨W0, hW0⟩ : ∃ W, W = V := ⟨V, rfl⟩
 subst hW0
 refine CallR.of Try.func54 rfl rfl rfl rfl (Cw.seq (Cw.region (Lw.g (vB false) rfl (Lw.nil ?_))))
 obtain ⟨K3, hK3, hm⟩ := jn_e hm
 refine Cw.join 7 16 [6] (fun l w => ∃ (y1 : Bool) (W2 : CW), W2.w = w ∧ Le [] W0 W2 ∧ l = [vB y1] ∧ K3 y1 = some r) ?_ ?_
 ·rintro _ _ σ ⟨y1, W2, rfl, l2, rfl, hm⟩
  rw [hK3] at hm
  have a4 := l2.o
  cases hm
  exact Cw.ret (ret1 rfl (Res.mk a4 rfl))
 ·refine Cw.region (Lw.m v0_ rfl ?_)
  obtain ⟨z5, e6, hm⟩ := ob hm
  refine Lw.t rfl (T.call rfl (p55 (K := [0])  h0 e6)) ?_
  rintro _ _ ⟨W7, rfl, l7, rfl⟩
  have a8 := l7.o
  refine Lw.m (vB z5) rfl (bsplit z5 (fun hc9 => ?_) (fun hc9 => ?_))
  ·replace hm := bt hm hc9
   refine Lw.want' hc9 rfl rfl rfl rfl (Lw.m v1_ rfl (Lw.want' hc9 rfl rfl rfl rfl ?_))
   obtain ⟨z11, e12, hm⟩ := ob hm
   refine Lw.t rfl (T.call rfl (p55 (K := [0])  (h1.ul a8) e12)) ?_
   rintro _ _ ⟨W13, rfl, l13, rfl⟩
   have a14 := a8.n l13
   refine Lw.p hc9 (vB z11) rfl (Lw.m (vB z11) rfl (bsplit z11 (fun hc15 => ?_) (fun hc15 => ?_)))
   ·replace hm := bt hm hc15
    refine Lw.want' hc15 rfl rfl rfl rfl (Lw.m v2_ rfl (Lw.want' hc15 rfl rfl rfl rfl ?_))
    obtain ⟨z17, e18, hm⟩ := ob hm
    refine Lw.t rfl (T.call rfl (p55 (K := [0])  (h2.ul a14) e18)) ?_
    rintro _ _ ⟨W19, rfl, l19, rfl⟩
    refine Lw.p hc15 (vB z17) rfl (Lw.g (vB z17) rfl (Lw.nil (⟨?_, ⟨z17, W19, rfl, (l7.trans (l13.trans l19)), rfl, hm⟩⟩)))
    iterate 11 (refine Agree.up rfl ?_)
    exact Agree.refl _
   ·replace hm := bf hm hc15
    refine Lw.pass' hc15 rfl rfl rfl rfl rfl rfl rfl (Lw.pass' hc15 rfl rfl rfl rfl rfl rfl rfl (Lw.p hc15 (vB false) rfl (Lw.g (vB false) rfl (Lw.nil (⟨?_, ⟨false, W13, rfl, (l7.trans l13), rfl, hm⟩⟩)))))
    iterate 11 (refine Agree.up rfl ?_)
    exact Agree.refl _
  ·replace hm := bf hm hc9
   refine Lw.pass' hc9 rfl rfl rfl rfl rfl rfl rfl (Lw.pass' hc9 rfl rfl rfl rfl rfl rfl rfl (Lw.p hc9 (vB false) rfl (Lw.m (vB false) rfl (Lw.pass' rfl rfl rfl rfl rfl rfl rfl rfl (Lw.pass' rfl rfl rfl rfl rfl rfl rfl rfl (Lw.p rfl (vB false) rfl (Lw.g (vB false) rfl (Lw.nil (⟨?_, ⟨false, W7, rfl, l7, rfl, hm⟩⟩)))))))))
   iterate 11 (refine Agree.up rfl ?_)
   exact Agree.refl _

theorem p54 {W : CW} {K : List Nat} {x0 : List Str} {v0_ : Value} {x1 : List Str} {v1_ : Value} {x2 : List Str} {v2_ : Value} {r : Bool} (h0 : Rd W K [v0_] x0) (h1 : Rd W K [v1_] x1) (h2 : Rd W K [v2_] x2) (hm : Vm.impl_areTexts x0 x1 x2 = some r) : CallR Try.prog 54 [v0_, v1_, v2_].toArray W.w (Res W [] fun W' v => v = vB r) :=
 (c54 (V := W.view K []) (h0.view _) (h1.view _) (h2.view _) hm).ad (fk 0) fun _ _ e => e

theorem c56 {V : CW} {x0 : List Str} {v0_ : Value} {x1 : List Str} {v1_ : Value} {r : Bool} (h0 : Rd V [0] [v0_] x0) (h1 : Rd V [0] [v1_] x1) (hm : Vm.slices_Equal_string_string x0 x1 = some r) : CallR Try.prog 56 [v0_, v1_].toArray V.w (Res V LL fun Wf v => v = vB r) := by
 unfold Vm.slices_Equal_string_string at hm
 obtain ⟨W0, hW0⟩ : ∃ W, W = V := ⟨V, rfl⟩
 subst hW0
 refine CallR.of Try.func56 rfl rfl rfl rfl (Cw.seq (Cw.region (Lw.g (vB false) rfl (Lw.nil (Cw.seq (Cw.seq (Cw.region (Lw.m v0_ rfl (Lw.ln x0 h0 rfl (Lw.m v1_ rfl (Lw.ln x1 h1 rfl (Lw.ne rfl (Lw.nil (Cw.cond (b := (((x0.length : Int) : Int) != ((x1.length : Int) : Int))) rfl (fun hc1 => ?_) (fun hc1 => ?_)))))))))))))))
 ·replace hm := bt hm hc1
  refine Cw.seq (Cw.region (Lw.g (vB false) rfl (Lw.nil ?_)))
  cases hm
  exact Cw.ret (ret1 rfl (Res.mk (Le.refl _ _) rfl))
 ·replace hm := bf hm hc1
  refine Cw.skip (Cw.seq (Cw.seq (Cw.region (Lw.m v0_ rfl (Lw.ln x0 h0 rfl (Lw.m (vI 0) rfl (Lw.nil (Cw.block ?_))))))))
  obtain ⟨K6, hK6, hm⟩ := jn_e hm
  refine Cw.loop 13 25 [4, 5, 13] (fun m l w => ∃ (y2 : Bool) (y4 : Int) (j3 : Value) (W5 : CW), W5.w = w ∧ Le [] W0 W5 ∧ l = [vB y2, j3, vI y4] ∧ Vm.slices_Equal_string_string_l1 x0 x1 K6 m y2 y4 = some r) (((x0.length : Int) - 0).toNat + 1) ⟨false, 0, undef, W0, rfl, Le.refl _ _, rfl, hm⟩ ?_
  rintro m7 _ _ σ ⟨y2, y4, j3, W5, rfl, l5, rfl, hm⟩
  obtain _ | m7 := m7
  ·cases hm
  unfold Vm.slices_Equal_string_string_l1 at hm
  have a8 := l5.o
  refine Cw.seq (Cw.region (Lw.lt rfl (Lw.nil (Cw.seq (Cw.cond (b := decide ((y4 : Int) < ((x0.length : Int) : Int))) rfl (fun hc9 => ?_) (fun hc9 => ?_))))))
  ·replace hm := bt hm hc9
   refine Cw.skip (Cw.seq (Cw.block (Cw.seq (Cw.region (Lw.m (vI y4) rfl (Lw.g (vI y4) rfl (Lw.nil (Cw.seq (Cw.draw [] [(0, 0), (1, 0), (2, 0), (3, 1), (4, 0), (5, 0), (6, 0), (7, 1), (8, 0)] mixed (by kernel_rfl) fun W10 l10 => ?_)))))))))
   have a11 := a8.n l10
   refine Mw.p rfl rfl (fun _ => R.mv (v := v0_) rfl) (Mw.p rfl rfl (fun _ => R.mv (v := vI y4) rfl) ?_)
   obtain ⟨u12, e13, hm⟩ := ob hm
   refine Mw.p rfl rfl (fun _ => R.ix (α := Str) (h0.ul a11) e13 rfl rfl rfl) (Mw.q rfl rfl (fun _ c => R.ld rfl rfl (cl_cell ((h0.ul a11).at_ e13).1 rfl ((h0.ul a11).at_ e13).str c)) (Mw.p rfl rfl (fun _ => R.mv (v := v1_) rfl) (Mw.p rfl rfl (fun _ => R.mv (v := vI y4) rfl) ?_)))
   obtain ⟨u15, e16, hm⟩ := ob hm
   refine Mw.p rfl rfl (fun _ => R.ix (α := Str) (h1.ul a11) e16 rfl rfl rfl) (Mw.q rfl rfl (fun _ c => R.ld rfl rfl (cl_cell ((h1.ul a11).at_ e16).1 rfl ((h1.ul a11).at_ e16).str c)) (Mw.p rfl rfl (fun _ => R.sne rfl rfl) (Mw.nil (Cw.cond (b := (u12 != u15)) rfl (fun hc18 => ?_) (fun hc18 => ?_)))))
   ·replace hm := bt hm hc18
    refine Cw.seq (Cw.region (Lw.g (vB false) rfl (Lw.nil ?_)))
    cases hm
    exact Cw.ret (ret1 rfl (Res.mk a11 rfl))
   ·replace hm := bf hm hc18
    refine Cw.skip (Cw.region (Lw.add rfl (Lw.m (vI (w64 (y4 + 1))) rfl (Lw.nil (⟨?_, m7, Nat.lt_succ_self m7, ⟨y2, w64 (y4 + 1), vI y4, W10, rfl, (l5.trans l10), rfl, hm⟩⟩)))))
    iterate 14 (refine Agree.up rfl ?_)
    iterate 3 (refine Agree.up rfl ?_)
    exact Agree.base
  ·replace hm := bf hm hc9
   refine Cw.exit ?_
   rw [hK6] at hm
   refine Cw.seq (Cw.region (Lw.g (vB true) rfl (Lw.nil ?_)))
   cases hm
   exact Cw.ret (ret1 rfl (Res.mk a8 rfl))

theorem p56 {W : CW} {K : List Nat} {x0 : List Str} {v0_ : Value} {x1 : List Str} {v1_ : Value} {r : Bool} (h0 : Rd W K [v0_] x0) (h1 : Rd W K [v1_] x1) (hm : Vm.slices_Equal_string_string x0 x1 = some r) : CallR Try.prog 56 [v0_, v1_].toArray W.w (Res W [] fun W' v => v = vB r) :=
 (c56 (V := W.view K []) (h0.view _) (h1.view _) hm).ad (fk 0) fun _ _ e => e

theorem c57 {V : CW} {x0 : Vm.Memo} {v0_0_ : Value} {v0_1_ : Value} {v0_2_ : Value} {v0_3_ : Value} {x1 : List Str} {v1_ : Value} {x2 : List Str} {v2_ : Value} {x3 : List Str} {v3_ : Value} {r : Bool} (h0 : Rd V [0] [v0_0_, v0_1_, v0_2_, v0_3_] x0) (h1 : Rd V [0] [v1_] x1) (h2 : Rd V [0] [v2_] x2) (h3 : Rd V [0] [v3_] x3) (hm : Vm.impl_Memo_is x0 x1 x2 x3 = some r) : CallR Try.prog 57 [.agg [v0_0_, v0_1_, v0_2_, v0_3_].toArray, v1_, v2_, v3_].toArray V.w (Res V LL fun Wf v => v = vB r) := by
 unfold Vm.impl_Memo_is at hm
 obtain ⟨w0_0, w0_1, w0_2, w0_3, he0, h0_0, h0_1, h0_2, h0_3⟩ := Memo.split h0
 simp only [List.cons.injEq, and_true, true_and] at he0
 obtain ⟨rfl, rfl, rfl, rfl⟩ := he0
 obtain ⟨W0, hW0⟩ : ∃ W, W = V := ⟨V, rfl⟩
 subst hW0
 refine CallR.of Try.func57 rfl rfl rfl rfl (Cw.seq (Cw.region (Lw.t rfl (T.box 2 (v := .agg [v0_0_, v0_1_, v0_2_, v0_3_].toArray) (cs := [v0_0_, v0_1_, v0_2_, v0_3_]) rfl rfl) ?_)))
 rintro _ _ ⟨g1, W1, rfl, rfl, l1, b1⟩
 have a2 := l1.o
 refine Lw.g (vB false) rfl (Lw.nil (Cw.seq (Cw.seq (Cw.region (Lw.fa rfl (Lw.r rfl (R.ld (v := v0_0_) rfl rfl (b1.cell rfl)) (Lw.m v1_ rfl ?_)))))))
 obtain ⟨z5, e6, hm⟩ := ob hm
 refine Lw.t rfl (T.call rfl (p56 (K := [0])  (h0_0.ul a2) (h1.ul a2) e6)) ?_
 rintro _ _ ⟨W7, rfl, l7, rfl⟩
 have a8 := a2.n l7
 refine Lw.r rfl (R.not rfl) (Lw.nil (Cw.cond (b := (!z5)) rfl (fun hc10 => ?_) (fun hc10 => ?_)))
 ·replace hm := bt hm hc10
  refine Cw.seq (Cw.region (Lw.g (vB false) rfl (Lw.nil ?_)))
  cases hm
  exact Cw.ret (ret1 rfl (Res.mk a8 rfl))
 ·replace hm := bf hm hc10
  refine Cw.skip ?_
  obtain ⟨K13, hK13, hm⟩ := jn_e hm
  refine Cw.join 14 35 [8] (fun l w => ∃ (y11 : Bool) (W12 : CW), W12.w = w ∧ Le [] W7 W12 ∧ l = [vB y11] ∧ K13 y11 = some r) ?_ ?_
  ·rintro _ _ σ ⟨y11, W12, rfl, l12, rfl, hm⟩
   rw [hK13] at hm
   have a14 := a8.n l12
   cases hm
   exact Cw.ret (ret1 rfl (Res.mk a14 rfl))
  ·refine Cw.region (Lw.fa rfl (Lw.r rfl (R.ld (v := v0_1_) rfl rfl ((b1.up l7 rfl).cell rfl)) (Lw.m v2_ rfl ?_)))
   obtain ⟨z18, e19, hm⟩ := ob hm
   refine Lw.t rfl (T.call rfl (p56 (K := [0])  (h0_1.ul a8) (h2.ul a8) e19)) ?_
   rintro _ _ ⟨W20, rfl, l20, rfl⟩
   have a21 := a8.n l20
   have b22 := (b1.up l7 rfl).up l20 rfl
   refine Lw.m (vB z18) rfl (bsplit z18 (fun hc23 => ?_) (fun hc23 => ?_))
   ·replace hm := bt hm hc23
    refine Lw.want' hc23 rfl rfl rfl rfl (Lw.fa rfl (Lw.want' hc23 rfl rfl rfl rfl (Lw.r rfl (R.ld (v := v0_2_) rfl rfl (b22.cell rfl)) (Lw.want' hc23 rfl rfl rfl rfl (Lw.m v3_ rfl (Lw.want' hc23 rfl rfl rfl rfl ?_))))))
    obtain ⟨z26, e27, hm⟩ := ob hm
    refine Lw.t rfl (T.call rfl (p56 (K := [0])  (h0_2.ul a21) (h3.ul a21) e27)) ?_
    rintro _ _ ⟨W28, rfl, l28, rfl⟩
    have a29 := a21.n l28
    refine Lw.p hc23 (vB z26) rfl (Lw.m (vB z26) rfl (bsplit z26 (fun hc31 => ?_) (fun hc31 => ?_)))
    ·replace hm := bt hm hc31
     refine Lw.pass' hc31 rfl rfl rfl rfl rfl rfl rfl (Lw.pass' hc31 rfl rfl rfl rfl rfl rfl rfl (Lw.pass' hc31 rfl rfl rfl rfl rfl rfl rfl (Lw.pass' hc31 rfl rfl rfl rfl rfl rfl rfl (Lw.pass' hc31 rfl rfl rfl rfl rfl rfl rfl (Lw.passU rfl rfl rfl rfl rfl rfl (Lw.passU rfl rfl rfl rfl rfl rfl (Lw.passU rfl rfl rfl rfl rfl rfl (Lw.passU rfl rfl rfl rfl rfl rfl (Lw.pass' hc31 rfl rfl rfl rfl rfl rfl rfl (Lw.p hc31 (vB true) rfl (Lw.g (vB true) rfl (Lw.nil (⟨?_, ⟨true, W28, rfl, (l20.trans l28), rfl, hm⟩⟩)))))))))))))
     iterate 23 (refine Agree.up rfl ?_)
     exact Agree.refl _
    ·replace hm := bf hm hc31
     refine Lw.want' hc31 rfl rfl rfl rfl (Lw.fa rfl (Lw.want' hc31 rfl rfl rfl rfl (Lw.r rfl (R.ld (v := v0_1_) rfl rfl ((b22.up l28 rfl).cell rfl)) (Lw.want' hc31 rfl rfl rfl rfl (Lw.m v3_ rfl (Lw.want' hc31 rfl rfl rfl rfl ?_))))))
     obtain ⟨z34, e35, hm⟩ := ob hm
     refine Lw.t rfl (T.call rfl (p56 (K := [0])  (h0_1.ul a29) (h3.ul a29) e35)) ?_
     rintro _ _ ⟨W36, rfl, l36, rfl⟩
     have a37 := a29.n l36
     refine Lw.want' hc31 rfl rfl rfl rfl (Lw.m (vB z34) rfl (bsplit z34 (fun hc39 => ?_) (fun hc39 => ?_)))
     ·replace hm := bt hm hc39
      refine Lw.want' hc39 rfl rfl rfl rfl (Lw.fa rfl (Lw.want' hc39 rfl rfl rfl rfl (Lw.r rfl (R.ld (v := v0_2_) rfl rfl (((b22.up l28 rfl).up l36 rfl).cell rfl)) (Lw.want' hc39 rfl rfl rfl rfl (Lw.m v2_ rfl (Lw.want' hc39 rfl rfl rfl rfl ?_))))))
      obtain ⟨z42, e43, hm⟩ := ob hm
      refine Lw.t rfl (T.call rfl (p56 (K := [0])  (h0_2.ul a37) (h2.ul a37) e43)) ?_
      rintro _ _ ⟨W44, rfl, l44, rfl⟩
      refine Lw.want' hc31 rfl rfl rfl rfl (Lw.p hc39 (vB z42) rfl (Lw.p hc31 (vB z42) rfl (Lw.g (vB z42) rfl (Lw.nil (⟨?_, ⟨z42, W44, rfl, (l20.trans (l28.trans (l36.trans l44))), rfl, hm⟩⟩)))))
      iterate 23 (refine Agree.up rfl ?_)
      exact Agree.refl _
     ·replace hm := bf hm hc39
      refine Lw.pass' hc39 rfl rfl rfl rfl rfl rfl rfl (Lw.pass' hc39 rfl rfl rfl rfl rfl rfl rfl (Lw.pass' hc39 rfl rfl rfl rfl rfl rfl rfl (Lw.pass' hc39 rfl rfl rfl rfl rfl rfl rfl (Lw.want' hc31 rfl rfl rfl rfl (Lw.p hc39 (vB false) rfl (Lw.p hc31 (vB false) rfl (Lw.g (vB false) rfl (Lw.nil (⟨?_, ⟨false, W36, rfl, (l20.trans (l28.trans l36)), rfl, hm⟩⟩)))))))))
      iterate 23 (refine Agree.up rfl ?_)
      exact Agree.refl _
   ·replace hm := bf hm hc23
    refine Lw.pass' hc23 rfl rfl rfl rfl rfl rfl rfl (Lw.pass' hc23 rfl rfl rfl rfl rfl rfl rfl (Lw.pass' hc23 rfl rfl rfl rfl rfl rfl rfl (Lw.pass' hc23 rfl rfl rfl rfl rfl rfl rfl (Lw.p hc23 (vB false) rfl (Lw.m (vB false) rfl (Lw.want' rfl rfl rfl rfl rfl (Lw.fa rfl (Lw.want' rfl rfl rfl rfl rfl (Lw.r rfl (R.ld (v := v0_1_) rfl rfl (b22.cell rfl)) (Lw.want' rfl rfl rfl rfl rfl (Lw.m v3_ rfl (Lw.want' rfl rfl rfl rfl rfl ?_))))))))))))
    obtain ⟨z49, e50, hm⟩ := ob hm
    refine Lw.t rfl (T.call rfl (p56 (K := [0])  (h0_1.ul a21) (h3.ul a21) e50)) ?_
    rintro _ _ ⟨W51, rfl, l51, rfl⟩
    have a52 := a21.n l51
    refine Lw.want' rfl rfl rfl rfl rfl (Lw.m (vB z49) rfl (bsplit z49 (fun hc54 => ?_) (fun hc54 => ?_)))
    ·replace hm := bt hm hc54
     refine Lw.want' hc54 rfl rfl rfl rfl (Lw.fa rfl (Lw.want' hc54 rfl rfl rfl rfl (Lw.r rfl (R.ld (v := v0_2_) rfl rfl ((b22.up l51 rfl).cell rfl)) (Lw.want' hc54 rfl rfl rfl rfl (Lw.m v2_ rfl (Lw.want' hc54 rfl rfl rfl rfl ?_))))))
     obtain ⟨z57, e58, hm⟩ := ob hm
     refine Lw.t rfl (T.call rfl (p56 (K := [0])  (h0_2.ul a52) (h2.ul a52) e58)) ?_
     rintro _ _ ⟨W59, rfl, l59, rfl⟩
     refine Lw.want' rfl rfl rfl rfl rfl (Lw.p hc54 (vB z57) rfl (Lw.p rfl (vB z57) rfl (Lw.g (vB z57) rfl (Lw.nil (⟨?_, ⟨z57, W59, rfl, (l20.trans (l51.trans l59)), rfl, hm⟩⟩)))))
     iterate 23 (refine Agree.up rfl ?_)
     exact Agree.refl _
    ·replace hm := bf hm hc54
     refine Lw.pass' hc54 rfl rfl rfl rfl rfl rfl rfl (Lw.pass' hc54 rfl rfl rfl rfl rfl rfl rfl (Lw.pass' hc54 rfl rfl rfl rfl rfl rfl rfl (Lw.pass' hc54 rfl rfl rfl rfl rfl rfl rfl (Lw.want' rfl rfl rfl rfl rfl (Lw.p hc54 (vB false) rfl (Lw.p rfl (vB false) rfl (Lw.g (vB false) rfl (Lw.nil (⟨?_, ⟨false, W51, rfl, (l20.trans l51), rfl, hm⟩⟩)))))))))
     iterate 23 (refine Agree.up rfl ?_)
     exact Agree.refl _

theorem p57 {W : CW} {K : List Nat} {x0 : Vm.Memo} {v0_0_ : Value} {v0_1_ : Value} {v0_2_ : Value} {v0_3_ : Value} {x1 : List Str} {v1_ : Value} {x2 : List Str} {v2_ : Value} {x3 : List Str} {v3_ : Value} {r : Bool} (h0 : Rd W K [v0_0_, v0_1_, v0_2_, v0_3_] x0) (h1 : Rd W K [v1_] x1) (h2 : Rd W K [v2_] x2) (h3 : Rd W K [v3_] x3) (hm : Vm.impl_Memo_is x0 x1 x2 x3 = some r) : CallR Try.prog 57 [.agg [v0_0_, v0_1_, v0_2_, v0_3_].toArray, v1_, v2_, v3_].toArray W.w (Res W [] fun W' v => v = vB r) :=
 (c57 (V := W.view K []) (h0.view _) (h1.view _) (h2.view _) (h3.view _) hm).ad (fk 0) fun _ _ e => e

theorem c15 {V : CW} {x0 : List Vm.Memo} {v0_ : Value} {r : Bool} (h0 : Rd V [0] [v0_] x0) (hm : Vm.impl_MemosOk x0 = some r) : CallR Try.prog 15 [v0_].toArray V.w (Res V LL fun Wf v => v = vB r) := by
 unfold Vm.impl_MemosOk at hm
 obtain ⟨W0, hW0⟩ : ∃ W, W = V := ⟨V, rfl⟩
 subst hW0
 refine CallR.of Try.func15 rfl rfl rfl rfl (Cw.seq (Cw.region (Lw.g (vB false) rfl (Lw.nil (Cw.seq (Cw.seq (Cw.region (Lw.m v0_ rfl (Lw.ln x0 h0 rfl (Lw.gt rfl (Lw.nil (Cw.cond (b := decide ((5 : Int) < ((x0.length : Int) : Int))) rfl (fun hc1 => ?_) (fun hc1 => ?_)))))))))))))
 ·replace hm := bt hm hc1
  refine Cw.seq (Cw.region (Lw.g (vB false) rfl (Lw.nil ?_)))
  cases hm
  exact Cw.ret (ret1 rfl (Res.mk (Le.refl _ _) rfl))
 ·replace hm := bf hm hc1
  refine Cw.skip (Cw.seq (Cw.seq (Cw.region (Lw.m v0_ rfl (Lw.ln x0 h0 rfl (Lw.m (vI 0) rfl (Lw.nil (Cw.block ?_))))))))
  obtain ⟨K8, hK8, hm⟩ := jn_e hm
  refine Cw.loop 12 55 [2, 3, 4, 6, 12] (fun m l w => ∃ (y2 : Bool) (y6 : Int) (j3 j4 j5 : Value) (W7 : CW), W7.w = w ∧ Le [2, 3] W0 W7 ∧ l = [vB y2, j3, j4, j5, vI y6] ∧ Vm.impl_MemosOk_l1 x0 K8 m y2 y6 = some r) (((x0.length : Int) - 0).toNat + 1) ⟨false, 0, undef, undef, undef, W0, rfl, Le.refl _ _, rfl, hm⟩ ?_
  rintro m9 _ _ σ ⟨y2, y6, j3, j4, j5, W7, rfl, l7, rfl, hm⟩
  obtain _ | m9 := m9
  ·cases hm
  unfold Vm.impl_MemosOk_l1 at hm
  have a10 := l7.s rfl
  refine Cw.seq (Cw.region (Lw.lt rfl (Lw.nil (Cw.seq (Cw.cond (b := decide ((y6 : Int) < ((x0.length : Int) : Int))) rfl (fun hc11 => ?_) (fun hc11 => ?_))))))
  ·replace hm := bt hm hc11
   refine Cw.skip (Cw.seq (Cw.block (Cw.seq (Cw.region (Lw.m (vI y6) rfl ?_)))))
   obtain ⟨u12, e13, hm⟩ := ob hm
   refine Lw.r rfl (R.ix (α := Memo) (h0.ul a10) e13 rfl rfl rfl) ?_
   obtain ⟨x15, c16, _, r17⟩ := ((h0.ul a10).at_ e13).cells
   obtain ⟨v18, v20, v22, v24, rfl, r19, r21, r23, r25⟩ := Memo.split r17
   refine Lw.r rfl (R.lda c16 rfl rfl) (Lw.t rfl (T.alloc 2 (cs := [.slice none 0 0, .slice none 0 0, .slice none 0 0, .slice none 0 0]) rfl) ?_)
   rintro _ _ ⟨g26, W26, rfl, rfl, l26, b26⟩
   have a27 := l26.o
   refine Lw.g (vI y6) rfl (Lw.u (T.sta (vs := [v18, v20, v22, v24]) b26 rfl rfl (oc_cons r19.oc (oc_cons r21.oc (oc_cons r23.oc (oc_cons r25.oc oc_nil)))) rfl rfl) ?_)
   rintro _ _ ⟨W28, rfl, l28, b28⟩
   have a29 := l28.s rfl
   refine Lw.nil (Cw.seq ?_)
   obtain ⟨K32, hK32, hm⟩ := jn_e hm
   refine Cw.join 17 37 [37] (fun l w => ∃ (y30 : Bool) (W31 : CW), W31.w = w ∧ Le [] W28 W31 ∧ l = [vB y30] ∧ K32 y30 = some r) ?_ ?_
   ·rintro _ _ σ ⟨y30, W31, rfl, l31, rfl, hm⟩
    rw [hK32] at hm
    have a33 := l31.o
    refine Cw.cond (b := y30) rfl (fun hc35 => ?_) (fun hc35 => ?_)
    ·replace hm := bt hm hc35
     refine Cw.seq (Cw.region (Lw.g (vB false) rfl (Lw.nil ?_)))
     cases hm
     exact Cw.ret (ret1 rfl (Res.mk (((a10.trans a27).trans a29).trans a33) rfl))
    ·replace hm := bf hm hc35
     refine Cw.skip (Cw.seq (Cw.region (Lw.m v0_ rfl (Lw.m (vI y6) rfl ?_))))
     obtain ⟨q36, e37, hm⟩ := ob hm
     have s38 := h0.ul (((a10.trans a27).trans a29).trans a33)
     have r40 := s38.cutV e37
     refine Lw.r rfl (R.sl s38 e37 rfl (.inl ⟨rfl, rfl⟩) (.inr rfl)) (Lw.ln q36 r40 rfl (Lw.m (vI 0) rfl (Lw.nil (Cw.block ?_))))
     obtain ⟨K45, hK45, hm⟩ := jn_e hm
     refine Cw.loop 42 54 [2, 6, 42] (fun m l w => ∃ (y41 : Bool) (y43 : Int) (j42 : Value) (W44 : CW), W44.w = w ∧ Le [3] W31 W44 ∧ l = [vB y41, j42, vI y43] ∧ Vm.impl_MemosOk_l2 u12 q36 K45 m y41 y43 = some r) (((q36.length : Int) - 0).toNat + 1) ⟨y2, 0, j5, W31, rfl, Le.refl _ _, rfl, hm⟩ ?_
     rintro m46 _ _ σ ⟨y41, y43, j42, W44, rfl, l44, rfl, hm⟩
     obtain _ | m46 := m46
     ·cases hm
     unfold Vm.impl_MemosOk_l2 at hm
     have a47 := l44.s rfl
     refine Cw.seq (Cw.region (Lw.lt rfl (Lw.nil (Cw.seq (Cw.cond (b := decide ((y43 : Int) < ((q36.length : Int) : Int))) rfl (fun hc49 => ?_) (fun hc49 => ?_))))))
     ·replace hm := bt hm hc49
      refine Cw.skip (Cw.seq (Cw.block (Cw.seq (Cw.region ?_))))
      obtain ⟨u50, e51, hm⟩ := ob hm
      refine Lw.r rfl (R.ix (α := Memo) (r40.ul a47) e51 rfl rfl rfl) ?_
      obtain ⟨x53, c54, _, r55⟩ := ((r40.ul a47).at_ e51).cells
      obtain ⟨v56, v58, v60, v62, rfl, r57, r59, r61, r63⟩ := Memo.split r55
      refine Lw.r rfl (R.lda c54 rfl rfl) (Lw.t rfl (T.alloc 3 (cs := [.slice none 0 0, .slice none 0 0, .slice none 0 0, .slice none 0 0]) rfl) ?_)
      rintro _ _ ⟨g64, W64, rfl, rfl, l64, b64⟩
      have a65 := l64.o
      refine Lw.u (T.sta (vs := [v56, v58, v60, v62]) b64 rfl rfl (oc_cons r57.oc (oc_cons r59.oc (oc_cons r61.oc (oc_cons r63.oc oc_nil)))) rfl rfl) ?_
      rintro _ _ ⟨W67, rfl, l67, b67⟩
      have a68 := l67.s rfl
      have b69 := (((b28.up l31 rfl).up l44 rfl).up l64 rfl).up l67 rfl
      refine Lw.nil (Cw.seq (Cw.region (Lw.r rfl (R.lda (cs := [v56, v58, v60, v62]) b67.cells rfl rfl) (Lw.fa rfl (Lw.r rfl (R.ld (v := v18) rfl rfl (b69.cell rfl)) (Lw.fa rfl (Lw.r rfl (R.ld (v := v20) rfl rfl (b69.cell rfl)) (Lw.fa rfl (Lw.r rfl (R.ld (v := v22) rfl rfl (b69.cell rfl)) ?_)))))))))
      obtain ⟨z77, e78, hm⟩ := ob hm
      refine Lw.t rfl (T.call rfl (p57 (K := [0])  (Memo.rd (K := [0]) u50.Old u50.One u50.Two u50.Done (r57.ul (a65.trans a68)) (r59.ul (a65.trans a68)) (r61.ul (a65.trans a68)) (r63.ul (a65.trans a68))) (r19.ul (((((a27.trans a29).trans a33).trans a47).trans a65).trans a68)) (r21.ul (((((a27.trans a29).trans a33).trans a47).trans a65).trans a68)) (r23.ul (((((a27.trans a29).trans a33).trans a47).trans a65).trans a68)) e78)) ?_
      rintro _ _ ⟨W79, rfl, l79, rfl⟩
      have a80 := ((((((a10.trans a27).trans a29).trans a33).trans a47).trans a65).trans a68).n l79
      refine Lw.nil (Cw.cond (b := z77) rfl (fun hc83 => ?_) (fun hc83 => ?_))
      ·replace hm := bt hm hc83
       refine Cw.seq (Cw.region (Lw.g (vB false) rfl (Lw.nil ?_)))
       cases hm
       exact Cw.ret (ret1 rfl (Res.mk a80 rfl))
      ·replace hm := bf hm hc83
       refine Cw.skip (Cw.region (Lw.add rfl (Lw.m (vI (w64 (y43 + 1))) rfl (Lw.nil (⟨?_, m46, Nat.lt_succ_self m46, ⟨y41, w64 (y43 + 1), ptr (bx g64), W79, rfl, (l44.trans ((l64.sub rfl).trans (l67.trans (l79.sub rfl)))), rfl, hm⟩⟩)))))
       iterate 14 (refine Agree.up rfl ?_)
       iterate 3 (refine Agree.up rfl ?_)
       exact Agree.base
     ·replace hm := bf hm hc49
      refine Cw.exit ?_
      rw [hK45] at hm
      refine Cw.region (Lw.add rfl (Lw.m (vI (w64 (y6 + 1))) rfl (Lw.nil (⟨?_, m9, Nat.lt_succ_self m9, ⟨y41, w64 (y6 + 1), vI y6, ptr (bx g26), j42, W44, rfl, (l7.trans ((l26.sub rfl).trans ((l28.sub rfl).trans ((l31.sub rfl).trans (l44.sub rfl))))), rfl, hm⟩⟩))))
      iterate 3 (refine Agree.up rfl ?_)
      iterate 3 (refine Agree.up rfl ?_)
      refine Agree.ov0 rfl ?_
      iterate 5 (refine Agree.up rfl ?_)
      iterate 1 (refine Agree.up rfl ?_)
      refine Agree.ov0 rfl ?_
      iterate 6 (refine Agree.up rfl ?_)
      iterate 5 (refine Agree.up rfl ?_)
      exact Agree.base
   ·refine Cw.region (Lw.fa rfl (Lw.r rfl (R.ld (v := v18) rfl rfl (b28.cell rfl)) (Lw.fa rfl (Lw.r rfl (R.ld (v := v20) rfl rfl (b28.cell rfl)) (Lw.fa rfl (Lw.r rfl (R.ld (v := v22) rfl rfl (b28.cell rfl)) ?_))))))
    obtain ⟨z87, e88, hm⟩ := ob hm
    refine Lw.t rfl (T.call rfl (p54 (K := [0])  (r19.ul (a27.trans a29)) (r21.ul (a27.trans a29)) (r23.ul (a27.trans a29)) e88)) ?_
    rintro _ _ ⟨W89, rfl, l89, rfl⟩
    have a90 := (a27.trans a29).n l89
    refine Lw.r rfl (R.not rfl) (Lw.m (vB (!z87)) rfl (bsplit (!z87) (fun hc92 => ?_) (fun hc92 => ?_)))
    ·replace hm := bt hm hc92
     refine Lw.pass' hc92 rfl rfl rfl rfl rfl rfl rfl (Lw.pass' hc92 rfl rfl rfl rfl rfl rfl rfl (Lw.pass' hc92 rfl rfl rfl rfl rfl rfl rfl (Lw.pass' hc92 rfl rfl rfl rfl rfl rfl rfl (Lw.p hc92 (vB true) rfl (Lw.m (vB true) rfl (Lw.pass' rfl rfl rfl rfl rfl rfl rfl rfl (Lw.pass' rfl rfl rfl rfl rfl rfl rfl rfl (Lw.pass' rfl rfl rfl rfl rfl rfl rfl rfl (Lw.pass' rfl rfl rfl rfl rfl rfl rfl rfl (Lw.pass' rfl rfl rfl rfl rfl rfl rfl rfl (Lw.p rfl (vB true) rfl (Lw.nil (⟨?_, ⟨true, W89, rfl, l89, rfl, hm⟩⟩)))))))))))))
     iterate 21 (refine Agree.up rfl ?_)
     exact Agree.refl _
    ·replace hm := bf hm hc92
     refine Lw.want' hc92 rfl rfl rfl rfl (Lw.fa rfl (Lw.want' hc92 rfl rfl rfl rfl (Lw.r rfl (R.ld (v := v24) rfl rfl ((b28.up l89 rfl).cell rfl)) (Lw.want' hc92 rfl rfl rfl rfl ?_))))
     obtain ⟨z94, e95, hm⟩ := ob hm
     refine Lw.t rfl (T.call rfl (p55 (K := [0])  (r25.ul a90) e95)) ?_
     rintro _ _ ⟨W96, rfl, l96, rfl⟩
     have a97 := a90.n l96
     have b98 := (b28.up l89 rfl).up l96 rfl
     refine Lw.want' hc92 rfl rfl rfl rfl (Lw.r rfl (R.not rfl) (Lw.p hc92 (vB (!z94)) rfl (Lw.m (vB (!z94)) rfl (bsplit (!z94) (fun hc99 => ?_) (fun hc99 => ?_)))))
     ·replace hm := bt hm hc99
      refine Lw.pass' hc99 rfl rfl rfl rfl rfl rfl rfl (Lw.pass' hc99 rfl rfl rfl rfl rfl rfl rfl (Lw.pass' hc99 rfl rfl rfl rfl rfl rfl rfl (Lw.pass' hc99 rfl rfl rfl rfl rfl rfl rfl (Lw.pass' hc99 rfl rfl rfl rfl rfl rfl rfl (Lw.p hc99 (vB true) rfl (Lw.nil (⟨?_, ⟨true, W96, rfl, (l89.trans l96), rfl, hm⟩⟩)))))))
      iterate 21 (refine Agree.up rfl ?_)
      exact Agree.refl _
     ·replace hm := bf hm hc99
      refine Lw.want' hc99 rfl rfl rfl rfl (Lw.fa rfl (Lw.want' hc99 rfl rfl rfl rfl (Lw.r rfl (R.ld (v := v20) rfl rfl (b98.cell rfl)) (Lw.want' hc99 rfl rfl rfl rfl (Lw.fa rfl (Lw.want' hc99 rfl rfl rfl rfl (Lw.r rfl (R.ld (v := v22) rfl rfl (b98.cell rfl)) (Lw.want' hc99 rfl rfl rfl rfl ?_))))))))
      obtain ⟨z102, e103, hm⟩ := ob hm
      refine Lw.t rfl (T.call rfl (p56 (K := [0])  (r21.ul a97) (r23.ul a97) e103)) ?_
      rintro _ _ ⟨W104, rfl, l104, rfl⟩
      refine Lw.p hc99 (vB z102) rfl (Lw.nil (⟨?_, ⟨z102, W104, rfl, (l89.trans (l96.trans l104)), rfl, hm⟩⟩))
      iterate 21 (refine Agree.up rfl ?_)
      exact Agree.refl _
  ·replace hm := bf hm hc11
   refine Cw.exit ?_
   rw [hK8] at hm
   refine Cw.seq (Cw.region (Lw.g (vB true) rfl (Lw.nil ?_)))
   cases hm
   exact Cw.ret (ret1 rfl (Res.mk a10 rfl))

theorem p15 {W : CW} {K : List Nat} {x0 : List Vm.Memo} {v0_ : Value} {r : Bool} (h0 : Rd W K [v0_] x0) (hm : Vm.impl_MemosOk x0 = some r) : CallR Try.prog 15 [v0_].toArray W.w (Res W [] fun W' v => v = vB r) :=
 (c15 (V := W.view K []) (h0.view _) hm).ad (fk 0) fun _ _ e => e

theorem c31 {V : CW} {x0 : List Str} {v0_ : Value} {x1 : List Str} {v1_ : Value} {r : Bool} (h0 : Rd V [0] [v0_] x0) (h1 : Rd V [0] [v1_] x1) (hm : Vm.laws_eqStringS x0 x1 = some r) : CallR Try.prog 31 [v0_, v1_].toArray V.w (Res V LL fun Wf v => v = vB r) := by
 unfold Vm.laws_eqStringS at hm
 obtain ⟨W0, hW0⟩ : ∃ W, W = V := ⟨V, rfl⟩
 subst hW0
 refine CallR.of Try.func31 rfl rfl rfl rfl (Cw.seq (Cw.region (Lw.g (vB false) rfl (Lw.nil (Cw.seq (Cw.seq (Cw.region (Lw.m v0_ rfl (Lw.ln x0 h0 rfl (Lw.m v1_ rfl (Lw.ln x1 h1 rfl (Lw.ne rfl (Lw.nil (Cw.cond (b := (((x0.length : Int) : Int) != ((x1.length : Int) : Int))) rfl (fun hc1 => ?_) (fun hc1 => ?_)))))))))))))))
 ·replace hm := bt hm hc1
  refine Cw.seq (Cw.region (Lw.g (vB false) rfl (Lw.nil ?_)))
  cases hm
  exact Cw.ret (ret1 rfl (Res.mk (Le.refl _ _) rfl))
 ·replace hm := bf hm hc1
  refine Cw.skip (Cw.seq (Cw.seq (Cw.region (Lw.g (vI 0) rfl (Lw.nil (Cw.block ?_))))))
  obtain ⟨K5, hK5, hm⟩ := jn_e hm
  refine Cw.loop 11 25 [4, 5] (fun m l w => ∃ (y2 : Bool) (y3 : Int) (W4 : CW), W4.w = w ∧ Le [] W0 W4 ∧ l = [vB y2, vI y3] ∧ Vm.laws_eqStringS_l1 x0 x1 K5 m y2 y3 = some r) (((x0.length : Int) - 0).toNat + 1) ⟨false, 0, W0, rfl, Le.refl _ _, rfl, hm⟩ ?_
  rintro m6 _ _ σ ⟨y2, y3, W4, rfl, l4, rfl, hm⟩
  obtain _ | m6 := m6
  ·cases hm
  unfold Vm.laws_eqStringS_l1 at hm
  have a7 := l4.o
  refine Cw.seq (Cw.seq (Cw.region (Lw.m (vI y3) rfl (Lw.m v0_ rfl (Lw.ln x0 (h0.ul a7) rfl (Lw.lt rfl (Lw.nil (Cw.cond (b := decide ((y3 : Int) < ((x0.length : Int) : Int))) rfl (fun hc9 => ?_) (fun hc9 => ?_)))))))))
  ·replace hm := bt hm hc9
   refine Cw.skip (Cw.seq (Cw.block (Cw.seq (Cw.draw [] [(0, 0), (1, 0), (2, 0), (3, 1), (4, 0), (5, 0), (6, 0), (7, 1), (8, 0)] mixed (by kernel_rfl) fun W10 l10 => ?_))))
   have a11 := a7.n l10
   refine Mw.p rfl rfl (fun _ => R.mv (v := v0_) rfl) (Mw.p rfl rfl (fun _ => R.mv (v := vI y3) rfl) ?_)
   obtain ⟨u12, e13, hm⟩ := ob hm
   refine Mw.p rfl rfl (fun _ => R.ix (α := Str) (h0.ul a11) e13 rfl rfl rfl) (Mw.q rfl rfl (fun _ c => R.ld rfl rfl (cl_cell ((h0.ul a11).at_ e13).1 rfl ((h0.ul a11).at_ e13).str c)) (Mw.p rfl rfl (fun _ => R.mv (v := v1_) rfl) (Mw.p rfl rfl (fun _ => R.mv (v := vI y3) rfl) ?_)))
   obtain ⟨u15, e16, hm⟩ := ob hm
   refine Mw.p rfl rfl (fun _ => R.ix (α := Str) (h1.ul a11) e16 rfl rfl rfl) (Mw.q rfl rfl (fun _ c => R.ld rfl rfl (cl_cell ((h1.ul a11).at_ e16).1 rfl ((h1.ul a11).at_ e16).str c)) (Mw.p rfl rfl (fun _ => R.sne rfl rfl) (Mw.nil (Cw.cond (b := (u12 != u15)) rfl (fun hc18 => ?_) (fun hc18 => ?_)))))
   ·replace hm := bt hm hc18
    refine Cw.seq (Cw.region (Lw.g (vB false) rfl (Lw.nil ?_)))
    cases hm
    exact Cw.ret (ret1 rfl (Res.mk a11 rfl))
   ·replace hm := bf hm hc18
    refine Cw.skip (Cw.region (Lw.m (vI y3) rfl (Lw.add rfl (Lw.g (vI (w64 (y3 + 1))) rfl (Lw.nil (⟨?_, m6, Nat.lt_succ_self m6, ⟨y2, w64 (y3 + 1), W10, rfl, (l4.trans l10), rfl, hm⟩⟩))))))
    iterate 16 (refine Agree.up rfl ?_)
    iterate 2 (refine Agree.up rfl ?_)
    exact Agree.base
  ·replace hm := bf hm hc9
   refine Cw.exit ?_
   rw [hK5] at hm
   refine Cw.seq (Cw.region (Lw.g (vB true) rfl (Lw.nil ?_)))
   cases hm
   exact Cw.ret (ret1 rfl (Res.mk a7 rfl))

theorem p31 {W : CW} {K : List Nat} {x0 : List Str} {v0_ : Value} {x1 : List Str} {v1_ : Value} {r : Bool} (h0 : Rd W K [v0_] x0) (h1 : Rd W K [v1_] x1) (hm : Vm.laws_eqStringS x0 x1 = some r) : CallR Try.prog 31 [v0_, v1_].toArray W.w (Res W [] fun W' v => v = vB r) :=
 (c31 (V := W.view K []) (h0.view _) (h1.view _) hm).ad (fk 0) fun _ _ e => e

theorem c23 {V : CW} {x0 : Vm.Memo} {v0_0_ : Value} {v0_1_ : Value} {v0_2_ : Value} {v0_3_ : Value} {x1 : Vm.Memo} {v1_0_ : Value} {v1_1_ : Value} {v1_2_ : Value} {v1_3_ : Value} {r : Bool} (h0 : Rd V [0] [v0_0_, v0_1_, v0_2_, v0_3_] x0) (h1 : Rd V [0] [v1_0_, v1_1_, v1_2_, v1_3_] x1) (hm : Vm.laws_eqMemo x0 x1 = some r) : CallR Try.prog 23 [.agg [v0_0_, v0_1_, v0_2_, v0_3_].toArray, .agg [v1_0_, v1_1_, v1_2_, v1_3_].toArray].toArray V.w (Res V LL fun Wf v => v = vB r) := by
 unfold Vm.laws_eqMemo at hm
 obtain ⟨w0_0, w0_1, w0_2, w0_3, he0, h0_0, h0_1, h0_2, h0_3⟩ := Memo.split h0
 simp only [List.cons.injEq, and_true, true_and] at he0
 obtain ⟨rfl, rfl, rfl, rfl⟩ := he0
 obtain ⟨w1_0, w1_1, w1_2, w1_3, he1, h1_0, h1_1, h1_2, h1_3⟩ := Memo.split h1
 simp only [List.cons.injEq, and_true, true_and] at he1
 obtain ⟨rfl, rfl, rfl, rfl⟩ := he1
 obtain ⟨W0, hW0⟩ : ∃ W, W = V := ⟨V, rfl⟩
 subst hW0
 refine CallR.of Try.func23 rfl rfl rfl rfl (Cw.seq (Cw.region (Lw.t rfl (T.box 2 (v := .agg [v0_0_, v0_1_, v0_2_, v0_3_].toArray) (cs := [v0_0_, v0_1_, v0_2_, v0_3_]) rfl rfl) ?_)))
 rintro _ _ ⟨g1, W1, rfl, rfl, l1, b1⟩
 have a2 := l1.o
 refine Lw.t rfl (T.box 3 (v := .agg [v1_0_, v1_1_, v1_2_, v1_3_].toArray) (cs := [v1_0_, v1_1_, v1_2_, v1_3_]) rfl rfl) ?_
 rintro _ _ ⟨g3, W3, rfl, rfl, l3, b3⟩
 have a4 := a2.n l3
 refine Lw.g (vB false) rfl (Lw.nil (Cw.seq (Cw.seq (Cw.region (Lw.fa rfl (Lw.r rfl (R.ld (v := v0_0_) rfl rfl ((b1.up l3 rfl).cell rfl)) (Lw.fa rfl (Lw.r rfl (R.ld (v := v1_0_) rfl rfl (b3.cell rfl)) ?_))))))))
 obtain ⟨z8, e9, hm⟩ := ob hm
 refine Lw.t rfl (T.call rfl (p31 (K := [0])  (h0_0.ul a4) (h1_0.ul a4) e9)) ?_
 rintro _ _ ⟨W10, rfl, l10, rfl⟩
 have a11 := a4.n l10
 have b12 := (b1.up l3 rfl).up l10 rfl
 refine Lw.r rfl (R.not rfl) (Lw.nil (Cw.cond (b := (!z8)) rfl (fun hc14 => ?_) (fun hc14 => ?_)))
 ·replace hm := bt hm hc14
  refine Cw.seq (Cw.region (Lw.g (vB false) rfl (Lw.nil ?_)))
  cases hm
  exact Cw.ret (ret1 rfl (Res.mk a11 rfl))
 ·replace hm := bf hm hc14
  refine Cw.skip (Cw.seq (Cw.seq (Cw.region (Lw.fa rfl (Lw.r rfl (R.ld (v := v0_1_) rfl rfl (b12.cell rfl)) (Lw.fa rfl (Lw.r rfl (R.ld (v := v1_1_) rfl rfl ((b3.up l10 rfl).cell rfl)) ?_)))))))
  obtain ⟨z17, e18, hm⟩ := ob hm
  refine Lw.t rfl (T.call rfl (p31 (K := [0])  (h0_1.ul a11) (h1_1.ul a11) e18)) ?_
  rintro _ _ ⟨W19, rfl, l19, rfl⟩
  have a20 := a11.n l19
  have b22 := (b3.up l10 rfl).up l19 rfl
  refine Lw.r rfl (R.not rfl) (Lw.nil (Cw.cond (b := (!z17)) rfl (fun hc23 => ?_) (fun hc23 => ?_)))
  ·replace hm := bt hm hc23
   refine Cw.seq (Cw.region (Lw.g (vB false) rfl (Lw.nil ?_)))
   cases hm
   exact Cw.ret (ret1 rfl (Res.mk a20 rfl))
  ·replace hm := bf hm hc23
   refine Cw.skip (Cw.seq (Cw.seq (Cw.region (Lw.fa rfl (Lw.r rfl (R.ld (v := v0_2_) rfl rfl ((b12.up l19 rfl).cell rfl)) (Lw.fa rfl (Lw.r rfl (R.ld (v := v1_2_) rfl rfl (b22.cell rfl)) ?_)))))))
   obtain ⟨z26, e27, hm⟩ := ob hm
   refine Lw.t rfl (T.call rfl (p31 (K := [0])  (h0_2.ul a20) (h1_2.ul a20) e27)) ?_
   rintro _ _ ⟨W28, rfl, l28, rfl⟩
   have a29 := a20.n l28
   refine Lw.r rfl (R.not rfl) (Lw.nil (Cw.cond (b := (!z26)) rfl (fun hc32 => ?_) (fun hc32 => ?_)))
   ·replace hm := bt hm hc32
    refine Cw.seq (Cw.region (Lw.g (vB false) rfl (Lw.nil ?_)))
    cases hm
    exact Cw.ret (ret1 rfl (Res.mk a29 rfl))
   ·replace hm := bf hm hc32
    refine Cw.skip (Cw.seq (Cw.seq (Cw.region (Lw.fa rfl (Lw.r rfl (R.ld (v := v0_3_) rfl rfl (((b12.up l19 rfl).up l28 rfl).cell rfl)) (Lw.fa rfl (Lw.r rfl (R.ld (v := v1_3_) rfl rfl ((b22.up l28 rfl).cell rfl)) ?_)))))))
    obtain ⟨z35, e36, hm⟩ := ob hm
    refine Lw.t rfl (T.call rfl (p31 (K := [0])  (h0_3.ul a29) (h1_3.ul a29) e36)) ?_
    rintro _ _ ⟨W37, rfl, l37, rfl⟩
    have a38 := a29.n l37
    refine Lw.r rfl (R.not rfl) (Lw.nil (Cw.cond (b := (!z35)) rfl (fun hc41 => ?_) (fun hc41 => ?_)))
    ·replace hm := bt hm hc41
     refine Cw.seq (Cw.region (Lw.g (vB false) rfl (Lw.nil ?_)))
     cases hm
     exact Cw.ret (ret1 rfl (Res.mk a38 rfl))
    ·replace hm := bf hm hc41
     refine Cw.skip (Cw.seq (Cw.region (Lw.g (vB true) rfl (Lw.nil ?_))))
     cases hm
     exact Cw.ret (ret1 rfl (Res.mk a38 rfl))

theorem p23 {W : CW} {K : List Nat} {x0 : Vm.Memo} {v0_0_ : Value} {v0_1_ : Value} {v0_2_ : Value} {v0_3_ : Value} {x1 : Vm.Memo} {v1_0_ : Value} {v1_1_ : Value} {v1_2_ : Value} {v1_3_ : Value} {r : Bool} (h0 : Rd W K [v0_0_, v0_1_, v0_2_, v0_3_] x0) (h1 : Rd W K [v1_0_, v1_1_, v1_2_, v1_3_] x1) (hm : Vm.laws_eqMemo x0 x1 = some r) : CallR Try.prog 23 [.agg [v0_0_, v0_1_, v0_2_, v0_3_].toArray, .agg [v1_0_, v1_1_, v1_2_, v1_3_].toArray].toArray W.w (Res W [] fun W' v => v = vB r) :=
 (c23 (V := W.view K []) (h0.view _) (h1.view _) hm).ad (fk 0) fun _ _ e => e

theorem c16 {V : CW} {x0 : List Vm.Memo} {v0_ : Value} {x1 : List Vm.Memo} {v1_ : Value} {r : Bool} (h0 : Rd V [0] [v0_] x0) (h1 : Rd V [0] [v1_] x1) (hm : Vm.laws_eqMemoS x0 x1 = some r) : CallR Try.prog 16 [v0_, v1_].toArray V.w (Res V LL fun Wf v => v = vB r) := by
 unfold Vm.laws_eqMemoS at hm
 obtain ⟨W0, hW0⟩ : ∃ W, W = V := ⟨V, rfl⟩
 subst hW0
 refine CallR.of Try.func16 rfl rfl rfl rfl (Cw.seq (Cw.region (Lw.g (vB false) rfl (Lw.nil (Cw.seq (Cw.seq (Cw.region (Lw.m v0_ rfl (Lw.ln x0 h0 rfl (Lw.m v1_ rfl (Lw.ln x1 h1 rfl (Lw.ne rfl (Lw.nil (Cw.cond (b := (((x0.length : Int) : Int) != ((x1.length : Int) : Int))) rfl (fun hc1 => ?_) (fun hc1 => ?_)))))))))))))))
 ·replace hm := bt hm hc1
  refine Cw.seq (Cw.region (Lw.g (vB false) rfl (Lw.nil ?_)))
  cases hm
  exact Cw.ret (ret1 rfl (Res.mk (Le.refl _ _) rfl))
 ·replace hm := bf hm hc1
  refine Cw.skip (Cw.seq (Cw.seq (Cw.region (Lw.g (vI 0) rfl (Lw.nil (Cw.block ?_))))))
  obtain ⟨K5, hK5, hm⟩ := jn_e hm
  refine Cw.loop 11 26 [4, 5] (fun m l w => ∃ (y2 : Bool) (y3 : Int) (W4 : CW), W4.w = w ∧ Le [] W0 W4 ∧ l = [vB y2, vI y3] ∧ Vm.laws_eqMemoS_l1 x0 x1 K5 m y2 y3 = some r) (((x0.length : Int) - 0).toNat + 1) ⟨false, 0, W0, rfl, Le.refl _ _, rfl, hm⟩ ?_
  rintro m6 _ _ σ ⟨y2, y3, W4, rfl, l4, rfl, hm⟩
  obtain _ | m6 := m6
  ·cases hm
  unfold Vm.laws_eqMemoS_l1 at hm
  have a7 := l4.o
  refine Cw.seq (Cw.seq (Cw.region (Lw.m (vI y3) rfl (Lw.m v0_ rfl (Lw.ln x0 (h0.ul a7) rfl (Lw.lt rfl (Lw.nil (Cw.cond (b := decide ((y3 : Int) < ((x0.length : Int) : Int))) rfl (fun hc9 => ?_) (fun hc9 => ?_)))))))))
  ·replace hm := bt hm hc9
   refine Cw.skip (Cw.seq (Cw.block (Cw.seq (Cw.draw [] [(0, 0), (1, 0), (2, 0), (3, 1), (4, 0), (5, 0), (6, 0), (7, 1), (8, 3), (9, 0)] mixed (by kernel_rfl) fun W10 l10 => ?_))))
   have a11 := a7.n l10
   refine Mw.p rfl rfl (fun _ => R.mv (v := v0_) rfl) (Mw.p rfl rfl (fun _ => R.mv (v := vI y3) rfl) ?_)
   obtain ⟨u12, e13, hm⟩ := ob hm
   refine Mw.p rfl rfl (fun _ => R.ix (α := Memo) (h0.ul a11) e13 rfl rfl rfl) ?_
   obtain ⟨x15, c16, _, r17⟩ := ((h0.ul a11).at_ e13).cells
   obtain ⟨v18, v20, v22, v24, rfl, r19, r21, r23, r25⟩ := Memo.split r17
   refine Mw.q rfl rfl (fun _ c => R.lda (cl_cells ((h0.ul a11).at_ e13).1 rfl c16 c) rfl rfl) (Mw.p rfl rfl (fun _ => R.mv (v := v1_) rfl) (Mw.p rfl rfl (fun _ => R.mv (v := vI y3) rfl) ?_))
   obtain ⟨u26, e27, hm⟩ := ob hm
   refine Mw.p rfl rfl (fun _ => R.ix (α := Memo) (h1.ul a11) e27 rfl rfl rfl) ?_
   obtain ⟨x29, c30, _, r31⟩ := ((h1.ul a11).at_ e27).cells
   obtain ⟨v32, v34, v36, v38, rfl, r33, r35, r37, r39⟩ := Memo.split r31
   refine Mw.q rfl rfl (fun _ c => R.lda (cl_cells ((h1.ul a11).at_ e27).1 rfl c30 c) rfl rfl) ?_
   obtain ⟨z40, e41, hm⟩ := ob hm
   refine Mw.l rfl rfl (T.call rfl (p23 (K := [0])  (Memo.rd (K := [0]) u12.Old u12.One u12.Two u12.Done r19 r21 r23 r25) (Memo.rd (K := [0]) u26.Old u26.One u26.Two u26.Done r33 r35 r37 r39) e41)) ?_
   rintro _ _ ⟨W42, rfl, l42, rfl⟩
   have a43 := a11.n l42
   refine Mw.p rfl rfl (fun _ => R.not rfl) (Mw.nil (Cw.cond (b := (!z40)) rfl (fun hc44 => ?_) (fun hc44 => ?_)))
   ·replace hm := bt hm hc44
    refine Cw.seq (Cw.region (Lw.g (vB false) rfl (Lw.nil ?_)))
    cases hm
    exact Cw.ret (ret1 rfl (Res.mk a43 rfl))
   ·replace hm := bf hm hc44
    refine Cw.skip (Cw.region (Lw.m (vI y3) rfl (Lw.add rfl (Lw.g (vI (w64 (y3 + 1))) rfl (Lw.nil (⟨?_, m6, Nat.lt_succ_self m6, ⟨y2, w64 (y3 + 1), W42, rfl, (l4.trans (l10.trans l42)), rfl, hm⟩⟩))))))
    iterate 17 (refine Agree.up rfl ?_)
    iterate 2 (refine Agree.up rfl ?_)
    exact Agree.base
  ·replace hm := bf hm hc9
   refine Cw.exit ?_
   rw [hK5] at hm
   refine Cw.seq (Cw.region (Lw.g (vB true) rfl (Lw.nil ?_)))
   cases hm
   exact Cw.ret (ret1 rfl (Res.mk a7 rfl))

theorem p16 {W : CW} {K : List Nat} {x0 : List Vm.Memo} {v0_ : Value} {x1 : List Vm.Memo} {v1_ : Value} {r : Bool} (h0 : Rd W K [v0_] x0) (h1 : Rd W K [v1_] x1) (hm : Vm.laws_eqMemoS x0 x1 = some r) : CallR Try.prog 16 [v0_, v1_].toArray W.w (Res W [] fun W' v => v = vB r) :=
 (c16 (V := W.view K []) (h0.view _) (h1.view _) hm).ad (fk 0) fun _ _ e => e

theorem c3 {V : CW} {x0 : List Vm.Memo} {v0_ : Value} {r : Bool} (h0 : Rd V [0] [v0_] x0) (hm : Vm.laws_FnExactMemosOk x0 = some r) : CallR Try.prog 3 [v0_].toArray V.w (Res V LL fun Wf v => v = vB r) := by
 unfold Vm.laws_FnExactMemosOk at hm
 obtain ⟨W0, hW0⟩ : ∃ W, W = V := ⟨V, rfl⟩
 subst hW0
 refine CallR.of Try.func3 rfl rfl rfl rfl (Cw.seq (Cw.region (Lw.g (vB false) rfl (Lw.nil (Cw.seq (Cw.region (Lw.g (vI 1048576) rfl (Lw.nil (Cw.seq (Cw.region (Lw.m v0_ rfl (Lw.m (vI 1048576) rfl ?_))))))))))))
 obtain ⟨z1, e2, hm⟩ := ob hm
 refine Lw.t rfl (T.call rfl (p12 (K := [0])  h0 e2)) ?_
 rintro _ _ ⟨W3, rfl, l3, rfl⟩
 have a4 := l3.o
 refine Lw.g (vI z1) rfl (Lw.nil (Cw.seq (Cw.seq (Cw.region (Lw.m (vI z1) rfl (Lw.lt rfl (Lw.nil (Cw.cond (b := decide ((z1 : Int) < (0 : Int))) rfl (fun hc5 => ?_) (fun hc5 => ?_)))))))))
 ·replace hm := bt hm hc5
  refine Cw.seq (Cw.region (Lw.g (vB true) rfl (Lw.nil ?_)))
  cases hm
  exact Cw.ret (ret1 rfl (Res.mk a4 rfl))
 ·replace hm := bf hm hc5
  refine Cw.skip (Cw.seq (Cw.region (Lw.m v0_ rfl ?_)))
  obtain ⟨z7, e8, hm⟩ := ob hm
  refine Lw.t rfl (T.call rfl (p14 (K := [0]) (k0 := 2) (h0.ul a4) e8)) ?_
  rintro v0_9 _ ⟨W9, rfl, l9, ⟨_, rfl, f9_0⟩⟩
  have a10 := a4.n l9
  obtain ⟨z11, e12, hm⟩ := ob hm
  refine Lw.t rfl (T.call rfl (p13 (K := [2])  f9_0.rd e12)) ?_
  rintro _ _ ⟨W13, rfl, l13, rfl⟩
  have a14 := a10.n l13
  refine Lw.g (vB z11) rfl (Lw.nil (Cw.seq (Cw.region (Lw.m v0_ rfl ?_))))
  obtain ⟨z17, e18, hm⟩ := ob hm
  refine Lw.t rfl (T.call rfl (p14 (K := [0]) (k0 := 3) (h0.ul a14) e18)) ?_
  rintro v0_19 _ ⟨W19, rfl, l19, ⟨_, rfl, f19_0⟩⟩
  have a20 := a14.n l19
  refine Lw.g v0_19 rfl (Lw.nil (Cw.seq (Cw.region (Lw.m v0_19 rfl ?_))))
  obtain ⟨z22, e23, hm⟩ := ob hm
  refine Lw.t rfl (T.call rfl (p15 (K := [3])  f19_0.rd e23)) ?_
  rintro _ _ ⟨W24, rfl, l24, rfl⟩
  have a25 := a20.n l24
  refine Lw.g (vB z22) rfl (Lw.nil (Cw.seq (Cw.seq (Cw.region (Lw.m (vB z22) rfl (Lw.m (vB z11) rfl (Lw.r rfl (R.bne rfl rfl) (Lw.nil (Cw.cond (b := (z22 != z11)) rfl (fun hc28 => ?_) (fun hc28 => ?_))))))))))
  ·replace hm := bt hm hc28
   refine Cw.seq (Cw.region (Lw.g (vB false) rfl (Lw.nil ?_)))
   cases hm
   exact Cw.ret (ret1 rfl (Res.mk a25 rfl))
  ·replace hm := bf hm hc28
   refine Cw.skip (Cw.seq (Cw.seq (Cw.region (Lw.m v0_19 rfl (Lw.m v0_ rfl ?_)))))
   obtain ⟨z30, e31, hm⟩ := ob hm
   refine Lw.t rfl (T.call rfl (p14 (K := [0]) (k0 := 4) (h0.ul a25) e31)) ?_
   rintro v0_32 _ ⟨W32, rfl, l32, ⟨_, rfl, f32_0⟩⟩
   have a33 := a25.n l32
   obtain ⟨z36, e37, hm⟩ := ob hm
   refine Lw.t rfl (T.call rfl (p16 (K := [3, 4])  (((f19_0.up l24 rfl).up l32 rfl).rd.sub (M := [3, 4]) rfl) (f32_0.rd.sub (M := [3, 4]) rfl) e37)) ?_
   rintro _ _ ⟨W38, rfl, l38, rfl⟩
   have a39 := a33.n l38
   refine Lw.r rfl (R.not rfl) (Lw.nil (Cw.cond (b := (!z36)) rfl (fun hc43 => ?_) (fun hc43 => ?_)))
   ·replace hm := bt hm hc43
    refine Cw.seq (Cw.region (Lw.g (vB false) rfl (Lw.nil ?_)))
    cases hm
    exact Cw.ret (ret1 rfl (Res.mk a39 rfl))
   ·replace hm := bf hm hc43
    refine Cw.skip (Cw.seq (Cw.region (Lw.g (vB true) rfl (Lw.nil ?_))))
    cases hm
    exact Cw.ret (ret1 rfl (Res.mk a39 rfl))

theorem p3 {W : CW} {K : List Nat} {x0 : List Vm.Memo} {v0_ : Value} {r : Bool} (h0 : Rd W K [v0_] x0) (hm : Vm.laws_FnExactMemosOk x0 = some r) : CallR Try.prog 3 [v0_].toArray W.w (Res W [] fun W' v => v = vB r) :=
 (c3 (V := W.view K []) (h0.view _) hm).ad (fk 0) fun _ _ e => e

end Go.Sx
