/- Walks: each function answers as its model, printed by a program of ours. Conditions: the arguments read as they are given. -/
import Derived.Test.YtmjjhnahdmlmaaaDoorXTs
import Derived.Test.YtmjjhnahdmlmaaaDoorXMd
import Derived.Test.YtmjjhnahdmlmaaaDoorXW0
namespace Go.Sx
open Go Go.Proofs Go.Vm Rp
set_option linter.unusedVariables false
set_option linter.unusedSimpArgs false

theorem c150 {V : CW} {x0 : Str} {r : Bool}  (hm : Vm.spec_l1Line x0 = some r) : CallR Tryd.prog 150 [vS x0].toArray V.w (Res V LL fun Wf v => v = vB r) := by
 unfold Vm.spec_l1Line at hm
 obtain ⟨W0, hW0⟩ : ∃ W, W = V := ⟨V, rfl⟩
 subst hW0
 refine CallR.of Tryd.func150 rfl rfl rfl rfl (Cw.seq (Cw.region (Lw.g (vB false) rfl (Lw.nil (Cw.seq (Cw.seq (Cw.region (Lw.g (vI 0) rfl (Lw.nil (Cw.block ?_))))))))))
 obtain ⟨K4, hK4, hm⟩ := jn_e hm
 refine Cw.loop 4 19 [2, 3] (fun m l w => ∃ (y1 : Bool) (y2 : Int) (W3 : CW), W3.w = w ∧ Le [] W0 W3 ∧ l = [vB y1, vI y2] ∧ Vm.spec_l1Line_l1 x0 K4 m y1 y2 = some r) (((x0.length : Int) - 0).toNat + 1) ⟨false, 0, W0, rfl, Le.refl _ _, rfl, hm⟩ ?_
 rintro m5 _ _ σ ⟨y1, y2, W3, rfl, l3, rfl, hm⟩
 obtain _ | m5 := m5
 ·cases hm
 unfold Vm.spec_l1Line_l1 at hm
 have a6 := l3.o
 refine Cw.seq (Cw.seq (Cw.region (Lw.m (vI y2) rfl (Lw.m (vS x0) rfl (Lw.r rfl (R.lenS rfl) (Lw.lt rfl (Lw.nil (Cw.cond (b := decide ((y2 : Int) < ((x0.length : Int) : Int))) rfl (fun hc7 => ?_) (fun hc7 => ?_)))))))))
 ·replace hm := bt hm hc7
  refine Cw.skip (Cw.seq (Cw.block ?_))
  obtain ⟨K10, hK10, hm⟩ := jn_e hm
  refine Cw.join 10 19 [19] (fun l w => ∃ (y8 : Bool) (W9 : CW), W9.w = w ∧ Le [] W3 W9 ∧ l = [vB y8] ∧ K10 y8 = some r) ?_ ?_
  ·rintro _ _ σ ⟨y8, W9, rfl, l9, rfl, hm⟩
   rw [hK10] at hm
   have a11 := a6.n l9
   refine Cw.cond (b := y8) rfl (fun hc12 => ?_) (fun hc12 => ?_)
   ·replace hm := bt hm hc12
    refine Cw.seq (Cw.region (Lw.g (vB false) rfl (Lw.nil ?_)))
    cases hm
    exact Cw.ret (ret1 rfl (Res.mk a11 rfl))
   ·replace hm := bf hm hc12
    refine Cw.skip (Cw.region (Lw.m (vI y2) rfl (Lw.add rfl (Lw.g (vI (w64 (y2 + 1))) rfl (Lw.nil (⟨?_, m5, Nat.lt_succ_self m5, ⟨y1, w64 (y2 + 1), W9, rfl, (l3.trans l9), rfl, hm⟩⟩))))))
    iterate 3 (refine Agree.up rfl ?_)
    iterate 1 (refine Agree.up rfl ?_)
    refine Agree.ov0 rfl ?_
    iterate 4 (refine Agree.up rfl ?_)
    iterate 2 (refine Agree.up rfl ?_)
    exact Agree.base
  ·refine Cw.region (Lw.m (vS x0) rfl (Lw.m (vI y2) rfl ?_))
   obtain ⟨u13, e14, hm⟩ := ob hm
   refine Lw.r rfl (R.chm e14 rfl rfl) (Lw.lt rfl (Lw.m (vB (decide (((UInt8.toNat u13 : Int) : Int) < (32 : Int)))) rfl (bsplit (decide (((UInt8.toNat u13 : Int) : Int) < (32 : Int))) (fun hc15 => ?_) (fun hc15 => ?_))))
   ·replace hm := bt hm hc15
    refine Lw.pass' hc15 rfl rfl rfl rfl rfl rfl rfl (Lw.pass' hc15 rfl rfl rfl rfl rfl rfl rfl (Lw.pass' hc15 rfl rfl rfl rfl rfl rfl rfl (Lw.pass' hc15 rfl rfl rfl rfl rfl rfl rfl (Lw.p hc15 (vB true) rfl (Lw.nil (⟨?_, ⟨true, W3, rfl, Le.refl _ _, rfl, hm⟩⟩))))))
    iterate 10 (refine Agree.up rfl ?_)
    exact Agree.refl _
   ·replace hm := bf hm hc15
    refine Lw.want' hc15 rfl rfl rfl rfl (Lw.m (vS x0) rfl (Lw.want' hc15 rfl rfl rfl rfl (Lw.m (vI y2) rfl (Lw.want' hc15 rfl rfl rfl rfl ?_))))
    obtain ⟨u16, e17, hm⟩ := ob hm
    refine Lw.r rfl (R.chm e17 rfl rfl) (Lw.want' hc15 rfl rfl rfl rfl (Lw.gt rfl (Lw.p hc15 (vB (decide ((126 : Int) < ((UInt8.toNat u16 : Int) : Int)))) rfl (Lw.nil (⟨?_, ⟨decide ((126 : Int) < ((UInt8.toNat u16 : Int) : Int)), W3, rfl, Le.refl _ _, rfl, hm⟩⟩)))))
    iterate 10 (refine Agree.up rfl ?_)
    exact Agree.refl _
 ·replace hm := bf hm hc7
  refine Cw.exit ?_
  rw [hK4] at hm
  refine Cw.seq (Cw.region (Lw.m (vS x0) rfl (Lw.r rfl (R.lenS rfl) (Lw.le rfl (Lw.g (vB (decide (((x0.length : Int) : Int) ≤ (12 : Int)))) rfl (Lw.nil ?_))))))
  cases hm
  exact Cw.ret (ret1 rfl (Res.mk a6 rfl))

theorem p150 {W : CW} {K : List Nat} {x0 : Str} {r : Bool}  (hm : Vm.spec_l1Line x0 = some r) : CallR Tryd.prog 150 [vS x0].toArray W.w (Res W [] fun W' v => v = vB r) :=
 (c150 (V := W.view K [])  hm).ad (fk 0) fun _ _ e => e

theorem c131 {V : CW} {x0 : List Str} {v0_ : Value} {r : Bool} (h0 : Rd V [0] [v0_] x0) (hm : Vm.spec_l1Ok x0 = some r) : CallR Tryd.prog 131 [v0_].toArray V.w (Res V LL fun Wf v => v = vB r) := by
 unfold Vm.spec_l1Ok at hm
 obtain ⟨W0, hW0⟩ : ∃ W, W = V := ⟨V, rfl⟩
 subst hW0
 refine CallR.of Tryd.func131 rfl rfl rfl rfl (Cw.seq (Cw.region (Lw.g (vB false) rfl (Lw.nil (Cw.seq (Cw.seq (Cw.region (Lw.g (vI 0) rfl (Lw.nil (Cw.block ?_))))))))))
 obtain ⟨K4, hK4, hm⟩ := jn_e hm
 refine Cw.loop 4 15 [2, 3] (fun m l w => ∃ (y1 : Bool) (y2 : Int) (W3 : CW), W3.w = w ∧ Le [] W0 W3 ∧ l = [vB y1, vI y2] ∧ Vm.spec_l1Ok_l1 x0 K4 m y1 y2 = some r) (((x0.length : Int) - 0).toNat + 1) ⟨false, 0, W0, rfl, Le.refl _ _, rfl, hm⟩ ?_
 rintro m5 _ _ σ ⟨y1, y2, W3, rfl, l3, rfl, hm⟩
 obtain _ | m5 := m5
 ·cases hm
 unfold Vm.spec_l1Ok_l1 at hm
 have a6 := l3.o
 refine Cw.seq (Cw.seq (Cw.region ?_))
 have s7 := h0.ul a6
 refine Lw.m (vI y2) rfl (Lw.m v0_ rfl (Lw.ln x0 s7 rfl (Lw.lt rfl (Lw.nil (Cw.cond (b := decide ((y2 : Int) < ((x0.length : Int) : Int))) rfl (fun hc8 => ?_) (fun hc8 => ?_))))))
 ·replace hm := bt hm hc8
  refine Cw.skip (Cw.seq (Cw.block (Cw.seq (Cw.region (Lw.m v0_ rfl (Lw.m (vI y2) rfl ?_))))))
  obtain ⟨u9, e10, hm⟩ := ob hm
  refine Lw.r rfl (R.ix (α := Str) s7 e10 rfl rfl rfl) (Lw.r rfl (R.ld rfl rfl (s7.at_ e10).str) ?_)
  obtain ⟨z11, e12, hm⟩ := ob hm
  refine Lw.t rfl (T.call rfl (p150 (K := [0])   e12)) ?_
  rintro _ _ ⟨W13, rfl, l13, rfl⟩
  have a14 := a6.n l13
  refine Lw.r rfl (R.not rfl) (Lw.nil (Cw.cond (b := (!z11)) rfl (fun hc15 => ?_) (fun hc15 => ?_)))
  ·replace hm := bt hm hc15
   refine Cw.seq (Cw.region (Lw.g (vB false) rfl (Lw.nil ?_)))
   cases hm
   exact Cw.ret (ret1 rfl (Res.mk a14 rfl))
  ·replace hm := bf hm hc15
   refine Cw.skip (Cw.region (Lw.m (vI y2) rfl (Lw.add rfl (Lw.g (vI (w64 (y2 + 1))) rfl (Lw.nil (⟨?_, m5, Nat.lt_succ_self m5, ⟨y1, w64 (y2 + 1), W13, rfl, (l3.trans l13), rfl, hm⟩⟩))))))
   iterate 13 (refine Agree.up rfl ?_)
   iterate 2 (refine Agree.up rfl ?_)
   exact Agree.base
 ·replace hm := bf hm hc8
  refine Cw.exit ?_
  rw [hK4] at hm
  refine Cw.seq (Cw.region (Lw.m v0_ rfl (Lw.ln x0 s7 rfl (Lw.le rfl (Lw.g (vB (decide (((x0.length : Int) : Int) ≤ (10 : Int)))) rfl (Lw.nil ?_))))))
  cases hm
  exact Cw.ret (ret1 rfl (Res.mk a6 rfl))

theorem p131 {W : CW} {K : List Nat} {x0 : List Str} {v0_ : Value} {r : Bool} (h0 : Rd W K [v0_] x0) (hm : Vm.spec_l1Ok x0 = some r) : CallR Tryd.prog 131 [v0_].toArray W.w (Res W [] fun W' v => v = vB r) :=
 (c131 (V := W.view K []) (h0.view _) hm).ad (fk 0) fun _ _ e => e

theorem c105 {V : CW} {x0 : List Str} {v0_ : Value} {r : Bool} (h0 : Rd V [0] [v0_] x0) (hm : Vm.spec_l19Lines x0 = some r) : CallR Tryd.prog 105 [v0_].toArray V.w (Res V LL fun Wf v => v = vB r) := by
 unfold Vm.spec_l19Lines at hm
 obtain ⟨W0, hW0⟩ : ∃ W, W = V := ⟨V, rfl⟩
 subst hW0
 refine CallR.of Tryd.func105 rfl rfl rfl rfl (Cw.seq (Cw.region (Lw.g (vB false) rfl (Lw.nil (Cw.seq (Cw.seq (Cw.region (Lw.g (vI 0) rfl (Lw.nil (Cw.block ?_))))))))))
 obtain ⟨K5, hK5, hm⟩ := jn_e hm
 refine Cw.loop 5 26 [2, 3, 4] (fun m l w => ∃ (y1 : Bool) (y2 : Int) (j3 : Value) (W4 : CW), W4.w = w ∧ Le [] W0 W4 ∧ l = [vB y1, vI y2, j3] ∧ Vm.spec_l19Lines_l1 x0 K5 m y1 y2 = some r) (((x0.length : Int) - 0).toNat + 1) ⟨false, 0, undef, W0, rfl, Le.refl _ _, rfl, hm⟩ ?_
 rintro m6 _ _ σ ⟨y1, y2, j3, W4, rfl, l4, rfl, hm⟩
 obtain _ | m6 := m6
 ·cases hm
 unfold Vm.spec_l19Lines_l1 at hm
 have a7 := l4.o
 refine Cw.seq (Cw.seq (Cw.region (Lw.m (vI y2) rfl (Lw.m v0_ rfl (Lw.ln x0 (h0.ul a7) rfl (Lw.lt rfl (Lw.nil (Cw.cond (b := decide ((y2 : Int) < ((x0.length : Int) : Int))) rfl (fun hc9 => ?_) (fun hc9 => ?_)))))))))
 ·replace hm := bt hm hc9
  refine Cw.skip (Cw.seq (Cw.block (Cw.seq (Cw.region (Lw.g (vI 0) rfl (Lw.nil (Cw.block ?_)))))))
  obtain ⟨K13, hK13, hm⟩ := jn_e hm
  refine Cw.loop 11 26 [2, 4] (fun m l w => ∃ (y10 : Bool) (y11 : Int) (W12 : CW), W12.w = w ∧ Le [] W4 W12 ∧ l = [vB y10, vI y11] ∧ Vm.spec_l19Lines_l2 x0 y2 K13 m y10 y11 = some r) (((gi x0 y2).getD []).length + 1) ⟨y1, 0, W4, rfl, Le.refl _ _, rfl, hm⟩ ?_
  rintro m14 _ _ σ ⟨y10, y11, W12, rfl, l12, rfl, hm⟩
  obtain _ | m14 := m14
  ·cases hm
  unfold Vm.spec_l19Lines_l2 at hm
  have a15 := a7.n l12
  refine Cw.seq (Cw.seq (Cw.region (Lw.m (vI y11) rfl (Lw.m v0_ rfl (Lw.m (vI y2) rfl ?_)))))
  obtain ⟨u16, e17, hm⟩ := ob hm
  have s18 := h0.ul a15
  refine Lw.r rfl (R.ix (α := Str) s18 e17 rfl rfl rfl) (Lw.r rfl (R.ld rfl rfl (s18.at_ e17).str) (Lw.r rfl (R.lenS rfl) (Lw.lt rfl (Lw.nil (Cw.cond (b := decide ((y11 : Int) < ((u16.length : Int) : Int))) rfl (fun hc19 => ?_) (fun hc19 => ?_))))))
  ·replace hm := bt hm hc19
   refine Cw.skip (Cw.seq (Cw.block (Cw.seq (Cw.region (Lw.m v0_ rfl (Lw.m (vI y2) rfl ?_))))))
   obtain ⟨u20, e21, hm⟩ := ob hm
   refine Lw.r rfl (R.ix (α := Str) s18 e21 rfl rfl rfl) (Lw.r rfl (R.ld rfl rfl (s18.at_ e21).str) (Lw.m (vI y11) rfl ?_))
   obtain ⟨u22, e23, hm⟩ := ob hm
   refine Lw.r rfl (R.chm e23 rfl rfl) (Lw.eq rfl (Lw.nil (Cw.cond (b := (((UInt8.toNat u22 : Int) : Int) == (124 : Int))) rfl (fun hc24 => ?_) (fun hc24 => ?_))))
   ·replace hm := bt hm hc24
    refine Cw.seq (Cw.region (Lw.g (vB false) rfl (Lw.nil ?_)))
    cases hm
    exact Cw.ret (ret1 rfl (Res.mk a15 rfl))
   ·replace hm := bf hm hc24
    refine Cw.skip (Cw.region (Lw.m (vI y11) rfl (Lw.add rfl (Lw.g (vI (w64 (y11 + 1))) rfl (Lw.nil (⟨?_, m14, Nat.lt_succ_self m14, ⟨y10, w64 (y11 + 1), W12, rfl, l12, rfl, hm⟩⟩))))))
    iterate 17 (refine Agree.up rfl ?_)
    iterate 2 (refine Agree.up rfl ?_)
    exact Agree.base
  ·replace hm := bf hm hc19
   refine Cw.exit ?_
   rw [hK13] at hm
   refine Cw.region (Lw.m (vI y2) rfl (Lw.add rfl (Lw.g (vI (w64 (y2 + 1))) rfl (Lw.nil (⟨?_, m6, Nat.lt_succ_self m6, ⟨y10, w64 (y2 + 1), vI y11, W12, rfl, (l4.trans l12), rfl, hm⟩⟩)))))
   iterate 10 (refine Agree.up rfl ?_)
   iterate 2 (refine Agree.up rfl ?_)
   refine Agree.ov0 rfl ?_
   iterate 5 (refine Agree.up rfl ?_)
   iterate 3 (refine Agree.up rfl ?_)
   exact Agree.base
 ·replace hm := bf hm hc9
  refine Cw.exit ?_
  rw [hK5] at hm
  refine Cw.seq (Cw.region (Lw.m v0_ rfl ?_))
  obtain ⟨z25, e26, hm⟩ := ob hm
  refine Lw.t rfl (T.call rfl (p131 (K := [0])  (h0.ul a7) e26)) ?_
  rintro _ _ ⟨W27, rfl, l27, rfl⟩
  have a28 := a7.n l27
  refine Lw.g (vB z25) rfl (Lw.nil ?_)
  cases hm
  exact Cw.ret (ret1 rfl (Res.mk a28 rfl))

theorem p105 {W : CW} {K : List Nat} {x0 : List Str} {v0_ : Value} {r : Bool} (h0 : Rd W K [v0_] x0) (hm : Vm.spec_l19Lines x0 = some r) : CallR Tryd.prog 105 [v0_].toArray W.w (Res W [] fun W' v => v = vB r) :=
 (c105 (V := W.view K []) (h0.view _) hm).ad (fk 0) fun _ _ e => e

theorem c48 {V : CW} {x0 : Vm.Op} {v0_6_ : Value} {r : Bool} (h0 : Rd V [0] [vI x0.Kind, vS x0.Branch, vS x0.Who, vS x0.Path, vS x0.To, vI x0.At, v0_6_] x0) (hm : Vm.spec_l19Ok x0 = some r) : CallR Tryd.prog 48 [.agg [vI x0.Kind, vS x0.Branch, vS x0.Who, vS x0.Path, vS x0.To, vI x0.At, v0_6_].toArray].toArray V.w (Res V LL fun Wf v => v = vB r) := by
 unfold Vm.spec_l19Ok at hm
 obtain ⟨w0_0, he0, h0_6⟩ := Op.split h0
 simp only [List.cons.injEq, and_true, true_and] at he0
 obtain rfl := he0
 obtain ⟨W0, hW0⟩ : ∃ W, W = V := ⟨V, rfl⟩
 subst hW0
 refine CallR.of Tryd.func48 rfl rfl rfl rfl (Cw.seq (Cw.region (Lw.t rfl (T.box 2 (v := .agg [vI x0.Kind, vS x0.Branch, vS x0.Who, vS x0.Path, vS x0.To, vI x0.At, v0_6_].toArray) (cs := [vI x0.Kind, vS x0.Branch, vS x0.Who, vS x0.Path, vS x0.To, vI x0.At, v0_6_]) rfl rfl) ?_)))
 rintro _ _ ⟨g1, W1, rfl, rfl, l1, b1⟩
 have a2 := l1.o
 refine Lw.g (vB false) rfl (Lw.nil (Cw.seq ?_))
 obtain ⟨K5, hK5, hm⟩ := jn_e hm
 refine Cw.join 3 12 [12] (fun l w => ∃ (y3 : Bool) (W4 : CW), W4.w = w ∧ Le [] W1 W4 ∧ l = [vB y3] ∧ K5 y3 = some r) ?_ ?_
 ·rintro _ _ σ ⟨y3, W4, rfl, l4, rfl, hm⟩
  rw [hK5] at hm
  have a6 := a2.n l4
  have b7 := b1.up l4 rfl
  refine Cw.cond (b := y3) rfl (fun hc8 => ?_) (fun hc8 => ?_)
  ·replace hm := bt hm hc8
   refine Cw.seq (Cw.region (Lw.g (vB false) rfl (Lw.nil ?_)))
   cases hm
   exact Cw.ret (ret1 rfl (Res.mk a6 rfl))
  ·replace hm := bf hm hc8
   refine Cw.skip (Cw.seq (Cw.seq (Cw.region (Lw.fa rfl (Lw.r rfl (R.ld (v := vI x0.Kind) rfl rfl (b7.cell rfl)) (Lw.nil (Cw.block (Cw.seq (Cw.region (Lw.eq rfl (Lw.g (vB ((x0.Kind : Int) == (1 : Int))) rfl (Lw.nil (Cw.cond (b := ((x0.Kind : Int) == (1 : Int))) rfl (fun hc9 => ?_) (fun hc9 => ?_))))))))))))))
   ·replace hm := bt hm hc9
    obtain ⟨K12, hK12, hm⟩ := jn_e hm
    refine Cw.join 17 28 [2] (fun l w => ∃ (y10 : Bool) (W11 : CW), W11.w = w ∧ Le [] W4 W11 ∧ l = [vB y10] ∧ K12 y10 = some r) ?_ ?_
    ·rintro _ _ σ ⟨y10, W11, rfl, l11, rfl, hm⟩
     rw [hK12] at hm
     have a13 := a6.n l11
     cases hm
     exact Cw.ret (ret1 rfl (Res.mk a13 rfl))
    ·refine Cw.region (Lw.r rfl (R.lda (cs := [vI x0.Kind, vS x0.Branch, vS x0.Who, vS x0.Path, vS x0.To, vI x0.At, v0_6_]) b7.cells rfl rfl) ?_)
     obtain ⟨z16, e17, hm⟩ := ob hm
     refine Lw.t rfl (T.call rfl (p103 (K := [0])  (Op.rd (K := [0]) x0.Kind x0.Branch x0.Who x0.Path x0.To x0.At x0.Text (h0_6.ul a6)) e17)) ?_
     rintro _ _ ⟨W18, rfl, l18, rfl⟩
     have a19 := a6.n l18
     refine Lw.m (vB z16) rfl (bsplit z16 (fun hc21 => ?_) (fun hc21 => ?_))
     ·replace hm := bt hm hc21
      refine Lw.want' hc21 rfl rfl rfl rfl (Lw.fa rfl (Lw.want' hc21 rfl rfl rfl rfl (Lw.r rfl (R.ld (v := vS x0.Path) rfl rfl ((b7.up l18 rfl).cell rfl)) (Lw.want' hc21 rfl rfl rfl rfl ?_))))
      obtain ⟨z22, e23, hm⟩ := ob hm
      refine Lw.t rfl (T.call rfl (p104 (K := [0])   e23)) ?_
      rintro _ _ ⟨W24, rfl, l24, rfl⟩
      have a25 := a19.n l24
      refine Lw.p hc21 (vB z22) rfl (Lw.m (vB z22) rfl (bsplit z22 (fun hc27 => ?_) (fun hc27 => ?_)))
      ·replace hm := bt hm hc27
       refine Lw.want' hc27 rfl rfl rfl rfl (Lw.fa rfl (Lw.want' hc27 rfl rfl rfl rfl (Lw.r rfl (R.ld (v := v0_6_) rfl rfl (((b7.up l18 rfl).up l24 rfl).cell rfl)) (Lw.want' hc27 rfl rfl rfl rfl ?_))))
       obtain ⟨z29, e30, hm⟩ := ob hm
       refine Lw.t rfl (T.call rfl (p105 (K := [0])  (h0_6.ul a25) e30)) ?_
       rintro _ _ ⟨W31, rfl, l31, rfl⟩
       refine Lw.p hc27 (vB z29) rfl (Lw.g (vB z29) rfl (Lw.nil (⟨?_, ⟨z29, W31, rfl, (l18.trans (l24.trans l31)), rfl, hm⟩⟩)))
       iterate 13 (refine Agree.up rfl ?_)
       exact Agree.refl _
      ·replace hm := bf hm hc27
       refine Lw.pass' hc27 rfl rfl rfl rfl rfl rfl rfl (Lw.pass' hc27 rfl rfl rfl rfl rfl rfl rfl (Lw.pass' hc27 rfl rfl rfl rfl rfl rfl rfl (Lw.p hc27 (vB false) rfl (Lw.g (vB false) rfl (Lw.nil (⟨?_, ⟨false, W24, rfl, (l18.trans l24), rfl, hm⟩⟩))))))
       iterate 13 (refine Agree.up rfl ?_)
       exact Agree.refl _
     ·replace hm := bf hm hc21
      refine Lw.pass' hc21 rfl rfl rfl rfl rfl rfl rfl (Lw.pass' hc21 rfl rfl rfl rfl rfl rfl rfl (Lw.pass' hc21 rfl rfl rfl rfl rfl rfl rfl (Lw.p hc21 (vB false) rfl (Lw.m (vB false) rfl (Lw.pass' rfl rfl rfl rfl rfl rfl rfl rfl (Lw.pass' rfl rfl rfl rfl rfl rfl rfl rfl (Lw.pass' rfl rfl rfl rfl rfl rfl rfl rfl (Lw.p rfl (vB false) rfl (Lw.g (vB false) rfl (Lw.nil (⟨?_, ⟨false, W18, rfl, l18, rfl, hm⟩⟩)))))))))))
      iterate 13 (refine Agree.up rfl ?_)
      exact Agree.refl _
   ·replace hm := bf hm hc9
    refine Cw.seq (Cw.region (Lw.eq rfl (Lw.g (vB ((x0.Kind : Int) == (2 : Int))) rfl (Lw.nil (Cw.cond (b := ((x0.Kind : Int) == (2 : Int))) rfl (fun hc34 => ?_) (fun hc34 => ?_))))))
    ·replace hm := bt hm hc34
     obtain ⟨K37, hK37, hm⟩ := jn_e hm
     refine Cw.join 31 37 [2] (fun l w => ∃ (y35 : Bool) (W36 : CW), W36.w = w ∧ Le [] W4 W36 ∧ l = [vB y35] ∧ K37 y35 = some r) ?_ ?_
     ·rintro _ _ σ ⟨y35, W36, rfl, l36, rfl, hm⟩
      rw [hK37] at hm
      have a38 := a6.n l36
      cases hm
      exact Cw.ret (ret1 rfl (Res.mk a38 rfl))
     ·refine Cw.region (Lw.r rfl (R.lda (cs := [vI x0.Kind, vS x0.Branch, vS x0.Who, vS x0.Path, vS x0.To, vI x0.At, v0_6_]) b7.cells rfl rfl) ?_)
      obtain ⟨z41, e42, hm⟩ := ob hm
      refine Lw.t rfl (T.call rfl (p103 (K := [0])  (Op.rd (K := [0]) x0.Kind x0.Branch x0.Who x0.Path x0.To x0.At x0.Text (h0_6.ul a6)) e42)) ?_
      rintro _ _ ⟨W43, rfl, l43, rfl⟩
      refine Lw.m (vB z41) rfl (bsplit z41 (fun hc46 => ?_) (fun hc46 => ?_))
      ·replace hm := bt hm hc46
       refine Lw.want' hc46 rfl rfl rfl rfl (Lw.fa rfl (Lw.want' hc46 rfl rfl rfl rfl (Lw.r rfl (R.ld (v := vS x0.Path) rfl rfl ((b7.up l43 rfl).cell rfl)) (Lw.want' hc46 rfl rfl rfl rfl ?_))))
       obtain ⟨z47, e48, hm⟩ := ob hm
       refine Lw.t rfl (T.call rfl (p104 (K := [0])   e48)) ?_
       rintro _ _ ⟨W49, rfl, l49, rfl⟩
       refine Lw.p hc46 (vB z47) rfl (Lw.g (vB z47) rfl (Lw.nil (⟨?_, ⟨z47, W49, rfl, (l43.trans l49), rfl, hm⟩⟩)))
       iterate 8 (refine Agree.up rfl ?_)
       exact Agree.refl _
      ·replace hm := bf hm hc46
       refine Lw.pass' hc46 rfl rfl rfl rfl rfl rfl rfl (Lw.pass' hc46 rfl rfl rfl rfl rfl rfl rfl (Lw.pass' hc46 rfl rfl rfl rfl rfl rfl rfl (Lw.p hc46 (vB false) rfl (Lw.g (vB false) rfl (Lw.nil (⟨?_, ⟨false, W43, rfl, l43, rfl, hm⟩⟩))))))
       iterate 8 (refine Agree.up rfl ?_)
       exact Agree.refl _
    ·replace hm := bf hm hc34
     refine Cw.seq (Cw.region (Lw.eq rfl (Lw.g (vB ((x0.Kind : Int) == (3 : Int))) rfl (Lw.nil (Cw.cond (b := ((x0.Kind : Int) == (3 : Int))) rfl (fun hc52 => ?_) (fun hc52 => ?_))))))
     ·replace hm := bt hm hc52
      obtain ⟨K55, hK55, hm⟩ := jn_e hm
      refine Cw.join 40 51 [2] (fun l w => ∃ (y53 : Bool) (W54 : CW), W54.w = w ∧ Le [] W4 W54 ∧ l = [vB y53] ∧ K55 y53 = some r) ?_ ?_
      ·rintro _ _ σ ⟨y53, W54, rfl, l54, rfl, hm⟩
       rw [hK55] at hm
       have a56 := a6.n l54
       cases hm
       exact Cw.ret (ret1 rfl (Res.mk a56 rfl))
      ·refine Cw.region (Lw.r rfl (R.lda (cs := [vI x0.Kind, vS x0.Branch, vS x0.Who, vS x0.Path, vS x0.To, vI x0.At, v0_6_]) b7.cells rfl rfl) ?_)
       obtain ⟨z59, e60, hm⟩ := ob hm
       refine Lw.t rfl (T.call rfl (p103 (K := [0])  (Op.rd (K := [0]) x0.Kind x0.Branch x0.Who x0.Path x0.To x0.At x0.Text (h0_6.ul a6)) e60)) ?_
       rintro _ _ ⟨W61, rfl, l61, rfl⟩
       refine Lw.m (vB z59) rfl (bsplit z59 (fun hc64 => ?_) (fun hc64 => ?_))
       ·replace hm := bt hm hc64
        refine Lw.want' hc64 rfl rfl rfl rfl (Lw.fa rfl (Lw.want' hc64 rfl rfl rfl rfl (Lw.r rfl (R.ld (v := vS x0.Path) rfl rfl ((b7.up l61 rfl).cell rfl)) (Lw.want' hc64 rfl rfl rfl rfl ?_))))
        obtain ⟨z65, e66, hm⟩ := ob hm
        refine Lw.t rfl (T.call rfl (p104 (K := [0])   e66)) ?_
        rintro _ _ ⟨W67, rfl, l67, rfl⟩
        refine Lw.p hc64 (vB z65) rfl (Lw.m (vB z65) rfl (bsplit z65 (fun hc70 => ?_) (fun hc70 => ?_)))
        ·replace hm := bt hm hc70
         refine Lw.want' hc70 rfl rfl rfl rfl (Lw.fa rfl (Lw.want' hc70 rfl rfl rfl rfl (Lw.r rfl (R.ld (v := vS x0.To) rfl rfl (((b7.up l61 rfl).up l67 rfl).cell rfl)) (Lw.want' hc70 rfl rfl rfl rfl ?_))))
         obtain ⟨z71, e72, hm⟩ := ob hm
         refine Lw.t rfl (T.call rfl (p104 (K := [0])   e72)) ?_
         rintro _ _ ⟨W73, rfl, l73, rfl⟩
         refine Lw.p hc70 (vB z71) rfl (Lw.g (vB z71) rfl (Lw.nil (⟨?_, ⟨z71, W73, rfl, (l61.trans (l67.trans l73)), rfl, hm⟩⟩)))
         iterate 13 (refine Agree.up rfl ?_)
         exact Agree.refl _
        ·replace hm := bf hm hc70
         refine Lw.pass' hc70 rfl rfl rfl rfl rfl rfl rfl (Lw.pass' hc70 rfl rfl rfl rfl rfl rfl rfl (Lw.pass' hc70 rfl rfl rfl rfl rfl rfl rfl (Lw.p hc70 (vB false) rfl (Lw.g (vB false) rfl (Lw.nil (⟨?_, ⟨false, W67, rfl, (l61.trans l67), rfl, hm⟩⟩))))))
         iterate 13 (refine Agree.up rfl ?_)
         exact Agree.refl _
       ·replace hm := bf hm hc64
        refine Lw.pass' hc64 rfl rfl rfl rfl rfl rfl rfl (Lw.pass' hc64 rfl rfl rfl rfl rfl rfl rfl (Lw.pass' hc64 rfl rfl rfl rfl rfl rfl rfl (Lw.p hc64 (vB false) rfl (Lw.m (vB false) rfl (Lw.pass' rfl rfl rfl rfl rfl rfl rfl rfl (Lw.pass' rfl rfl rfl rfl rfl rfl rfl rfl (Lw.pass' rfl rfl rfl rfl rfl rfl rfl rfl (Lw.p rfl (vB false) rfl (Lw.g (vB false) rfl (Lw.nil (⟨?_, ⟨false, W61, rfl, l61, rfl, hm⟩⟩)))))))))))
        iterate 13 (refine Agree.up rfl ?_)
        exact Agree.refl _
     ·replace hm := bf hm hc52
      obtain ⟨K78, hK78, hm⟩ := jn_e hm
      refine Cw.join 52 54 [52] (fun l w => ∃ (y76 : Bool) (W77 : CW), W77.w = w ∧ Le [] W4 W77 ∧ l = [vB y76] ∧ K78 y76 = some r) ?_ ?_
      ·rintro _ _ σ ⟨y76, W77, rfl, l77, rfl, hm⟩
       rw [hK78] at hm
       have a79 := a6.n l77
       have b80 := b7.up l77 rfl
       refine Cw.cond (b := y76) rfl (fun hc81 => ?_) (fun hc81 => ?_)
       ·replace hm := bt hm hc81
        obtain ⟨K84, hK84, hm⟩ := jn_e hm
        refine Cw.join 55 61 [2] (fun l w => ∃ (y82 : Bool) (W83 : CW), W83.w = w ∧ Le [] W77 W83 ∧ l = [vB y82] ∧ K84 y82 = some r) ?_ ?_
        ·rintro _ _ σ ⟨y82, W83, rfl, l83, rfl, hm⟩
         rw [hK84] at hm
         have a85 := a79.n l83
         cases hm
         exact Cw.ret (ret1 rfl (Res.mk a85 rfl))
        ·refine Cw.region (Lw.r rfl (R.lda (cs := [vI x0.Kind, vS x0.Branch, vS x0.Who, vS x0.Path, vS x0.To, vI x0.At, v0_6_]) b80.cells rfl rfl) ?_)
         obtain ⟨z88, e89, hm⟩ := ob hm
         refine Lw.t rfl (T.call rfl (p103 (K := [0])  (Op.rd (K := [0]) x0.Kind x0.Branch x0.Who x0.Path x0.To x0.At x0.Text (h0_6.ul a79)) e89)) ?_
         rintro _ _ ⟨W90, rfl, l90, rfl⟩
         refine Lw.m (vB z88) rfl (bsplit z88 (fun hc93 => ?_) (fun hc93 => ?_))
         ·replace hm := bt hm hc93
          refine Lw.want' hc93 rfl rfl rfl rfl (Lw.fa rfl (Lw.want' hc93 rfl rfl rfl rfl (Lw.r rfl (R.ld (v := vS x0.To) rfl rfl ((b80.up l90 rfl).cell rfl)) (Lw.want' hc93 rfl rfl rfl rfl ?_))))
          obtain ⟨z94, e95, hm⟩ := ob hm
          refine Lw.t rfl (T.call rfl (p102 (K := [0])   e95)) ?_
          rintro _ _ ⟨W96, rfl, l96, rfl⟩
          refine Lw.p hc93 (vB z94) rfl (Lw.g (vB z94) rfl (Lw.nil (⟨?_, ⟨z94, W96, rfl, (l90.trans l96), rfl, hm⟩⟩)))
          iterate 8 (refine Agree.up rfl ?_)
          exact Agree.refl _
         ·replace hm := bf hm hc93
          refine Lw.pass' hc93 rfl rfl rfl rfl rfl rfl rfl (Lw.pass' hc93 rfl rfl rfl rfl rfl rfl rfl (Lw.pass' hc93 rfl rfl rfl rfl rfl rfl rfl (Lw.p hc93 (vB false) rfl (Lw.g (vB false) rfl (Lw.nil (⟨?_, ⟨false, W90, rfl, l90, rfl, hm⟩⟩))))))
          iterate 8 (refine Agree.up rfl ?_)
          exact Agree.refl _
       ·replace hm := bf hm hc81
        obtain ⟨K101, hK101, hm⟩ := jn_e hm
        refine Cw.join 62 64 [62] (fun l w => ∃ (y99 : Bool) (W100 : CW), W100.w = w ∧ Le [] W77 W100 ∧ l = [vB y99] ∧ K101 y99 = some r) ?_ ?_
        ·rintro _ _ σ ⟨y99, W100, rfl, l100, rfl, hm⟩
         rw [hK101] at hm
         have a102 := a79.n l100
         refine Cw.cond (b := y99) rfl (fun hc104 => ?_) (fun hc104 => ?_)
         ·replace hm := bt hm hc104
          obtain ⟨K107, hK107, hm⟩ := jn_e hm
          refine Cw.join 65 71 [2] (fun l w => ∃ (y105 : Bool) (W106 : CW), W106.w = w ∧ Le [] W100 W106 ∧ l = [vB y105] ∧ K107 y105 = some r) ?_ ?_
          ·rintro _ _ σ ⟨y105, W106, rfl, l106, rfl, hm⟩
           rw [hK107] at hm
           have a108 := a102.n l106
           cases hm
           exact Cw.ret (ret1 rfl (Res.mk a108 rfl))
          ·refine Cw.region (Lw.r rfl (R.lda (cs := [vI x0.Kind, vS x0.Branch, vS x0.Who, vS x0.Path, vS x0.To, vI x0.At, v0_6_]) (b80.up l100 rfl).cells rfl rfl) ?_)
           obtain ⟨z111, e112, hm⟩ := ob hm
           refine Lw.t rfl (T.call rfl (p103 (K := [0])  (Op.rd (K := [0]) x0.Kind x0.Branch x0.Who x0.Path x0.To x0.At x0.Text (h0_6.ul a102)) e112)) ?_
           rintro _ _ ⟨W113, rfl, l113, rfl⟩
           refine Lw.m (vB z111) rfl (bsplit z111 (fun hc116 => ?_) (fun hc116 => ?_))
           ·replace hm := bt hm hc116
            refine Lw.want' hc116 rfl rfl rfl rfl (Lw.fa rfl (Lw.want' hc116 rfl rfl rfl rfl (Lw.r rfl (R.ld (v := vI x0.At) rfl rfl (((b80.up l100 rfl).up l113 rfl).cell rfl)) (Lw.want' hc116 rfl rfl rfl rfl ?_))))
            obtain ⟨z117, e118, hm⟩ := ob hm
            refine Lw.t rfl (T.call rfl (p87 (K := [0])   e118)) ?_
            rintro _ _ ⟨W119, rfl, l119, rfl⟩
            refine Lw.p hc116 (vB z117) rfl (Lw.g (vB z117) rfl (Lw.nil (⟨?_, ⟨z117, W119, rfl, (l113.trans l119), rfl, hm⟩⟩)))
            iterate 8 (refine Agree.up rfl ?_)
            exact Agree.refl _
           ·replace hm := bf hm hc116
            refine Lw.pass' hc116 rfl rfl rfl rfl rfl rfl rfl (Lw.pass' hc116 rfl rfl rfl rfl rfl rfl rfl (Lw.pass' hc116 rfl rfl rfl rfl rfl rfl rfl (Lw.p hc116 (vB false) rfl (Lw.g (vB false) rfl (Lw.nil (⟨?_, ⟨false, W113, rfl, l113, rfl, hm⟩⟩))))))
            iterate 8 (refine Agree.up rfl ?_)
            exact Agree.refl _
         ·replace hm := bf hm hc104
          refine Cw.skip (Cw.seq (Cw.region (Lw.g (vB false) rfl (Lw.nil ?_))))
          cases hm
          exact Cw.ret (ret1 rfl (Res.mk a102 rfl))
        ·refine Cw.seq (Cw.region (Lw.eq rfl (Lw.g (vB ((x0.Kind : Int) == (6 : Int))) rfl (Lw.nil (Cw.cond (b := ((x0.Kind : Int) == (6 : Int))) rfl (fun hc122 => ?_) (fun hc122 => ?_))))))
         ·replace hm := bt hm hc122
          refine Cw.skip (⟨?_, ⟨((x0.Kind : Int) == (6 : Int)), W77, rfl, Le.refl _ _, rfl, hm⟩⟩)
          iterate 2 (refine Agree.up rfl ?_)
          exact Agree.refl _
         ·replace hm := bf hm hc122
          refine Cw.region (Lw.eq rfl (Lw.g (vB ((x0.Kind : Int) == (7 : Int))) rfl (Lw.nil (⟨?_, ⟨((x0.Kind : Int) == (7 : Int)), W77, rfl, Le.refl _ _, rfl, hm⟩⟩))))
          iterate 4 (refine Agree.up rfl ?_)
          exact Agree.refl _
      ·refine Cw.seq (Cw.region (Lw.eq rfl (Lw.g (vB ((x0.Kind : Int) == (4 : Int))) rfl (Lw.nil (Cw.cond (b := ((x0.Kind : Int) == (4 : Int))) rfl (fun hc123 => ?_) (fun hc123 => ?_))))))
       ·replace hm := bt hm hc123
        refine Cw.skip (⟨?_, ⟨((x0.Kind : Int) == (4 : Int)), W4, rfl, Le.refl _ _, rfl, hm⟩⟩)
        iterate 2 (refine Agree.up rfl ?_)
        exact Agree.refl _
       ·replace hm := bf hm hc123
        refine Cw.region (Lw.eq rfl (Lw.g (vB ((x0.Kind : Int) == (5 : Int))) rfl (Lw.nil (⟨?_, ⟨((x0.Kind : Int) == (5 : Int)), W4, rfl, Le.refl _ _, rfl, hm⟩⟩))))
        iterate 4 (refine Agree.up rfl ?_)
        exact Agree.refl _
 ·refine Cw.region (Lw.fa rfl (Lw.r rfl (R.ld (v := vS x0.Branch) rfl rfl (b1.cell rfl)) ?_))
  obtain ⟨z124, e125, hm⟩ := ob hm
  refine Lw.t rfl (T.call rfl (p102 (K := [0])   e125)) ?_
  rintro _ _ ⟨W126, rfl, l126, rfl⟩
  refine Lw.r rfl (R.not rfl) (Lw.m (vB (!z124)) rfl (bsplit (!z124) (fun hc129 => ?_) (fun hc129 => ?_)))
  ·replace hm := bt hm hc129
   refine Lw.pass' hc129 rfl rfl rfl rfl rfl rfl rfl (Lw.pass' hc129 rfl rfl rfl rfl rfl rfl rfl (Lw.pass' hc129 rfl rfl rfl rfl rfl rfl rfl (Lw.pass' hc129 rfl rfl rfl rfl rfl rfl rfl (Lw.p hc129 (vB true) rfl (Lw.nil (⟨?_, ⟨true, W126, rfl, l126, rfl, hm⟩⟩))))))
   iterate 10 (refine Agree.up rfl ?_)
   exact Agree.refl _
  ·replace hm := bf hm hc129
   refine Lw.want' hc129 rfl rfl rfl rfl (Lw.fa rfl (Lw.want' hc129 rfl rfl rfl rfl (Lw.r rfl (R.ld (v := vS x0.Who) rfl rfl ((b1.up l126 rfl).cell rfl)) (Lw.want' hc129 rfl rfl rfl rfl ?_))))
   obtain ⟨z130, e131, hm⟩ := ob hm
   refine Lw.t rfl (T.call rfl (p102 (K := [0])   e131)) ?_
   rintro _ _ ⟨W132, rfl, l132, rfl⟩
   refine Lw.want' hc129 rfl rfl rfl rfl (Lw.r rfl (R.not rfl) (Lw.p hc129 (vB (!z130)) rfl (Lw.nil (⟨?_, ⟨(!z130), W132, rfl, (l126.trans l132), rfl, hm⟩⟩))))
   iterate 10 (refine Agree.up rfl ?_)
   exact Agree.refl _

theorem p48 {W : CW} {K : List Nat} {x0 : Vm.Op} {v0_6_ : Value} {r : Bool} (h0 : Rd W K [vI x0.Kind, vS x0.Branch, vS x0.Who, vS x0.Path, vS x0.To, vI x0.At, v0_6_] x0) (hm : Vm.spec_l19Ok x0 = some r) : CallR Tryd.prog 48 [.agg [vI x0.Kind, vS x0.Branch, vS x0.Who, vS x0.Path, vS x0.To, vI x0.At, v0_6_].toArray].toArray W.w (Res W [] fun W' v => v = vB r) :=
 (c48 (V := W.view K []) (h0.view _) hm).ad (fk 0) fun _ _ e => e

theorem c94 {V : CW}  {r : (List Str)}  (hm : Vm.spec_l19Words = some r) : CallR Tryd.prog 94 [].toArray V.w (Res V LL fun Wf v => ∃ (u0 : Value), v = u0 ∧ OwS Wf LL [] [u0] r) := by
 unfold Vm.spec_l19Words at hm
 obtain ⟨W0, hW0⟩ : ∃ W, W = V := ⟨V, rfl⟩
 subst hW0
 refine CallR.of Tryd.func94 rfl rfl rfl rfl (Cw.seq (Cw.region (Lw.g (.slice none 0 0) rfl (Lw.nil (Cw.seq (Cw.region (Lw.t rfl (T.bsS (α := Str) (xs := [([] : Str), ([115, 101, 116] : Str), ([100, 114, 111, 112] : Str), ([109, 111, 118, 101] : Str), ([102, 111, 114, 107] : Str), ([117, 110, 105, 116, 101] : Str), ([112, 105, 99, 107] : Str), ([98, 97, 99, 107] : Str)]) 2 [] (W := W0) [vS ([] : Str), vS ([115, 101, 116] : Str), vS ([100, 114, 111, 112] : Str), vS ([109, 111, 118, 101] : Str), vS ([102, 111, 114, 107] : Str), vS ([117, 110, 105, 116, 101] : Str), vS ([112, 105, 99, 107] : Str), vS ([98, 97, 99, 107] : Str)] (Each.cons ((rdS _)) (Each.cons ((rdS _)) (Each.cons ((rdS _)) (Each.cons ((rdS _)) (Each.cons ((rdS _)) (Each.cons ((rdS _)) (Each.cons ((rdS _)) (Each.cons ((rdS _)) Each.nil)))))))) rfl) ?_)))))))
 rintro v1 _ ⟨W1, rfl, l1, o1⟩
 have a2 := l1.o
 refine Lw.g v1 rfl (Lw.nil ?_)
 cases hm
 exact Cw.ret (ret1 rfl (Res.mk a2 ⟨v1, rfl, o1.s.sub rfl rfl⟩))

theorem p94 {W : CW} {K : List Nat}  {k0 : Nat} {r : (List Str)}  (hm : Vm.spec_l19Words = some r) : CallR Tryd.prog 94 [].toArray W.w (Res W [] fun W' v => ∃ (u0 : Value), v = u0 ∧ Ow W' k0 [] [u0] r) :=
 (c94 (V := W.view K [])  hm).ad (fk k0) fun _ _ ⟨u0, e, f0⟩ => ⟨u0, e, f0.back (fk_LL _)⟩

theorem c106 (m : Nat) : ∀ {V : CW} {x0 : Int} {r : Str}  (hm : Vm.spec_l1Dec_r m x0 = some r), CallR Tryd.prog 106 [vI x0].toArray V.w (Res V LL fun Wf v => v = vS r) := by
 induction m with
 | zero => intro V x0 r  hm; exact absurd hm (by unfold Vm.spec_l1Dec_r; exact nofun)
 | succ m ih =>
  have p106 : ∀ {W : CW} {K : List Nat} {x0 : Int} {r : Str}  (hm : Vm.spec_l1Dec_r m x0 = some r), CallR Tryd.prog 106 [vI x0].toArray W.w (Res W [] fun W' v => v = vS r) := fun {W} {K} {x0} {r}  hm => (ih (V := W.view K [])  hm).ad (fk 0) fun _ _ e => e
  intro V x0 r  hm
  unfold Vm.spec_l1Dec_r at hm
  obtain ⟨W0, hW0⟩ : ∃ W, W = V := ⟨V, rfl⟩
  subst hW0
  refine CallR.of Tryd.func106 rfl rfl rfl rfl (Cw.seq (Cw.region (Lw.g (vS ([] : Str)) rfl (Lw.nil (Cw.seq (Cw.seq (Cw.region (Lw.m (vI x0) rfl (Lw.lt rfl (Lw.nil (Cw.cond (b := decide ((x0 : Int) < ((-9223372036854775807) : Int))) rfl (fun hc1 => ?_) (fun hc1 => ?_))))))))))))
  ·replace hm := bt hm hc1
   refine Cw.seq (Cw.region (Lw.g (vS ([45, 57, 50, 50, 51, 51, 55, 50, 48, 51, 54, 56, 53, 52, 55, 55, 53, 56, 48, 56] : Str)) rfl (Lw.nil ?_)))
   cases hm
   exact Cw.ret (ret1 rfl (Res.mk (Le.refl _ _) rfl))
  ·replace hm := bf hm hc1
   refine Cw.skip (Cw.seq (Cw.seq (Cw.region (Lw.m (vI x0) rfl (Lw.lt rfl (Lw.nil (Cw.cond (b := decide ((x0 : Int) < (0 : Int))) rfl (fun hc2 => ?_) (fun hc2 => ?_))))))))
   ·replace hm := bt hm hc2
    refine Cw.seq (Cw.region (Lw.m (vI x0) rfl (Lw.r rfl (R.neg rfl) ?_)))
    obtain ⟨z3, e4, hm⟩ := ob hm
    refine Lw.t rfl (T.call rfl (p106 (K := [0])   e4)) ?_
    rintro _ _ ⟨W5, rfl, l5, rfl⟩
    have a6 := l5.o
    obtain ⟨q7, e8, hm⟩ := ob hm
    refine Lw.r rfl (R.sad e8 rfl rfl) (Lw.g (vS q7) rfl (Lw.nil ?_))
    cases hm
    exact Cw.ret (ret1 rfl (Res.mk a6 rfl))
   ·replace hm := bf hm hc2
    refine Cw.skip (Cw.seq (Cw.seq (Cw.region (Lw.m (vI x0) rfl (Lw.lt rfl (Lw.nil (Cw.cond (b := decide ((x0 : Int) < (10 : Int))) rfl (fun hc9 => ?_) (fun hc9 => ?_))))))))
    ·replace hm := bt hm hc9
     refine Cw.seq (Cw.region (Lw.m (vI x0) rfl (Lw.add rfl (Lw.r rfl (R.cv8 rfl rfl) (Lw.t rfl (T.bsS (α := Byte) (xs := [(by8 (w64 (48 + x0)))]) 2 [] (W := W0) [.int .u8 (UInt8.toNat (by8 (w64 (48 + x0))) : Int)] (Each.cons ((rdY _)) Each.nil) rfl) ?_)))))
     rintro v10 _ ⟨W10, rfl, l10, o10⟩
     have a11 := l10.o
     refine Lw.r rfl (R.cvB (xs := ([(by8 (w64 (48 + x0)))] : List Byte)) o10.rd rfl (fun h => h.1)) (Lw.g (vS (([(by8 (w64 (48 + x0)))] : List Byte) : Str)) rfl (Lw.nil ?_))
     cases hm
     exact Cw.ret (ret1 rfl (Res.mk a11 rfl))
    ·replace hm := bf hm hc9
     refine Cw.skip (Cw.seq ?_)
     obtain ⟨z14, e15, hm⟩ := ob hm
     obtain ⟨q20, e21, hm⟩ := ob hm
     refine Cw.par [[], [0], [0, 1], [], [3], [3, 4], [3, 4, 5], [3, 4, 5, 6], [3, 4, 5, 6, 7], [0, 1, 2, 3, 4, 5, 6, 7, 8], [0, 1, 2, 3, 4, 5, 6, 7, 8, 9]] [[], [0], [1], [], [3], [4], [5], [6], [7], [2, 8], [9]] [[], [], [], [], [], [], [], [], [], [], []] [[0], [1], [2], [3], [4], [5], [6], [7], [8], [9], [10]] [[], [], [], [], [], [], [], [3], [], [], []] [0, 1, 2, 3, 4, 5, 6, 7, 8, 9, 10] [] [fun vs W => (vs 0) = vI x0, fun vs W => (vs 1) = vI (w64 (Int.tdiv x0 10)), fun vs W => (vs 2) = vS z14, fun vs W => (vs 3) = vI x0, fun vs W => (vs 4) = vI (Int.tmod x0 10), fun vs W => (vs 5) = vI (w64 (48 + (Int.tmod x0 10))), fun vs W => (vs 6) = .int .u8 (UInt8.toNat (by8 (w64 (48 + (Int.tmod x0 10)))) : Int), fun vs W => Ow W 3 [] [(vs 7)] ([(by8 (w64 (48 + (Int.tmod x0 10))))] : List Byte), fun vs W => (vs 8) = vS (([(by8 (w64 (48 + (Int.tmod x0 10))))] : List Byte) : Str), fun vs W => (vs 9) = vS q20, fun vs W => (vs 10) = vS q20] [] mixed (by kernel_rfl) rfl AllF.nil ?_
     intro W22 l22
     have a23 := l22.o
     refine ⟨(Steps.cons ?_ (Steps.cons ?_ (Steps.cons ?_ (Steps.cons ?_ (Steps.cons ?_ (Steps.cons ?_ (Steps.cons ?_ (Steps.cons ?_ (Steps.cons ?_ (Steps.cons ?_ (Steps.cons ?_ Steps.nil))))))))))), (Sups.cons (fun vs vs' W W' _ hv l hd h => by (show (vs' 0) = vI x0); rw [hv 0 (anyb rfl)]; exact h) (Sups.cons (fun vs vs' W W' _ hv l hd h => by (show (vs' 1) = vI (w64 (Int.tdiv x0 10))); rw [hv 1 (anyb rfl)]; exact h) (Sups.cons (fun vs vs' W W' _ hv l hd h => by (show (vs' 2) = vS z14); rw [hv 2 (anyb rfl)]; exact h) (Sups.cons (fun vs vs' W W' _ hv l hd h => by (show (vs' 3) = vI x0); rw [hv 3 (anyb rfl)]; exact h) (Sups.cons (fun vs vs' W W' _ hv l hd h => by (show (vs' 4) = vI (Int.tmod x0 10)); rw [hv 4 (anyb rfl)]; exact h) (Sups.cons (fun vs vs' W W' _ hv l hd h => by (show (vs' 5) = vI (w64 (48 + (Int.tmod x0 10)))); rw [hv 5 (anyb rfl)]; exact h) (Sups.cons (fun vs vs' W W' _ hv l hd h => by (show (vs' 6) = .int .u8 (UInt8.toNat (by8 (w64 (48 + (Int.tmod x0 10)))) : Int)); rw [hv 6 (anyb rfl)]; exact h) (Sups.cons (fun vs vs' W W' _ hv l hd h => by (show Ow W' 3 [] [(vs' 7)] ([(by8 (w64 (48 + (Int.tmod x0 10))))] : List Byte)); rw [hv 7 (anyb rfl)]; exact h.upv l (disj_mem hd (c := 3) rfl)) (Sups.cons (fun vs vs' W W' _ hv l hd h => by (show (vs' 8) = vS (([(by8 (w64 (48 + (Int.tmod x0 10))))] : List Byte) : Str)); rw [hv 8 (anyb rfl)]; exact h) (Sups.cons (fun vs vs' W W' _ hv l hd h => by (show (vs' 9) = vS q20); rw [hv 9 (anyb rfl)]; exact h) (Sups.cons (fun vs vs' W W' _ hv l hd h => by (show (vs' 10) = vS q20); rw [hv 10 (anyb rfl)]; exact h) Sups.nil))))))))))), ?_⟩
     ·intro vs W lW hN
      obtain ⟨W24, hW24⟩ : ∃ X, X = W := ⟨W, rfl⟩
      subst hW24
      refine Tr.mono (Run.tr (R.mv (v := vI x0) rfl)) ?_
      rintro _ _ ⟨hu, rfl⟩
      obtain rfl := hu.symm
      exact ⟨W24, rfl, Le.refl _ _, (show (vI x0 : Value) = vI x0 from rfl)⟩
     ·intro vs W lW hN
      obtain ⟨W26, hW26⟩ : ∃ X, X = W := ⟨W, rfl⟩
      subst hW26
      have e0_ : vs 0 = vI x0 := (hN 0 (anyb rfl))
      obtain ⟨vs, rfl⟩ := up_eq e0_
      refine Tr.mono (Run.tr (R.quo rfl rfl (by decide))) ?_
      rintro _ _ ⟨hu, rfl⟩
      obtain rfl := hu.symm
      exact ⟨W26, rfl, Le.refl _ _, (show (vI (w64 (Int.tdiv x0 10)) : Value) = vI (w64 (Int.tdiv x0 10)) from rfl)⟩
     ·intro vs W lW hN
      obtain ⟨W28, hW28⟩ : ∃ X, X = W := ⟨W, rfl⟩
      subst hW28
      have e1_ : vs 1 = vI (w64 (Int.tdiv x0 10)) := (hN 1 (anyb rfl))
      obtain ⟨vs, rfl⟩ := up_eq e1_
      refine Tr.mono (T.call rfl (p106 (K := [0])   e15)) ?_
      rintro _ _ ⟨W30, rfl, l30, rfl⟩
      exact ⟨W30, rfl, l30, (show (vS z14 : Value) = vS z14 from rfl)⟩
     ·intro vs W lW hN
      obtain ⟨W32, hW32⟩ : ∃ X, X = W := ⟨W, rfl⟩
      subst hW32
      refine Tr.mono (Run.tr (R.mv (v := vI x0) rfl)) ?_
      rintro _ _ ⟨hu, rfl⟩
      obtain rfl := hu.symm
      exact ⟨W32, rfl, Le.refl _ _, (show (vI x0 : Value) = vI x0 from rfl)⟩
     ·intro vs W lW hN
      obtain ⟨W34, hW34⟩ : ∃ X, X = W := ⟨W, rfl⟩
      subst hW34
      have e3_ : vs 3 = vI x0 := (hN 3 (anyb rfl))
      obtain ⟨vs, rfl⟩ := up_eq e3_
      refine Tr.mono (Run.tr (R.rem rfl rfl (by decide))) ?_
      rintro _ _ ⟨hu, rfl⟩
      obtain rfl := hu.symm
      exact ⟨W34, rfl, Le.refl _ _, (show (vI (Int.tmod x0 10) : Value) = vI (Int.tmod x0 10) from rfl)⟩
     ·intro vs W lW hN
      obtain ⟨W36, hW36⟩ : ∃ X, X = W := ⟨W, rfl⟩
      subst hW36
      have e4_ : vs 4 = vI (Int.tmod x0 10) := (hN 4 (anyb rfl))
      obtain ⟨vs, rfl⟩ := up_eq e4_
      refine Tr.mono (Run.tr (R.add rfl rfl)) ?_
      rintro _ _ ⟨hu, rfl⟩
      obtain rfl := hu.symm
      exact ⟨W36, rfl, Le.refl _ _, (show (vI (w64 (48 + (Int.tmod x0 10))) : Value) = vI (w64 (48 + (Int.tmod x0 10))) from rfl)⟩
     ·intro vs W lW hN
      obtain ⟨W38, hW38⟩ : ∃ X, X = W := ⟨W, rfl⟩
      subst hW38
      have e5_ : vs 5 = vI (w64 (48 + (Int.tmod x0 10))) := (hN 5 (anyb rfl))
      obtain ⟨vs, rfl⟩ := up_eq e5_
      refine Tr.mono (Run.tr (R.cv8 rfl rfl)) ?_
      rintro _ _ ⟨hu, rfl⟩
      obtain rfl := hu.symm
      exact ⟨W38, rfl, Le.refl _ _, (show (.int .u8 (UInt8.toNat (by8 (w64 (48 + (Int.tmod x0 10)))) : Int) : Value) = .int .u8 (UInt8.toNat (by8 (w64 (48 + (Int.tmod x0 10)))) : Int) from rfl)⟩
     ·intro vs W lW hN
      obtain ⟨W40, hW40⟩ : ∃ X, X = W := ⟨W, rfl⟩
      subst hW40
      have e6_ : vs 6 = .int .u8 (UInt8.toNat (by8 (w64 (48 + (Int.tmod x0 10)))) : Int) := (hN 6 (anyb rfl))
      obtain ⟨vs, rfl⟩ := up_eq e6_
      refine Tr.mono (T.bsS (α := Byte) (xs := [(by8 (w64 (48 + (Int.tmod x0 10))))]) 3 [] (W := W40) [.int .u8 (UInt8.toNat (by8 (w64 (48 + (Int.tmod x0 10)))) : Int)] (Each.cons ((rdY _)) Each.nil) rfl) ?_
      rintro v42 _ ⟨W42, rfl, l42, o42⟩
      exact ⟨W42, rfl, l42, (show Ow W42 3 [] [v42] ([(by8 (w64 (48 + (Int.tmod x0 10))))] : List Byte) from o42)⟩
     ·intro vs W lW hN
      obtain ⟨W44, hW44⟩ : ∃ X, X = W := ⟨W, rfl⟩
      subst hW44
      obtain ⟨pv7, e7_⟩ : ∃ v, vs 7 = v := ⟨_, rfl⟩
      obtain ⟨vs, rfl⟩ := up_eq e7_
      have o46 : Ow W44 3 [] [pv7] ([(by8 (w64 (48 + (Int.tmod x0 10))))] : List Byte) := (hN 7 (anyb rfl))
      refine Tr.mono (Run.tr (R.cvB (xs := ([(by8 (w64 (48 + (Int.tmod x0 10))))] : List Byte)) o46.rd rfl (fun h => h.1))) ?_
      rintro _ _ ⟨hu, rfl⟩
      obtain rfl := hu.symm
      exact ⟨W44, rfl, Le.refl _ _, (show (vS (([(by8 (w64 (48 + (Int.tmod x0 10))))] : List Byte) : Str) : Value) = vS (([(by8 (w64 (48 + (Int.tmod x0 10))))] : List Byte) : Str) from rfl)⟩
     ·intro vs W lW hN
      obtain ⟨W47, hW47⟩ : ∃ X, X = W := ⟨W, rfl⟩
      subst hW47
      have e2_ : vs 2 = vS z14 := (hN 2 (anyb rfl))
      obtain ⟨vs, rfl⟩ := up_eq e2_
      have e8_ : vs 8 = vS (([(by8 (w64 (48 + (Int.tmod x0 10))))] : List Byte) : Str) := (hN 8 (anyb rfl))
      obtain ⟨vs, rfl⟩ := up_eq e8_
      refine Tr.mono (Run.tr (R.sad e21 rfl rfl)) ?_
      rintro _ _ ⟨hu, rfl⟩
      obtain rfl := hu.symm
      exact ⟨W47, rfl, Le.refl _ _, (show (vS q20 : Value) = vS q20 from rfl)⟩
     ·intro vs W lW hN
      obtain ⟨W49, hW49⟩ : ∃ X, X = W := ⟨W, rfl⟩
      subst hW49
      have e9_ : vs 9 = vS q20 := (hN 9 (anyb rfl))
      obtain ⟨vs, rfl⟩ := up_eq e9_
      refine Tr.mono (Run.tr (R.as (v := vS q20) rfl)) ?_
      rintro _ _ ⟨hu, rfl⟩
      obtain rfl := hu.symm
      exact ⟨W49, rfl, Le.refl _ _, (show (vS q20 : Value) = vS q20 from rfl)⟩
     ·intro vs W lW hN
      obtain ⟨W51, hW51⟩ : ∃ X, X = W := ⟨W, rfl⟩
      subst hW51
      have a52 := a23.n lW
      obtain ⟨l51, hl51⟩ : ∃ x, x = lW := ⟨lW, rfl⟩
      have e0_ : vs 0 = vI x0 := (hN 0 (anyb rfl))
      obtain ⟨vs, rfl⟩ := up_eq e0_
      have e1_ : vs 1 = vI (w64 (Int.tdiv x0 10)) := (hN 1 (anyb rfl))
      obtain ⟨vs, rfl⟩ := up_eq e1_
      have e2_ : vs 2 = vS z14 := (hN 2 (anyb rfl))
      obtain ⟨vs, rfl⟩ := up_eq e2_
      have e3_ : vs 3 = vI x0 := (hN 3 (anyb rfl))
      obtain ⟨vs, rfl⟩ := up_eq e3_
      have e4_ : vs 4 = vI (Int.tmod x0 10) := (hN 4 (anyb rfl))
      obtain ⟨vs, rfl⟩ := up_eq e4_
      have e5_ : vs 5 = vI (w64 (48 + (Int.tmod x0 10))) := (hN 5 (anyb rfl))
      obtain ⟨vs, rfl⟩ := up_eq e5_
      have e6_ : vs 6 = .int .u8 (UInt8.toNat (by8 (w64 (48 + (Int.tmod x0 10)))) : Int) := (hN 6 (anyb rfl))
      obtain ⟨vs, rfl⟩ := up_eq e6_
      obtain ⟨pv7, e7_⟩ : ∃ v, vs 7 = v := ⟨_, rfl⟩
      obtain ⟨vs, rfl⟩ := up_eq e7_
      have o53 : Ow W51 3 [] [pv7] ([(by8 (w64 (48 + (Int.tmod x0 10))))] : List Byte) := (hN 7 (anyb rfl))
      have e8_ : vs 8 = vS (([(by8 (w64 (48 + (Int.tmod x0 10))))] : List Byte) : Str) := (hN 8 (anyb rfl))
      obtain ⟨vs, rfl⟩ := up_eq e8_
      have e9_ : vs 9 = vS q20 := (hN 9 (anyb rfl))
      obtain ⟨vs, rfl⟩ := up_eq e9_
      have e10_ : vs 10 = vS q20 := (hN 10 (anyb rfl))
      obtain ⟨vs, rfl⟩ := up_eq e10_
      cases hm
      exact Cw.ret (ret1 rfl (Res.mk a52 rfl))

theorem p106 {W : CW} {K : List Nat} {x0 : Int} {r : Str}  (hm : Vm.spec_l1Dec x0 = some r) : CallR Tryd.prog 106 [vI x0].toArray W.w (Res W [] fun W' v => v = vS r) :=
 (c106 (x0.natAbs + 2) (V := W.view K [])  hm).ad (fk 0) fun _ _ e => e

theorem c49 {V : CW} {x0 : Vm.Op} {v0_6_ : Value} {r : Str} (h0 : Rd V [0] [vI x0.Kind, vS x0.Branch, vS x0.Who, vS x0.Path, vS x0.To, vI x0.At, v0_6_] x0) (hm : Vm.spec_l19Put x0 = some r) : CallR Tryd.prog 49 [.agg [vI x0.Kind, vS x0.Branch, vS x0.Who, vS x0.Path, vS x0.To, vI x0.At, v0_6_].toArray].toArray V.w (Res V LL fun Wf v => v = vS r) := by
 unfold Vm.spec_l19Put at hm
 obtain ⟨w0_0, he0, h0_6⟩ := Op.split h0
 simp only [List.cons.injEq, and_true, true_and] at he0
 obtain rfl := he0
 obtain ⟨W0, hW0⟩ : ∃ W, W = V := ⟨V, rfl⟩
 subst hW0
 refine CallR.of Tryd.func49 rfl rfl rfl rfl (Cw.seq (Cw.region (Lw.t rfl (T.box 2 (v := .agg [vI x0.Kind, vS x0.Branch, vS x0.Who, vS x0.Path, vS x0.To, vI x0.At, v0_6_].toArray) (cs := [vI x0.Kind, vS x0.Branch, vS x0.Who, vS x0.Path, vS x0.To, vI x0.At, v0_6_]) rfl rfl) ?_)))
 rintro _ _ ⟨g1, W1, rfl, rfl, l1, b1⟩
 have a2 := l1.o
 refine Lw.g (vS ([] : Str)) rfl (Lw.nil (Cw.seq ?_))
 obtain ⟨z6, e7, hm⟩ := ob hm
 obtain ⟨u11, e12, hm⟩ := ob hm
 obtain ⟨q13, e14, hm⟩ := ob hm
 obtain ⟨q15, e16, hm⟩ := ob hm
 obtain ⟨q17, e18, hm⟩ := ob hm
 obtain ⟨q19, e20, hm⟩ := ob hm
 refine Cw.par [[], [], [1], [0, 1, 2], [0, 1, 2, 3], [0, 1, 2, 3, 4], [], [6], [0, 1, 2, 3, 4, 5, 6, 7], [0, 1, 2, 3, 4, 5, 6, 7, 8], [], [10], [0, 1, 2, 3, 4, 5, 6, 7, 8, 9, 10, 11], [0, 1, 2, 3, 4, 5, 6, 7, 8, 9, 10, 11, 12]] [[], [], [1], [0, 2], [0, 3], [4], [], [6], [5, 7], [8], [], [10], [9, 11], [12]] [[], [], [], [], [], [], [], [], [], [], [], [], [], []] [[0], [1], [2], [0, 3], [4], [5], [6], [7], [8], [9], [10], [11], [12], [13]] [[3], [], [], [], [], [], [], [], [], [], [], [], [], []] [0, 1, 2, 3, 4, 5, 6, 7, 8, 9, 10, 11, 12, 13] [] [fun vs W => Ow W 3 [] [(vs 0)] z6, fun vs W => (vs 1) = ptr ((bx g1).add 0), fun vs W => (vs 2) = vI x0.Kind, fun vs W => (vs 3) = ptr ((slA (vs 0)).add ((x0.Kind).toNat * Rp.sz (Str))), fun vs W => (vs 4) = vS u11, fun vs W => (vs 5) = vS q13, fun vs W => (vs 6) = ptr ((bx g1).add 1), fun vs W => (vs 7) = vS x0.Branch, fun vs W => (vs 8) = vS q15, fun vs W => (vs 9) = vS q17, fun vs W => (vs 10) = ptr ((bx g1).add 2), fun vs W => (vs 11) = vS x0.Who, fun vs W => (vs 12) = vS q19, fun vs W => (vs 13) = vS q19] [] mixed (by kernel_rfl) rfl AllF.nil ?_
 intro W21 l21
 have a22 := a2.n l21
 have b23 := b1.up l21 rfl
 refine ⟨(Steps.cons ?_ (Steps.cons ?_ (Steps.cons ?_ (Steps.cons ?_ (Steps.cons ?_ (Steps.cons ?_ (Steps.cons ?_ (Steps.cons ?_ (Steps.cons ?_ (Steps.cons ?_ (Steps.cons ?_ (Steps.cons ?_ (Steps.cons ?_ (Steps.cons ?_ Steps.nil)))))))))))))), (Sups.cons (fun vs vs' W W' _ hv l hd h => by (show Ow W' 3 [] [(vs' 0)] z6); rw [hv 0 (anyb rfl)]; exact h.upv l (disj_mem hd (c := 3) rfl)) (Sups.cons (fun vs vs' W W' _ hv l hd h => by (show (vs' 1) = ptr ((bx g1).add 0)); rw [hv 1 (anyb rfl)]; exact h) (Sups.cons (fun vs vs' W W' _ hv l hd h => by (show (vs' 2) = vI x0.Kind); rw [hv 2 (anyb rfl)]; exact h) (Sups.cons (fun vs vs' W W' _ hv l hd h => by (show (vs' 3) = ptr ((slA (vs' 0)).add ((x0.Kind).toNat * Rp.sz (Str)))); rw [hv 0 (anyb rfl), hv 3 (anyb rfl)]; exact h) (Sups.cons (fun vs vs' W W' _ hv l hd h => by (show (vs' 4) = vS u11); rw [hv 4 (anyb rfl)]; exact h) (Sups.cons (fun vs vs' W W' _ hv l hd h => by (show (vs' 5) = vS q13); rw [hv 5 (anyb rfl)]; exact h) (Sups.cons (fun vs vs' W W' _ hv l hd h => by (show (vs' 6) = ptr ((bx g1).add 1)); rw [hv 6 (anyb rfl)]; exact h) (Sups.cons (fun vs vs' W W' _ hv l hd h => by (show (vs' 7) = vS x0.Branch); rw [hv 7 (anyb rfl)]; exact h) (Sups.cons (fun vs vs' W W' _ hv l hd h => by (show (vs' 8) = vS q15); rw [hv 8 (anyb rfl)]; exact h) (Sups.cons (fun vs vs' W W' _ hv l hd h => by (show (vs' 9) = vS q17); rw [hv 9 (anyb rfl)]; exact h) (Sups.cons (fun vs vs' W W' _ hv l hd h => by (show (vs' 10) = ptr ((bx g1).add 2)); rw [hv 10 (anyb rfl)]; exact h) (Sups.cons (fun vs vs' W W' _ hv l hd h => by (show (vs' 11) = vS x0.Who); rw [hv 11 (anyb rfl)]; exact h) (Sups.cons (fun vs vs' W W' _ hv l hd h => by (show (vs' 12) = vS q19); rw [hv 12 (anyb rfl)]; exact h) (Sups.cons (fun vs vs' W W' _ hv l hd h => by (show (vs' 13) = vS q19); rw [hv 13 (anyb rfl)]; exact h) Sups.nil)))))))))))))), ?_⟩
 ·intro vs W lW hN
  obtain ⟨W24, hW24⟩ : ∃ X, X = W := ⟨W, rfl⟩
  subst hW24
  refine Tr.mono (T.call rfl (p94 (K := [0]) (k0 := 3)  e7)) ?_
  rintro v0_27 _ ⟨W27, rfl, l27, ⟨_, rfl, f27_0⟩⟩
  exact ⟨W27, rfl, l27, (show Ow W27 3 [] [v0_27] z6 from f27_0)⟩
 ·intro vs W lW hN
  obtain ⟨W30, hW30⟩ : ∃ X, X = W := ⟨W, rfl⟩
  subst hW30
  refine Tr.mono (Run.tr (R.fa rfl)) ?_
  rintro _ _ ⟨hu, rfl⟩
  obtain rfl := hu.symm
  exact ⟨W30, rfl, Le.refl _ _, (show (ptr ((bx g1).add 0) : Value) = ptr ((bx g1).add 0) from rfl)⟩
 ·intro vs W lW hN
  obtain ⟨W33, hW33⟩ : ∃ X, X = W := ⟨W, rfl⟩
  subst hW33
  have e1_ : vs 1 = ptr ((bx g1).add 0) := (hN 1 (anyb rfl))
  obtain ⟨vs, rfl⟩ := up_eq e1_
  refine Tr.mono (Run.tr (R.ld (v := vI x0.Kind) rfl rfl ((b23.up lW rfl).cell rfl))) ?_
  rintro _ _ ⟨hu, rfl⟩
  obtain rfl := hu.symm
  exact ⟨W33, rfl, Le.refl _ _, (show (vI x0.Kind : Value) = vI x0.Kind from rfl)⟩
 ·intro vs W lW hN
  obtain ⟨W36, hW36⟩ : ∃ X, X = W := ⟨W, rfl⟩
  subst hW36
  obtain ⟨pv0, e0_⟩ : ∃ v, vs 0 = v := ⟨_, rfl⟩
  obtain ⟨vs, rfl⟩ := up_eq e0_
  have o39 : Ow W36 3 [] [pv0] z6 := (hN 0 (anyb rfl))
  have e2_ : vs 2 = vI x0.Kind := (hN 2 (anyb rfl))
  obtain ⟨vs, rfl⟩ := up_eq e2_
  refine Tr.mono (Run.tr (R.ix (α := Str) o39.rd e12 rfl rfl rfl)) ?_
  rintro _ _ ⟨hu, rfl⟩
  obtain rfl := hu.symm
  exact ⟨W36, rfl, Le.refl _ _, (show (ptr ((slA pv0).add ((x0.Kind).toNat * Rp.sz (Str))) : Value) = ptr ((slA pv0).add ((x0.Kind).toNat * Rp.sz (Str))) from rfl)⟩
 ·intro vs W lW hN
  obtain ⟨W40, hW40⟩ : ∃ X, X = W := ⟨W, rfl⟩
  subst hW40
  obtain ⟨pv0, e0_⟩ : ∃ v, vs 0 = v := ⟨_, rfl⟩
  obtain ⟨vs, rfl⟩ := up_eq e0_
  have o43 : Ow W40 3 [] [pv0] z6 := (hN 0 (anyb rfl))
  have e3_ : vs 3 = ptr ((slA pv0).add ((x0.Kind).toNat * Rp.sz (Str))) := (hN 3 (anyb rfl))
  obtain ⟨vs, rfl⟩ := up_eq e3_
  refine Tr.mono (Run.tr (R.ld rfl rfl (o43.rd.at_ e12).str)) ?_
  rintro _ _ ⟨hu, rfl⟩
  obtain rfl := hu.symm
  exact ⟨W40, rfl, Le.refl _ _, (show (vS u11 : Value) = vS u11 from rfl)⟩
 ·intro vs W lW hN
  obtain ⟨W44, hW44⟩ : ∃ X, X = W := ⟨W, rfl⟩
  subst hW44
  have e4_ : vs 4 = vS u11 := (hN 4 (anyb rfl))
  obtain ⟨vs, rfl⟩ := up_eq e4_
  refine Tr.mono (Run.tr (R.sad e14 rfl rfl)) ?_
  rintro _ _ ⟨hu, rfl⟩
  obtain rfl := hu.symm
  exact ⟨W44, rfl, Le.refl _ _, (show (vS q13 : Value) = vS q13 from rfl)⟩
 ·intro vs W lW hN
  obtain ⟨W47, hW47⟩ : ∃ X, X = W := ⟨W, rfl⟩
  subst hW47
  refine Tr.mono (Run.tr (R.fa rfl)) ?_
  rintro _ _ ⟨hu, rfl⟩
  obtain rfl := hu.symm
  exact ⟨W47, rfl, Le.refl _ _, (show (ptr ((bx g1).add 1) : Value) = ptr ((bx g1).add 1) from rfl)⟩
 ·intro vs W lW hN
  obtain ⟨W50, hW50⟩ : ∃ X, X = W := ⟨W, rfl⟩
  subst hW50
  have e6_ : vs 6 = ptr ((bx g1).add 1) := (hN 6 (anyb rfl))
  obtain ⟨vs, rfl⟩ := up_eq e6_
  refine Tr.mono (Run.tr (R.ld (v := vS x0.Branch) rfl rfl ((b23.up lW rfl).cell rfl))) ?_
  rintro _ _ ⟨hu, rfl⟩
  obtain rfl := hu.symm
  exact ⟨W50, rfl, Le.refl _ _, (show (vS x0.Branch : Value) = vS x0.Branch from rfl)⟩
 ·intro vs W lW hN
  obtain ⟨W53, hW53⟩ : ∃ X, X = W := ⟨W, rfl⟩
  subst hW53
  have e5_ : vs 5 = vS q13 := (hN 5 (anyb rfl))
  obtain ⟨vs, rfl⟩ := up_eq e5_
  have e7_ : vs 7 = vS x0.Branch := (hN 7 (anyb rfl))
  obtain ⟨vs, rfl⟩ := up_eq e7_
  refine Tr.mono (Run.tr (R.sad e16 rfl rfl)) ?_
  rintro _ _ ⟨hu, rfl⟩
  obtain rfl := hu.symm
  exact ⟨W53, rfl, Le.refl _ _, (show (vS q15 : Value) = vS q15 from rfl)⟩
 ·intro vs W lW hN
  obtain ⟨W56, hW56⟩ : ∃ X, X = W := ⟨W, rfl⟩
  subst hW56
  have e8_ : vs 8 = vS q15 := (hN 8 (anyb rfl))
  obtain ⟨vs, rfl⟩ := up_eq e8_
  refine Tr.mono (Run.tr (R.sad e18 rfl rfl)) ?_
  rintro _ _ ⟨hu, rfl⟩
  obtain rfl := hu.symm
  exact ⟨W56, rfl, Le.refl _ _, (show (vS q17 : Value) = vS q17 from rfl)⟩
 ·intro vs W lW hN
  obtain ⟨W59, hW59⟩ : ∃ X, X = W := ⟨W, rfl⟩
  subst hW59
  refine Tr.mono (Run.tr (R.fa rfl)) ?_
  rintro _ _ ⟨hu, rfl⟩
  obtain rfl := hu.symm
  exact ⟨W59, rfl, Le.refl _ _, (show (ptr ((bx g1).add 2) : Value) = ptr ((bx g1).add 2) from rfl)⟩
 ·intro vs W lW hN
  obtain ⟨W62, hW62⟩ : ∃ X, X = W := ⟨W, rfl⟩
  subst hW62
  have e10_ : vs 10 = ptr ((bx g1).add 2) := (hN 10 (anyb rfl))
  obtain ⟨vs, rfl⟩ := up_eq e10_
  refine Tr.mono (Run.tr (R.ld (v := vS x0.Who) rfl rfl ((b23.up lW rfl).cell rfl))) ?_
  rintro _ _ ⟨hu, rfl⟩
  obtain rfl := hu.symm
  exact ⟨W62, rfl, Le.refl _ _, (show (vS x0.Who : Value) = vS x0.Who from rfl)⟩
 ·intro vs W lW hN
  obtain ⟨W65, hW65⟩ : ∃ X, X = W := ⟨W, rfl⟩
  subst hW65
  have e9_ : vs 9 = vS q17 := (hN 9 (anyb rfl))
  obtain ⟨vs, rfl⟩ := up_eq e9_
  have e11_ : vs 11 = vS x0.Who := (hN 11 (anyb rfl))
  obtain ⟨vs, rfl⟩ := up_eq e11_
  refine Tr.mono (Run.tr (R.sad e20 rfl rfl)) ?_
  rintro _ _ ⟨hu, rfl⟩
  obtain rfl := hu.symm
  exact ⟨W65, rfl, Le.refl _ _, (show (vS q19 : Value) = vS q19 from rfl)⟩
 ·intro vs W lW hN
  obtain ⟨W68, hW68⟩ : ∃ X, X = W := ⟨W, rfl⟩
  subst hW68
  have e12_ : vs 12 = vS q19 := (hN 12 (anyb rfl))
  obtain ⟨vs, rfl⟩ := up_eq e12_
  refine Tr.mono (Run.tr (R.as (v := vS q19) rfl)) ?_
  rintro _ _ ⟨hu, rfl⟩
  obtain rfl := hu.symm
  exact ⟨W68, rfl, Le.refl _ _, (show (vS q19 : Value) = vS q19 from rfl)⟩
 ·intro vs W lW hN
  obtain ⟨W71, hW71⟩ : ∃ X, X = W := ⟨W, rfl⟩
  subst hW71
  have a72 := a22.n lW
  have b73 := b23.up lW rfl
  obtain ⟨l71, hl71⟩ : ∃ x, x = lW := ⟨lW, rfl⟩
  obtain ⟨pv0, e0_⟩ : ∃ v, vs 0 = v := ⟨_, rfl⟩
  obtain ⟨vs, rfl⟩ := up_eq e0_
  have o74 : Ow W71 3 [] [pv0] z6 := (hN 0 (anyb rfl))
  have e1_ : vs 1 = ptr ((bx g1).add 0) := (hN 1 (anyb rfl))
  obtain ⟨vs, rfl⟩ := up_eq e1_
  have e2_ : vs 2 = vI x0.Kind := (hN 2 (anyb rfl))
  obtain ⟨vs, rfl⟩ := up_eq e2_
  have e3_ : vs 3 = ptr ((slA pv0).add ((x0.Kind).toNat * Rp.sz (Str))) := (hN 3 (anyb rfl))
  obtain ⟨vs, rfl⟩ := up_eq e3_
  have e4_ : vs 4 = vS u11 := (hN 4 (anyb rfl))
  obtain ⟨vs, rfl⟩ := up_eq e4_
  have e5_ : vs 5 = vS q13 := (hN 5 (anyb rfl))
  obtain ⟨vs, rfl⟩ := up_eq e5_
  have e6_ : vs 6 = ptr ((bx g1).add 1) := (hN 6 (anyb rfl))
  obtain ⟨vs, rfl⟩ := up_eq e6_
  have e7_ : vs 7 = vS x0.Branch := (hN 7 (anyb rfl))
  obtain ⟨vs, rfl⟩ := up_eq e7_
  have e8_ : vs 8 = vS q15 := (hN 8 (anyb rfl))
  obtain ⟨vs, rfl⟩ := up_eq e8_
  have e9_ : vs 9 = vS q17 := (hN 9 (anyb rfl))
  obtain ⟨vs, rfl⟩ := up_eq e9_
  have e10_ : vs 10 = ptr ((bx g1).add 2) := (hN 10 (anyb rfl))
  obtain ⟨vs, rfl⟩ := up_eq e10_
  have e11_ : vs 11 = vS x0.Who := (hN 11 (anyb rfl))
  obtain ⟨vs, rfl⟩ := up_eq e11_
  have e12_ : vs 12 = vS q19 := (hN 12 (anyb rfl))
  obtain ⟨vs, rfl⟩ := up_eq e12_
  have e13_ : vs 13 = vS q19 := (hN 13 (anyb rfl))
  obtain ⟨vs, rfl⟩ := up_eq e13_
  obtain ⟨K78, hK78, hm⟩ := jn_e hm
  refine Cw.join 18 74 [3, 4] (fun l w => ∃ (y75 : Str) (j76 : Value) (W77 : CW), W77.w = w ∧ Le [] W71 W77 ∧ l = [vS y75, j76] ∧ K78 y75 = some r) ?_ ?_
  ·rintro _ _ σ ⟨y75, j76, W77, rfl, l77, rfl, hm⟩
   rw [hK78] at hm
   have a79 := a72.n l77
   refine Cw.seq (Cw.region (Lw.m (vS y75) rfl (Lw.g (vS y75) rfl (Lw.nil ?_))))
   cases hm
   exact Cw.ret (ret1 rfl (Res.mk a79 rfl))
  ·refine Cw.seq (Cw.region (Lw.fa rfl (Lw.r rfl (R.ld (v := vI x0.Kind) rfl rfl (b73.cell rfl)) (Lw.nil (Cw.block (Cw.seq (Cw.region (Lw.eq rfl (Lw.g (vB ((x0.Kind : Int) == (1 : Int))) rfl (Lw.nil (Cw.cond (b := ((x0.Kind : Int) == (1 : Int))) rfl (fun hc82 => ?_) (fun hc82 => ?_))))))))))))
   ·replace hm := bt hm hc82
    refine Cw.seq (Cw.region (Lw.m (vS q19) rfl ?_))
    obtain ⟨q83, e84, hm⟩ := ob hm
    refine Lw.r rfl (R.sad e84 rfl rfl) (Lw.fa rfl (Lw.r rfl (R.ld (v := vS x0.Path) rfl rfl (b73.cell rfl)) ?_))
    obtain ⟨q85, e86, hm⟩ := ob hm
    refine Lw.r rfl (R.sad e86 rfl rfl) ?_
    obtain ⟨q87, e88, hm⟩ := ob hm
    refine Lw.r rfl (R.sad e88 rfl rfl) (Lw.g (vS q87) rfl (Lw.nil (Cw.seq (Cw.region (Lw.g (vI 0) rfl (Lw.nil (Cw.block (Cw.loop 34 48 [3, 4] (fun m l w => ∃ (y89 : Str) (y90 : Int) (W91 : CW), W91.w = w ∧ Le [] W71 W91 ∧ l = [vS y89, vI y90] ∧ Vm.spec_l19Put_l1 x0 K78 m y89 y90 = some r) (((x0.Text.length : Int) - 0).toNat + 1) ⟨q87, 0, W71, rfl, Le.refl _ _, rfl, hm⟩ ?_))))))))
    rintro m93 _ _ σ ⟨y89, y90, W91, rfl, l91, rfl, hm⟩
    obtain _ | m93 := m93
    ·cases hm
    unfold Vm.spec_l19Put_l1 at hm
    have a94 := a72.n l91
    refine Cw.seq (Cw.seq (Cw.region ?_))
    have s97 := h0_6.ul a94
    refine Lw.m (vI y90) rfl (Lw.fa rfl (Lw.r rfl (R.ld (v := v0_6_) rfl rfl ((b73.up l91 rfl).cell rfl)) (Lw.ln x0.Text s97 rfl (Lw.lt rfl (Lw.nil (Cw.cond (b := decide ((y90 : Int) < ((x0.Text.length : Int) : Int))) rfl (fun hc98 => ?_) (fun hc98 => ?_)))))))
    ·replace hm := bt hm hc98
     refine Cw.skip (Cw.seq (Cw.block (Cw.region (Lw.m (vS y89) rfl ?_))))
     obtain ⟨q99, e100, hm⟩ := ob hm
     refine Lw.r rfl (R.sad e100 rfl rfl) (Lw.fa rfl (Lw.r rfl (R.ld (v := v0_6_) rfl rfl ((b73.up l91 rfl).cell rfl)) (Lw.m (vI y90) rfl ?_)))
     obtain ⟨u101, e102, hm⟩ := ob hm
     refine Lw.r rfl (R.ix (α := Str) s97 e102 rfl rfl rfl) (Lw.r rfl (R.ld rfl rfl (s97.at_ e102).str) ?_)
     obtain ⟨q103, e104, hm⟩ := ob hm
     refine Lw.r rfl (R.sad e104 rfl rfl) (Lw.g (vS q103) rfl (Lw.nil (Cw.region (Lw.m (vI y90) rfl (Lw.add rfl (Lw.g (vI (w64 (y90 + 1))) rfl (Lw.nil (⟨?_, m93, Nat.lt_succ_self m93, ⟨q103, w64 (y90 + 1), W91, rfl, l91, rfl, hm⟩⟩))))))))
     iterate 17 (refine Agree.up rfl ?_)
     iterate 2 (refine Agree.up rfl ?_)
     exact Agree.base
    ·replace hm := bf hm hc98
     refine Cw.exit (⟨?_, ⟨y89, vI y90, W91, rfl, l91, rfl, hm⟩⟩)
     iterate 5 (refine Agree.up rfl ?_)
     iterate 2 (refine Agree.up rfl ?_)
     refine Agree.ov0 rfl ?_
     iterate 12 (refine Agree.up rfl ?_)
     exact Agree.refl _
   ·replace hm := bf hm hc82
    refine Cw.seq (Cw.region (Lw.eq rfl (Lw.g (vB ((x0.Kind : Int) == (2 : Int))) rfl (Lw.nil (Cw.cond (b := ((x0.Kind : Int) == (2 : Int))) rfl (fun hc105 => ?_) (fun hc105 => ?_))))))
    ·replace hm := bt hm hc105
     refine Cw.region (Lw.m (vS q19) rfl ?_)
     obtain ⟨q106, e107, hm⟩ := ob hm
     refine Lw.r rfl (R.sad e107 rfl rfl) (Lw.fa rfl (Lw.r rfl (R.ld (v := vS x0.Path) rfl rfl (b73.cell rfl)) ?_))
     obtain ⟨q108, e109, hm⟩ := ob hm
     refine Lw.r rfl (R.sad e109 rfl rfl) (Lw.g (vS q108) rfl (Lw.nil (⟨?_, ⟨q108, undef, W71, rfl, Le.refl _ _, rfl, hm⟩⟩)))
     iterate 12 (refine Agree.up rfl ?_)
     exact Agree.refl _
    ·replace hm := bf hm hc105
     refine Cw.seq (Cw.region (Lw.eq rfl (Lw.g (vB ((x0.Kind : Int) == (3 : Int))) rfl (Lw.nil (Cw.cond (b := ((x0.Kind : Int) == (3 : Int))) rfl (fun hc110 => ?_) (fun hc110 => ?_))))))
     ·replace hm := bt hm hc110
      refine Cw.region (Lw.m (vS q19) rfl ?_)
      obtain ⟨q111, e112, hm⟩ := ob hm
      refine Lw.r rfl (R.sad e112 rfl rfl) (Lw.fa rfl (Lw.r rfl (R.ld (v := vS x0.Path) rfl rfl (b73.cell rfl)) ?_))
      obtain ⟨q113, e114, hm⟩ := ob hm
      refine Lw.r rfl (R.sad e114 rfl rfl) ?_
      obtain ⟨q115, e116, hm⟩ := ob hm
      refine Lw.r rfl (R.sad e116 rfl rfl) (Lw.fa rfl (Lw.r rfl (R.ld (v := vS x0.To) rfl rfl (b73.cell rfl)) ?_))
      obtain ⟨q117, e118, hm⟩ := ob hm
      refine Lw.r rfl (R.sad e118 rfl rfl) (Lw.g (vS q117) rfl (Lw.nil (⟨?_, ⟨q117, undef, W71, rfl, Le.refl _ _, rfl, hm⟩⟩)))
      iterate 18 (refine Agree.up rfl ?_)
      exact Agree.refl _
     ·replace hm := bf hm hc110
      obtain ⟨K121, hK121, hm⟩ := jn_e hm
      refine Cw.join 67 69 [67] (fun l w => ∃ (y119 : Bool) (W120 : CW), W120.w = w ∧ Le [] W71 W120 ∧ l = [vB y119] ∧ K121 y119 = some r) ?_ ?_
      ·rintro _ _ σ ⟨y119, W120, rfl, l120, rfl, hm⟩
       rw [hK121] at hm
       refine Cw.cond (b := y119) rfl (fun hc125 => ?_) (fun hc125 => ?_)
       ·replace hm := bt hm hc125
        refine Cw.region (Lw.m (vS q19) rfl ?_)
        obtain ⟨q126, e127, hm⟩ := ob hm
        refine Lw.r rfl (R.sad e127 rfl rfl) (Lw.fa rfl (Lw.r rfl (R.ld (v := vS x0.To) rfl rfl ((b73.up l120 rfl).cell rfl)) ?_))
        obtain ⟨q128, e129, hm⟩ := ob hm
        refine Lw.r rfl (R.sad e129 rfl rfl) (Lw.g (vS q128) rfl (Lw.nil (⟨?_, ⟨q128, undef, W120, rfl, l120, rfl, hm⟩⟩)))
        iterate 6 (refine Agree.up rfl ?_)
        iterate 1 (refine Agree.up rfl ?_)
        refine Agree.ov0 rfl ?_
        iterate 8 (refine Agree.up rfl ?_)
        exact Agree.refl _
       ·replace hm := bf hm hc125
        refine Cw.region (Lw.m (vS q19) rfl ?_)
        obtain ⟨q130, e131, hm⟩ := ob hm
        refine Lw.r rfl (R.sad e131 rfl rfl) (Lw.fa rfl (Lw.r rfl (R.ld (v := vI x0.At) rfl rfl ((b73.up l120 rfl).cell rfl)) ?_))
        obtain ⟨z132, e133, hm⟩ := ob hm
        refine Lw.t rfl (T.call rfl (p106 (K := [0])   e133)) ?_
        rintro _ _ ⟨W134, rfl, l134, rfl⟩
        obtain ⟨q138, e139, hm⟩ := ob hm
        refine Lw.r rfl (R.sad e139 rfl rfl) (Lw.g (vS q138) rfl (Lw.nil (⟨?_, ⟨q138, undef, W134, rfl, (l120.trans l134), rfl, hm⟩⟩)))
        iterate 7 (refine Agree.up rfl ?_)
        iterate 1 (refine Agree.up rfl ?_)
        refine Agree.ov0 rfl ?_
        iterate 8 (refine Agree.up rfl ?_)
        exact Agree.refl _
      ·refine Cw.seq (Cw.region (Lw.eq rfl (Lw.g (vB ((x0.Kind : Int) == (4 : Int))) rfl (Lw.nil (Cw.cond (b := ((x0.Kind : Int) == (4 : Int))) rfl (fun hc140 => ?_) (fun hc140 => ?_))))))
       ·replace hm := bt hm hc140
        refine Cw.skip (⟨?_, ⟨((x0.Kind : Int) == (4 : Int)), W71, rfl, Le.refl _ _, rfl, hm⟩⟩)
        iterate 2 (refine Agree.up rfl ?_)
        exact Agree.refl _
       ·replace hm := bf hm hc140
        refine Cw.region (Lw.eq rfl (Lw.g (vB ((x0.Kind : Int) == (5 : Int))) rfl (Lw.nil (⟨?_, ⟨((x0.Kind : Int) == (5 : Int)), W71, rfl, Le.refl _ _, rfl, hm⟩⟩))))
        iterate 4 (refine Agree.up rfl ?_)
        exact Agree.refl _

theorem p49 {W : CW} {K : List Nat} {x0 : Vm.Op} {v0_6_ : Value} {r : Str} (h0 : Rd W K [vI x0.Kind, vS x0.Branch, vS x0.Who, vS x0.Path, vS x0.To, vI x0.At, v0_6_] x0) (hm : Vm.spec_l19Put x0 = some r) : CallR Tryd.prog 49 [.agg [vI x0.Kind, vS x0.Branch, vS x0.Who, vS x0.Path, vS x0.To, vI x0.At, v0_6_].toArray].toArray W.w (Res W [] fun W' v => v = vS r) :=
 (c49 (V := W.view K []) (h0.view _) hm).ad (fk 0) fun _ _ e => e

end Go.Sx
