/- Walks: each function answers as its model, printed by a program of ours. Conditions: the arguments read as they are given. -/
import Derived.Test.YtmjjhnahdmlmaaaGreatDoorXTs
import Derived.Test.YtmjjhnahdmlmaaaGreatDoorXMd
namespace Go.Sx
open Go Go.Proofs Go.Vm Rp
set_option linter.unusedVariables false
set_option linter.unusedSimpArgs false

theorem c116 {V : CW} {x0 : List Str} {v0_ : Value} {x1 : Str} {r : (List Str)} (h0 : Rd V [0] [v0_] x0) (hm : Vm.spec_l5Put x0 x1 = some r) : CallR Tryz.prog 116 [v0_, vS x1].toArray V.w (Res V LL fun Wf v => ∃ (u0 : Value), v = u0 ∧ Rd Wf [0] [u0] r) := by
 unfold Vm.spec_l5Put at hm
 obtain ⟨W0, hW0⟩ : ∃ W, W = V := ⟨V, rfl⟩
 subst hW0
 refine CallR.of Tryz.func116 rfl rfl rfl rfl (Cw.seq (Cw.region (Lw.g (.slice none 0 0) rfl (Lw.nil (Cw.seq (Cw.region (Lw.g (vI 0) rfl (Lw.nil (Cw.seq (Cw.block ?_))))))))))
 obtain ⟨K3, hK3, hm⟩ := jn_e hm
 refine Cw.loop 7 20 [5] (fun m l w => ∃ (y1 : Int) (W2 : CW), W2.w = w ∧ Le [] W0 W2 ∧ l = [vI y1] ∧ Vm.spec_l5Put_l1 x0 x1 K3 m y1 = some r) (x0.length + 1) ⟨0, W0, rfl, Le.refl _ _, rfl, hm⟩ ?_
 rintro m4 _ _ σ ⟨y1, W2, rfl, l2, rfl, hm⟩
 obtain _ | m4 := m4
 ·cases hm
 unfold Vm.spec_l5Put_l1 at hm
 have a5 := l2.o
 refine Cw.seq ?_
 obtain ⟨K8, hK8, hm⟩ := jn_e hm
 refine Cw.join 7 18 [18] (fun l w => ∃ (y6 : Bool) (W7 : CW), W7.w = w ∧ Le [] W2 W7 ∧ l = [vB y6] ∧ K8 y6 = some r) ?_ ?_
 ·rintro _ _ σ ⟨y6, W7, rfl, l7, rfl, hm⟩
  rw [hK8] at hm
  have a9 := a5.n l7
  refine Cw.cond (b := y6) rfl (fun hc10 => ?_) (fun hc10 => ?_)
  ·replace hm := bt hm hc10
   refine Cw.skip (Cw.block (Cw.region (Lw.m (vI y1) rfl (Lw.add rfl (Lw.g (vI (w64 (y1 + 1))) rfl (Lw.nil (⟨?_, m4, Nat.lt_succ_self m4, ⟨w64 (y1 + 1), W7, rfl, (l2.trans l7), rfl, hm⟩⟩)))))))
   iterate 4 (refine .u ?_)
   refine Agree.ov0 rfl ?_
   iterate 1 (refine .u ?_)
   exact Agree.base
  ·replace hm := bf hm hc10
   refine Cw.exit ?_
   rw [hK3] at hm
   refine Cw.seq ?_
   obtain ⟨K13, hK13, hm⟩ := jn_e hm
   refine Cw.join 21 32 [32] (fun l w => ∃ (y11 : Bool) (W12 : CW), W12.w = w ∧ Le [] W7 W12 ∧ l = [vB y11] ∧ K13 y11 = some r) ?_ ?_
   ·rintro _ _ σ ⟨y11, W12, rfl, l12, rfl, hm⟩
    rw [hK13] at hm
    have a14 := a9.n l12
    refine Cw.cond (b := y11) rfl (fun hc15 => ?_) (fun hc15 => ?_)
    ·replace hm := bt hm hc15
     refine Cw.seq (Cw.region (Lw.m v0_ rfl (Lw.g v0_ rfl (Lw.nil ?_))))
     cases hm
     exact Cw.ret (ret1 rfl (Res.mk a14 ⟨v0_, rfl, (h0.ul a14)⟩))
    ·replace hm := bf hm hc15
     refine Cw.skip (Cw.seq (Cw.region (Lw.t rfl (T.lit0 (α := Str) 2 []) ?_)))
     rintro v17 _ ⟨W17, rfl, l17, o17⟩
     have a18 := a14.n l17
     refine Lw.m v0_ rfl (Lw.m (vI y1) rfl ?_)
     obtain ⟨q19, e20, hm⟩ := ob hm
     have r23 := (h0.ul a18).cutV e20
     refine Lw.r rfl (R.sl (h0.ul a18) e20 rfl (.inl ⟨rfl, rfl⟩) (.inr rfl)) ?_
     obtain ⟨q24, e25, hm⟩ := ob hm
     refine Lw.t rfl (T.appP (α := Str) o17 r23 rfl rfl e25) ?_
     rintro v26 _ ⟨W26, rfl, l26, o26⟩
     have a27 := a18.t l26 rfl
     refine Lw.g v26 rfl (Lw.nil (Cw.seq (Cw.region (Lw.m v26 rfl (Lw.m (vS x1) rfl (Lw.t rfl (T.bs 3 [vS x1] (cs := [vS x1]) rfl rfl (bsv rfl)) ?_))))))
     rintro _ _ ⟨g28, W28, rfl, rfl, l28, b28⟩
     have a29 := a27.n l28
     obtain ⟨q31, e32, hm⟩ := ob hm
     refine Lw.t rfl (T.app1S (α := Str) (K' := []) (o26.up l28 rfl) b28 (rdS _) rfl rfl e32) ?_
     rintro v33 _ ⟨W33, rfl, l33, o33⟩
     have a34 := a29.t l33 rfl
     refine Lw.g v33 rfl (Lw.nil (Cw.seq (Cw.region (Lw.m v33 rfl (Lw.m v0_ rfl (Lw.m (vI y1) rfl ?_))))))
     obtain ⟨q36, e37, hm⟩ := ob hm
     have r40 := (h0.ul a34).cutV e37
     refine Lw.r rfl (R.sl (h0.ul a34) e37 rfl (.inr rfl) (.inl ⟨rfl, rfl⟩)) ?_
     obtain ⟨q41, e42, hm⟩ := ob hm
     refine Lw.t rfl (T.appP (α := Str) o33 r40 rfl rfl e42) ?_
     rintro v43 _ ⟨W43, rfl, l43, o43⟩
     have a44 := a34.t l43 rfl
     refine Lw.g v43 rfl (Lw.nil ?_)
     obtain ⟨W46, ew46, l46, dj46⟩ := dyeE _ 2
     have s47 : Rd (α := List Str) W46 [0] [v43] q41 := by rw [dj46]; exact (o43.rd.dye 2).sub (M := [0]) rfl
     have a48 := a44.t l46 rfl
     cases hm
     rw [← ew46]
     exact Cw.ret (ret1 rfl (Res.mk a48 ⟨v43, rfl, s47⟩))
   ·refine Cw.region (Lw.m (vI y1) rfl (Lw.m v0_ rfl (Lw.ln x0 (h0.ul a9) rfl (Lw.lt rfl (Lw.m (vB (decide ((y1 : Int) < ((x0.length : Int) : Int)))) rfl (bsplit (decide ((y1 : Int) < ((x0.length : Int) : Int))) (fun hc51 => ?_) (fun hc51 => ?_)))))))
    ·replace hm := bt hm hc51
     refine Lw.wa hc51 rfl (Lw.m v0_ rfl (Lw.wa hc51 rfl (Lw.m (vI y1) rfl (Lw.wa hc51 rfl ?_))))
     obtain ⟨u52, e53, hm⟩ := ob hm
     refine Lw.r rfl (R.ix (α := Str) (h0.ul a9) e53 rfl rfl rfl) (Lw.wa hc51 rfl (Lw.r rfl (R.ld rfl rfl ((h0.ul a9).at_ e53).str) (Lw.wa hc51 rfl (Lw.m (vS x1) rfl (Lw.wa hc51 rfl (Lw.seq rfl (Lw.p hc51 (vB (u52 == x1)) rfl (Lw.nil (⟨?_, ⟨(u52 == x1), W7, rfl, Le.refl _ _, rfl, hm⟩⟩)))))))))
     iterate 12 (refine .u ?_)
     exact Agree.refl _
    ·replace hm := bf hm hc51
     refine Lw.ps hc51 rfl (Lw.ps hc51 rfl (Lw.ps hc51 rfl (Lw.ps hc51 rfl (Lw.ps hc51 rfl (Lw.ps hc51 rfl (Lw.p hc51 (vB false) rfl (Lw.nil (⟨?_, ⟨false, W7, rfl, Le.refl _ _, rfl, hm⟩⟩))))))))
     iterate 12 (refine .u ?_)
     exact Agree.refl _
 ·refine Cw.region (Lw.m (vI y1) rfl (Lw.m v0_ rfl (Lw.ln x0 (h0.ul a5) rfl (Lw.lt rfl (Lw.m (vB (decide ((y1 : Int) < ((x0.length : Int) : Int)))) rfl (bsplit (decide ((y1 : Int) < ((x0.length : Int) : Int))) (fun hc55 => ?_) (fun hc55 => ?_)))))))
  ·replace hm := bt hm hc55
   refine Lw.wa hc55 rfl (Lw.m v0_ rfl (Lw.wa hc55 rfl (Lw.m (vI y1) rfl (Lw.wa hc55 rfl ?_))))
   obtain ⟨u56, e57, hm⟩ := ob hm
   refine Lw.r rfl (R.ix (α := Str) (h0.ul a5) e57 rfl rfl rfl) (Lw.wa hc55 rfl (Lw.r rfl (R.ld rfl rfl ((h0.ul a5).at_ e57).str) (Lw.wa hc55 rfl (Lw.m (vS x1) rfl (Lw.wa hc55 rfl (Lw.r rfl (R.slt rfl rfl) (Lw.p hc55 (vB (Op.bytesLess u56 x1)) rfl (Lw.nil (⟨?_, ⟨Op.bytesLess u56 x1, W2, rfl, Le.refl _ _, rfl, hm⟩⟩)))))))))
   iterate 12 (refine .u ?_)
   exact Agree.refl _
  ·replace hm := bf hm hc55
   refine Lw.ps hc55 rfl (Lw.ps hc55 rfl (Lw.ps hc55 rfl (Lw.ps hc55 rfl (Lw.ps hc55 rfl (Lw.ps hc55 rfl (Lw.p hc55 (vB false) rfl (Lw.nil (⟨?_, ⟨false, W2, rfl, Le.refl _ _, rfl, hm⟩⟩))))))))
   iterate 12 (refine .u ?_)
   exact Agree.refl _

theorem p116 {W : CW} {K : List Nat} {x0 : List Str} {v0_ : Value} {x1 : Str} {r : (List Str)} (h0 : Rd W K [v0_] x0) (hm : Vm.spec_l5Put x0 x1 = some r) : CallR Tryz.prog 116 [v0_, vS x1].toArray W.w (Res W [] fun W' v => ∃ (u0 : Value), v = u0 ∧ Rd W' (0 :: K) [u0] r) :=
 (c116 (V := W.view K []) (h0.view _) hm).ad (fk 0) fun _ _ ⟨u0, e, f0⟩ => ⟨u0, e, f0.back rfl⟩

theorem c114 {V : CW} {x0 : List Vm.File} {v0_ : Value} {x1 : List Vm.File} {v1_ : Value} {x2 : List Vm.File} {v2_ : Value} {r : (List Str)} (h0 : Rd V [0] [v0_] x0) (h1 : Rd V [0] [v1_] x1) (h2 : Rd V [0] [v2_] x2) (hm : Vm.spec_l6Paths x0 x1 x2 = some r) : CallR Tryz.prog 114 [v0_, v1_, v2_].toArray V.w (Res V LL fun Wf v => ∃ (u0 : Value), v = u0 ∧ Rd Wf [0] [u0] r) := by
 unfold Vm.spec_l6Paths at hm
 obtain ⟨W0, hW0⟩ : ∃ W, W = V := ⟨V, rfl⟩
 subst hW0
 refine CallR.of Tryz.func114 rfl rfl rfl rfl (Cw.seq (Cw.region (Lw.g (.slice none 0 0) rfl (Lw.nil (Cw.seq (Cw.region (Lw.t rfl (T.lit0 (α := Str) 2 []) ?_)))))))
 rintro v1 _ ⟨W1, rfl, l1, o1⟩
 have a2 := l1.o
 refine Lw.g v1 rfl (Lw.nil (Cw.seq (Cw.seq (Cw.region (Lw.g (vI 0) rfl (Lw.nil (Cw.block ?_)))))))
 obtain ⟨W3, ew3, l3, dj3⟩ := dyeE _ 2
 rw [← ew3]
 have s4 : Rd (α := List Str) W3 [0] [v1] ([] : List Str) := by rw [dj3]; exact (o1.rd.dye 2).sub (M := [0]) rfl
 have a5 := a2.t l3 rfl
 obtain ⟨K11, hK11, hm⟩ := jn_e hm
 refine Cw.loop 12 24 [7, 8] (fun m l w => ∃ (y6 : List Str) (y9 : Int) (v7 : Value) (W10 : CW), W10.w = w ∧ Le [] W3 W10 ∧ l = [v7, vI y9] ∧ Rd W10 [0] [v7] y6 ∧ Vm.spec_l6Paths_l1 x0 K11 m y6 y9 = some r) (((x0.length : Int) - 0).toNat + 1) ⟨([] : List Str), 0, v1, W3, rfl, Le.refl _ _, rfl, s4, hm⟩ ?_
 rintro m12 _ _ σ ⟨y6, y9, v7, W10, rfl, l10, rfl, r8, hm⟩
 obtain _ | m12 := m12
 ·cases hm
 unfold Vm.spec_l6Paths_l1 at hm
 have a13 := a5.n l10
 refine Cw.seq (Cw.seq (Cw.region (Lw.m (vI y9) rfl (Lw.m v0_ rfl (Lw.ln x0 (h0.ul a13) rfl (Lw.lt rfl (Lw.nil (Cw.cond (b := decide ((y9 : Int) < ((x0.length : Int) : Int))) rfl (fun hc15 => ?_) (fun hc15 => ?_)))))))))
 ·replace hm := bt hm hc15
  refine Cw.skip (Cw.seq (Cw.block (Cw.region (Lw.m v7 rfl (Lw.m v0_ rfl (Lw.m (vI y9) rfl ?_))))))
  obtain ⟨u16, e17, hm⟩ := ob hm
  refine Lw.r rfl (R.ix (α := File) (h0.ul a13) e17 rfl rfl rfl) (Lw.fa rfl (Lw.r rfl (R.ld rfl rfl (File.at0 ((h0.ul a13).at_ e17)).str) ?_))
  obtain ⟨z18, e19, hm⟩ := ob hm
  refine Lw.t rfl (T.call rfl (p116 (K := [0])  r8 e19)) ?_
  rintro v0_20 _ ⟨W20, rfl, l20, ⟨_, rfl, f20_0⟩⟩
  have s21 := f20_0.sub (M := [0]) rfl
  refine Lw.g v0_20 rfl (Lw.nil (Cw.region (Lw.m (vI y9) rfl (Lw.add rfl (Lw.g (vI (w64 (y9 + 1))) rfl (Lw.nil (⟨?_, m12, Nat.lt_succ_self m12, ⟨z18, w64 (y9 + 1), v0_20, W20, rfl, (l10.trans l20), rfl, s21, hm⟩⟩)))))))
  iterate 17 (refine .u ?_)
  exact Agree.base
 ·replace hm := bf hm hc15
  refine Cw.exit ?_
  rw [hK11] at hm
  refine Cw.seq (Cw.seq (Cw.region (Lw.g (vI 0) rfl (Lw.nil (Cw.block ?_)))))
  obtain ⟨K28, hK28, hm⟩ := jn_e hm
  refine Cw.loop 25 37 [7, 9] (fun m l w => ∃ (y23 : List Str) (y26 : Int) (v24 : Value) (W27 : CW), W27.w = w ∧ Le [] W10 W27 ∧ l = [v24, vI y26] ∧ Rd W27 [0] [v24] y23 ∧ Vm.spec_l6Paths_l2 x1 K28 m y23 y26 = some r) (((x1.length : Int) - 0).toNat + 1) ⟨y6, 0, v7, W10, rfl, Le.refl _ _, rfl, r8, hm⟩ ?_
  rintro m29 _ _ σ ⟨y23, y26, v24, W27, rfl, l27, rfl, r25, hm⟩
  obtain _ | m29 := m29
  ·cases hm
  unfold Vm.spec_l6Paths_l2 at hm
  have a30 := a13.n l27
  refine Cw.seq (Cw.seq (Cw.region (Lw.m (vI y26) rfl (Lw.m v1_ rfl (Lw.ln x1 (h1.ul a30) rfl (Lw.lt rfl (Lw.nil (Cw.cond (b := decide ((y26 : Int) < ((x1.length : Int) : Int))) rfl (fun hc32 => ?_) (fun hc32 => ?_)))))))))
  ·replace hm := bt hm hc32
   refine Cw.skip (Cw.seq (Cw.block (Cw.region (Lw.m v24 rfl (Lw.m v1_ rfl (Lw.m (vI y26) rfl ?_))))))
   obtain ⟨u33, e34, hm⟩ := ob hm
   refine Lw.r rfl (R.ix (α := File) (h1.ul a30) e34 rfl rfl rfl) (Lw.fa rfl (Lw.r rfl (R.ld rfl rfl (File.at0 ((h1.ul a30).at_ e34)).str) ?_))
   obtain ⟨z35, e36, hm⟩ := ob hm
   refine Lw.t rfl (T.call rfl (p116 (K := [0])  r25 e36)) ?_
   rintro v0_37 _ ⟨W37, rfl, l37, ⟨_, rfl, f37_0⟩⟩
   have s38 := f37_0.sub (M := [0]) rfl
   refine Lw.g v0_37 rfl (Lw.nil (Cw.region (Lw.m (vI y26) rfl (Lw.add rfl (Lw.g (vI (w64 (y26 + 1))) rfl (Lw.nil (⟨?_, m29, Nat.lt_succ_self m29, ⟨z35, w64 (y26 + 1), v0_37, W37, rfl, (l27.trans l37), rfl, s38, hm⟩⟩)))))))
   iterate 17 (refine .u ?_)
   exact Agree.base
  ·replace hm := bf hm hc32
   refine Cw.exit ?_
   rw [hK28] at hm
   refine Cw.seq (Cw.seq (Cw.region (Lw.g (vI 0) rfl (Lw.nil (Cw.block ?_)))))
   obtain ⟨K45, hK45, hm⟩ := jn_e hm
   refine Cw.loop 38 50 [7, 10] (fun m l w => ∃ (y40 : List Str) (y43 : Int) (v41 : Value) (W44 : CW), W44.w = w ∧ Le [] W27 W44 ∧ l = [v41, vI y43] ∧ Rd W44 [0] [v41] y40 ∧ Vm.spec_l6Paths_l3 x2 K45 m y40 y43 = some r) (((x2.length : Int) - 0).toNat + 1) ⟨y23, 0, v24, W27, rfl, Le.refl _ _, rfl, r25, hm⟩ ?_
   rintro m46 _ _ σ ⟨y40, y43, v41, W44, rfl, l44, rfl, r42, hm⟩
   obtain _ | m46 := m46
   ·cases hm
   unfold Vm.spec_l6Paths_l3 at hm
   have a47 := a30.n l44
   refine Cw.seq (Cw.seq (Cw.region (Lw.m (vI y43) rfl (Lw.m v2_ rfl (Lw.ln x2 (h2.ul a47) rfl (Lw.lt rfl (Lw.nil (Cw.cond (b := decide ((y43 : Int) < ((x2.length : Int) : Int))) rfl (fun hc49 => ?_) (fun hc49 => ?_)))))))))
   ·replace hm := bt hm hc49
    refine Cw.skip (Cw.seq (Cw.block (Cw.region (Lw.m v41 rfl (Lw.m v2_ rfl (Lw.m (vI y43) rfl ?_))))))
    obtain ⟨u50, e51, hm⟩ := ob hm
    refine Lw.r rfl (R.ix (α := File) (h2.ul a47) e51 rfl rfl rfl) (Lw.fa rfl (Lw.r rfl (R.ld rfl rfl (File.at0 ((h2.ul a47).at_ e51)).str) ?_))
    obtain ⟨z52, e53, hm⟩ := ob hm
    refine Lw.t rfl (T.call rfl (p116 (K := [0])  r42 e53)) ?_
    rintro v0_54 _ ⟨W54, rfl, l54, ⟨_, rfl, f54_0⟩⟩
    have s55 := f54_0.sub (M := [0]) rfl
    refine Lw.g v0_54 rfl (Lw.nil (Cw.region (Lw.m (vI y43) rfl (Lw.add rfl (Lw.g (vI (w64 (y43 + 1))) rfl (Lw.nil (⟨?_, m46, Nat.lt_succ_self m46, ⟨z52, w64 (y43 + 1), v0_54, W54, rfl, (l44.trans l54), rfl, s55, hm⟩⟩)))))))
    iterate 17 (refine .u ?_)
    exact Agree.base
   ·replace hm := bf hm hc49
    refine Cw.exit ?_
    rw [hK45] at hm
    refine Cw.seq (Cw.region (Lw.m v41 rfl (Lw.g v41 rfl (Lw.nil ?_))))
    cases hm
    exact Cw.ret (ret1 rfl (Res.mk a47 ⟨v41, rfl, r42⟩))

theorem p114 {W : CW} {K : List Nat} {x0 : List Vm.File} {v0_ : Value} {x1 : List Vm.File} {v1_ : Value} {x2 : List Vm.File} {v2_ : Value} {r : (List Str)} (h0 : Rd W K [v0_] x0) (h1 : Rd W K [v1_] x1) (h2 : Rd W K [v2_] x2) (hm : Vm.spec_l6Paths x0 x1 x2 = some r) : CallR Tryz.prog 114 [v0_, v1_, v2_].toArray W.w (Res W [] fun W' v => ∃ (u0 : Value), v = u0 ∧ Rd W' (0 :: K) [u0] r) :=
 (c114 (V := W.view K []) (h0.view _) (h1.view _) (h2.view _) hm).ad (fk 0) fun _ _ ⟨u0, e, f0⟩ => ⟨u0, e, f0.back rfl⟩

theorem c117 {V : CW} {x0 : List Vm.File} {v0_ : Value} {x1 : Str} {r : (List Str) × Bool} (h0 : Rd V [0] [v0_] x0) (hm : Vm.spec_l4Get x0 x1 = some r) : CallR Tryz.prog 117 [v0_, vS x1].toArray V.w (Res V LL fun Wf v => ∃ (u0 : Value), v = .tuple [u0, vB r.2].toArray ∧ Rd Wf [0] [u0] r.1) := by
 unfold Vm.spec_l4Get at hm
 obtain ⟨W0, hW0⟩ : ∃ W, W = V := ⟨V, rfl⟩
 subst hW0
 refine CallR.of Tryz.func117 rfl rfl rfl rfl (Cw.seq (Cw.region (Lw.g (.slice none 0 0) rfl (Lw.g (vB false) rfl (Lw.nil (Cw.seq (Cw.seq (Cw.region (Lw.g (vI 0) rfl (Lw.nil (Cw.block ?_)))))))))))
 obtain ⟨K7, hK7, hm⟩ := jn_e hm
 refine Cw.loop 7 24 [4, 5, 6] (fun m l w => ∃ (y1 : List Str) (y4 : Bool) (y5 : Int) (v2 : Value) (W6 : CW), W6.w = w ∧ Le [] W0 W6 ∧ l = [v2, vB y4, vI y5] ∧ Ow W6 2 [] [v2] y1 ∧ Vm.spec_l4Get_l1 x0 x1 K7 m y1 y4 y5 = some r) (((x0.length : Int) - 0).toNat + 1) ⟨([] : List Str), false, 0, .slice none 0 0, W0, rfl, Le.refl _ _, rfl, owN 2 [], hm⟩ ?_
 rintro m8 _ _ σ ⟨y1, y4, y5, v2, W6, rfl, l6, rfl, o3, hm⟩
 obtain _ | m8 := m8
 ·cases hm
 unfold Vm.spec_l4Get_l1 at hm
 have a9 := l6.o
 refine Cw.seq (Cw.seq (Cw.region ?_))
 have s10 := h0.ul a9
 refine Lw.m (vI y5) rfl (Lw.m v0_ rfl (Lw.ln x0 s10 rfl (Lw.lt rfl (Lw.nil (Cw.cond (b := decide ((y5 : Int) < ((x0.length : Int) : Int))) rfl (fun hc11 => ?_) (fun hc11 => ?_))))))
 ·replace hm := bt hm hc11
  refine Cw.skip (Cw.seq (Cw.block (Cw.seq (Cw.region (Lw.m v0_ rfl (Lw.m (vI y5) rfl ?_))))))
  obtain ⟨u12, e13, hm⟩ := ob hm
  refine Lw.r rfl (R.ix (α := File) s10 e13 rfl rfl rfl) (Lw.fa rfl (Lw.r rfl (R.ld rfl rfl (File.at0 (s10.at_ e13)).str) (Lw.m (vS x1) rfl (Lw.seq rfl (Lw.nil (Cw.cond (b := (u12.Path == x1)) rfl (fun hc14 => ?_) (fun hc14 => ?_)))))))
  ·replace hm := bt hm hc14
   refine Cw.seq (Cw.region (Lw.m v0_ rfl (Lw.m (vI y5) rfl ?_)))
   obtain ⟨u15, e16, hm⟩ := ob hm
   refine Lw.r rfl (R.ix (α := File) s10 e16 rfl rfl rfl) (Lw.fa rfl ?_)
   obtain ⟨v17, c18, r19⟩ := (File.at1 (s10.at_ e16)).cell rfl
   refine Lw.r rfl (R.ld rfl rfl c18) (Lw.g v17 rfl (Lw.g (vB true) rfl (Lw.nil ?_)))
   cases hm
   exact Cw.ret (ret2 rfl rfl (Res.mk a9 ⟨v17, rfl, r19⟩))
  ·replace hm := bf hm hc14
   refine Cw.skip (Cw.region (Lw.m (vI y5) rfl (Lw.add rfl (Lw.g (vI (w64 (y5 + 1))) rfl (Lw.nil (⟨?_, m8, Nat.lt_succ_self m8, ⟨y1, y4, w64 (y5 + 1), v2, W6, rfl, l6, rfl, o3, hm⟩⟩))))))
   iterate 17 (refine .u ?_)
   exact Agree.base
 ·replace hm := bf hm hc11
  refine Cw.exit ?_
  rw [hK7] at hm
  refine Cw.seq (Cw.region (Lw.g (.slice none 0 0) rfl (Lw.g (vB false) rfl (Lw.nil ?_))))
  cases hm
  exact Cw.ret (ret2 rfl rfl (Res.mk a9 ⟨.slice none 0 0, rfl, (rdN (K := [0]))⟩))

theorem p117 {W : CW} {K : List Nat} {x0 : List Vm.File} {v0_ : Value} {x1 : Str} {r : (List Str) × Bool} (h0 : Rd W K [v0_] x0) (hm : Vm.spec_l4Get x0 x1 = some r) : CallR Tryz.prog 117 [v0_, vS x1].toArray W.w (Res W [] fun W' v => ∃ (u0 : Value), v = .tuple [u0, vB r.2].toArray ∧ Rd W' (0 :: K) [u0] r.1) :=
 (c117 (V := W.view K []) (h0.view _) hm).ad (fk 0) fun _ _ ⟨u0, e, f0⟩ => ⟨u0, e, f0.back rfl⟩

theorem c121 {V : CW} {x0 : List Str} {v0_ : Value} {x1 : List Str} {v1_ : Value} {r : Bool} (h0 : Rd V [0] [v0_] x0) (h1 : Rd V [0] [v1_] x1) (hm : Vm.spec_l1Same x0 x1 = some r) : CallR Tryz.prog 121 [v0_, v1_].toArray V.w (Res V LL fun Wf v => v = vB r) := by
 unfold Vm.spec_l1Same at hm
 obtain ⟨W0, hW0⟩ : ∃ W, W = V := ⟨V, rfl⟩
 subst hW0
 refine CallR.of Tryz.func121 rfl rfl rfl rfl (Cw.seq (Cw.region (Lw.g (vB false) rfl (Lw.nil (Cw.seq (Cw.seq (Cw.region (Lw.m v0_ rfl (Lw.ln x0 h0 rfl (Lw.m v1_ rfl (Lw.ln x1 h1 rfl (Lw.ne rfl (Lw.nil (Cw.cond (b := (((x0.length : Int) : Int) != ((x1.length : Int) : Int))) rfl (fun hc1 => ?_) (fun hc1 => ?_)))))))))))))))
 ·replace hm := bt hm hc1
  refine Cw.seq (Cw.region (Lw.g (vB false) rfl (Lw.nil ?_)))
  cases hm
  exact Cw.ret (ret1 rfl (Res.mk (Le.refl _ _) rfl))
 ·replace hm := bf hm hc1
  refine Cw.skip (Cw.seq (Cw.seq (Cw.region (Lw.g (vI 0) rfl (Lw.nil (Cw.block ?_))))))
  obtain ⟨K5, hK5, hm⟩ := jn_e hm
  refine Cw.loop 11 25 [4, 5] (fun m l w => ∃ (y2 : Bool) (y3 : Int) (W4 : CW), W4.w = w ∧ Le [] W0 W4 ∧ l = [vB y2, vI y3] ∧ Vm.spec_l1Same_l1 x0 x1 K5 m y2 y3 = some r) (((x0.length : Int) - 0).toNat + 1) ⟨false, 0, W0, rfl, Le.refl _ _, rfl, hm⟩ ?_
  rintro m6 _ _ σ ⟨y2, y3, W4, rfl, l4, rfl, hm⟩
  obtain _ | m6 := m6
  ·cases hm
  unfold Vm.spec_l1Same_l1 at hm
  have a7 := l4.o
  refine Cw.seq (Cw.seq (Cw.region (Lw.m (vI y3) rfl (Lw.m v0_ rfl (Lw.ln x0 (h0.ul a7) rfl (Lw.lt rfl (Lw.nil (Cw.cond (b := decide ((y3 : Int) < ((x0.length : Int) : Int))) rfl (fun hc9 => ?_) (fun hc9 => ?_)))))))))
  ·replace hm := bt hm hc9
   refine Cw.skip (Cw.seq (Cw.block (Cw.seq (Cw.draw [] [(0, 0), (1, 0), (2, 0), (3, 1), (4, 0), (5, 0), (6, 0), (7, 1), (8, 0)] mixed (by kernel_rfl) fun W10 l10 => ?_))))
   have a11 := a7.n l10
   refine Mw.p rfl rfl (fun _ => R.mv (v := v0_) rfl) (Mw.p rfl rfl (fun _ => R.mv (v := vI y3) rfl) ?_)
   obtain ⟨u12, e13, hm⟩ := ob hm
   refine Mw.p rfl rfl (fun _ => R.ix (α := Str) (h0.ul a11) e13 rfl rfl rfl) (Mw.q rfl rfl (fun _ c => R.ld rfl rfl (cl_cell ((h0.ul a11).at_ e13).1 rfl ((h0.ul a11).at_ e13).str c)) (Mw.p rfl rfl (fun _ => R.mv (v := v1_) rfl) (Mw.p rfl rfl (fun _ => R.mv (v := vI y3) rfl) ?_)))
   obtain ⟨u15, e16, hm⟩ := ob hm
   refine Mw.p rfl rfl (fun _ => R.ix (α := Str) (h1.ul a11) e16 rfl rfl rfl) (Mw.q rfl rfl (fun _ c => R.ld rfl rfl (cl_cell ((h1.ul a11).at_ e16).1 rfl ((h1.ul a11).at_ e16).str c)) (Mw.p rfl rfl (fun _ => R.sne rfl rfl) (Mw.nil (Cw.cond (b := (u12 != u15)) rfl (fun hc18 => ?_) (fun hc18 => ?_)))))
   ·replace hm := bt hm hc18
    refine Cw.seq (Cw.region (Lw.g (vB false) rfl (Lw.nil ?_)))
    cases hm
    exact Cw.ret (ret1 rfl (Res.mk a11 rfl))
   ·replace hm := bf hm hc18
    refine Cw.skip (Cw.region (Lw.m (vI y3) rfl (Lw.add rfl (Lw.g (vI (w64 (y3 + 1))) rfl (Lw.nil (⟨?_, m6, Nat.lt_succ_self m6, ⟨y2, w64 (y3 + 1), W10, rfl, (l4.trans l10), rfl, hm⟩⟩))))))
    iterate 18 (refine .u ?_)
    exact Agree.base
  ·replace hm := bf hm hc9
   refine Cw.exit ?_
   rw [hK5] at hm
   refine Cw.seq (Cw.region (Lw.g (vB true) rfl (Lw.nil ?_)))
   cases hm
   exact Cw.ret (ret1 rfl (Res.mk a7 rfl))

theorem p121 {W : CW} {K : List Nat} {x0 : List Str} {v0_ : Value} {x1 : List Str} {v1_ : Value} {r : Bool} (h0 : Rd W K [v0_] x0) (h1 : Rd W K [v1_] x1) (hm : Vm.spec_l1Same x0 x1 = some r) : CallR Tryz.prog 121 [v0_, v1_].toArray W.w (Res W [] fun W' v => v = vB r) :=
 (c121 (V := W.view K []) (h0.view _) (h1.view _) hm).ad (fk 0) fun _ _ e => e

theorem c118 {V : CW} {x0 : List Str} {v0_ : Value} {x1 : Bool} {x2 : List Str} {v2_ : Value} {x3 : Bool} {r : Bool} (h0 : Rd V [0] [v0_] x0) (h2 : Rd V [0] [v2_] x2) (hm : Vm.spec_l6Same x0 x1 x2 x3 = some r) : CallR Tryz.prog 118 [v0_, vB x1, v2_, vB x3].toArray V.w (Res V LL fun Wf v => v = vB r) := by
 unfold Vm.spec_l6Same at hm
 obtain ⟨W0, hW0⟩ : ∃ W, W = V := ⟨V, rfl⟩
 subst hW0
 refine CallR.of Tryz.func118 rfl rfl rfl rfl (Cw.seq (Cw.region (Lw.g (vB false) rfl (Lw.nil ?_))))
 obtain ⟨K3, hK3, hm⟩ := jn_e hm
 refine Cw.join 9 20 [8] (fun l w => ∃ (y1 : Bool) (W2 : CW), W2.w = w ∧ Le [] W0 W2 ∧ l = [vB y1] ∧ K3 y1 = some r) ?_ ?_
 ·rintro _ _ σ ⟨y1, W2, rfl, l2, rfl, hm⟩
  rw [hK3] at hm
  have a4 := l2.o
  cases hm
  exact Cw.ret (ret1 rfl (Res.mk a4 rfl))
 ·refine Cw.region (Lw.m (vB x1) rfl (Lw.m (vB x3) rfl (Lw.r rfl (R.beq rfl rfl) (Lw.m (vB (x1 == x3)) rfl (bsplit (x1 == x3) (fun hc5 => ?_) (fun hc5 => ?_))))))
  ·replace hm := bt hm hc5
   refine Lw.wa hc5 rfl (Lw.m (vB x1) rfl (Lw.wa hc5 rfl (Lw.r rfl (R.not rfl) (Lw.wa hc5 rfl (Lw.m (vB (!x1)) rfl (bsplit (!x1) (fun hc6 => ?_) (fun hc6 => ?_)))))))
   ·replace hm := bt hm hc6
    refine Lw.ps hc6 rfl (Lw.ps hc6 rfl (Lw.ps hc6 rfl (Lw.wa hc5 rfl (Lw.p hc6 (vB true) rfl (Lw.p hc5 (vB true) rfl (Lw.g (vB true) rfl (Lw.nil (⟨?_, ⟨true, W0, rfl, Le.refl _ _, rfl, hm⟩⟩))))))))
    iterate 13 (refine .u ?_)
    exact Agree.refl _
   ·replace hm := bf hm hc6
    refine Lw.wa hc6 rfl (Lw.m v0_ rfl (Lw.wa hc6 rfl (Lw.m v2_ rfl (Lw.wa hc6 rfl ?_))))
    obtain ⟨z7, e8, hm⟩ := ob hm
    refine Lw.t rfl (T.call rfl (p121 (K := [0])  h0 h2 e8)) ?_
    rintro _ _ ⟨W9, rfl, l9, rfl⟩
    refine Lw.wa hc5 rfl (Lw.p hc6 (vB z7) rfl (Lw.p hc5 (vB z7) rfl (Lw.g (vB z7) rfl (Lw.nil (⟨?_, ⟨z7, W9, rfl, l9, rfl, hm⟩⟩)))))
    iterate 13 (refine .u ?_)
    exact Agree.refl _
  ·replace hm := bf hm hc5
   refine Lw.ps hc5 rfl (Lw.ps hc5 rfl (Lw.ps hc5 rfl (Lw.pu rfl (Lw.pu rfl (Lw.pu rfl (Lw.ps hc5 rfl (Lw.p hc5 (vB false) rfl (Lw.g (vB false) rfl (Lw.nil (⟨?_, ⟨false, W0, rfl, Le.refl _ _, rfl, hm⟩⟩))))))))))
   iterate 13 (refine .u ?_)
   exact Agree.refl _

theorem p118 {W : CW} {K : List Nat} {x0 : List Str} {v0_ : Value} {x1 : Bool} {x2 : List Str} {v2_ : Value} {x3 : Bool} {r : Bool} (h0 : Rd W K [v0_] x0) (h2 : Rd W K [v2_] x2) (hm : Vm.spec_l6Same x0 x1 x2 x3 = some r) : CallR Tryz.prog 118 [v0_, vB x1, v2_, vB x3].toArray W.w (Res W [] fun W' v => v = vB r) :=
 (c118 (V := W.view K []) (h0.view _) (h2.view _) hm).ad (fk 0) fun _ _ e => e

theorem c125 {V : CW} {x0 : List Str} {v0_ : Value} {x1 : List Str} {v1_ : Value} {r : (List (List Int))} (h0 : Rd V [0] [v0_] x0) (h1 : Rd V [0] [v1_] x1) (hm : Vm.spec_l1Table x0 x1 = some r) : CallR Tryz.prog 125 [v0_, v1_].toArray V.w (Res V LL fun Wf v => ∃ (u0 : Value), v = u0 ∧ OwS Wf LL [] [u0] r) := by
 unfold Vm.spec_l1Table at hm
 obtain ⟨W0, hW0⟩ : ∃ W, W = V := ⟨V, rfl⟩
 subst hW0
 refine CallR.of Tryz.func125 rfl rfl rfl rfl (Cw.seq (Cw.region (Lw.g (.slice none 0 0) rfl (Lw.nil (Cw.seq (Cw.region (Lw.t rfl (T.lit0 (α := List Int) 2 []) ?_)))))))
 rintro v1 _ ⟨W1, rfl, l1, o1⟩
 have a2 := l1.o
 refine Lw.g v1 rfl (Lw.nil (Cw.seq (Cw.seq (Cw.region (Lw.g (vI 0) rfl (Lw.nil (Cw.block ?_)))))))
 obtain ⟨K8, hK8, hm⟩ := jn_e hm
 refine Cw.loop 10 22 [5, 6] (fun m l w => ∃ (y3 : List (List Int)) (y6 : Int) (v4 : Value) (W7 : CW), W7.w = w ∧ Le [2, 3] W1 W7 ∧ l = [v4, vI y6] ∧ Ow W7 2 [] [v4] y3 ∧ Vm.spec_l1Table_l1 x0 x1 K8 m y3 y6 = some r) (((x0.length : Int) + 1 - 0).toNat + 1) ⟨([] : List (List Int)), 0, v1, W1, rfl, Le.refl _ _, rfl, o1, hm⟩ ?_
 rintro m9 _ _ σ ⟨y3, y6, v4, W7, rfl, l7, rfl, o5, hm⟩
 obtain _ | m9 := m9
 ·cases hm
 unfold Vm.spec_l1Table_l1 at hm
 have a10 := a2.t l7 rfl
 refine Cw.seq (Cw.seq (Cw.region (Lw.m (vI y6) rfl (Lw.m v0_ rfl (Lw.ln x0 (h0.ul a10) rfl (Lw.le rfl (Lw.nil (Cw.cond (b := decide ((y6 : Int) ≤ ((x0.length : Int) : Int))) rfl (fun hc12 => ?_) (fun hc12 => ?_)))))))))
 ·replace hm := bt hm hc12
  refine Cw.skip (Cw.seq (Cw.block (Cw.region (Lw.m v4 rfl (Lw.m v1_ rfl (Lw.ln x1 (h1.ul a10) rfl (Lw.add rfl ?_)))))))
  obtain ⟨q14, e15, hm⟩ := ob hm
  refine Lw.t rfl (T.mk (α := Int) 3 [] (n := w64 ((x1.length : Int) + 1)) rfl rfl e15) ?_
  rintro v16 _ ⟨W16, rfl, l16, o16⟩
  refine Lw.t rfl (T.bs 4 [v16] (cs := [v16]) (bsc o16.oc) rfl (bsv o16.oc)) ?_
  rintro _ _ ⟨g19, W19, rfl, rfl, l19, b19⟩
  obtain ⟨q23, e24, hm⟩ := ob hm
  refine Lw.t rfl (T.app1 (α := List Int) (J := [3]) (K' := []) ((o5.up l16 rfl).up l19 rfl) b19 (o16.up l19 rfl).s rfl rfl e24) ?_
  rintro v25 _ ⟨W25, rfl, l25, o25⟩
  refine Lw.g v25 rfl (Lw.nil (Cw.region (Lw.m (vI y6) rfl (Lw.add rfl (Lw.g (vI (w64 (y6 + 1))) rfl (Lw.nil (⟨?_, m9, Nat.lt_succ_self m9, ⟨q23, w64 (y6 + 1), v25, W25, rfl, (l7.trans ((l16.sub rfl).trans ((l19.sub rfl).trans l25))), rfl, o25, hm⟩⟩)))))))
  iterate 17 (refine .u ?_)
  exact Agree.base
 ·replace hm := bf hm hc12
  refine Cw.exit ?_
  rw [hK8] at hm
  refine Cw.seq (Cw.seq (Cw.region (Lw.m v0_ rfl (Lw.ln x0 (h0.ul a10) rfl (Lw.sub rfl (Lw.g (vI (w64 ((x0.length : Int) - 1))) rfl (Lw.nil (Cw.block ?_))))))))
  obtain ⟨K33, hK33, hm⟩ := jn_e hm
  refine Cw.loop 26 108 [7, 8] (fun m l w => ∃ (y28 : Int) (y30 : List (List Int)) (j29 : Value) (W32 : CW), W32.w = w ∧ Le [2, 5, 6, 7] W7 W32 ∧ l = [vI y28, j29] ∧ Ow W32 2 [] [v4] y30 ∧ Vm.spec_l1Table_l2 x0 x1 K33 m y28 y30 = some r) (((w64 ((x0.length : Int) - 1)) + 1 - 0).toNat + 1) ⟨w64 ((x0.length : Int) - 1), y3, undef, W7, rfl, Le.refl _ _, rfl, o5, hm⟩ ?_
  rintro m34 _ _ σ ⟨y28, y30, j29, W32, rfl, l32, rfl, o31, hm⟩
  obtain _ | m34 := m34
  ·cases hm
  unfold Vm.spec_l1Table_l2 at hm
  have a35 := a10.t l32 rfl
  refine Cw.seq (Cw.seq (Cw.region (Lw.m (vI y28) rfl (Lw.ge rfl (Lw.nil (Cw.cond (b := decide ((0 : Int) ≤ (y28 : Int))) rfl (fun hc36 => ?_) (fun hc36 => ?_)))))))
  ·replace hm := bt hm hc36
   refine Cw.skip (Cw.seq (Cw.block (Cw.seq (Cw.region (Lw.m v1_ rfl (Lw.ln x1 (h1.ul a35) rfl (Lw.sub rfl (Lw.g (vI (w64 ((x1.length : Int) - 1))) rfl (Lw.nil (Cw.block ?_))))))))))
   obtain ⟨K42, hK42, hm⟩ := jn_e hm
   refine Cw.loop 33 108 [8] (fun m l w => ∃ (y38 : Int) (y39 : List (List Int)) (W41 : CW), W41.w = w ∧ Le [2, 5, 6, 7] W32 W41 ∧ l = [vI y38] ∧ Ow W41 2 [] [v4] y39 ∧ Vm.spec_l1Table_l3 x0 x1 y28 K42 m y38 y39 = some r) (((w64 ((x1.length : Int) - 1)) + 1 - 0).toNat + 1) ⟨w64 ((x1.length : Int) - 1), y30, W32, rfl, Le.refl _ _, rfl, o31, hm⟩ ?_
   rintro m43 _ _ σ ⟨y38, y39, W41, rfl, l41, rfl, o40, hm⟩
   obtain _ | m43 := m43
   ·cases hm
   unfold Vm.spec_l1Table_l3 at hm
   have a44 := a35.t l41 rfl
   refine Cw.seq (Cw.seq (Cw.region (Lw.m (vI y38) rfl (Lw.ge rfl (Lw.nil (Cw.cond (b := decide ((0 : Int) ≤ (y38 : Int))) rfl (fun hc45 => ?_) (fun hc45 => ?_)))))))
   ·replace hm := bt hm hc45
    refine Cw.skip ?_
    obtain ⟨K49, hK49, hm⟩ := jn_e hm
    refine Cw.join 37 108 [] (fun l w => ∃ (y46 : List (List Int)) (W48 : CW), W48.w = w ∧ Le [2, 5, 6, 7] W41 W48 ∧ l = [] ∧ Ow W48 2 [] [v4] y46 ∧ K49 y46 = some r) ?_ ?_
    ·rintro _ _ σ ⟨y46, W48, rfl, l48, rfl, o47, hm⟩
     rw [hK49] at hm
     refine Cw.region (Lw.m (vI y38) rfl (Lw.sub rfl (Lw.g (vI (w64 (y38 - 1))) rfl (Lw.nil (⟨?_, m43, Nat.lt_succ_self m43, ⟨w64 (y38 - 1), y46, W48, rfl, (l41.trans l48), rfl, o47, hm⟩⟩)))))
     iterate 3 (refine .u ?_)
     refine Agree.ov0 rfl ?_
     iterate 3 (refine .u ?_)
     exact Agree.base
    ·refine Cw.block (Cw.block (Cw.seq (Cw.draw [] [(0, 0), (1, 0), (2, 0), (3, 1), (4, 0), (5, 0), (6, 0), (7, 1), (8, 0), (9, 0)] mixed (by kernel_rfl) fun W51 l51 => ?_)))
     have a52 := a44.n l51
     refine Mw.p rfl rfl (fun _ => R.mv (v := v0_) rfl) (Mw.p rfl rfl (fun _ => R.mv (v := vI y28) rfl) ?_)
     obtain ⟨u54, e55, hm⟩ := ob hm
     refine Mw.p rfl rfl (fun _ => R.ix (α := Str) (h0.ul a52) e55 rfl rfl rfl) (Mw.q rfl rfl (fun _ c => R.ld rfl rfl (cl_cell ((h0.ul a52).at_ e55).1 rfl ((h0.ul a52).at_ e55).str c)) (Mw.p rfl rfl (fun _ => R.mv (v := v1_) rfl) (Mw.p rfl rfl (fun _ => R.mv (v := vI y38) rfl) ?_)))
     obtain ⟨u57, e58, hm⟩ := ob hm
     refine Mw.p rfl rfl (fun _ => R.ix (α := Str) (h1.ul a52) e58 rfl rfl rfl) (Mw.q rfl rfl (fun _ c => R.ld rfl rfl (cl_cell ((h1.ul a52).at_ e58).1 rfl ((h1.ul a52).at_ e58).str c)) (Mw.p rfl rfl (fun _ => R.seq rfl rfl) (Mw.p rfl rfl (fun _ => R.as (v := vB (u54 == u57)) rfl) (Mw.nil (Cw.cond (b := (u54 == u57)) rfl (fun hc60 => ?_) (fun hc60 => ?_))))))
     ·replace hm := bt hm hc60
      refine Cw.draw [] [(0, 0), (1, 0), (2, 0), (3, 1), (4, 0), (5, 0), (6, 0), (7, 0), (8, 0), (9, 1), (10, 0), (11, 0), (12, 0), (13, 1), (14, 0), (15, 0), (16, 3)] mixed (by kernel_rfl) fun W61 l61 => ?_
      have o63 := (o40.up l51 rfl).up l61 rfl
      refine Mw.p rfl rfl (fun _ => R.mv (v := v4) rfl) (Mw.p rfl rfl (fun _ => R.mv (v := vI y28) rfl) ?_)
      obtain ⟨u64, e65, hm⟩ := ob hm
      refine Mw.p rfl rfl (fun _ => R.ix (α := List Int) o63.rd e65 rfl rfl rfl) ?_
      obtain ⟨v66, c67, r68⟩ := (o63.rd.at_ e65).cell rfl
      refine Mw.q rfl rfl (fun _ c => R.ld rfl rfl (cl_cell (o63.rd.at_ e65).1 rfl c67 c)) (Mw.p rfl rfl (fun _ => R.mv (v := vI y38) rfl) (Mw.p rfl rfl (fun _ => R.mv (v := v4) rfl) (Mw.p rfl rfl (fun _ => R.mv (v := vI y28) rfl) (Mw.p rfl rfl (fun _ => R.add rfl rfl) ?_))))
      obtain ⟨u69, e70, hm⟩ := ob hm
      refine Mw.p rfl rfl (fun _ => R.ix (α := List Int) o63.rd e70 rfl rfl rfl) ?_
      obtain ⟨v71, c72, r73⟩ := (o63.rd.at_ e70).cell rfl
      refine Mw.q rfl rfl (fun _ c => R.ld rfl rfl (cl_cell (o63.rd.at_ e70).1 rfl c72 c)) (Mw.p rfl rfl (fun _ => R.mv (v := vI y38) rfl) (Mw.p rfl rfl (fun _ => R.add rfl rfl) ?_))
      obtain ⟨u74, e75, hm⟩ := ob hm
      refine Mw.p rfl rfl (fun _ => R.ix (α := Int) r73 e75 rfl rfl rfl) (Mw.q rfl rfl (fun _ c => R.ld rfl rfl (cl_cell (r73.at_ e75).1 rfl (r73.at_ e75).int c)) (Mw.p rfl rfl (fun _ => R.add rfl rfl) ?_))
      obtain ⟨u76, e77, hm⟩ := ob hm
      refine Mw.p rfl rfl (fun _ => R.ix (α := Int) r68 e77 rfl rfl rfl) ?_
      obtain ⟨W78, ew78, l78, o78, gb78⟩ := Ow.lend (α := List Int) (β := List Int) (j := 5) (jf := 0) o63 e65 (by rw [h_add0]; exact c67) rfl
      rw [← ew78]
      obtain ⟨q81, e82, hm⟩ := ob hm
      refine Mw.lu rfl (T.stS (K' := []) o78 (rdI _) e82 rfl rfl rfl) ?_
      rintro _ _ ⟨W80, rfl, l80, o80⟩
      obtain ⟨W85, ew85, l85, q85, eq85, o85⟩ := gb78 _ _ l80 o80
      obtain ⟨q85_, eqm85, hm⟩ := ob hm
      obtain rfl : q85_ = q85 := Option.some.inj (eqm85.symm.trans eq85)
      rw [← ew85]
      refine Mw.nil (⟨?_, ⟨q85_, W85, rfl, ((l51.sub rfl).trans ((l61.sub rfl).trans ((l78.sub rfl).trans ((l80.sub rfl).trans (l85.sub rfl))))), rfl, o85, hm⟩⟩)
      iterate 26 (refine .u ?_)
      exact Agree.refl _
     ·replace hm := bf hm hc60
      refine Cw.seq (Cw.draw [] [(0, 0), (1, 0), (2, 0), (3, 0), (4, 1), (5, 0), (6, 0), (7, 1), (8, 0), (9, 0), (10, 0), (11, 1), (12, 0), (13, 0), (14, 0), (15, 1), (16, 0), (17, 0)] mixed (by kernel_rfl) fun W87 l87 => ?_)
      have o89 := (o40.up l51 rfl).up l87 rfl
      refine Mw.p rfl rfl (fun _ => R.mv (v := v4) rfl) (Mw.p rfl rfl (fun _ => R.mv (v := vI y28) rfl) (Mw.p rfl rfl (fun _ => R.add rfl rfl) ?_))
      obtain ⟨u90, e91, hm⟩ := ob hm
      refine Mw.p rfl rfl (fun _ => R.ix (α := List Int) o89.rd e91 rfl rfl rfl) ?_
      obtain ⟨v92, c93, r94⟩ := (o89.rd.at_ e91).cell rfl
      refine Mw.q rfl rfl (fun _ c => R.ld rfl rfl (cl_cell (o89.rd.at_ e91).1 rfl c93 c)) (Mw.p rfl rfl (fun _ => R.mv (v := vI y38) rfl) ?_)
      obtain ⟨u95, e96, hm⟩ := ob hm
      refine Mw.p rfl rfl (fun _ => R.ix (α := Int) r94 e96 rfl rfl rfl) (Mw.q rfl rfl (fun _ c => R.ld rfl rfl (cl_cell (r94.at_ e96).1 rfl (r94.at_ e96).int c)) (Mw.p rfl rfl (fun _ => R.mv (v := v4) rfl) (Mw.p rfl rfl (fun _ => R.mv (v := vI y28) rfl) ?_)))
      obtain ⟨u97, e98, hm⟩ := ob hm
      refine Mw.p rfl rfl (fun _ => R.ix (α := List Int) o89.rd e98 rfl rfl rfl) ?_
      obtain ⟨v99, c100, r101⟩ := (o89.rd.at_ e98).cell rfl
      refine Mw.q rfl rfl (fun _ c => R.ld rfl rfl (cl_cell (o89.rd.at_ e98).1 rfl c100 c)) (Mw.p rfl rfl (fun _ => R.mv (v := vI y38) rfl) (Mw.p rfl rfl (fun _ => R.add rfl rfl) ?_))
      obtain ⟨u102, e103, hm⟩ := ob hm
      refine Mw.p rfl rfl (fun _ => R.ix (α := Int) r101 e103 rfl rfl rfl) (Mw.q rfl rfl (fun _ c => R.ld rfl rfl (cl_cell (r101.at_ e103).1 rfl (r101.at_ e103).int c)) (Mw.p rfl rfl (fun _ => R.ge rfl rfl) (Mw.p rfl rfl (fun _ => R.as (v := vB (decide ((u102 : Int) ≤ (u95 : Int)))) rfl) (Mw.nil (Cw.cond (b := decide ((u102 : Int) ≤ (u95 : Int))) rfl (fun hc104 => ?_) (fun hc104 => ?_))))))
      ·replace hm := bt hm hc104
       refine Cw.draw [] [(0, 0), (1, 0), (2, 0), (3, 1), (4, 0), (5, 0), (6, 0), (7, 0), (8, 0), (9, 1), (10, 0), (11, 0), (12, 1), (13, 0), (14, 3)] mixed (by kernel_rfl) fun W105 l105 => ?_
       have o107 := o89.up l105 rfl
       refine Mw.p rfl rfl (fun _ => R.mv (v := v4) rfl) (Mw.p rfl rfl (fun _ => R.mv (v := vI y28) rfl) ?_)
       obtain ⟨u108, e109, hm⟩ := ob hm
       refine Mw.p rfl rfl (fun _ => R.ix (α := List Int) o107.rd e109 rfl rfl rfl) ?_
       obtain ⟨v110, c111, r112⟩ := (o107.rd.at_ e109).cell rfl
       refine Mw.q rfl rfl (fun _ c => R.ld rfl rfl (cl_cell (o107.rd.at_ e109).1 rfl c111 c)) (Mw.p rfl rfl (fun _ => R.mv (v := vI y38) rfl) (Mw.p rfl rfl (fun _ => R.mv (v := v4) rfl) (Mw.p rfl rfl (fun _ => R.mv (v := vI y28) rfl) (Mw.p rfl rfl (fun _ => R.add rfl rfl) ?_))))
       obtain ⟨u113, e114, hm⟩ := ob hm
       refine Mw.p rfl rfl (fun _ => R.ix (α := List Int) o107.rd e114 rfl rfl rfl) ?_
       obtain ⟨v115, c116, r117⟩ := (o107.rd.at_ e114).cell rfl
       refine Mw.q rfl rfl (fun _ c => R.ld rfl rfl (cl_cell (o107.rd.at_ e114).1 rfl c116 c)) (Mw.p rfl rfl (fun _ => R.mv (v := vI y38) rfl) ?_)
       obtain ⟨u118, e119, hm⟩ := ob hm
       refine Mw.p rfl rfl (fun _ => R.ix (α := Int) r117 e119 rfl rfl rfl) (Mw.q rfl rfl (fun _ c => R.ld rfl rfl (cl_cell (r117.at_ e119).1 rfl (r117.at_ e119).int c)) ?_)
       obtain ⟨u120, e121, hm⟩ := ob hm
       refine Mw.p rfl rfl (fun _ => R.ix (α := Int) r112 e121 rfl rfl rfl) ?_
       obtain ⟨W122, ew122, l122, o122, gb122⟩ := Ow.lend (α := List Int) (β := List Int) (j := 6) (jf := 0) o107 e109 (by rw [h_add0]; exact c111) rfl
       rw [← ew122]
       obtain ⟨q125, e126, hm⟩ := ob hm
       refine Mw.lu rfl (T.stS (K' := []) o122 (rdI _) e126 rfl rfl rfl) ?_
       rintro _ _ ⟨W124, rfl, l124, o124⟩
       obtain ⟨W129, ew129, l129, q129, eq129, o129⟩ := gb122 _ _ l124 o124
       obtain ⟨q129_, eqm129, hm⟩ := ob hm
       obtain rfl : q129_ = q129 := Option.some.inj (eqm129.symm.trans eq129)
       rw [← ew129]
       refine Mw.nil (⟨?_, ⟨q129_, W129, rfl, ((l51.sub rfl).trans ((l87.sub rfl).trans ((l105.sub rfl).trans ((l122.sub rfl).trans ((l124.sub rfl).trans (l129.sub rfl)))))), rfl, o129, hm⟩⟩)
       iterate 42 (refine .u ?_)
       exact Agree.refl _
      ·replace hm := bf hm hc104
       refine Cw.draw [] [(0, 0), (1, 0), (2, 0), (3, 1), (4, 0), (5, 0), (6, 0), (7, 0), (8, 1), (9, 0), (10, 0), (11, 0), (12, 1), (13, 0), (14, 3)] mixed (by kernel_rfl) fun W131 l131 => ?_
       have o133 := o89.up l131 rfl
       refine Mw.p rfl rfl (fun _ => R.mv (v := v4) rfl) (Mw.p rfl rfl (fun _ => R.mv (v := vI y28) rfl) ?_)
       obtain ⟨u134, e135, hm⟩ := ob hm
       refine Mw.p rfl rfl (fun _ => R.ix (α := List Int) o133.rd e135 rfl rfl rfl) ?_
       obtain ⟨v136, c137, r138⟩ := (o133.rd.at_ e135).cell rfl
       refine Mw.q rfl rfl (fun _ c => R.ld rfl rfl (cl_cell (o133.rd.at_ e135).1 rfl c137 c)) (Mw.p rfl rfl (fun _ => R.mv (v := vI y38) rfl) (Mw.p rfl rfl (fun _ => R.mv (v := v4) rfl) (Mw.p rfl rfl (fun _ => R.mv (v := vI y28) rfl) ?_)))
       obtain ⟨u139, e140, hm⟩ := ob hm
       refine Mw.p rfl rfl (fun _ => R.ix (α := List Int) o133.rd e140 rfl rfl rfl) ?_
       obtain ⟨v141, c142, r143⟩ := (o133.rd.at_ e140).cell rfl
       refine Mw.q rfl rfl (fun _ c => R.ld rfl rfl (cl_cell (o133.rd.at_ e140).1 rfl c142 c)) (Mw.p rfl rfl (fun _ => R.mv (v := vI y38) rfl) (Mw.p rfl rfl (fun _ => R.add rfl rfl) ?_))
       obtain ⟨u144, e145, hm⟩ := ob hm
       refine Mw.p rfl rfl (fun _ => R.ix (α := Int) r143 e145 rfl rfl rfl) (Mw.q rfl rfl (fun _ c => R.ld rfl rfl (cl_cell (r143.at_ e145).1 rfl (r143.at_ e145).int c)) ?_)
       obtain ⟨u146, e147, hm⟩ := ob hm
       refine Mw.p rfl rfl (fun _ => R.ix (α := Int) r138 e147 rfl rfl rfl) ?_
       obtain ⟨W148, ew148, l148, o148, gb148⟩ := Ow.lend (α := List Int) (β := List Int) (j := 7) (jf := 0) o133 e135 (by rw [h_add0]; exact c137) rfl
       rw [← ew148]
       obtain ⟨q151, e152, hm⟩ := ob hm
       refine Mw.lu rfl (T.stS (K' := []) o148 (rdI _) e152 rfl rfl rfl) ?_
       rintro _ _ ⟨W150, rfl, l150, o150⟩
       obtain ⟨W155, ew155, l155, q155, eq155, o155⟩ := gb148 _ _ l150 o150
       obtain ⟨q155_, eqm155, hm⟩ := ob hm
       obtain rfl : q155_ = q155 := Option.some.inj (eqm155.symm.trans eq155)
       rw [← ew155]
       refine Mw.nil (⟨?_, ⟨q155_, W155, rfl, ((l51.sub rfl).trans ((l87.sub rfl).trans ((l131.sub rfl).trans ((l148.sub rfl).trans ((l150.sub rfl).trans (l155.sub rfl)))))), rfl, o155, hm⟩⟩)
       iterate 42 (refine .u ?_)
       exact Agree.refl _
   ·replace hm := bf hm hc45
    refine Cw.exit ?_
    rw [hK42] at hm
    refine Cw.region (Lw.m (vI y28) rfl (Lw.sub rfl (Lw.g (vI (w64 (y28 - 1))) rfl (Lw.nil (⟨?_, m34, Nat.lt_succ_self m34, ⟨w64 (y28 - 1), y39, vI y38, W41, rfl, (l32.trans l41), rfl, o40, hm⟩⟩)))))
    iterate 6 (refine .u ?_)
    refine Agree.ov0 rfl ?_
    iterate 8 (refine .u ?_)
    exact Agree.base
  ·replace hm := bf hm hc36
   refine Cw.exit ?_
   rw [hK33] at hm
   refine Cw.seq (Cw.region (Lw.m v4 rfl (Lw.g v4 rfl (Lw.nil ?_))))
   cases hm
   exact Cw.ret (ret1 rfl (Res.mk a35 ⟨v4, rfl, o31.s.sub rfl rfl⟩))

theorem p125 {W : CW} {K : List Nat} {x0 : List Str} {v0_ : Value} {x1 : List Str} {v1_ : Value} {k0 : Nat} {r : (List (List Int))} (h0 : Rd W K [v0_] x0) (h1 : Rd W K [v1_] x1) (hm : Vm.spec_l1Table x0 x1 = some r) : CallR Tryz.prog 125 [v0_, v1_].toArray W.w (Res W [] fun W' v => ∃ (u0 : Value), v = u0 ∧ Ow W' k0 [] [u0] r) :=
 (c125 (V := W.view K []) (h0.view _) (h1.view _) hm).ad (fk k0) fun _ _ ⟨u0, e, f0⟩ => ⟨u0, e, f0.back (fk_LL _)⟩

theorem c122 {V : CW} {x0 : List Str} {v0_ : Value} {x1 : List Str} {v1_ : Value} {r : (List Int)} (h0 : Rd V [0] [v0_] x0) (h1 : Rd V [0] [v1_] x1) (hm : Vm.spec_l1Match x0 x1 = some r) : CallR Tryz.prog 122 [v0_, v1_].toArray V.w (Res V LL fun Wf v => ∃ (u0 : Value), v = u0 ∧ OwS Wf LL [] [u0] r) := by
 unfold Vm.spec_l1Match at hm
 obtain ⟨W0, hW0⟩ : ∃ W, W = V := ⟨V, rfl⟩
 subst hW0
 refine CallR.of Tryz.func122 rfl rfl rfl rfl (Cw.seq (Cw.region (Lw.g (.slice none 0 0) rfl (Lw.nil (Cw.seq (Cw.region (Lw.m v0_ rfl (Lw.m v1_ rfl ?_))))))))
 obtain ⟨z1, e2, hm⟩ := ob hm
 refine Lw.t rfl (T.call rfl (p125 (K := [0]) (k0 := 2) h0 h1 e2)) ?_
 rintro v0_3 _ ⟨W3, rfl, l3, ⟨_, rfl, f3_0⟩⟩
 have a4 := l3.o
 refine Lw.g v0_3 rfl (Lw.nil (Cw.seq (Cw.region (Lw.t rfl (T.lit0 (α := Int) 3 []) ?_))))
 rintro v5 _ ⟨W5, rfl, l5, o5⟩
 have a6 := a4.n l5
 refine Lw.g v5 rfl (Lw.nil (Cw.seq (Cw.region (Lw.g (vI 0) rfl (Lw.nil (Cw.seq (Cw.seq (Cw.region (Lw.g (vI 0) rfl (Lw.nil (Cw.block ?_)))))))))))
 obtain ⟨K14, hK14, hm⟩ := jn_e hm
 refine Cw.loop 13 71 [6, 7, 8] (fun m l w => ∃ (y8 : List Int) (y11 : Int) (y12 : Int) (v9 : Value) (W13 : CW), W13.w = w ∧ Le [3] W5 W13 ∧ l = [v9, vI y11, vI y12] ∧ Ow W13 3 [] [v9] y8 ∧ Vm.spec_l1Match_l1 x0 x1 z1 K14 m y8 y11 y12 = some r) (x0.length + x1.length + 1) ⟨([] : List Int), 0, 0, v5, W5, rfl, Le.refl _ _, rfl, o5, hm⟩ ?_
 rintro m15 _ _ σ ⟨y8, y11, y12, v9, W13, rfl, l13, rfl, o10, hm⟩
 obtain _ | m15 := m15
 ·cases hm
 unfold Vm.spec_l1Match_l1 at hm
 have a16 := a6.t l13 rfl
 refine Cw.seq (Cw.seq (Cw.region (Lw.m (vI y12) rfl (Lw.m v0_ rfl (Lw.ln x0 (h0.ul a16) rfl (Lw.lt rfl (Lw.nil (Cw.cond (b := decide ((y12 : Int) < ((x0.length : Int) : Int))) rfl (fun hc19 => ?_) (fun hc19 => ?_)))))))))
 ·replace hm := bt hm hc19
  refine Cw.skip (Cw.block (Cw.block ?_))
  obtain ⟨K22, hK22, hm⟩ := jn_e hm
  refine Cw.join 19 34 [19] (fun l w => ∃ (y20 : Bool) (W21 : CW), W21.w = w ∧ Le [] W13 W21 ∧ l = [vB y20] ∧ K22 y20 = some r) ?_ ?_
  ·rintro _ _ σ ⟨y20, W21, rfl, l21, rfl, hm⟩
   rw [hK22] at hm
   have a23 := a16.n l21
   refine Cw.cond (b := y20) rfl (fun hc26 => ?_) (fun hc26 => ?_)
   ·replace hm := bt hm hc26
    refine Cw.seq (Cw.region (Lw.m v9 rfl (Lw.m (vI y11) rfl (Lw.t rfl (T.bs 4 [vI y11] (cs := [vI y11]) rfl rfl (bsv rfl)) ?_))))
    rintro _ _ ⟨g27, W27, rfl, rfl, l27, b27⟩
    obtain ⟨q31, e32, hm⟩ := ob hm
    refine Lw.t rfl (T.app1S (α := Int) (K' := []) ((o10.up l21 rfl).up l27 rfl) b27 (rdI _) rfl rfl e32) ?_
    rintro v33 _ ⟨W33, rfl, l33, o33⟩
    refine Lw.g v33 rfl (Lw.nil (Cw.seq (Cw.region (Lw.m (vI y12) rfl (Lw.add rfl (Lw.g (vI (w64 (y12 + 1))) rfl (Lw.nil (Cw.region (Lw.m (vI y11) rfl (Lw.add rfl (Lw.g (vI (w64 (y11 + 1))) rfl (Lw.nil (⟨?_, m15, Nat.lt_succ_self m15, ⟨q31, w64 (y11 + 1), w64 (y12 + 1), v33, W33, rfl, (l13.trans ((l21.sub rfl).trans ((l27.sub rfl).trans l33))), rfl, o33, hm⟩⟩)))))))))))))
    iterate 12 (refine .u ?_)
    refine Agree.ov0 rfl ?_
    iterate 7 (refine .u ?_)
    exact Agree.base
   ·replace hm := bf hm hc26
    obtain ⟨K39, hK39, hm⟩ := jn_e hm
    refine Cw.join 43 66 [43] (fun l w => ∃ (y37 : Bool) (W38 : CW), W38.w = w ∧ Le [] W21 W38 ∧ l = [vB y37] ∧ K39 y37 = some r) ?_ ?_
    ·rintro _ _ σ ⟨y37, W38, rfl, l38, rfl, hm⟩
     rw [hK39] at hm
     have o42 := (o10.up l21 rfl).up l38 rfl
     refine Cw.cond (b := y37) rfl (fun hc43 => ?_) (fun hc43 => ?_)
     ·replace hm := bt hm hc43
      refine Cw.seq (Cw.region (Lw.m v9 rfl (Lw.t rfl (T.bs 5 [vI (-1)] (cs := [vI (-1)]) rfl rfl (bsv rfl)) ?_)))
      rintro _ _ ⟨g44, W44, rfl, rfl, l44, b44⟩
      obtain ⟨q48, e49, hm⟩ := ob hm
      refine Lw.t rfl (T.app1S (α := Int) (K' := []) (o42.up l44 rfl) b44 (rdI _) rfl rfl e49) ?_
      rintro v50 _ ⟨W50, rfl, l50, o50⟩
      refine Lw.g v50 rfl (Lw.nil (Cw.region (Lw.m (vI y12) rfl (Lw.add rfl (Lw.g (vI (w64 (y12 + 1))) rfl (Lw.nil (⟨?_, m15, Nat.lt_succ_self m15, ⟨q48, y11, w64 (y12 + 1), v50, W50, rfl, (l13.trans ((l21.sub rfl).trans ((l38.sub rfl).trans ((l44.sub rfl).trans l50)))), rfl, o50, hm⟩⟩)))))))
      iterate 8 (refine .u ?_)
      refine Agree.ov0 rfl ?_
      iterate 1 (refine .u ?_)
      refine Agree.ov0 rfl ?_
      iterate 7 (refine .u ?_)
      exact Agree.base
     ·replace hm := bf hm hc43
      refine Cw.region (Lw.m (vI y11) rfl (Lw.add rfl (Lw.g (vI (w64 (y11 + 1))) rfl (Lw.nil (⟨?_, m15, Nat.lt_succ_self m15, ⟨y8, w64 (y11 + 1), y12, v9, W38, rfl, (l13.trans ((l21.sub rfl).trans (l38.sub rfl))), rfl, o42, hm⟩⟩)))))
      iterate 4 (refine .u ?_)
      refine Agree.ov0 rfl ?_
      iterate 1 (refine .u ?_)
      refine Agree.ov0 rfl ?_
      iterate 7 (refine .u ?_)
      exact Agree.base
    ·refine Cw.draw [] [(0, 0), (1, 0), (2, 0), (3, 0), (4, 0), (5, 0), (6, 0), (7, 0), (8, 0), (9, 1), (10, 0), (11, 0), (12, 1), (13, 0), (14, 0), (15, 0), (16, 1), (17, 0), (18, 0), (19, 0), (20, 1), (21, 0), (22, 0), (23, 0)] mixed (by kernel_rfl) fun W54 l54 => ?_
     have a55 := a23.n l54
     have o56 := (((f3_0.up l5 rfl).up l13 rfl).up l21 rfl).up l54 rfl
     refine Mw.p rfl rfl (fun _ => R.mv (v := vI y11) rfl) (Mw.p rfl rfl (fun _ => R.mv (v := v1_) rfl) (Mw.p rfl rfl (fun _ => lenR (xs := x1) (h1.ul a55) rfl) (Mw.p rfl rfl (fun _ => R.ge rfl rfl) (Mw.p rfl rfl (fun _ => R.mv (v := vB (decide (((x1.length : Int) : Int) ≤ (y11 : Int)))) rfl) (bsplit (decide (((x1.length : Int) : Int) ≤ (y11 : Int))) (fun hc59 => ?_) (fun hc59 => ?_))))))
     ·replace hm := bt hm hc59
      refine Mw.ps hc59 rfl rfl (Mw.ps hc59 rfl rfl (Mw.ps hc59 rfl rfl (Mw.ps hc59 rfl rfl (Mw.ps hc59 rfl rfl (Mw.ps hc59 rfl rfl (Mw.ps hc59 rfl rfl (Mw.ps hc59 rfl rfl (Mw.ps hc59 rfl rfl (Mw.ps hc59 rfl rfl (Mw.ps hc59 rfl rfl (Mw.ps hc59 rfl rfl (Mw.ps hc59 rfl rfl (Mw.ps hc59 rfl rfl (Mw.ps hc59 rfl rfl (Mw.ps hc59 rfl rfl (Mw.ps hc59 rfl rfl (Mw.p rfl rfl (fun _ => R.pk hc59 rfl (v := vB true) rfl) (Mw.p rfl rfl (fun _ => R.as (v := vB true) rfl) (Mw.nil (⟨?_, ⟨true, W54, rfl, l54, rfl, hm⟩⟩))))))))))))))))))))
      iterate 24 (refine .u ?_)
      exact Agree.refl _
     ·replace hm := bf hm hc59
      refine Mw.gp hc59 rfl rfl rfl rfl rfl (fun _ => R.mv (v := v0_3) rfl) (Mw.gp hc59 rfl rfl rfl rfl rfl (fun _ => R.mv (v := vI y12) rfl) (Mw.gp hc59 rfl rfl rfl rfl rfl (fun _ => R.add rfl rfl) ?_))
      obtain ⟨u60, e61, hm⟩ := ob hm
      refine Mw.gp hc59 rfl rfl rfl rfl rfl (fun _ => R.ix (α := List Int) o56.rd e61 rfl rfl rfl) ?_
      obtain ⟨v62, c63, r64⟩ := (o56.rd.at_ e61).cell rfl
      refine Mw.gq hc59 rfl rfl rfl rfl rfl (fun _ c => R.ld rfl rfl (cl_cell (o56.rd.at_ e61).1 rfl c63 c)) (Mw.gp hc59 rfl rfl rfl rfl rfl (fun _ => R.mv (v := vI y11) rfl) ?_)
      obtain ⟨u65, e66, hm⟩ := ob hm
      refine Mw.gp hc59 rfl rfl rfl rfl rfl (fun _ => R.ix (α := Int) r64 e66 rfl rfl rfl) (Mw.gq hc59 rfl rfl rfl rfl rfl (fun _ c => R.ld rfl rfl (cl_cell (r64.at_ e66).1 rfl (r64.at_ e66).int c)) (Mw.gp hc59 rfl rfl rfl rfl rfl (fun _ => R.mv (v := v0_3) rfl) (Mw.gp hc59 rfl rfl rfl rfl rfl (fun _ => R.mv (v := vI y12) rfl) ?_)))
      obtain ⟨u67, e68, hm⟩ := ob hm
      refine Mw.gp hc59 rfl rfl rfl rfl rfl (fun _ => R.ix (α := List Int) o56.rd e68 rfl rfl rfl) ?_
      obtain ⟨v69, c70, r71⟩ := (o56.rd.at_ e68).cell rfl
      refine Mw.gq hc59 rfl rfl rfl rfl rfl (fun _ c => R.ld rfl rfl (cl_cell (o56.rd.at_ e68).1 rfl c70 c)) (Mw.gp hc59 rfl rfl rfl rfl rfl (fun _ => R.mv (v := vI y11) rfl) (Mw.gp hc59 rfl rfl rfl rfl rfl (fun _ => R.add rfl rfl) ?_))
      obtain ⟨u72, e73, hm⟩ := ob hm
      refine Mw.gp hc59 rfl rfl rfl rfl rfl (fun _ => R.ix (α := Int) r71 e73 rfl rfl rfl) (Mw.gq hc59 rfl rfl rfl rfl rfl (fun _ c => R.ld rfl rfl (cl_cell (r71.at_ e73).1 rfl (r71.at_ e73).int c)) (Mw.gp hc59 rfl rfl rfl rfl rfl (fun _ => R.ge rfl rfl) (Mw.p rfl rfl (fun _ => R.pk hc59 rfl (v := vB (decide ((u72 : Int) ≤ (u65 : Int)))) rfl) (Mw.p rfl rfl (fun _ => R.as (v := vB (decide ((u72 : Int) ≤ (u65 : Int)))) rfl) (Mw.nil (⟨?_, ⟨decide ((u72 : Int) ≤ (u65 : Int)), W54, rfl, l54, rfl, hm⟩⟩))))))
      iterate 24 (refine .u ?_)
      exact Agree.refl _
  ·refine Cw.draw [] [(0, 0), (1, 0), (2, 0), (3, 0), (4, 0), (5, 0), (6, 0), (7, 0), (8, 1), (9, 0), (10, 0), (11, 0), (12, 1), (13, 0), (14, 0), (15, 0)] mixed (by kernel_rfl) fun W74 l74 => ?_
   have a75 := a16.n l74
   have s78 := h1.ul a75
   refine Mw.p rfl rfl (fun _ => R.mv (v := vI y11) rfl) (Mw.p rfl rfl (fun _ => R.mv (v := v1_) rfl) (Mw.p rfl rfl (fun _ => lenR (xs := x1) s78 rfl) (Mw.p rfl rfl (fun _ => R.lt rfl rfl) (Mw.p rfl rfl (fun _ => R.mv (v := vB (decide ((y11 : Int) < ((x1.length : Int) : Int)))) rfl) (bsplit (decide ((y11 : Int) < ((x1.length : Int) : Int))) (fun hc79 => ?_) (fun hc79 => ?_))))))
   ·replace hm := bt hm hc79
    refine Mw.gp hc79 rfl rfl rfl rfl rfl (fun _ => R.mv (v := v0_) rfl) (Mw.gp hc79 rfl rfl rfl rfl rfl (fun _ => R.mv (v := vI y12) rfl) ?_)
    obtain ⟨u80, e81, hm⟩ := ob hm
    refine Mw.gp hc79 rfl rfl rfl rfl rfl (fun _ => R.ix (α := Str) (h0.ul a75) e81 rfl rfl rfl) (Mw.gq hc79 rfl rfl rfl rfl rfl (fun _ c => R.ld rfl rfl (cl_cell ((h0.ul a75).at_ e81).1 rfl ((h0.ul a75).at_ e81).str c)) (Mw.gp hc79 rfl rfl rfl rfl rfl (fun _ => R.mv (v := v1_) rfl) (Mw.gp hc79 rfl rfl rfl rfl rfl (fun _ => R.mv (v := vI y11) rfl) ?_)))
    obtain ⟨u83, e84, hm⟩ := ob hm
    refine Mw.gp hc79 rfl rfl rfl rfl rfl (fun _ => R.ix (α := Str) s78 e84 rfl rfl rfl) (Mw.gq hc79 rfl rfl rfl rfl rfl (fun _ c => R.ld rfl rfl (cl_cell (s78.at_ e84).1 rfl (s78.at_ e84).str c)) (Mw.gp hc79 rfl rfl rfl rfl rfl (fun _ => R.seq rfl rfl) (Mw.p rfl rfl (fun _ => R.pk hc79 rfl (v := vB (u80 == u83)) rfl) (Mw.p rfl rfl (fun _ => R.as (v := vB (u80 == u83)) rfl) (Mw.nil (⟨?_, ⟨(u80 == u83), W74, rfl, l74, rfl, hm⟩⟩))))))
    iterate 16 (refine .u ?_)
    exact Agree.refl _
   ·replace hm := bf hm hc79
    refine Mw.ps hc79 rfl rfl (Mw.ps hc79 rfl rfl (Mw.ps hc79 rfl rfl (Mw.ps hc79 rfl rfl (Mw.ps hc79 rfl rfl (Mw.ps hc79 rfl rfl (Mw.ps hc79 rfl rfl (Mw.ps hc79 rfl rfl (Mw.ps hc79 rfl rfl (Mw.p rfl rfl (fun _ => R.pk hc79 rfl (v := vB false) rfl) (Mw.p rfl rfl (fun _ => R.as (v := vB false) rfl) (Mw.nil (⟨?_, ⟨false, W74, rfl, l74, rfl, hm⟩⟩))))))))))))
    iterate 16 (refine .u ?_)
    exact Agree.refl _
 ·replace hm := bf hm hc19
  refine Cw.exit ?_
  rw [hK14] at hm
  refine Cw.seq (Cw.region (Lw.m v9 rfl (Lw.g v9 rfl (Lw.nil ?_))))
  cases hm
  exact Cw.ret (ret1 rfl (Res.mk a16 ⟨v9, rfl, o10.s.sub rfl rfl⟩))

theorem p122 {W : CW} {K : List Nat} {x0 : List Str} {v0_ : Value} {x1 : List Str} {v1_ : Value} {k0 : Nat} {r : (List Int)} (h0 : Rd W K [v0_] x0) (h1 : Rd W K [v1_] x1) (hm : Vm.spec_l1Match x0 x1 = some r) : CallR Tryz.prog 122 [v0_, v1_].toArray W.w (Res W [] fun W' v => ∃ (u0 : Value), v = u0 ∧ Ow W' k0 [] [u0] r) :=
 (c122 (V := W.view K []) (h0.view _) (h1.view _) hm).ad (fk k0) fun _ _ ⟨u0, e, f0⟩ => ⟨u0, e, f0.back (fk_LL _)⟩

theorem c124 {V : CW} {x0 : List Str} {v0_ : Value} {x1 : List Str} {v1_ : Value} {x2 : List Str} {v2_ : Value} {r : Vm.Part} (h0 : Rd V [0] [v0_] x0) (h1 : Rd V [0] [v1_] x1) (h2 : Rd V [0] [v2_] x2) (hm : Vm.spec_l3Part x0 x1 x2 = some r) : CallR Tryz.prog 124 [v0_, v1_, v2_].toArray V.w (Res V LL fun Wf v => ∃ (u0_1 : Value) (u0_2 : Value) (u0_3 : Value) (u0_4 : Value), v = .agg [vB r.Clash, u0_1, u0_2, u0_3, u0_4].toArray ∧ OwS Wf [31] [] [u0_1] r.Lines ∧ OwS Wf [32] [] [u0_2] r.Old ∧ OwS Wf [33] [] [u0_3] r.One ∧ OwS Wf [34] [] [u0_4] r.Two) := by
 unfold Vm.spec_l3Part at hm
 obtain ⟨W0, hW0⟩ : ∃ W, W = V := ⟨V, rfl⟩
 subst hW0
 refine CallR.of Tryz.func124 rfl rfl rfl rfl (Cw.seq (Cw.region (Lw.t rfl (T.alloc 2 (cs := [vB false, .slice none 0 0, .slice none 0 0, .slice none 0 0, .slice none 0 0]) rfl) ?_)))
 rintro _ _ ⟨g1, W1, rfl, rfl, l1, b1⟩
 have a2 := l1.o
 refine Lw.nil (Cw.seq (Cw.block ?_))
 obtain ⟨K5, hK5, hm⟩ := jn_e hm
 refine Cw.join 7 13 [7] (fun l w => ∃ (y3 : Bool) (W4 : CW), W4.w = w ∧ Le [] W1 W4 ∧ l = [vB y3] ∧ K5 y3 = some r) ?_ ?_
 ·rintro _ _ σ ⟨y3, W4, rfl, l4, rfl, hm⟩
  rw [hK5] at hm
  have a6 := a2.n l4
  refine Cw.cond (b := y3) rfl (fun hc8 => ?_) (fun hc8 => ?_)
  ·replace hm := bt hm hc8
   refine Cw.seq (Cw.region (Lw.t rfl (T.lit0 (α := Str) 3 []) ?_))
   rintro v9 _ ⟨W9, rfl, l9, o9⟩
   have a10 := a6.n l9
   refine Lw.m v2_ rfl ?_
   obtain ⟨q12, e13, hm⟩ := ob hm
   refine Lw.t rfl (T.appP (α := Str) o9 (h2.ul a10) rfl rfl e13) ?_
   rintro v14 _ ⟨W14, rfl, l14, o14⟩
   have a16 := a10.t l14 rfl
   refine Lw.r rfl (R.bd (zs := [vB false, .slice none 0 0, .slice none 0 0, .slice none 0 0, .slice none 0 0]) (cs := [vB false, v14, .slice none 0 0, .slice none 0 0, .slice none 0 0]) [(1, v14)] rfl rfl rfl (bp_cons o14.oc rfl bp_nil)) (Lw.u (T.sta (vs := [vB false, v14, .slice none 0 0, .slice none 0 0, .slice none 0 0]) (((b1.up l4 rfl).up l9 rfl).up l14 rfl) rfl rfl (oc_cons rfl (oc_cons o14.oc (oc_cons rfl (oc_cons rfl (oc_cons rfl oc_nil))))) rfl rfl) ?_)
   rintro _ _ ⟨W18, rfl, l18, b18⟩
   have a19 := a16.t l18 rfl
   refine Lw.nil ?_
   obtain ⟨W21, ew21, l21, o21⟩ := (o14.up l18 rfl).dyeO 31
   have a22 := a19.t l21 rfl
   cases hm
   rw [← ew21]
   exact Cw.ret (retA1 rfl (b18.up l21 rfl) (Res.mk a22 ⟨v14, .slice none 0 0, .slice none 0 0, .slice none 0 0, rfl, o21.s, (owsN []).sub rfl rfl, (owsN []).sub rfl rfl, (owsN []).sub rfl rfl⟩))
  ·replace hm := bf hm hc8
   refine Cw.seq (Cw.region (Lw.m v2_ rfl (Lw.m v0_ rfl ?_)))
   obtain ⟨z26, e27, hm⟩ := ob hm
   refine Lw.t rfl (T.call rfl (p121 (K := [0])  (h2.ul a6) (h0.ul a6) e27)) ?_
   rintro _ _ ⟨W28, rfl, l28, rfl⟩
   have a29 := a6.n l28
   have b30 := (b1.up l4 rfl).up l28 rfl
   refine Lw.g (vB z26) rfl (Lw.nil (Cw.cond (b := z26) rfl (fun hc31 => ?_) (fun hc31 => ?_)))
   ·replace hm := bt hm hc31
    refine Cw.seq (Cw.region (Lw.t rfl (T.lit0 (α := Str) 4 []) ?_))
    rintro v32 _ ⟨W32, rfl, l32, o32⟩
    have a33 := a29.n l32
    refine Lw.m v1_ rfl ?_
    obtain ⟨q35, e36, hm⟩ := ob hm
    refine Lw.t rfl (T.appP (α := Str) o32 (h1.ul a33) rfl rfl e36) ?_
    rintro v37 _ ⟨W37, rfl, l37, o37⟩
    have a39 := a33.t l37 rfl
    refine Lw.r rfl (R.bd (zs := [vB false, .slice none 0 0, .slice none 0 0, .slice none 0 0, .slice none 0 0]) (cs := [vB false, v37, .slice none 0 0, .slice none 0 0, .slice none 0 0]) [(1, v37)] rfl rfl rfl (bp_cons o37.oc rfl bp_nil)) (Lw.u (T.sta (vs := [vB false, v37, .slice none 0 0, .slice none 0 0, .slice none 0 0]) ((b30.up l32 rfl).up l37 rfl) rfl rfl (oc_cons rfl (oc_cons o37.oc (oc_cons rfl (oc_cons rfl (oc_cons rfl oc_nil))))) rfl rfl) ?_)
    rintro _ _ ⟨W41, rfl, l41, b41⟩
    have a42 := a39.t l41 rfl
    refine Lw.nil ?_
    obtain ⟨W44, ew44, l44, o44⟩ := (o37.up l41 rfl).dyeO 31
    have a45 := a42.t l44 rfl
    cases hm
    rw [← ew44]
    exact Cw.ret (retA1 rfl (b41.up l44 rfl) (Res.mk a45 ⟨v37, .slice none 0 0, .slice none 0 0, .slice none 0 0, rfl, o44.s, (owsN []).sub rfl rfl, (owsN []).sub rfl rfl, (owsN []).sub rfl rfl⟩))
   ·replace hm := bf hm hc31
    refine Cw.skip (Cw.seq (Cw.region (Lw.t rfl (T.lit0 (α := Str) 5 []) ?_)))
    rintro v47 _ ⟨W47, rfl, l47, o47⟩
    have a48 := a29.n l47
    refine Lw.m v0_ rfl ?_
    obtain ⟨q50, e51, hm⟩ := ob hm
    refine Lw.t rfl (T.appP (α := Str) o47 (h0.ul a48) rfl rfl e51) ?_
    rintro v52 _ ⟨W52, rfl, l52, o52⟩
    have a54 := a48.t l52 rfl
    refine Lw.t rfl (T.lit0 (α := Str) 6 []) ?_
    rintro v56 _ ⟨W56, rfl, l56, o56⟩
    have a57 := a54.n l56
    refine Lw.m v1_ rfl ?_
    obtain ⟨q60, e61, hm⟩ := ob hm
    refine Lw.t rfl (T.appP (α := Str) o56 (h1.ul a57) rfl rfl e61) ?_
    rintro v62 _ ⟨W62, rfl, l62, o62⟩
    have a64 := a57.t l62 rfl
    refine Lw.t rfl (T.lit0 (α := Str) 7 []) ?_
    rintro v67 _ ⟨W67, rfl, l67, o67⟩
    have a68 := a64.n l67
    refine Lw.m v2_ rfl ?_
    obtain ⟨q72, e73, hm⟩ := ob hm
    refine Lw.t rfl (T.appP (α := Str) o67 (h2.ul a68) rfl rfl e73) ?_
    rintro v74 _ ⟨W74, rfl, l74, o74⟩
    have a76 := a68.t l74 rfl
    have o77 := (((o52.up l56 rfl).up l62 rfl).up l67 rfl).up l74 rfl
    have o78 := (o62.up l67 rfl).up l74 rfl
    refine Lw.r rfl (R.bd (zs := [vB false, .slice none 0 0, .slice none 0 0, .slice none 0 0, .slice none 0 0]) (cs := [vB true, .slice none 0 0, v52, v62, v74]) [(0, vB true), (2, v52), (3, v62), (4, v74)] rfl rfl rfl (bp_cons rfl rfl (bp_cons o77.oc rfl (bp_cons o78.oc rfl (bp_cons o74.oc rfl bp_nil))))) (Lw.u (T.sta (vs := [vB true, .slice none 0 0, v52, v62, v74]) ((((((b30.up l47 rfl).up l52 rfl).up l56 rfl).up l62 rfl).up l67 rfl).up l74 rfl) rfl rfl (oc_cons rfl (oc_cons rfl (oc_cons o77.oc (oc_cons o78.oc (oc_cons o74.oc oc_nil))))) rfl rfl) ?_)
    rintro _ _ ⟨W80, rfl, l80, b80⟩
    have a81 := a76.t l80 rfl
    refine Lw.nil ?_
    obtain ⟨W85, ew85, l85, o85⟩ := (o77.up l80 rfl).dyeO 32
    have a86 := a81.t l85 rfl
    obtain ⟨W90, ew90, l90, o90⟩ := ((o78.up l80 rfl).up l85 rfl).dyeO 33
    have a91 := a86.t l90 rfl
    obtain ⟨W95, ew95, l95, o95⟩ := (((o74.up l80 rfl).up l85 rfl).up l90 rfl).dyeO 34
    have a96 := a91.t l95 rfl
    cases hm
    rw [← ew95.trans (ew90.trans (ew85))]
    exact Cw.ret (retA1 rfl (((b80.up l85 rfl).up l90 rfl).up l95 rfl) (Res.mk a96 ⟨.slice none 0 0, v52, v62, v74, rfl, (owsN []).sub rfl rfl, ((o85.up l90 rfl).up l95 rfl).s, (o90.up l95 rfl).s, o95.s⟩))
 ·refine Cw.seq (Cw.region (Lw.m v1_ rfl (Lw.m v0_ rfl ?_)))
  obtain ⟨z102, e103, hm⟩ := ob hm
  refine Lw.t rfl (T.call rfl (p121 (K := [0])  (h1.ul a2) (h0.ul a2) e103)) ?_
  rintro _ _ ⟨W104, rfl, l104, rfl⟩
  have a105 := a2.n l104
  refine Lw.g (vB z102) rfl (Lw.nil (Cw.cond (b := z102) rfl (fun hc107 => ?_) (fun hc107 => ?_)))
  ·replace hm := bt hm hc107
   refine Cw.skip (⟨?_, ⟨z102, W104, rfl, l104, rfl, hm⟩⟩)
   iterate 4 (refine .u ?_)
   exact Agree.refl _
  ·replace hm := bf hm hc107
   refine Cw.region (Lw.m v1_ rfl (Lw.m v2_ rfl ?_))
   obtain ⟨z110, e111, hm⟩ := ob hm
   refine Lw.t rfl (T.call rfl (p121 (K := [0])  (h1.ul a105) (h2.ul a105) e111)) ?_
   rintro _ _ ⟨W112, rfl, l112, rfl⟩
   refine Lw.g (vB z110) rfl (Lw.nil (⟨?_, ⟨z110, W112, rfl, (l104.trans l112), rfl, hm⟩⟩))
   iterate 8 (refine .u ?_)
   exact Agree.refl _

theorem p124 {W : CW} {K : List Nat} {x0 : List Str} {v0_ : Value} {x1 : List Str} {v1_ : Value} {x2 : List Str} {v2_ : Value} {k0 : Nat} {k1 : Nat} {k2 : Nat} {k3 : Nat} {r : Vm.Part} (h0 : Rd W K [v0_] x0) (h1 : Rd W K [v1_] x1) (h2 : Rd W K [v2_] x2) (hm : Vm.spec_l3Part x0 x1 x2 = some r) : CallR Tryz.prog 124 [v0_, v1_, v2_].toArray W.w (Res W [] fun W' v => ∃ (u0_1 : Value) (u0_2 : Value) (u0_3 : Value) (u0_4 : Value), v = .agg [vB r.Clash, u0_1, u0_2, u0_3, u0_4].toArray ∧ Ow W' k0 [] [u0_1] r.Lines ∧ Ow W' k1 [] [u0_2] r.Old ∧ Ow W' k2 [] [u0_3] r.One ∧ Ow W' k3 [] [u0_4] r.Two) :=
 CallR.adJ (J := []) (fun c => bif Nat.beq c 0 then 0 else bif Nat.beq c 31 then k0 else bif Nat.beq c 32 then k1 else bif Nat.beq c 33 then k2 else bif Nat.beq c 34 then k3 else 0) (c124 (V := W.view K []) (h0.view _) (h1.view _) (h2.view _) hm) fun _ _ ⟨u0_1, u0_2, u0_3, u0_4, e, f0, f1, f2, f3⟩ => ⟨u0_1, u0_2, u0_3, u0_4, e, f0.one1.backN rfl, f1.one1.backN rfl, f2.one1.backN rfl, f3.one1.backN rfl⟩

end Go.Sx
