/- Walks: each function answers as its model, printed by a program of ours. Conditions: the arguments read as they are given. -/
import Derived.Test.YtmjjhnahdmlmaaaGreatDoorXTs
import Derived.Test.YtmjjhnahdmlmaaaGreatDoorXMd
import Derived.Test.YtmjjhnahdmlmaaaGreatDoorXW1
import Derived.Test.YtmjjhnahdmlmaaaGreatDoorXW2
import Derived.Test.YtmjjhnahdmlmaaaGreatDoorXW3
namespace Go.Sx
open Go Go.Proofs Go.Vm Rp
set_option linter.unusedVariables false
set_option linter.unusedSimpArgs false

theorem c96 {V : CW} {x0 : List Vm.File} {v0_ : Value} {x1 : Str} {r : (List Vm.File)} (h0 : Rd V [0] [v0_] x0) (hm : Vm.spec_l4Drop x0 x1 = some r) : CallR Tryz.prog 96 [v0_, vS x1].toArray V.w (Res V LL fun Wf v => ∃ (u0 : Value), v = u0 ∧ OwS (α := List (Sh Vm.File)) Wf LL [0] [u0] r) := by
 unfold Vm.spec_l4Drop at hm
 obtain ⟨W0, hW0⟩ : ∃ W, W = V := ⟨V, rfl⟩
 subst hW0
 refine CallR.of Tryz.func96 rfl rfl rfl rfl (Cw.seq (Cw.region (Lw.g (.slice none 0 0) rfl (Lw.nil (Cw.seq (Cw.region (Lw.t rfl (T.lit0 (α := File) 2 []) ?_)))))))
 rintro v1 _ ⟨W1, rfl, l1, o1⟩
 have a2 := l1.o
 refine Lw.g v1 rfl (Lw.nil (Cw.seq (Cw.seq (Cw.region (Lw.g (vI 0) rfl (Lw.nil (Cw.block ?_)))))))
 obtain ⟨K8, hK8, hm⟩ := jn_e hm
 obtain ⟨W9, ew9, l9, o9⟩ := o1.toSh
 have a10 := a2.t l9 rfl
 rw [← ew9]
 refine Cw.loop 8 37 [5, 6] (fun m l w => ∃ (y3 : List Vm.File) (y6 : Int) (v4 : Value) (W7 : CW), W7.w = w ∧ Le [2] W9 W7 ∧ l = [v4, vI y6] ∧ Ow (α := List (Sh Vm.File)) W7 2 [0] [v4] y3 ∧ Vm.spec_l4Drop_l1 x0 x1 K8 m y3 y6 = some r) (((x0.length : Int) - 0).toNat + 1) ⟨([] : List File), 0, v1, W9, rfl, Le.refl _ _, rfl, o9, hm⟩ ?_
 rintro m11 _ _ σ ⟨y3, y6, v4, W7, rfl, l7, rfl, o5, hm⟩
 obtain _ | m11 := m11
 ·cases hm
 unfold Vm.spec_l4Drop_l1 at hm
 have a12 := a10.t l7 rfl
 refine Cw.seq (Cw.seq (Cw.region ?_))
 have s13 := h0.ul a12
 refine Lw.m (vI y6) rfl (Lw.m v0_ rfl (Lw.ln x0 s13 rfl (Lw.lt rfl (Lw.nil (Cw.cond (b := decide ((y6 : Int) < ((x0.length : Int) : Int))) rfl (fun hc14 => ?_) (fun hc14 => ?_))))))
 ·replace hm := bt hm hc14
  refine Cw.skip ?_
  obtain ⟨K19, hK19, hm⟩ := jn_e hm
  refine Cw.join 14 37 [5] (fun l w => ∃ (y15 : List Vm.File) (v16 : Value) (W18 : CW), W18.w = w ∧ Le [2] W7 W18 ∧ l = [v16] ∧ Ow (α := List (Sh Vm.File)) W18 2 [0] [v16] y15 ∧ K19 y15 = some r) ?_ ?_
  ·rintro _ _ σ ⟨y15, v16, W18, rfl, l18, rfl, o17, hm⟩
   rw [hK19] at hm
   refine Cw.region (Lw.m (vI y6) rfl (Lw.add rfl (Lw.g (vI (w64 (y6 + 1))) rfl (Lw.nil (⟨?_, m11, Nat.lt_succ_self m11, ⟨y15, w64 (y6 + 1), v16, W18, rfl, (l7.trans l18), rfl, o17, hm⟩⟩)))))
   iterate 4 (refine .u ?_)
   refine Agree.ov0 rfl ?_
   iterate 6 (refine .u ?_)
   exact Agree.base
  ·refine Cw.block ?_
   obtain ⟨K23, hK23, hm⟩ := jn_e hm
   refine Cw.join 14 30 [30] (fun l w => ∃ (y21 : Bool) (W22 : CW), W22.w = w ∧ Le [] W7 W22 ∧ l = [vB y21] ∧ K23 y21 = some r) ?_ ?_
   ·rintro _ _ σ ⟨y21, W22, rfl, l22, rfl, hm⟩
    rw [hK23] at hm
    have a24 := a12.n l22
    refine Cw.cond (b := y21) rfl (fun hc26 => ?_) (fun hc26 => ?_)
    ·replace hm := bt hm hc26
     refine Cw.region (Lw.m v4 rfl (Lw.m v0_ rfl (Lw.m (vI y6) rfl ?_)))
     obtain ⟨u27, e28, hm⟩ := ob hm
     refine Lw.r rfl (R.ix (α := File) (h0.ul a24) e28 rfl rfl rfl) ?_
     obtain ⟨x30, c31, _, r32⟩ := ((h0.ul a24).at_ e28).cells
     obtain ⟨v33, rfl, r34⟩ := File.split r32
     refine Lw.r rfl (R.lda c31 rfl rfl) (Lw.t rfl (T.bs 3 [.agg [vS u27.Path, v33].toArray] (cs := [vS u27.Path, v33]) rfl rfl (bsA rfl)) ?_)
     rintro _ _ ⟨g35, W35, rfl, rfl, l35, b35⟩
     have a36 := l35.o
     obtain ⟨q39, e40, hm⟩ := ob hm
     refine Lw.t rfl (T.app1S (α := Sh Vm.File) (K' := [0]) ((o5.up l22 rfl).up l35 rfl) b35 (File.rd (K := [0]) u27.Path u27.Text (r34.ul a36)).sh1 rfl rfl e40) ?_
     rintro v41 _ ⟨W41, rfl, l41, o41⟩
     refine Lw.g v41 rfl (Lw.nil (⟨?_, ⟨q39, v41, W41, rfl, ((l22.sub rfl).trans ((l35.sub rfl).trans l41)), rfl, o41, hm⟩⟩))
     iterate 9 (refine .u ?_)
     refine Agree.ov0 rfl ?_
     exact Agree.refl _
    ·replace hm := bf hm hc26
     refine Cw.skip (⟨?_, ⟨y3, v4, W22, rfl, (l22.sub rfl), rfl, (o5.up l22 rfl), hm⟩⟩)
     iterate 1 (refine .u ?_)
     refine Agree.ov0 rfl ?_
     exact Agree.refl _
   ·refine Cw.region (Lw.m v0_ rfl (Lw.m (vI y6) rfl ?_))
    obtain ⟨u44, e45, hm⟩ := ob hm
    refine Lw.r rfl (R.ix (α := File) s13 e45 rfl rfl rfl) (Lw.fa rfl (Lw.r rfl (R.ld rfl rfl (File.at0 (s13.at_ e45)).str) (Lw.m (vS x1) rfl (Lw.sne rfl (Lw.m (vB (u44.Path != x1)) rfl (bsplit (u44.Path != x1) (fun hc46 => ?_) (fun hc46 => ?_)))))))
    ·replace hm := bt hm hc46
     refine Lw.wa hc46 rfl (Lw.m (vS x1) rfl (Lw.wa hc46 rfl (Lw.m v0_ rfl (Lw.wa hc46 rfl (Lw.m (vI y6) rfl (Lw.wa hc46 rfl ?_))))))
     obtain ⟨u47, e48, hm⟩ := ob hm
     refine Lw.r rfl (R.ix (α := File) s13 e48 rfl rfl rfl) (Lw.wa hc46 rfl (Lw.fa rfl (Lw.wa hc46 rfl (Lw.r rfl (R.ld rfl rfl (File.at0 (s13.at_ e48)).str) (Lw.wa hc46 rfl ?_)))))
     obtain ⟨z49, e50, hm⟩ := ob hm
     refine Lw.t rfl (T.call rfl (p63 (K := [0])   e50)) ?_
     rintro _ _ ⟨W51, rfl, l51, rfl⟩
     refine Lw.wa hc46 rfl (Lw.r rfl (R.not rfl) (Lw.p hc46 (vB (!z49)) rfl (Lw.nil (⟨?_, ⟨(!z49), W51, rfl, l51, rfl, hm⟩⟩))))
     iterate 17 (refine .u ?_)
     exact Agree.refl _
    ·replace hm := bf hm hc46
     refine Lw.ps hc46 rfl (Lw.ps hc46 rfl (Lw.ps hc46 rfl (Lw.ps hc46 rfl (Lw.ps hc46 rfl (Lw.ps hc46 rfl (Lw.ps hc46 rfl (Lw.ps hc46 rfl (Lw.p hc46 (vB false) rfl (Lw.nil (⟨?_, ⟨false, W7, rfl, Le.refl _ _, rfl, hm⟩⟩))))))))))
     iterate 17 (refine .u ?_)
     exact Agree.refl _
 ·replace hm := bf hm hc14
  refine Cw.exit ?_
  rw [hK8] at hm
  refine Cw.seq (Cw.region (Lw.m v4 rfl (Lw.g v4 rfl (Lw.nil ?_))))
  cases hm
  exact Cw.ret (ret1 rfl (Res.mk a12 ⟨v4, rfl, o5.s.sub rfl rfl⟩))

theorem p96 {W : CW} {K : List Nat} {x0 : List Vm.File} {v0_ : Value} {x1 : Str} {k0 : Nat} {r : (List Vm.File)} (h0 : Rd W K [v0_] x0) (hm : Vm.spec_l4Drop x0 x1 = some r) : CallR Tryz.prog 96 [v0_, vS x1].toArray W.w (Res W [] fun W' v => ∃ (u0 : Value), v = u0 ∧ Ow (α := List (Sh Vm.File)) W' k0 (0 :: K) [u0] r) :=
 (c96 (V := W.view K []) (h0.view _) hm).ad (fk k0) fun _ _ ⟨u0, e, f0⟩ => ⟨u0, e, f0.backS (fk_LL _) rfl⟩

theorem c80 {V : CW} {x0 : List Vm.File} {v0_ : Value} {x1 : Str} {r : (List Vm.File) × Bool} (h0 : Rd V [0] [v0_] x0) (hm : Vm.spec_TreeDrop x0 x1 = some r) : CallR Tryz.prog 80 [v0_, vS x1].toArray V.w (Res V LL fun Wf v => ∃ (u0 : Value), v = .tuple [u0, vB r.2].toArray ∧ OwS (α := List (Sh Vm.File)) Wf LL [0] [u0] r.1) := by
 unfold Vm.spec_TreeDrop at hm
 obtain ⟨W0, hW0⟩ : ∃ W, W = V := ⟨V, rfl⟩
 subst hW0
 refine CallR.of Tryz.func80 rfl rfl rfl rfl (Cw.seq (Cw.region (Lw.g (.slice none 0 0) rfl (Lw.g (vB false) rfl (Lw.nil (Cw.seq (Cw.seq (Cw.region (Lw.m v0_ rfl ?_)))))))))
 obtain ⟨z1, e2, hm⟩ := ob hm
 refine Lw.t rfl (T.call rfl (p52 (K := [0])  h0 e2)) ?_
 rintro _ _ ⟨W3, rfl, l3, rfl⟩
 have a4 := l3.o
 refine Lw.r rfl (R.not rfl) (Lw.nil (Cw.cond (b := (!z1)) rfl (fun hc5 => ?_) (fun hc5 => ?_)))
 ·replace hm := bt hm hc5
  refine Cw.seq (Cw.region (Lw.g (.slice none 0 0) rfl (Lw.g (vB false) rfl (Lw.nil ?_))))
  cases hm
  exact Cw.ret (ret2 rfl rfl (Res.mk a4 ⟨.slice none 0 0, rfl, (owsNSh [0]).sub rfl rfl⟩))
 ·replace hm := bf hm hc5
  refine Cw.skip (Cw.seq (Cw.region (Lw.m v0_ rfl ?_)))
  obtain ⟨z7, e8, hm⟩ := ob hm
  refine Lw.t rfl (T.call rfl (p32 (K := [0]) (k0 := 2) (h0.ul a4) e8)) ?_
  rintro v0_9 _ ⟨W9, rfl, l9, ⟨_, rfl, f9_0⟩⟩
  have a10 := a4.n l9
  refine Lw.m (vS x1) rfl ?_
  obtain ⟨z11, e12, hm⟩ := ob hm
  refine Lw.t rfl (T.call rfl (p96 (K := [2]) (k0 := 3) f9_0.rd e12)) ?_
  rintro v0_13 _ ⟨W13, rfl, l13, ⟨_, rfl, f13_0⟩⟩
  have a14 := a10.n l13
  refine Lw.g v0_13 rfl (Lw.nil (Cw.seq (Cw.region ?_)))
  have s16 : Rd (α := List Vm.File) W13 [3, 0, 2] [v0_13] z11 := Ow.rdSh f13_0
  refine Lw.m v0_13 rfl (Lw.m v0_13 rfl (Lw.ln z11 s16 rfl (Lw.m v0_ rfl (Lw.ln x0 (h0.ul a14) rfl (Lw.lt rfl (Lw.g v0_13 rfl (Lw.g (vB (decide (((z11.length : Int) : Int) < ((x0.length : Int) : Int)))) rfl (Lw.nil ?_))))))))
  obtain ⟨W18, ew18, l18, dj18⟩ := dyeE _ 2
  have s19 : Rd (α := List Vm.File) W18 [0] [v0_9] z7 := by rw [dj18]; exact ((f9_0.up l13 rfl).rd.dye 2).sub (M := [0]) rfl
  have o20 : Ow (α := List (Sh Vm.File)) W18 3 [0] [v0_13] z11 := by rw [dj18]; exact (f13_0.dyeA 2 rfl).sub rfl
  have a21 := a14.t l18 rfl
  cases hm
  rw [← ew18]
  exact Cw.ret (ret2 rfl rfl (Res.mk a21 ⟨v0_13, rfl, o20.s.sub rfl rfl⟩))

theorem p80 {W : CW} {K : List Nat} {x0 : List Vm.File} {v0_ : Value} {x1 : Str} {k0 : Nat} {r : (List Vm.File) × Bool} (h0 : Rd W K [v0_] x0) (hm : Vm.spec_TreeDrop x0 x1 = some r) : CallR Tryz.prog 80 [v0_, vS x1].toArray W.w (Res W [] fun W' v => ∃ (u0 : Value), v = .tuple [u0, vB r.2].toArray ∧ Ow (α := List (Sh Vm.File)) W' k0 (0 :: K) [u0] r.1) :=
 (c80 (V := W.view K []) (h0.view _) hm).ad (fk k0) fun _ _ ⟨u0, e, f0⟩ => ⟨u0, e, f0.backS (fk_LL _) rfl⟩

theorem c81 {V : CW} {x0 : List Vm.File} {v0_ : Value} {x1 : Str} {x2 : Str} {r : (List Vm.File) × Bool} (h0 : Rd V [0] [v0_] x0) (hm : Vm.spec_TreeMove x0 x1 x2 = some r) : CallR Tryz.prog 81 [v0_, vS x1, vS x2].toArray V.w (Res V LL fun Wf v => ∃ (u0 : Value), v = .tuple [u0, vB r.2].toArray ∧ OwS (α := List (Sh Vm.File)) Wf LL [0] [u0] r.1) := by
 unfold Vm.spec_TreeMove at hm
 obtain ⟨W0, hW0⟩ : ∃ W, W = V := ⟨V, rfl⟩
 subst hW0
 refine CallR.of Tryz.func81 rfl rfl rfl rfl (Cw.seq (Cw.region (Lw.g (.slice none 0 0) rfl (Lw.g (vB false) rfl (Lw.nil (Cw.seq (Cw.seq (Cw.region (Lw.m v0_ rfl ?_)))))))))
 obtain ⟨z1, e2, hm⟩ := ob hm
 refine Lw.t rfl (T.call rfl (p52 (K := [0])  h0 e2)) ?_
 rintro _ _ ⟨W3, rfl, l3, rfl⟩
 have a4 := l3.o
 refine Lw.r rfl (R.not rfl) (Lw.nil (Cw.cond (b := (!z1)) rfl (fun hc5 => ?_) (fun hc5 => ?_)))
 ·replace hm := bt hm hc5
  refine Cw.seq (Cw.region (Lw.g (.slice none 0 0) rfl (Lw.g (vB false) rfl (Lw.nil ?_))))
  cases hm
  exact Cw.ret (ret2 rfl rfl (Res.mk a4 ⟨.slice none 0 0, rfl, (owsNSh [0]).sub rfl rfl⟩))
 ·replace hm := bf hm hc5
  refine Cw.skip (Cw.seq (Cw.region (Lw.m v0_ rfl ?_)))
  obtain ⟨z7, e8, hm⟩ := ob hm
  refine Lw.t rfl (T.call rfl (p32 (K := [0]) (k0 := 2) (h0.ul a4) e8)) ?_
  rintro v0_9 _ ⟨W9, rfl, l9, ⟨_, rfl, f9_0⟩⟩
  have a10 := a4.n l9
  refine Lw.m (vS x1) rfl ?_
  obtain ⟨z11, e12, hm⟩ := ob hm
  refine Lw.t rfl (T.call rfl (p96 (K := [2]) (k0 := 3) f9_0.rd e12)) ?_
  rintro v0_13 _ ⟨W13, rfl, l13, ⟨_, rfl, f13_0⟩⟩
  have a14 := a10.n l13
  refine Lw.g v0_13 rfl (Lw.nil (Cw.seq ?_))
  obtain ⟨K18, hK18, hm⟩ := jn_e hm
  refine Cw.join 18 27 [27] (fun l w => ∃ (y16 : Bool) (W17 : CW), W17.w = w ∧ Le [] W13 W17 ∧ l = [vB y16] ∧ K18 y16 = some r) ?_ ?_
  ·rintro _ _ σ ⟨y16, W17, rfl, l17, rfl, hm⟩
   rw [hK18] at hm
   have a19 := a14.n l17
   refine Cw.cond (b := y16) rfl (fun hc22 => ?_) (fun hc22 => ?_)
   ·replace hm := bt hm hc22
    refine Cw.seq (Cw.region (Lw.m v0_ rfl ?_))
    obtain ⟨z24, e25, hm⟩ := ob hm
    refine Lw.t rfl (T.call rfl (p32 (K := [0]) (k0 := 4) (h0.ul a19) e25)) ?_
    rintro v0_26 _ ⟨W26, rfl, l26, ⟨_, rfl, f26_0⟩⟩
    have a27 := a19.n l26
    refine Lw.g v0_26 rfl (Lw.g (vB false) rfl (Lw.nil ?_))
    obtain ⟨W30, ew30, l30, o30⟩ := f26_0.toSh
    have a31 := a27.t l30 rfl
    cases hm
    rw [← ew30]
    exact Cw.ret (ret2 rfl rfl (Res.mk a31 ⟨v0_26, rfl, o30.s.sub rfl rfl⟩))
   ·replace hm := bf hm hc22
    refine Cw.skip (Cw.seq (Cw.region (Lw.m v0_ rfl (Lw.ln x0 (h0.ul a19) rfl (Lw.g (vI (x0.length : Int)) rfl (Lw.nil (Cw.seq (Cw.seq (Cw.region (Lw.g (vI 0) rfl (Lw.nil (Cw.block ?_))))))))))))
    obtain ⟨W35, ew35, l35, dj35⟩ := dyeE _ 2
    rw [← ew35]
    have s36 : Rd (α := List Vm.File) W35 [0] [v0_9] z7 := by rw [dj35]; exact (((f9_0.up l13 rfl).up l17 rfl).rd.dye 2).sub (M := [0]) rfl
    have o37 : Ow (α := List (Sh Vm.File)) W35 3 [0] [v0_13] z11 := by rw [dj35]; exact ((f13_0.up l17 rfl).dyeA 2 rfl).sub rfl
    have a38 := a19.t l35 rfl
    obtain ⟨K44, hK44, hm⟩ := jn_e hm
    refine Cw.loop 32 71 [8, 10] (fun m l w => ∃ (y39 : List Vm.File) (y42 : Int) (v40 : Value) (W43 : CW), W43.w = w ∧ Le [3, 5] W35 W43 ∧ l = [v40, vI y42] ∧ Ow (α := List (Sh Vm.File)) W43 3 [0] [v40] y39 ∧ Vm.spec_TreeMove_l1 x0 x1 x2 K44 m y39 y42 = some r) (((x0.length : Int) - 0).toNat + 1) ⟨z11, 0, v0_13, W35, rfl, Le.refl _ _, rfl, o37, hm⟩ ?_
    rintro m45 _ _ σ ⟨y39, y42, v40, W43, rfl, l43, rfl, o41, hm⟩
    obtain _ | m45 := m45
    ·cases hm
    unfold Vm.spec_TreeMove_l1 at hm
    have a46 := a38.t l43 rfl
    refine Cw.seq (Cw.seq (Cw.region ?_))
    have s47 := h0.ul a46
    refine Lw.m (vI y42) rfl (Lw.m v0_ rfl (Lw.ln x0 s47 rfl (Lw.lt rfl (Lw.nil (Cw.cond (b := decide ((y42 : Int) < ((x0.length : Int) : Int))) rfl (fun hc48 => ?_) (fun hc48 => ?_))))))
    ·replace hm := bt hm hc48
     refine Cw.skip ?_
     obtain ⟨K53, hK53, hm⟩ := jn_e hm
     refine Cw.join 38 71 [8] (fun l w => ∃ (y49 : List Vm.File) (v50 : Value) (W52 : CW), W52.w = w ∧ Le [3, 5] W43 W52 ∧ l = [v50] ∧ Ow (α := List (Sh Vm.File)) W52 3 [0] [v50] y49 ∧ K53 y49 = some r) ?_ ?_
     ·rintro _ _ σ ⟨y49, v50, W52, rfl, l52, rfl, o51, hm⟩
      rw [hK53] at hm
      refine Cw.region (Lw.m (vI y42) rfl (Lw.add rfl (Lw.g (vI (w64 (y42 + 1))) rfl (Lw.nil (⟨?_, m45, Nat.lt_succ_self m45, ⟨y49, w64 (y42 + 1), v50, W52, rfl, (l43.trans l52), rfl, o51, hm⟩⟩)))))
      iterate 4 (refine .u ?_)
      refine Agree.ov0 rfl ?_
      iterate 6 (refine .u ?_)
      exact Agree.base
     ·refine Cw.block ?_
      obtain ⟨K57, hK57, hm⟩ := jn_e hm
      refine Cw.join 38 53 [53] (fun l w => ∃ (y55 : Bool) (W56 : CW), W56.w = w ∧ Le [] W43 W56 ∧ l = [vB y55] ∧ K57 y55 = some r) ?_ ?_
      ·rintro _ _ σ ⟨y55, W56, rfl, l56, rfl, hm⟩
       rw [hK57] at hm
       have a58 := a46.n l56
       refine Cw.cond (b := y55) rfl (fun hc60 => ?_) (fun hc60 => ?_)
       ·replace hm := bt hm hc60
        refine Cw.draw [] [(0, 0), (1, 0), (2, 0), (3, 0), (4, 0), (5, 0), (6, 1), (7, 0), (8, 0), (9, 0), (10, 0), (11, 0), (12, 0), (13, 0), (14, 0), (15, 1), (16, 0), (17, 2), (18, 0)] mixed (by kernel_rfl) fun W61 l61 => ?_
        have a62 := a58.n l61
        have o63 := (o41.up l56 rfl).up l61 rfl
        refine Mw.p rfl rfl (fun _ => R.mv (v := v40) rfl) (Mw.p rfl rfl (fun _ => R.mv (v := vS x2) rfl) (Mw.p rfl rfl (fun _ => R.mv (v := v0_) rfl) (Mw.p rfl rfl (fun _ => R.mv (v := vI y42) rfl) ?_)))
        obtain ⟨u64, e65, hm⟩ := ob hm
        have s66 := h0.ul a62
        refine Mw.p rfl rfl (fun _ => R.ix (α := File) s66 e65 rfl rfl rfl) (Mw.p rfl rfl (fun _ => R.fa rfl) (Mw.q rfl rfl (fun _ c => R.ld rfl rfl (cl_cell (File.at0 (s66.at_ e65)).1 rfl (File.at0 (s66.at_ e65)).str c)) (Mw.p rfl rfl (fun _ => R.mv (v := vS x1) rfl) (Mw.p rfl rfl (fun _ => R.lenS rfl) ?_))))
        obtain ⟨q67, e68, hm⟩ := ob hm
        refine Mw.p rfl rfl (fun _ => R.ss e68 rfl (.inr rfl) (.inl ⟨rfl, rfl⟩)) ?_
        obtain ⟨q69, e70, hm⟩ := ob hm
        refine Mw.p rfl rfl (fun _ => R.sad e70 rfl rfl) (Mw.p rfl rfl (fun _ => R.mv (v := v0_) rfl) (Mw.p rfl rfl (fun _ => R.mv (v := vI y42) rfl) ?_))
        obtain ⟨u71, e72, hm⟩ := ob hm
        refine Mw.p rfl rfl (fun _ => R.ix (α := File) s66 e72 rfl rfl rfl) (Mw.p rfl rfl (fun _ => R.fa rfl) ?_)
        obtain ⟨v73, c74, r75⟩ := (File.at1 (s66.at_ e72)).cell rfl
        refine Mw.q rfl rfl (fun _ c => R.ld rfl rfl (cl_cell (File.at1 (s66.at_ e72)).1 rfl c74 c)) (Mw.p rfl rfl (fun _ => R.bd (zs := [vS ([] : Str), .slice none 0 0]) (cs := [vS q69, v73]) [(0, vS q69), (1, v73)] rfl rfl rfl (bp_cons rfl rfl (bp_cons r75.oc rfl bp_nil))) ?_)
        have s76 : Rd (α := List Vm.File) W61 [3, 0] [v40] y39 := Ow.rdSh o63
        obtain ⟨z77, e78, hm⟩ := ob hm
        refine Mw.t rfl rfl (T.call rfl (p94 (K := [0, 3]) (k0 := 5) (x1 := (Vm.File.mk q69 u71.Text)) (s76.sub (M := [0, 3]) rfl) ((File.rd (K := [0]) q69 u71.Text r75).sub (M := [0, 3]) rfl) e78)) ?_
        rintro v0_79 _ ⟨W79, rfl, l79, ⟨_, rfl, f79_0⟩⟩
        have o80 : Ow (α := List (Sh Vm.File)) W79 5 [0, 3] [v0_79] z77 := f79_0.sub rfl
        refine ⟨⟨_, rfl, (l79.sub (M := []) rfl)⟩, ?_⟩
        refine Mw.p rfl rfl (fun _ => R.as (v := v0_79) rfl) (Mw.nil ?_)
        obtain ⟨W83, ew83, l83, dj83⟩ := dyeE _ 3
        have s84 : Rd (α := List Vm.File) W83 [0] [v40] y39 := by rw [dj83]; exact ((o63.up l79 rfl).rd.dye 3).sub (M := [0]) rfl
        have o85 : Ow (α := List (Sh Vm.File)) W83 5 [0] [v0_79] z77 := by rw [dj83]; exact (o80.dyeA 3 rfl).sub rfl
        obtain ⟨W87, ew87, l87, o87⟩ := o85.dyeO 3
        refine ⟨?_, ⟨z77, v0_79, W87, ew87.trans (ew83), ((l56.sub rfl).trans ((l61.sub rfl).trans ((l79.sub rfl).trans ((l83.sub rfl).trans (l87.sub rfl))))), rfl, o87, hm⟩⟩
        iterate 20 (refine .u ?_)
        refine Agree.ov0 rfl ?_
        exact Agree.refl _
       ·replace hm := bf hm hc60
        refine Cw.skip (⟨?_, ⟨y39, v40, W56, rfl, (l56.sub rfl), rfl, (o41.up l56 rfl), hm⟩⟩)
        iterate 1 (refine .u ?_)
        refine Agree.ov0 rfl ?_
        exact Agree.refl _
      ·refine Cw.region (Lw.m v0_ rfl (Lw.m (vI y42) rfl ?_))
       obtain ⟨u89, e90, hm⟩ := ob hm
       refine Lw.r rfl (R.ix (α := File) s47 e90 rfl rfl rfl) (Lw.fa rfl (Lw.r rfl (R.ld rfl rfl (File.at0 (s47.at_ e90)).str) (Lw.m (vS x1) rfl (Lw.seq rfl (Lw.m (vB (u89.Path == x1)) rfl (bsplit (u89.Path == x1) (fun hc91 => ?_) (fun hc91 => ?_)))))))
       ·replace hm := bt hm hc91
        refine Lw.ps hc91 rfl (Lw.ps hc91 rfl (Lw.ps hc91 rfl (Lw.ps hc91 rfl (Lw.ps hc91 rfl (Lw.ps hc91 rfl (Lw.ps hc91 rfl (Lw.p hc91 (vB true) rfl (Lw.nil (⟨?_, ⟨true, W43, rfl, Le.refl _ _, rfl, hm⟩⟩)))))))))
        iterate 16 (refine .u ?_)
        exact Agree.refl _
       ·replace hm := bf hm hc91
        refine Lw.wa hc91 rfl (Lw.m (vS x1) rfl (Lw.wa hc91 rfl (Lw.m v0_ rfl (Lw.wa hc91 rfl (Lw.m (vI y42) rfl (Lw.wa hc91 rfl ?_))))))
        obtain ⟨u92, e93, hm⟩ := ob hm
        refine Lw.r rfl (R.ix (α := File) s47 e93 rfl rfl rfl) (Lw.wa hc91 rfl (Lw.fa rfl (Lw.wa hc91 rfl (Lw.r rfl (R.ld rfl rfl (File.at0 (s47.at_ e93)).str) (Lw.wa hc91 rfl ?_)))))
        obtain ⟨z94, e95, hm⟩ := ob hm
        refine Lw.t rfl (T.call rfl (p63 (K := [0])   e95)) ?_
        rintro _ _ ⟨W96, rfl, l96, rfl⟩
        refine Lw.p hc91 (vB z94) rfl (Lw.nil (⟨?_, ⟨z94, W96, rfl, l96, rfl, hm⟩⟩))
        iterate 16 (refine .u ?_)
        exact Agree.refl _
    ·replace hm := bf hm hc48
     refine Cw.exit ?_
     rw [hK44] at hm
     refine Cw.seq ?_
     obtain ⟨K101, hK101, hm⟩ := jn_e hm
     refine Cw.join 72 80 [80] (fun l w => ∃ (y99 : Bool) (W100 : CW), W100.w = w ∧ Le [] W43 W100 ∧ l = [vB y99] ∧ K101 y99 = some r) ?_ ?_
     ·rintro _ _ σ ⟨y99, W100, rfl, l100, rfl, hm⟩
      rw [hK101] at hm
      have a102 := a46.n l100
      refine Cw.cond (b := y99) rfl (fun hc104 => ?_) (fun hc104 => ?_)
      ·replace hm := bt hm hc104
       refine Cw.seq (Cw.region (Lw.m v0_ rfl ?_))
       obtain ⟨z106, e107, hm⟩ := ob hm
       refine Lw.t rfl (T.call rfl (p32 (K := [0]) (k0 := 6) (h0.ul a102) e107)) ?_
       rintro v0_108 _ ⟨W108, rfl, l108, ⟨_, rfl, f108_0⟩⟩
       have a109 := a102.n l108
       refine Lw.g v0_108 rfl (Lw.g (vB false) rfl (Lw.nil ?_))
       obtain ⟨W111, ew111, l111, o111⟩ := f108_0.toSh
       have a112 := a109.t l111 rfl
       cases hm
       rw [← ew111]
       exact Cw.ret (ret2 rfl rfl (Res.mk a112 ⟨v0_108, rfl, o111.s.sub rfl rfl⟩))
      ·replace hm := bf hm hc104
       refine Cw.skip (Cw.seq (Cw.region (Lw.m v40 rfl (Lw.g v40 rfl (Lw.g (vB true) rfl (Lw.nil ?_))))))
       cases hm
       exact Cw.ret (ret2 rfl rfl (Res.mk a102 ⟨v40, rfl, (o41.up l100 rfl).s.sub rfl rfl⟩))
     ·refine Cw.region (Lw.m v40 rfl ?_)
      have s114 : Rd (α := List Vm.File) W43 [3, 0] [v40] y39 := Ow.rdSh o41
      obtain ⟨z115, e116, hm⟩ := ob hm
      refine Lw.t rfl (T.call rfl (p52 (K := [0, 3])  (s114.sub (M := [0, 3]) rfl) e116)) ?_
      rintro _ _ ⟨W117, rfl, l117, rfl⟩
      refine Lw.r rfl (R.not rfl) (Lw.m (vB (!z115)) rfl (bsplit (!z115) (fun hc120 => ?_) (fun hc120 => ?_)))
      ·replace hm := bt hm hc120
       refine Lw.ps hc120 rfl (Lw.ps hc120 rfl (Lw.ps hc120 rfl (Lw.ps hc120 rfl (Lw.p hc120 (vB true) rfl (Lw.nil (⟨?_, ⟨true, W117, rfl, l117, rfl, hm⟩⟩))))))
       iterate 9 (refine .u ?_)
       exact Agree.refl _
      ·replace hm := bf hm hc120
       refine Lw.wa hc120 rfl (Lw.m v40 rfl (Lw.wa hc120 rfl ?_))
       have s121 : Rd (α := List Vm.File) W117 [3, 0] [v40] y39 := Ow.rdSh (o41.up l117 rfl)
       refine Lw.ln y39 s121 rfl (Lw.wa hc120 rfl (Lw.m (vI (x0.length : Int)) rfl (Lw.wa hc120 rfl (Lw.ne rfl (Lw.p hc120 (vB (((y39.length : Int) : Int) != ((x0.length : Int) : Int))) rfl (Lw.nil (⟨?_, ⟨(((y39.length : Int) : Int) != ((x0.length : Int) : Int)), W117, rfl, l117, rfl, hm⟩⟩)))))))
       iterate 9 (refine .u ?_)
       exact Agree.refl _
  ·refine Cw.region ?_
   have s122 : Rd (α := List Vm.File) W13 [3, 0, 2] [v0_13] z11 := Ow.rdSh f13_0
   refine Lw.m v0_13 rfl (Lw.ln z11 s122 rfl (Lw.m v0_ rfl (Lw.ln x0 (h0.ul a14) rfl (Lw.eq rfl (Lw.m (vB (((z11.length : Int) : Int) == ((x0.length : Int) : Int))) rfl (bsplit (((z11.length : Int) : Int) == ((x0.length : Int) : Int)) (fun hc124 => ?_) (fun hc124 => ?_)))))))
   ·replace hm := bt hm hc124
    refine Lw.ps hc124 rfl (Lw.ps hc124 rfl (Lw.ps hc124 rfl (Lw.p hc124 (vB true) rfl (Lw.nil (⟨?_, ⟨true, W13, rfl, Le.refl _ _, rfl, hm⟩⟩)))))
    iterate 10 (refine .u ?_)
    exact Agree.refl _
   ·replace hm := bf hm hc124
    refine Lw.wa hc124 rfl (Lw.m (vS x2) rfl (Lw.wa hc124 rfl ?_))
    obtain ⟨z125, e126, hm⟩ := ob hm
    refine Lw.t rfl (T.call rfl (p61 (K := [0])   e126)) ?_
    rintro _ _ ⟨W127, rfl, l127, rfl⟩
    refine Lw.wa hc124 rfl (Lw.r rfl (R.not rfl) (Lw.p hc124 (vB (!z125)) rfl (Lw.nil (⟨?_, ⟨(!z125), W127, rfl, l127, rfl, hm⟩⟩))))
    iterate 10 (refine .u ?_)
    exact Agree.refl _

theorem p81 {W : CW} {K : List Nat} {x0 : List Vm.File} {v0_ : Value} {x1 : Str} {x2 : Str} {k0 : Nat} {r : (List Vm.File) × Bool} (h0 : Rd W K [v0_] x0) (hm : Vm.spec_TreeMove x0 x1 x2 = some r) : CallR Tryz.prog 81 [v0_, vS x1, vS x2].toArray W.w (Res W [] fun W' v => ∃ (u0 : Value), v = .tuple [u0, vB r.2].toArray ∧ Ow (α := List (Sh Vm.File)) W' k0 (0 :: K) [u0] r.1) :=
 (c81 (V := W.view K []) (h0.view _) hm).ad (fk k0) fun _ _ ⟨u0, e, f0⟩ => ⟨u0, e, f0.backS (fk_LL _) rfl⟩

theorem c82 {V : CW} {x0 : Vm.Repo} {v0_0_ : Value} {v0_1_ : Value} {x1 : Str} {x2 : Int} {r : Vm.Repo × Bool} (h0 : Rd V [0] [v0_0_, v0_1_] x0) (hm : Vm.spec_RepoBranch x0 x1 x2 = some r) : CallR Tryz.prog 82 [.agg [v0_0_, v0_1_].toArray, vS x1, vI x2].toArray V.w (Res V LL fun Wf v => ∃ (u0_0 : Value) (u0_1 : Value), v = .tuple [.agg [u0_0, u0_1].toArray, vB r.2].toArray ∧ Rd Wf [0] [u0_0] r.1.Commits ∧ Rd Wf [0] [u0_1] r.1.Heads) := by
 unfold Vm.spec_RepoBranch at hm
 obtain ⟨w0_0, w0_1, he0, h0_0, h0_1⟩ := Repo.split h0
 simp only [List.cons.injEq, and_true, true_and] at he0
 obtain ⟨rfl, rfl⟩ := he0
 obtain ⟨W0, hW0⟩ : ∃ W, W = V := ⟨V, rfl⟩
 subst hW0
 refine CallR.of Tryz.func82 rfl rfl rfl rfl (Cw.seq (Cw.region (Lw.t rfl (T.box 2 (v := .agg [v0_0_, v0_1_].toArray) (cs := [v0_0_, v0_1_]) rfl rfl) ?_)))
 rintro _ _ ⟨g1, W1, rfl, rfl, l1, b1⟩
 have a2 := l1.o
 refine Lw.t rfl (T.alloc 3 (cs := [.slice none 0 0, .slice none 0 0]) rfl) ?_
 rintro _ _ ⟨g3, W3, rfl, rfl, l3, b3⟩
 have a4 := a2.n l3
 refine Lw.g (vB false) rfl (Lw.nil (Cw.seq (Cw.seq (Cw.region (Lw.r rfl (R.lda (cs := [v0_0_, v0_1_]) (b1.up l3 rfl).cells rfl rfl) ?_)))))
 obtain ⟨z8, e9, hm⟩ := ob hm
 refine Lw.t rfl (T.call rfl (p30 (K := [0])  (Repo.rd (K := [0]) x0.Commits x0.Heads (h0_0.ul a4) (h0_1.ul a4)) e9)) ?_
 rintro _ _ ⟨W10, rfl, l10, rfl⟩
 have a11 := a4.n l10
 have b12 := (b1.up l3 rfl).up l10 rfl
 refine Lw.r rfl (R.not rfl) (Lw.nil (Cw.cond (b := (!z8)) rfl (fun hc14 => ?_) (fun hc14 => ?_)))
 ·replace hm := bt hm hc14
  refine Cw.seq (Cw.region (Lw.r rfl (R.bd (zs := [.slice none 0 0, .slice none 0 0]) (cs := [.slice none 0 0, .slice none 0 0]) [] rfl rfl rfl bp_nil) (Lw.u (T.sta (vs := [.slice none 0 0, .slice none 0 0]) (b3.up l10 rfl) rfl rfl (oc_cons rfl (oc_cons rfl oc_nil)) rfl rfl) ?_)))
  rintro _ _ ⟨W15, rfl, l15, b15⟩
  have a16 := a11.t l15 rfl
  refine Lw.g (vB false) rfl (Lw.nil ?_)
  cases hm
  exact Cw.ret (retA2 rfl b15 rfl (Res.mk a16 ⟨.slice none 0 0, .slice none 0 0, rfl, (rdN (K := [0])), (rdN (K := [0]))⟩))
 ·replace hm := bf hm hc14
  refine Cw.skip (Cw.seq (Cw.region (Lw.r rfl (R.lda (cs := [v0_0_, v0_1_]) b12.cells rfl rfl) ?_)))
  obtain ⟨z20, e21, hm⟩ := ob hm
  refine Lw.t rfl (T.call rfl (p58 (K := [0]) (k0 := 4) (k1 := 5) (Repo.rd (K := [0]) x0.Commits x0.Heads (h0_0.ul a11) (h0_1.ul a11)) e21)) ?_
  rintro _ _ ⟨W22, rfl, l22, ⟨v0_0_22, v0_1_22, rfl, f22_0, f22_1⟩⟩
  have a23 := a11.n l22
  refine Lw.m (vS x1) rfl (Lw.m (vI x2) rfl ?_)
  obtain ⟨z26, e27, hm⟩ := ob hm
  refine Lw.t rfl (T.call rfl (p97 (K := [4, 5])  (x0 := (Vm.Repo.mk z20.Commits z20.Heads)) (Repo.rd (K := [4, 5]) z20.Commits z20.Heads (f22_0.rd.sub (M := [4, 5]) rfl) (f22_1.rd.sub (M := [4, 5]) rfl)) e27)) ?_
  rintro _ _ ⟨W28, rfl, l28, ⟨v0_0_28, v0_1_28, rfl, f28_0, f28_1⟩⟩
  have s29 := f28_0.sub (M := [0, 4, 5]) rfl
  have s30 := f28_1.sub (M := [0, 4, 5]) rfl
  have a31 := a23.n l28
  refine Lw.t rfl (T.alloc 6 (cs := [.slice none 0 0, .slice none 0 0]) rfl) ?_
  rintro _ _ ⟨g36, W36, rfl, rfl, l36, b36⟩
  have a37 := a31.n l36
  refine Lw.u (T.sta (vs := [v0_0_28, v0_1_28]) b36 rfl rfl (oc_cons s29.oc (oc_cons s30.oc oc_nil)) rfl rfl) ?_
  rintro _ _ ⟨W42, rfl, l42, b42⟩
  have a43 := a37.t l42 rfl
  have b46 := (((b12.up l22 rfl).up l28 rfl).up l36 rfl).up l42 rfl
  refine Lw.nil (Cw.seq ?_)
  obtain ⟨K50, hK50, hm⟩ := jn_e hm
  refine Cw.join 18 26 [26] (fun l w => ∃ (y48 : Bool) (W49 : CW), W49.w = w ∧ Le [] W42 W49 ∧ l = [vB y48] ∧ K50 y48 = some r) ?_ ?_
  ·rintro _ _ σ ⟨y48, W49, rfl, l49, rfl, hm⟩
   rw [hK50] at hm
   have a51 := a43.n l49
   have b55 := (((((b3.up l10 rfl).up l22 rfl).up l28 rfl).up l36 rfl).up l42 rfl).up l49 rfl
   refine Cw.cond (b := y48) rfl (fun hc57 => ?_) (fun hc57 => ?_)
   ·replace hm := bt hm hc57
    refine Cw.seq (Cw.region (Lw.r rfl (R.lda (cs := [v0_0_, v0_1_]) (b46.up l49 rfl).cells rfl rfl) ?_))
    obtain ⟨z60, e61, hm⟩ := ob hm
    refine Lw.t rfl (T.call rfl (p58 (K := [0]) (k0 := 7) (k1 := 8) (Repo.rd (K := [0]) x0.Commits x0.Heads (h0_0.ul a51) (h0_1.ul a51)) e61)) ?_
    rintro _ _ ⟨W62, rfl, l62, ⟨v0_0_62, v0_1_62, rfl, f62_0, f62_1⟩⟩
    have a63 := a51.n l62
    refine Lw.u (T.sta (vs := [v0_0_62, v0_1_62]) (b55.up l62 rfl) rfl rfl (oc_cons f62_0.oc (oc_cons f62_1.oc oc_nil)) rfl rfl) ?_
    rintro _ _ ⟨W69, rfl, l69, b69⟩
    have a70 := a63.t l69 rfl
    refine Lw.g (vB false) rfl (Lw.nil ?_)
    obtain ⟨W77, ew77, l77, dj77⟩ := dyeE _ 7
    have s78 : Rd (α := List Vm.Commit) W77 [0] [v0_0_62] z60.Commits := by rw [dj77]; exact ((f62_0.up l69 rfl).rd.dye 7).sub (M := [0]) rfl
    have a79 := a70.t l77 rfl
    obtain ⟨W86, ew86, l86, dj86⟩ := dyeE _ 8
    have s87 : Rd (α := List Vm.Head) W86 [0] [v0_1_62] z60.Heads := by rw [dj86]; exact (((f62_1.up l69 rfl).up l77 rfl).rd.dye 8).sub (M := [0]) rfl
    have a88 := l86.s rfl
    cases hm
    rw [← ew86.trans (ew77)]
    exact Cw.ret (retA2 rfl ((b69.up l77 rfl).up l86 rfl) rfl (Res.mk (a79.trans a88) ⟨v0_0_62, v0_1_62, rfl, (s78.ul a88), s87⟩))
   ·replace hm := bf hm hc57
    refine Cw.skip (Cw.seq (Cw.region (Lw.r rfl (R.lda (cs := [v0_0_28, v0_1_28]) (b42.up l49 rfl).cells rfl rfl) (Lw.u (T.sta (vs := [v0_0_28, v0_1_28]) b55 rfl rfl (oc_cons s29.oc (oc_cons s30.oc oc_nil)) rfl rfl) ?_))))
    rintro _ _ ⟨W95, rfl, l95, b95⟩
    have a96 := a51.t l95 rfl
    refine Lw.g (vB true) rfl (Lw.nil ?_)
    have s101 := s29.up ((l36.sub (M := [3, 6]) rfl).trans ((l42.sub (M := [3, 6]) rfl).trans ((l49.sub (M := [3, 6]) rfl).trans (l95.sub (M := [3, 6]) rfl)))) rfl
    have s102 := s30.up ((l36.sub (M := [3, 6]) rfl).trans ((l42.sub (M := [3, 6]) rfl).trans ((l49.sub (M := [3, 6]) rfl).trans (l95.sub (M := [3, 6]) rfl)))) rfl
    obtain ⟨W103, ew103, l103, dj103⟩ := dyeE _ 4
    have s104 : Rd W103 [0, 5] [v0_0_28] z26.Commits := by rw [dj103]; exact (s101.dye 4).sub (M := [0, 5]) rfl
    have s105 : Rd W103 [0, 5] [v0_1_28] z26.Heads := by rw [dj103]; exact (s102.dye 4).sub (M := [0, 5]) rfl
    have s106 : Rd (α := List Vm.Commit) W103 [0] [v0_0_22] z20.Commits := by rw [dj103]; exact ((((((f22_0.up l28 rfl).up l36 rfl).up l42 rfl).up l49 rfl).up l95 rfl).rd.dye 4).sub (M := [0]) rfl
    have a107 := a96.t l103 rfl
    obtain ⟨W112, ew112, l112, dj112⟩ := dyeE _ 5
    have s113 : Rd W112 [0] [v0_0_28] z26.Commits := by rw [dj112]; exact (s104.dye 5).sub (M := [0]) rfl
    have s114 : Rd W112 [0] [v0_1_28] z26.Heads := by rw [dj112]; exact (s105.dye 5).sub (M := [0]) rfl
    have s115 : Rd (α := List Vm.Head) W112 [0] [v0_1_22] z20.Heads := by rw [dj112]; exact (((((((f22_1.up l28 rfl).up l36 rfl).up l42 rfl).up l49 rfl).up l95 rfl).up l103 rfl).rd.dye 5).sub (M := [0]) rfl
    have a116 := a107.t l112 rfl
    cases hm
    rw [← ew112.trans (ew103)]
    exact Cw.ret (retA2 rfl ((b95.up l103 rfl).up l112 rfl) rfl (Res.mk a116 ⟨v0_0_28, v0_1_28, rfl, s113, s114⟩))
  ·refine Cw.region (Lw.r rfl (R.lda (cs := [v0_0_, v0_1_]) b46.cells rfl rfl) (Lw.m (vS x1) rfl ?_))
   obtain ⟨z122, e123, hm⟩ := ob hm
   refine Lw.t rfl (T.call rfl (p77 (K := [0])  (Repo.rd (K := [0]) x0.Commits x0.Heads (h0_0.ul a43) (h0_1.ul a43)) e123)) ?_
   rintro _ _ ⟨W124, rfl, l124, rfl⟩
   refine Lw.ge rfl (Lw.m (vB (decide ((0 : Int) ≤ (z122 : Int)))) rfl (bsplit (decide ((0 : Int) ≤ (z122 : Int))) (fun hc131 => ?_) (fun hc131 => ?_)))
   ·replace hm := bt hm hc131
    refine Lw.ps hc131 rfl (Lw.ps hc131 rfl (Lw.ps hc131 rfl (Lw.p hc131 (vB true) rfl (Lw.nil (⟨?_, ⟨true, W124, rfl, l124, rfl, hm⟩⟩)))))
    iterate 9 (refine .u ?_)
    exact Agree.refl _
   ·replace hm := bf hm hc131
    refine Lw.wa hc131 rfl (Lw.r rfl (R.lda (cs := [v0_0_28, v0_1_28]) (b42.up l124 rfl).cells rfl rfl) (Lw.wa hc131 rfl ?_))
    have s132 := s29.up ((l36.sub (M := [6]) rfl).trans ((l42.sub (M := [6]) rfl).trans (l124.sub (M := [6]) rfl))) rfl
    have s133 := s30.up ((l36.sub (M := [6]) rfl).trans ((l42.sub (M := [6]) rfl).trans (l124.sub (M := [6]) rfl))) rfl
    obtain ⟨z134, e135, hm⟩ := ob hm
    refine Lw.t rfl (T.call rfl (p30 (K := [0, 4, 5])  (Repo.rd (K := [0, 4, 5]) z26.Commits z26.Heads s132 s133) e135)) ?_
    rintro _ _ ⟨W136, rfl, l136, rfl⟩
    refine Lw.wa hc131 rfl (Lw.r rfl (R.not rfl) (Lw.p hc131 (vB (!z134)) rfl (Lw.nil (⟨?_, ⟨(!z134), W136, rfl, (l124.trans l136), rfl, hm⟩⟩))))
    iterate 9 (refine .u ?_)
    exact Agree.refl _

theorem p82 {W : CW} {K : List Nat} {x0 : Vm.Repo} {v0_0_ : Value} {v0_1_ : Value} {x1 : Str} {x2 : Int} {r : Vm.Repo × Bool} (h0 : Rd W K [v0_0_, v0_1_] x0) (hm : Vm.spec_RepoBranch x0 x1 x2 = some r) : CallR Tryz.prog 82 [.agg [v0_0_, v0_1_].toArray, vS x1, vI x2].toArray W.w (Res W [] fun W' v => ∃ (u0_0 : Value) (u0_1 : Value), v = .tuple [.agg [u0_0, u0_1].toArray, vB r.2].toArray ∧ Rd W' (0 :: K) [u0_0] r.1.Commits ∧ Rd W' (0 :: K) [u0_1] r.1.Heads) :=
 (c82 (V := W.view K []) (h0.view _) hm).ad (fk 0) fun _ _ ⟨u0_0, u0_1, e, f0, f1⟩ => ⟨u0_0, u0_1, e, f0.back rfl, f1.back rfl⟩

theorem c40 {V : CW} {x0 : Vm.Repo} {v0_0_ : Value} {v0_1_ : Value} {x1 : Int} {r : (List Int)} (h0 : Rd V [0] [v0_0_, v0_1_] x0) (hm : Vm.spec_l8All x0 x1 = some r) : CallR Tryz.prog 40 [.agg [v0_0_, v0_1_].toArray, vI x1].toArray V.w (Res V LL fun Wf v => ∃ (u0 : Value), v = u0 ∧ OwS Wf LL [] [u0] r) := by
 unfold Vm.spec_l8All at hm
 obtain ⟨w0_0, w0_1, he0, h0_0, h0_1⟩ := Repo.split h0
 simp only [List.cons.injEq, and_true, true_and] at he0
 obtain ⟨rfl, rfl⟩ := he0
 obtain ⟨W0, hW0⟩ : ∃ W, W = V := ⟨V, rfl⟩
 subst hW0
 refine CallR.of Tryz.func40 rfl rfl rfl rfl (Cw.seq (Cw.region (Lw.t rfl (T.box 2 (v := .agg [v0_0_, v0_1_].toArray) (cs := [v0_0_, v0_1_]) rfl rfl) ?_)))
 rintro _ _ ⟨g1, W1, rfl, rfl, l1, b1⟩
 have a2 := l1.o
 refine Lw.g (.slice none 0 0) rfl (Lw.nil (Cw.seq (Cw.region (Lw.fa rfl (Lw.r rfl (R.ld (v := v0_0_) rfl rfl (b1.cell rfl)) (Lw.ln x0.Commits (h0_0.ul a2) rfl ?_))))))
 obtain ⟨q4, e5, hm⟩ := ob hm
 refine Lw.t rfl (T.mk (α := Bool) 3 [] (n := (x0.Commits.length : Int)) rfl rfl e5) ?_
 rintro v6 _ ⟨W6, rfl, l6, o6⟩
 have a7 := a2.n l6
 refine Lw.g v6 rfl (Lw.nil (Cw.seq (Cw.region (Lw.m v6 rfl (Lw.m (vI x1) rfl ?_)))))
 obtain ⟨u9, e10, hm⟩ := ob hm
 refine Lw.r rfl (R.ix (α := Bool) o6.rd e10 rfl rfl rfl) ?_
 obtain ⟨q12, e13, hm⟩ := ob hm
 refine Lw.u (T.stS (K' := []) o6 (rdB _) e13 rfl rfl rfl) ?_
 rintro _ _ ⟨W11, rfl, l11, o11⟩
 have a14 := a7.t l11 rfl
 refine Lw.nil (Cw.seq (Cw.seq (Cw.region (Lw.m (vI x1) rfl (Lw.g (vI x1) rfl (Lw.nil (Cw.block ?_)))))))
 obtain ⟨K21, hK21, hm⟩ := jn_e hm
 refine Cw.loop 18 49 [6, 7] (fun m l w => ∃ (y16 : Int) (y18 : List Bool) (j17 : Value) (W20 : CW), W20.w = w ∧ Le [3] W11 W20 ∧ l = [vI y16, j17] ∧ Ow W20 3 [] [v6] y18 ∧ Vm.spec_l8All_l1 x0 K21 m y16 y18 = some r) ((x1 + 1 - 0).toNat + 1) ⟨x1, q12, undef, W11, rfl, Le.refl _ _, rfl, o11, hm⟩ ?_
 rintro m22 _ _ σ ⟨y16, y18, j17, W20, rfl, l20, rfl, o19, hm⟩
 obtain _ | m22 := m22
 ·cases hm
 unfold Vm.spec_l8All_l1 at hm
 have a23 := a14.t l20 rfl
 refine Cw.seq (Cw.seq (Cw.region (Lw.m (vI y16) rfl (Lw.ge rfl (Lw.nil (Cw.cond (b := decide ((0 : Int) ≤ (y16 : Int))) rfl (fun hc25 => ?_) (fun hc25 => ?_)))))))
 ·replace hm := bt hm hc25
  refine Cw.skip (Cw.seq (Cw.block (Cw.seq (Cw.region (Lw.g (vI 0) rfl (Lw.nil (Cw.block ?_)))))))
  obtain ⟨K30, hK30, hm⟩ := jn_e hm
  refine Cw.loop 22 49 [7] (fun m l w => ∃ (y26 : Int) (y27 : List Bool) (W29 : CW), W29.w = w ∧ Le [3] W20 W29 ∧ l = [vI y26] ∧ Ow W29 3 [] [v6] y27 ∧ Vm.spec_l8All_l2 x0 y16 K30 m y26 y27 = some r) (4) ⟨0, y18, W20, rfl, Le.refl _ _, rfl, o19, hm⟩ ?_
  rintro m31 _ _ σ ⟨y26, y27, W29, rfl, l29, rfl, o28, hm⟩
  obtain _ | m31 := m31
  ·cases hm
  unfold Vm.spec_l8All_l2 at hm
  have a32 := a23.t l29 rfl
  have b33 := (((b1.up l6 rfl).up l11 rfl).up l20 rfl).up l29 rfl
  refine Cw.seq ?_
  obtain ⟨K36, hK36, hm⟩ := jn_e hm
  refine Cw.join 22 36 [36] (fun l w => ∃ (y34 : Bool) (W35 : CW), W35.w = w ∧ Le [] W29 W35 ∧ l = [vB y34] ∧ K36 y34 = some r) ?_ ?_
  ·rintro _ _ σ ⟨y34, W35, rfl, l35, rfl, hm⟩
   rw [hK36] at hm
   have a37 := a32.n l35
   have o38 := o28.up l35 rfl
   refine Cw.cond (b := y34) rfl (fun hc40 => ?_) (fun hc40 => ?_)
   ·replace hm := bt hm hc40
    refine Cw.skip (Cw.seq (Cw.block (Cw.region (Lw.m v6 rfl (Lw.fa rfl (Lw.r rfl (R.ld (v := v0_0_) rfl rfl ((b33.up l35 rfl).cell rfl)) (Lw.m (vI y16) rfl ?_)))))))
    obtain ⟨u41, e42, hm⟩ := ob hm
    refine Lw.r rfl (R.ix (α := Commit) (h0_0.ul a37) e42 rfl rfl rfl) (Lw.fa rfl ?_)
    obtain ⟨v44, c45, r46⟩ := (Commit.at0 ((h0_0.ul a37).at_ e42)).cell rfl
    refine Lw.r rfl (R.ld rfl rfl c45) (Lw.m (vI y26) rfl ?_)
    obtain ⟨u47, e48, hm⟩ := ob hm
    refine Lw.r rfl (R.ix (α := Int) r46 e48 rfl rfl rfl) (Lw.r rfl (R.ld rfl rfl (r46.at_ e48).int) ?_)
    obtain ⟨u49, e50, hm⟩ := ob hm
    refine Lw.r rfl (R.ix (α := Bool) o38.rd e50 rfl rfl rfl) ?_
    obtain ⟨q52, e53, hm⟩ := ob hm
    refine Lw.u (T.stS (K' := []) o38 (rdB _) e53 rfl rfl rfl) ?_
    rintro _ _ ⟨W51, rfl, l51, o51⟩
    refine Lw.nil (Cw.region (Lw.m (vI y26) rfl (Lw.add rfl (Lw.g (vI (w64 (y26 + 1))) rfl (Lw.nil (⟨?_, m31, Nat.lt_succ_self m31, ⟨w64 (y26 + 1), q52, W51, rfl, (l29.trans ((l35.sub rfl).trans l51)), rfl, o51, hm⟩⟩))))))
    iterate 15 (refine .u ?_)
    refine Agree.ov0 rfl ?_
    iterate 1 (refine .u ?_)
    exact Agree.base
   ·replace hm := bf hm hc40
    refine Cw.exit ?_
    rw [hK30] at hm
    refine Cw.region (Lw.m (vI y16) rfl (Lw.sub rfl (Lw.g (vI (w64 (y16 - 1))) rfl (Lw.nil (⟨?_, m22, Nat.lt_succ_self m22, ⟨w64 (y16 - 1), y27, vI y26, W35, rfl, (l20.trans (l29.trans (l35.sub rfl))), rfl, o38, hm⟩⟩)))))
    iterate 4 (refine .u ?_)
    refine Agree.ov0 rfl ?_
    iterate 1 (refine .u ?_)
    refine Agree.ov0 rfl ?_
    iterate 5 (refine .u ?_)
    exact Agree.base
  ·refine Cw.region (Lw.m (vI y26) rfl (Lw.fa rfl (Lw.r rfl (R.ld (v := v0_0_) rfl rfl (b33.cell rfl)) (Lw.m (vI y16) rfl ?_))))
   obtain ⟨u56, e57, hm⟩ := ob hm
   refine Lw.r rfl (R.ix (α := Commit) (h0_0.ul a32) e57 rfl rfl rfl) (Lw.fa rfl ?_)
   obtain ⟨v59, c60, r61⟩ := (Commit.at0 ((h0_0.ul a32).at_ e57)).cell rfl
   refine Lw.r rfl (R.ld rfl rfl c60) (Lw.ln u56.Parents r61 rfl (Lw.lt rfl (Lw.m (vB (decide ((y26 : Int) < ((u56.Parents.length : Int) : Int)))) rfl (bsplit (decide ((y26 : Int) < ((u56.Parents.length : Int) : Int))) (fun hc62 => ?_) (fun hc62 => ?_)))))
   ·replace hm := bt hm hc62
    refine Lw.wa hc62 rfl (Lw.m v6 rfl (Lw.wa hc62 rfl (Lw.m (vI y16) rfl (Lw.wa hc62 rfl ?_))))
    obtain ⟨u63, e64, hm⟩ := ob hm
    refine Lw.r rfl (R.ix (α := Bool) o28.rd e64 rfl rfl rfl) (Lw.wa hc62 rfl (Lw.r rfl (R.ld rfl rfl (o28.rd.at_ e64).bool) (Lw.p hc62 (vB u63) rfl (Lw.nil (⟨?_, ⟨u63, W29, rfl, Le.refl _ _, rfl, hm⟩⟩)))))
    iterate 15 (refine .u ?_)
    exact Agree.refl _
   ·replace hm := bf hm hc62
    refine Lw.ps hc62 rfl (Lw.ps hc62 rfl (Lw.ps hc62 rfl (Lw.ps hc62 rfl (Lw.p hc62 (vB false) rfl (Lw.nil (⟨?_, ⟨false, W29, rfl, Le.refl _ _, rfl, hm⟩⟩))))))
    iterate 15 (refine .u ?_)
    exact Agree.refl _
 ·replace hm := bf hm hc25
  refine Cw.exit ?_
  rw [hK21] at hm
  refine Cw.seq (Cw.region (Lw.t rfl (T.lit0 (α := Int) 4 []) ?_))
  rintro v65 _ ⟨W65, rfl, l65, o65⟩
  have a66 := a23.n l65
  refine Lw.g v65 rfl (Lw.nil (Cw.seq (Cw.seq (Cw.region (Lw.g (vI 0) rfl (Lw.nil (Cw.block ?_)))))))
  obtain ⟨K74, hK74, hm⟩ := jn_e hm
  refine Cw.loop 51 64 [8, 9] (fun m l w => ∃ (y69 : List Int) (y72 : Int) (v70 : Value) (W73 : CW), W73.w = w ∧ Le [4] W65 W73 ∧ l = [v70, vI y72] ∧ Ow W73 4 [] [v70] y69 ∧ Vm.spec_l8All_l3 y18 K74 m y69 y72 = some r) (((y18.length : Int) - 0).toNat + 1) ⟨([] : List Int), 0, v65, W65, rfl, Le.refl _ _, rfl, o65, hm⟩ ?_
  rintro m75 _ _ σ ⟨y69, y72, v70, W73, rfl, l73, rfl, o71, hm⟩
  obtain _ | m75 := m75
  ·cases hm
  unfold Vm.spec_l8All_l3 at hm
  have a76 := a66.t l73 rfl
  have o77 := (o19.up l65 rfl).up l73 rfl
  refine Cw.seq (Cw.seq (Cw.region (Lw.m (vI y72) rfl (Lw.m v6 rfl (Lw.ln y18 o77.rd rfl (Lw.lt rfl (Lw.nil (Cw.cond (b := decide ((y72 : Int) < ((y18.length : Int) : Int))) rfl (fun hc79 => ?_) (fun hc79 => ?_)))))))))
  ·replace hm := bt hm hc79
   refine Cw.skip ?_
   obtain ⟨K84, hK84, hm⟩ := jn_e hm
   refine Cw.join 57 64 [8] (fun l w => ∃ (y80 : List Int) (v81 : Value) (W83 : CW), W83.w = w ∧ Le [4] W73 W83 ∧ l = [v81] ∧ Ow W83 4 [] [v81] y80 ∧ K84 y80 = some r) ?_ ?_
   ·rintro _ _ σ ⟨y80, v81, W83, rfl, l83, rfl, o82, hm⟩
    rw [hK84] at hm
    refine Cw.region (Lw.m (vI y72) rfl (Lw.add rfl (Lw.g (vI (w64 (y72 + 1))) rfl (Lw.nil (⟨?_, m75, Nat.lt_succ_self m75, ⟨y80, w64 (y72 + 1), v81, W83, rfl, (l73.trans l83), rfl, o82, hm⟩⟩)))))
    iterate 4 (refine .u ?_)
    refine Agree.ov0 rfl ?_
    iterate 6 (refine .u ?_)
    exact Agree.base
   ·refine Cw.block (Cw.seq (Cw.region (Lw.m v6 rfl (Lw.m (vI y72) rfl ?_))))
    obtain ⟨u88, e89, hm⟩ := ob hm
    refine Lw.r rfl (R.ix (α := Bool) o77.rd e89 rfl rfl rfl) (Lw.r rfl (R.ld rfl rfl (o77.rd.at_ e89).bool) (Lw.nil (Cw.cond (b := u88) rfl (fun hc90 => ?_) (fun hc90 => ?_))))
    ·replace hm := bt hm hc90
     refine Cw.region (Lw.m v70 rfl (Lw.m (vI y72) rfl (Lw.t rfl (T.bs 5 [vI y72] (cs := [vI y72]) rfl rfl (bsv rfl)) ?_)))
     rintro _ _ ⟨g91, W91, rfl, rfl, l91, b91⟩
     obtain ⟨q96, e97, hm⟩ := ob hm
     refine Lw.t rfl (T.app1S (α := Int) (K' := []) (o71.up l91 rfl) b91 (rdI _) rfl rfl e97) ?_
     rintro v98 _ ⟨W98, rfl, l98, o98⟩
     refine Lw.g v98 rfl (Lw.nil (⟨?_, ⟨q96, v98, W98, rfl, ((l91.sub rfl).trans l98), rfl, o98, hm⟩⟩))
     iterate 9 (refine .u ?_)
     exact Agree.refl _
    ·replace hm := bf hm hc90
     refine Cw.skip (⟨?_, ⟨y69, v70, W73, rfl, Le.refl _ _, rfl, o71, hm⟩⟩)
     iterate 4 (refine .u ?_)
     exact Agree.refl _
  ·replace hm := bf hm hc79
   refine Cw.exit ?_
   rw [hK74] at hm
   refine Cw.seq (Cw.region (Lw.m v70 rfl (Lw.g v70 rfl (Lw.nil ?_))))
   cases hm
   exact Cw.ret (ret1 rfl (Res.mk a76 ⟨v70, rfl, o71.s.sub rfl rfl⟩))

theorem p40 {W : CW} {K : List Nat} {x0 : Vm.Repo} {v0_0_ : Value} {v0_1_ : Value} {x1 : Int} {k0 : Nat} {r : (List Int)} (h0 : Rd W K [v0_0_, v0_1_] x0) (hm : Vm.spec_l8All x0 x1 = some r) : CallR Tryz.prog 40 [.agg [v0_0_, v0_1_].toArray, vI x1].toArray W.w (Res W [] fun W' v => ∃ (u0 : Value), v = u0 ∧ Ow W' k0 [] [u0] r) :=
 (c40 (V := W.view K []) (h0.view _) hm).ad (fk k0) fun _ _ ⟨u0, e, f0⟩ => ⟨u0, e, f0.back (fk_LL _)⟩

theorem c39 {V : CW} {x0 : List Int} {v0_ : Value} {x1 : Int} {r : Bool} (h0 : Rd V [0] [v0_] x0) (hm : Vm.spec_l8Has x0 x1 = some r) : CallR Tryz.prog 39 [v0_, vI x1].toArray V.w (Res V LL fun Wf v => v = vB r) := by
 unfold Vm.spec_l8Has at hm
 obtain ⟨W0, hW0⟩ : ∃ W, W = V := ⟨V, rfl⟩
 subst hW0
 refine CallR.of Tryz.func39 rfl rfl rfl rfl (Cw.seq (Cw.region (Lw.g (vB false) rfl (Lw.nil (Cw.seq (Cw.seq (Cw.region (Lw.g (vI 0) rfl (Lw.nil (Cw.block ?_))))))))))
 obtain ⟨K4, hK4, hm⟩ := jn_e hm
 refine Cw.loop 6 17 [4, 5] (fun m l w => ∃ (y1 : Bool) (y2 : Int) (W3 : CW), W3.w = w ∧ Le [] W0 W3 ∧ l = [vB y1, vI y2] ∧ Vm.spec_l8Has_l1 x0 x1 K4 m y1 y2 = some r) (((x0.length : Int) - 0).toNat + 1) ⟨false, 0, W0, rfl, Le.refl _ _, rfl, hm⟩ ?_
 rintro m5 _ _ σ ⟨y1, y2, W3, rfl, l3, rfl, hm⟩
 obtain _ | m5 := m5
 ·cases hm
 unfold Vm.spec_l8Has_l1 at hm
 have a6 := l3.o
 refine Cw.seq (Cw.seq (Cw.region ?_))
 have s7 := h0.ul a6
 refine Lw.m (vI y2) rfl (Lw.m v0_ rfl (Lw.ln x0 s7 rfl (Lw.lt rfl (Lw.nil (Cw.cond (b := decide ((y2 : Int) < ((x0.length : Int) : Int))) rfl (fun hc8 => ?_) (fun hc8 => ?_))))))
 ·replace hm := bt hm hc8
  refine Cw.skip (Cw.seq (Cw.block (Cw.seq (Cw.region (Lw.m v0_ rfl (Lw.m (vI y2) rfl ?_))))))
  obtain ⟨u9, e10, hm⟩ := ob hm
  refine Lw.r rfl (R.ix (α := Int) s7 e10 rfl rfl rfl) (Lw.r rfl (R.ld rfl rfl (s7.at_ e10).int) (Lw.m (vI x1) rfl (Lw.eq rfl (Lw.nil (Cw.cond (b := ((u9 : Int) == (x1 : Int))) rfl (fun hc11 => ?_) (fun hc11 => ?_))))))
  ·replace hm := bt hm hc11
   refine Cw.seq (Cw.region (Lw.g (vB true) rfl (Lw.nil ?_)))
   cases hm
   exact Cw.ret (ret1 rfl (Res.mk a6 rfl))
  ·replace hm := bf hm hc11
   refine Cw.skip (Cw.region (Lw.m (vI y2) rfl (Lw.add rfl (Lw.g (vI (w64 (y2 + 1))) rfl (Lw.nil (⟨?_, m5, Nat.lt_succ_self m5, ⟨y1, w64 (y2 + 1), W3, rfl, l3, rfl, hm⟩⟩))))))
   iterate 15 (refine .u ?_)
   exact Agree.base
 ·replace hm := bf hm hc8
  refine Cw.exit ?_
  rw [hK4] at hm
  refine Cw.seq (Cw.region (Lw.g (vB false) rfl (Lw.nil ?_)))
  cases hm
  exact Cw.ret (ret1 rfl (Res.mk a6 rfl))

theorem p39 {W : CW} {K : List Nat} {x0 : List Int} {v0_ : Value} {x1 : Int} {r : Bool} (h0 : Rd W K [v0_] x0) (hm : Vm.spec_l8Has x0 x1 = some r) : CallR Tryz.prog 39 [v0_, vI x1].toArray W.w (Res W [] fun W' v => v = vB r) :=
 (c39 (V := W.view K []) (h0.view _) hm).ad (fk 0) fun _ _ e => e

theorem c113 {V : CW} {x0 : Vm.Repo} {v0_0_ : Value} {v0_1_ : Value} {x1 : Int} {x2 : Int} {r : (List Int)} (h0 : Rd V [0] [v0_0_, v0_1_] x0) (hm : Vm.spec_l8Bases x0 x1 x2 = some r) : CallR Tryz.prog 113 [.agg [v0_0_, v0_1_].toArray, vI x1, vI x2].toArray V.w (Res V LL fun Wf v => ∃ (u0 : Value), v = u0 ∧ OwS Wf LL [] [u0] r) := by
 unfold Vm.spec_l8Bases at hm
 obtain ⟨w0_0, w0_1, he0, h0_0, h0_1⟩ := Repo.split h0
 simp only [List.cons.injEq, and_true, true_and] at he0
 obtain ⟨rfl, rfl⟩ := he0
 obtain ⟨W0, hW0⟩ : ∃ W, W = V := ⟨V, rfl⟩
 subst hW0
 refine CallR.of Tryz.func113 rfl rfl rfl rfl (Cw.seq (Cw.region (Lw.t rfl (T.box 2 (v := .agg [v0_0_, v0_1_].toArray) (cs := [v0_0_, v0_1_]) rfl rfl) ?_)))
 rintro _ _ ⟨g1, W1, rfl, rfl, l1, b1⟩
 have a2 := l1.o
 refine Lw.g (.slice none 0 0) rfl (Lw.nil (Cw.seq (Cw.region (Lw.r rfl (R.lda (cs := [v0_0_, v0_1_]) b1.cells rfl rfl) (Lw.m (vI x1) rfl ?_)))))
 obtain ⟨z5, e6, hm⟩ := ob hm
 refine Lw.t rfl (T.call rfl (p40 (K := [0]) (k0 := 3) (Repo.rd (K := [0]) x0.Commits x0.Heads (h0_0.ul a2) (h0_1.ul a2)) e6)) ?_
 rintro v0_7 _ ⟨W7, rfl, l7, ⟨_, rfl, f7_0⟩⟩
 have a8 := a2.n l7
 refine Lw.g v0_7 rfl (Lw.nil (Cw.seq (Cw.region (Lw.r rfl (R.lda (cs := [v0_0_, v0_1_]) (b1.up l7 rfl).cells rfl rfl) (Lw.m (vI x2) rfl ?_)))))
 obtain ⟨z12, e13, hm⟩ := ob hm
 refine Lw.t rfl (T.call rfl (p40 (K := [0]) (k0 := 4) (Repo.rd (K := [0]) x0.Commits x0.Heads (h0_0.ul a8) (h0_1.ul a8)) e13)) ?_
 rintro v0_14 _ ⟨W14, rfl, l14, ⟨_, rfl, f14_0⟩⟩
 have a15 := a8.n l14
 refine Lw.g v0_14 rfl (Lw.nil (Cw.seq (Cw.region (Lw.t rfl (T.lit0 (α := Int) 5 []) ?_))))
 rintro v18 _ ⟨W18, rfl, l18, o18⟩
 have a19 := a15.n l18
 refine Lw.g v18 rfl (Lw.nil (Cw.seq (Cw.seq (Cw.region (Lw.g (vI 0) rfl (Lw.nil (Cw.block ?_)))))))
 obtain ⟨K28, hK28, hm⟩ := jn_e hm
 refine Cw.loop 22 40 [9, 10] (fun m l w => ∃ (y23 : List Int) (y26 : Int) (v24 : Value) (W27 : CW), W27.w = w ∧ Le [5] W18 W27 ∧ l = [v24, vI y26] ∧ Ow W27 5 [] [v24] y23 ∧ Vm.spec_l8Bases_l1 z5 z12 K28 m y23 y26 = some r) (((z5.length : Int) - 0).toNat + 1) ⟨([] : List Int), 0, v18, W18, rfl, Le.refl _ _, rfl, o18, hm⟩ ?_
 rintro m29 _ _ σ ⟨y23, y26, v24, W27, rfl, l27, rfl, o25, hm⟩
 obtain _ | m29 := m29
 ·cases hm
 unfold Vm.spec_l8Bases_l1 at hm
 have a30 := a19.t l27 rfl
 have o31 := ((f7_0.up l14 rfl).up l18 rfl).up l27 rfl
 refine Cw.seq (Cw.seq (Cw.region (Lw.m (vI y26) rfl (Lw.m v0_7 rfl (Lw.ln z5 o31.rd rfl (Lw.lt rfl (Lw.nil (Cw.cond (b := decide ((y26 : Int) < ((z5.length : Int) : Int))) rfl (fun hc34 => ?_) (fun hc34 => ?_)))))))))
 ·replace hm := bt hm hc34
  refine Cw.skip ?_
  obtain ⟨K39, hK39, hm⟩ := jn_e hm
  refine Cw.join 28 40 [9] (fun l w => ∃ (y35 : List Int) (v36 : Value) (W38 : CW), W38.w = w ∧ Le [5] W27 W38 ∧ l = [v36] ∧ Ow W38 5 [] [v36] y35 ∧ K39 y35 = some r) ?_ ?_
  ·rintro _ _ σ ⟨y35, v36, W38, rfl, l38, rfl, o37, hm⟩
   rw [hK39] at hm
   refine Cw.region (Lw.m (vI y26) rfl (Lw.add rfl (Lw.g (vI (w64 (y26 + 1))) rfl (Lw.nil (⟨?_, m29, Nat.lt_succ_self m29, ⟨y35, w64 (y26 + 1), v36, W38, rfl, (l27.trans l38), rfl, o37, hm⟩⟩)))))
   iterate 4 (refine .u ?_)
   refine Agree.ov0 rfl ?_
   iterate 6 (refine .u ?_)
   exact Agree.base
  ·refine Cw.block (Cw.seq (Cw.region (Lw.m v0_14 rfl (Lw.m v0_7 rfl (Lw.m (vI y26) rfl ?_)))))
   obtain ⟨u44, e45, hm⟩ := ob hm
   refine Lw.r rfl (R.ix (α := Int) o31.rd e45 rfl rfl rfl) (Lw.r rfl (R.ld rfl rfl (o31.rd.at_ e45).int) ?_)
   obtain ⟨z46, e47, hm⟩ := ob hm
   refine Lw.t rfl (T.call rfl (p39 (K := [4])  ((f14_0.up l18 rfl).up l27 rfl).rd e47)) ?_
   rintro _ _ ⟨W48, rfl, l48, rfl⟩
   refine Lw.nil (Cw.cond (b := z46) rfl (fun hc54 => ?_) (fun hc54 => ?_))
   ·replace hm := bt hm hc54
    refine Cw.region (Lw.m v24 rfl (Lw.m v0_7 rfl (Lw.m (vI y26) rfl ?_)))
    obtain ⟨u55, e56, hm⟩ := ob hm
    refine Lw.r rfl (R.ix (α := Int) (o31.up l48 rfl).rd e56 rfl rfl rfl) (Lw.r rfl (R.ld rfl rfl ((o31.up l48 rfl).rd.at_ e56).int) (Lw.t rfl (T.bs 6 [vI u55] (cs := [vI u55]) rfl rfl (bsv rfl)) ?_))
    rintro _ _ ⟨g57, W57, rfl, rfl, l57, b57⟩
    obtain ⟨q63, e64, hm⟩ := ob hm
    refine Lw.t rfl (T.app1S (α := Int) (K' := []) ((o25.up l48 rfl).up l57 rfl) b57 (rdI _) rfl rfl e64) ?_
    rintro v65 _ ⟨W65, rfl, l65, o65⟩
    refine Lw.g v65 rfl (Lw.nil (⟨?_, ⟨q63, v65, W65, rfl, ((l48.sub rfl).trans ((l57.sub rfl).trans l65)), rfl, o65, hm⟩⟩))
    iterate 14 (refine .u ?_)
    exact Agree.refl _
   ·replace hm := bf hm hc54
    refine Cw.skip (⟨?_, ⟨y23, v24, W48, rfl, (l48.sub rfl), rfl, (o25.up l48 rfl), hm⟩⟩)
    iterate 6 (refine .u ?_)
    exact Agree.refl _
 ·replace hm := bf hm hc34
  refine Cw.exit ?_
  rw [hK28] at hm
  refine Cw.seq (Cw.region (Lw.t rfl (T.lit0 (α := Int) 7 []) ?_))
  rintro v71 _ ⟨W71, rfl, l71, o71⟩
  have a72 := a30.n l71
  refine Lw.g v71 rfl (Lw.nil (Cw.seq (Cw.seq (Cw.region (Lw.g (vI 0) rfl (Lw.nil (Cw.block ?_)))))))
  obtain ⟨K84, hK84, hm⟩ := jn_e hm
  refine Cw.loop 42 81 [11, 12, 13, 14] (fun m l w => ∃ (y77 : List Int) (y80 : Int) (v78 j81 j82 : Value) (W83 : CW), W83.w = w ∧ Le [7] W71 W83 ∧ l = [v78, vI y80, j81, j82] ∧ Ow W83 7 [] [v78] y77 ∧ Vm.spec_l8Bases_l2 x0 y23 K84 m y77 y80 = some r) (((y23.length : Int) - 0).toNat + 1) ⟨([] : List Int), 0, v71, undef, undef, W71, rfl, Le.refl _ _, rfl, o71, hm⟩ ?_
  rintro m85 _ _ σ ⟨y77, y80, v78, j81, j82, W83, rfl, l83, rfl, o79, hm⟩
  obtain _ | m85 := m85
  ·cases hm
  unfold Vm.spec_l8Bases_l2 at hm
  have a86 := a72.t l83 rfl
  have o89 := (o25.up l71 rfl).up l83 rfl
  refine Cw.seq (Cw.seq (Cw.region (Lw.m (vI y80) rfl (Lw.m v24 rfl (Lw.ln y23 o89.rd rfl (Lw.lt rfl (Lw.nil (Cw.cond (b := decide ((y80 : Int) < ((y23.length : Int) : Int))) rfl (fun hc91 => ?_) (fun hc91 => ?_)))))))))
  ·replace hm := bt hm hc91
   refine Cw.skip ?_
   obtain ⟨K98, hK98, hm⟩ := jn_e hm
   refine Cw.join 48 81 [11, 13, 14] (fun l w => ∃ (y92 : List Int) (v93 j95 j96 : Value) (W97 : CW), W97.w = w ∧ Le [7] W83 W97 ∧ l = [v93, j95, j96] ∧ Ow W97 7 [] [v93] y92 ∧ K98 y92 = some r) ?_ ?_
   ·rintro _ _ σ ⟨y92, v93, j95, j96, W97, rfl, l97, rfl, o94, hm⟩
    rw [hK98] at hm
    refine Cw.region (Lw.m (vI y80) rfl (Lw.add rfl (Lw.g (vI (w64 (y80 + 1))) rfl (Lw.nil (⟨?_, m85, Nat.lt_succ_self m85, ⟨y92, w64 (y80 + 1), v93, j95, j96, W97, rfl, (l83.trans l97), rfl, o94, hm⟩⟩)))))
    iterate 6 (refine .u ?_)
    refine Agree.ov0 rfl ?_
    iterate 8 (refine .u ?_)
    exact Agree.base
   ·refine Cw.block (Cw.seq (Cw.region (Lw.g (vB true) rfl (Lw.nil (Cw.seq (Cw.seq (Cw.region (Lw.g (vI 0) rfl (Lw.nil (Cw.block ?_))))))))))
    obtain ⟨K107, hK107, hm⟩ := jn_e hm
    refine Cw.loop 48 73 [13, 14] (fun m l w => ∃ (y104 : Bool) (y105 : Int) (W106 : CW), W106.w = w ∧ Le [] W83 W106 ∧ l = [vB y104, vI y105] ∧ Vm.spec_l8Bases_l3 x0 y23 y80 K107 m y104 y105 = some r) (((y23.length : Int) - 0).toNat + 1) ⟨true, 0, W83, rfl, Le.refl _ _, rfl, hm⟩ ?_
    rintro m108 _ _ σ ⟨y104, y105, W106, rfl, l106, rfl, hm⟩
    obtain _ | m108 := m108
    ·cases hm
    unfold Vm.spec_l8Bases_l3 at hm
    have a109 := a86.n l106
    have o112 := o89.up l106 rfl
    refine Cw.seq (Cw.seq (Cw.region (Lw.m (vI y105) rfl (Lw.m v24 rfl (Lw.ln y23 o112.rd rfl (Lw.lt rfl (Lw.nil (Cw.cond (b := decide ((y105 : Int) < ((y23.length : Int) : Int))) rfl (fun hc115 => ?_) (fun hc115 => ?_)))))))))
    ·replace hm := bt hm hc115
     refine Cw.skip (Cw.seq (Cw.block (Cw.draw [] [(0, 0), (1, 0), (2, 0), (3, 0), (4, 0), (5, 0), (6, 1), (7, 0), (8, 0), (9, 0), (10, 1), (12, 0), (13, 0), (14, 0), (15, 1), (11, 2), (16, 2), (17, 0), (18, 0), (19, 0), (20, 0)] mixed (by kernel_rfl) fun W116 l116 => ?_)))
     have a117 := a109.n l116
     have o120 := o112.up l116 rfl
     refine Mw.p rfl rfl (fun _ => R.mv (v := vB y104) rfl) (Mw.p rfl rfl (fun _ => R.mv (v := vB y104) rfl) (bsplit y104 (fun hc123 => ?_) (fun hc123 => ?_)))
     ·replace hm := bt hm hc123
      refine Mw.gp hc123 rfl rfl rfl rfl rfl (fun _ => R.mv (v := vI y105) rfl) (Mw.gp hc123 rfl rfl rfl rfl rfl (fun _ => R.mv (v := vI y80) rfl) (Mw.gp hc123 rfl rfl rfl rfl rfl (fun _ => R.eq rfl rfl) (Mw.gp hc123 rfl rfl rfl rfl rfl (fun _ => R.mv (v := vB ((y105 : Int) == (y80 : Int))) rfl) (bsplit ((y105 : Int) == (y80 : Int)) (fun hc124 => ?_) (fun hc124 => ?_)))))
      ·replace hm := bt hm hc124
       refine Mw.ps hc124 rfl rfl (Mw.ps hc124 rfl rfl (Mw.ps hc124 rfl rfl (Mw.ps hc124 rfl rfl (Mw.ps hc124 rfl rfl (Mw.ps hc124 rfl rfl (Mw.ps hc124 rfl rfl (Mw.ps hc124 rfl rfl (Mw.ps hc124 rfl rfl (Mw.ps hc124 rfl rfl (Mw.ps hc124 rfl rfl (Mw.ps hc124 rfl rfl (Mw.gp hc123 rfl rfl rfl rfl rfl (fun _ => R.pk hc124 rfl (v := vB true) rfl) (Mw.p rfl rfl (fun _ => R.pk hc123 rfl (v := vB true) rfl) (Mw.p rfl rfl (fun _ => R.as (v := vB true) rfl) (Mw.nil (Cw.region (Lw.m (vI y105) rfl (Lw.add rfl (Lw.g (vI (w64 (y105 + 1))) rfl (Lw.nil (⟨?_, m108, Nat.lt_succ_self m108, ⟨true, w64 (y105 + 1), W116, rfl, (l106.trans l116), rfl, hm⟩⟩)))))))))))))))))))))
       iterate 30 (refine .u ?_)
       exact Agree.base
      ·replace hm := bf hm hc124
       refine Mw.gq hc124 rfl rfl rfl rfl rfl (fun _ c => R.lda (cs := [v0_0_, v0_1_]) (((((((((b1.up l7 rfl).up l14 rfl).up l18 rfl).up l27 rfl).up l71 rfl).up l83 rfl).up l106 rfl).up l116 rfl).clcs rfl c) rfl rfl) (Mw.gp hc124 rfl rfl rfl rfl rfl (fun _ => R.mv (v := v24) rfl) (Mw.gp hc124 rfl rfl rfl rfl rfl (fun _ => R.mv (v := vI y105) rfl) ?_))
       obtain ⟨u125, e126, hm⟩ := ob hm
       refine Mw.gp hc124 rfl rfl rfl rfl rfl (fun _ => R.ix (α := Int) o120.rd e126 rfl rfl rfl) (Mw.gq hc124 rfl rfl rfl rfl rfl (fun _ c => R.ld rfl rfl (cl_cell (o120.rd.at_ e126).1 rfl (o120.rd.at_ e126).int c)) (Mw.gp hc124 rfl rfl rfl rfl rfl (fun _ => R.mv (v := v24) rfl) (Mw.gp hc124 rfl rfl rfl rfl rfl (fun _ => R.mv (v := vI y80) rfl) ?_)))
       obtain ⟨u127, e128, hm⟩ := ob hm
       refine Mw.gp hc124 rfl rfl rfl rfl rfl (fun _ => R.ix (α := Int) o120.rd e128 rfl rfl rfl) (Mw.gq hc124 rfl rfl rfl rfl rfl (fun _ c => R.ld rfl rfl (cl_cell (o120.rd.at_ e128).1 rfl (o120.rd.at_ e128).int c)) ?_)
       obtain ⟨z131, e132, hm⟩ := ob hm
       refine Mw.gt hc124 rfl rfl rfl rfl rfl (T.call rfl (p40 (K := [0]) (k0 := 8) (Repo.rd (K := [0]) x0.Commits x0.Heads (h0_0.ul a117) (h0_1.ul a117)) e132)) ?_
       rintro v0_133 _ ⟨W133, rfl, l133, ⟨_, rfl, f133_0⟩⟩
       refine ⟨⟨_, rfl, (l133.sub (M := []) rfl)⟩, ?_⟩
       obtain ⟨z140, e141, hm⟩ := ob hm
       refine Mw.gt hc124 rfl rfl rfl rfl rfl (T.call rfl (p39 (K := [8])  f133_0.rd e141)) ?_
       rintro _ _ ⟨W142, rfl, l142, rfl⟩
       refine ⟨⟨_, rfl, ((l133.sub (M := []) rfl).trans (l142.sub (M := []) rfl))⟩, ?_⟩
       refine Mw.gp hc124 rfl rfl rfl rfl rfl (fun _ => R.not rfl) (Mw.gp hc123 rfl rfl rfl rfl rfl (fun _ => R.pk hc124 rfl (v := vB (!z140)) rfl) (Mw.p rfl rfl (fun _ => R.pk hc123 rfl (v := vB (!z140)) rfl) (Mw.p rfl rfl (fun _ => R.as (v := vB (!z140)) rfl) (Mw.nil (Cw.region (Lw.m (vI y105) rfl (Lw.add rfl (Lw.g (vI (w64 (y105 + 1))) rfl (Lw.nil (⟨?_, m108, Nat.lt_succ_self m108, ⟨(!z140), w64 (y105 + 1), W142, rfl, (l106.trans (l116.trans (l133.trans l142))), rfl, hm⟩⟩))))))))))
       iterate 30 (refine .u ?_)
       exact Agree.base
     ·replace hm := bf hm hc123
      refine Mw.ps hc123 rfl rfl (Mw.ps hc123 rfl rfl (Mw.ps hc123 rfl rfl (Mw.ps hc123 rfl rfl (Mw.pu rfl rfl (Mw.pu rfl rfl (Mw.pu rfl rfl (Mw.pu rfl rfl (Mw.pu rfl rfl (Mw.pu rfl rfl (Mw.pu rfl rfl (Mw.pu rfl rfl (Mw.pu rfl rfl (Mw.pu rfl rfl (Mw.pu rfl rfl (Mw.pu rfl rfl (Mw.ps hc123 rfl rfl (Mw.p rfl rfl (fun _ => R.pk hc123 rfl (v := vB false) rfl) (Mw.p rfl rfl (fun _ => R.as (v := vB false) rfl) (Mw.nil (Cw.region (Lw.m (vI y105) rfl (Lw.add rfl (Lw.g (vI (w64 (y105 + 1))) rfl (Lw.nil (⟨?_, m108, Nat.lt_succ_self m108, ⟨false, w64 (y105 + 1), W116, rfl, (l106.trans l116), rfl, hm⟩⟩)))))))))))))))))))))))))
      iterate 30 (refine .u ?_)
      exact Agree.base
    ·replace hm := bf hm hc115
     refine Cw.exit ?_
     rw [hK107] at hm
     refine Cw.seq (Cw.region (Lw.m (vB y104) rfl (Lw.nil (Cw.cond (b := y104) rfl (fun hc150 => ?_) (fun hc150 => ?_)))))
     ·replace hm := bt hm hc150
      refine Cw.region (Lw.m v78 rfl (Lw.m v24 rfl (Lw.m (vI y80) rfl ?_)))
      obtain ⟨u151, e152, hm⟩ := ob hm
      refine Lw.r rfl (R.ix (α := Int) o112.rd e152 rfl rfl rfl) (Lw.r rfl (R.ld rfl rfl (o112.rd.at_ e152).int) (Lw.t rfl (T.bs 9 [vI u151] (cs := [vI u151]) rfl rfl (bsv rfl)) ?_))
      rintro _ _ ⟨g153, W153, rfl, rfl, l153, b153⟩
      obtain ⟨q160, e161, hm⟩ := ob hm
      refine Lw.t rfl (T.app1S (α := Int) (K' := []) ((o79.up l106 rfl).up l153 rfl) b153 (rdI _) rfl rfl e161) ?_
      rintro v162 _ ⟨W162, rfl, l162, o162⟩
      refine Lw.g v162 rfl (Lw.nil (⟨?_, ⟨q160, v162, vB y104, vI y105, W162, rfl, ((l106.sub rfl).trans ((l153.sub rfl).trans l162)), rfl, o162, hm⟩⟩))
      iterate 15 (refine .u ?_)
      refine Agree.ov0 rfl ?_
      iterate 2 (refine .u ?_)
      exact Agree.refl _
     ·replace hm := bf hm hc150
      refine Cw.skip (⟨?_, ⟨y77, v78, vB y104, vI y105, W106, rfl, (l106.sub rfl), rfl, (o79.up l106 rfl), hm⟩⟩)
      iterate 7 (refine .u ?_)
      refine Agree.ov0 rfl ?_
      iterate 2 (refine .u ?_)
      exact Agree.refl _
  ·replace hm := bf hm hc91
   refine Cw.exit ?_
   rw [hK84] at hm
   refine Cw.seq (Cw.region (Lw.m v78 rfl (Lw.g v78 rfl (Lw.nil ?_))))
   cases hm
   exact Cw.ret (ret1 rfl (Res.mk a86 ⟨v78, rfl, o79.s.sub rfl rfl⟩))

theorem p113 {W : CW} {K : List Nat} {x0 : Vm.Repo} {v0_0_ : Value} {v0_1_ : Value} {x1 : Int} {x2 : Int} {k0 : Nat} {r : (List Int)} (h0 : Rd W K [v0_0_, v0_1_] x0) (hm : Vm.spec_l8Bases x0 x1 x2 = some r) : CallR Tryz.prog 113 [.agg [v0_0_, v0_1_].toArray, vI x1, vI x2].toArray W.w (Res W [] fun W' v => ∃ (u0 : Value), v = u0 ∧ Ow W' k0 [] [u0] r) :=
 (c113 (V := W.view K []) (h0.view _) hm).ad (fk k0) fun _ _ ⟨u0, e, f0⟩ => ⟨u0, e, f0.back (fk_LL _)⟩

theorem c109 {V : CW} {x0 : Vm.Repo} {v0_0_ : Value} {v0_1_ : Value} {x1 : Int} {x2 : Int} {r : (List Vm.File)} (h0 : Rd V [0] [v0_0_, v0_1_] x0) (hm : Vm.spec_l9Base x0 x1 x2 = some r) : CallR Tryz.prog 109 [.agg [v0_0_, v0_1_].toArray, vI x1, vI x2].toArray V.w (Res V LL fun Wf v => ∃ (u0 : Value), v = u0 ∧ Rd Wf [0] [u0] r) := by
 unfold Vm.spec_l9Base at hm
 obtain ⟨w0_0, w0_1, he0, h0_0, h0_1⟩ := Repo.split h0
 simp only [List.cons.injEq, and_true, true_and] at he0
 obtain ⟨rfl, rfl⟩ := he0
 obtain ⟨W0, hW0⟩ : ∃ W, W = V := ⟨V, rfl⟩
 subst hW0
 refine CallR.of Tryz.func109 rfl rfl rfl rfl (Cw.seq (Cw.region (Lw.t rfl (T.box 2 (v := .agg [v0_0_, v0_1_].toArray) (cs := [v0_0_, v0_1_]) rfl rfl) ?_)))
 rintro _ _ ⟨g1, W1, rfl, rfl, l1, b1⟩
 have a2 := l1.o
 refine Lw.g (.slice none 0 0) rfl (Lw.nil (Cw.seq (Cw.region (Lw.r rfl (R.lda (cs := [v0_0_, v0_1_]) b1.cells rfl rfl) (Lw.m (vI x1) rfl (Lw.m (vI x2) rfl ?_))))))
 obtain ⟨z5, e6, hm⟩ := ob hm
 refine Lw.t rfl (T.call rfl (p113 (K := [0]) (k0 := 3) (Repo.rd (K := [0]) x0.Commits x0.Heads (h0_0.ul a2) (h0_1.ul a2)) e6)) ?_
 rintro v0_7 _ ⟨W7, rfl, l7, ⟨_, rfl, f7_0⟩⟩
 have a8 := a2.n l7
 refine Lw.g v0_7 rfl (Lw.nil (Cw.seq (Cw.seq (Cw.region (Lw.m v0_7 rfl (Lw.ln z5 f7_0.rd rfl (Lw.eq rfl (Lw.nil (Cw.cond (b := (((z5.length : Int) : Int) == (0 : Int))) rfl (fun hc10 => ?_) (fun hc10 => ?_))))))))))
 ·replace hm := bt hm hc10
  refine Cw.seq (Cw.region (Lw.g (.slice none 0 0) rfl (Lw.nil ?_)))
  cases hm
  exact Cw.ret (ret1 rfl (Res.mk a8 ⟨.slice none 0 0, rfl, (rdN (K := [0]))⟩))
 ·replace hm := bf hm hc10
  refine Cw.skip (Cw.seq (Cw.draw [] [(0, 0), (1, 1), (2, 0), (3, 0), (4, 0), (5, 0), (6, 0), (7, 1), (8, 0), (9, 0), (10, 1), (11, 0)] mixed (by kernel_rfl) fun W11 l11 => ?_))
  have a12 := a8.n l11
  have o13 := f7_0.up l11 rfl
  refine Mw.p rfl rfl (fun _ => R.fa rfl) (Mw.q rfl rfl (fun _ c => R.ld (v := v0_0_) rfl rfl (((b1.up l7 rfl).up l11 rfl).clc rfl rfl c)) (Mw.p rfl rfl (fun _ => R.mv (v := v0_7) rfl) (Mw.p rfl rfl (fun _ => R.mv (v := v0_7) rfl) (Mw.p rfl rfl (fun _ => lenR (xs := z5) o13.rd rfl) (Mw.p rfl rfl (fun _ => R.sub rfl rfl) ?_)))))
  obtain ⟨u15, e16, hm⟩ := ob hm
  refine Mw.p rfl rfl (fun _ => R.ix (α := Int) o13.rd e16 rfl rfl rfl) (Mw.q rfl rfl (fun _ c => R.ld rfl rfl (cl_cell (o13.rd.at_ e16).1 rfl (o13.rd.at_ e16).int c)) ?_)
  obtain ⟨u17, e18, hm⟩ := ob hm
  have s19 := h0_0.ul a12
  refine Mw.p rfl rfl (fun _ => R.ix (α := Commit) s19 e18 rfl rfl rfl) (Mw.p rfl rfl (fun _ => R.fa rfl) ?_)
  obtain ⟨v20, c21, r22⟩ := (Commit.at2 (s19.at_ e18)).cell rfl
  refine Mw.q rfl rfl (fun _ c => R.ld rfl rfl (cl_cell (Commit.at2 (s19.at_ e18)).1 rfl c21 c)) (Mw.p rfl rfl (fun _ => R.as (v := v20) rfl) (Mw.nil ?_))
  cases hm
  exact Cw.ret (ret1 rfl (Res.mk a12 ⟨v20, rfl, r22⟩))

theorem p109 {W : CW} {K : List Nat} {x0 : Vm.Repo} {v0_0_ : Value} {v0_1_ : Value} {x1 : Int} {x2 : Int} {r : (List Vm.File)} (h0 : Rd W K [v0_0_, v0_1_] x0) (hm : Vm.spec_l9Base x0 x1 x2 = some r) : CallR Tryz.prog 109 [.agg [v0_0_, v0_1_].toArray, vI x1, vI x2].toArray W.w (Res W [] fun W' v => ∃ (u0 : Value), v = u0 ∧ Rd W' (0 :: K) [u0] r) :=
 (c109 (V := W.view K []) (h0.view _) hm).ad (fk 0) fun _ _ ⟨u0, e, f0⟩ => ⟨u0, e, f0.back rfl⟩

end Go.Sx
