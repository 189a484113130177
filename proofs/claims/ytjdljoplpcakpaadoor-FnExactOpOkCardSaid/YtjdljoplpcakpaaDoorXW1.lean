/- Walks: each function answers as its model, printed by a program of ours. Conditions: the arguments read as they are given. -/
import Derived.Test.YtjdljoplpcakpaaDoorXTs
import Derived.Test.YtjdljoplpcakpaaDoorXMd
import Derived.Test.YtjdljoplpcakpaaDoorXW0
import Derived.Test.YtjdljoplpcakpaaDoorXE
namespace Go.Sx
open Go Go.Proofs Go.Vm Rp
set_option linter.unusedVariables false
set_option linter.unusedSimpArgs false

theorem c27 {V : CW} {x0 : Str} {r : Bool}  (hm : Vm.impl_nameOk x0 = some r) : CallR Tryd.prog 27 [vS x0].toArray V.w (Res V LL fun Wf v => v = vB r) := by
 unfold Vm.impl_nameOk at hm
 obtain ⟨W0, hW0⟩ : ∃ W, W = V := ⟨V, rfl⟩
 subst hW0
 refine CallR.of Tryd.func27 rfl rfl rfl rfl (Cw.seq (Cw.region (Lw.g (vB false) rfl (Lw.nil (Cw.seq (Cw.seq (Cw.region (Lw.m (vS x0) rfl (Lw.r rfl (R.lenS rfl) ?_)))))))))
 obtain ⟨z1, e2, hm⟩ := ob hm
 refine Lw.t rfl (T.call rfl (p31 (K := [0])   e2)) ?_
 rintro _ _ ⟨W3, rfl, l3, rfl⟩
 have a4 := l3.o
 refine Lw.r rfl (R.not rfl) (Lw.nil (Cw.cond (b := (!z1)) rfl (fun hc5 => ?_) (fun hc5 => ?_)))
 ·replace hm := bt hm hc5
  refine Cw.seq (Cw.region (Lw.g (vB false) rfl (Lw.nil ?_)))
  cases hm
  exact Cw.ret (ret1 rfl (Res.mk a4 rfl))
 ·replace hm := bf hm hc5
  refine Cw.skip (Cw.seq (Cw.seq (Cw.region (Lw.g (vI 0) rfl (Lw.nil (Cw.block ?_))))))
  obtain ⟨K9, hK9, hm⟩ := jn_e hm
  refine Cw.loop 8 18 [2, 3] (fun m l w => ∃ (y6 : Bool) (y7 : Int) (W8 : CW), W8.w = w ∧ Le [] W3 W8 ∧ l = [vB y6, vI y7] ∧ Vm.impl_nameOk_l1 x0 K9 m y6 y7 = some r) (((x0.length : Int) - 0).toNat + 1) ⟨false, 0, W3, rfl, Le.refl _ _, rfl, hm⟩ ?_
  rintro m10 _ _ σ ⟨y6, y7, W8, rfl, l8, rfl, hm⟩
  obtain _ | m10 := m10
  ·cases hm
  unfold Vm.impl_nameOk_l1 at hm
  have a11 := a4.n l8
  refine Cw.seq (Cw.seq (Cw.region (Lw.m (vI y7) rfl (Lw.m (vS x0) rfl (Lw.r rfl (R.lenS rfl) (Lw.lt rfl (Lw.nil (Cw.cond (b := decide ((y7 : Int) < ((x0.length : Int) : Int))) rfl (fun hc12 => ?_) (fun hc12 => ?_)))))))))
  ·replace hm := bt hm hc12
   refine Cw.skip (Cw.seq (Cw.block (Cw.seq (Cw.region (Lw.m (vS x0) rfl (Lw.m (vI y7) rfl ?_))))))
   obtain ⟨u13, e14, hm⟩ := ob hm
   refine Lw.r rfl (R.chm e14 rfl rfl) ?_
   obtain ⟨z15, e16, hm⟩ := ob hm
   refine Lw.t rfl (T.call rfl (p41 (K := [0])   e16)) ?_
   rintro _ _ ⟨W17, rfl, l17, rfl⟩
   have a18 := a11.n l17
   refine Lw.r rfl (R.not rfl) (Lw.nil (Cw.cond (b := (!z15)) rfl (fun hc19 => ?_) (fun hc19 => ?_)))
   ·replace hm := bt hm hc19
    refine Cw.seq (Cw.region (Lw.g (vB false) rfl (Lw.nil ?_)))
    cases hm
    exact Cw.ret (ret1 rfl (Res.mk a18 rfl))
   ·replace hm := bf hm hc19
    refine Cw.skip (Cw.region (Lw.m (vI y7) rfl (Lw.add rfl (Lw.g (vI (w64 (y7 + 1))) rfl (Lw.nil (⟨?_, m10, Nat.lt_succ_self m10, ⟨y6, w64 (y7 + 1), W17, rfl, (l8.trans l17), rfl, hm⟩⟩))))))
    iterate 12 (refine Agree.up rfl ?_)
    iterate 2 (refine Agree.up rfl ?_)
    exact Agree.base
  ·replace hm := bf hm hc12
   refine Cw.exit ?_
   rw [hK9] at hm
   refine Cw.seq (Cw.region (Lw.g (vB true) rfl (Lw.nil ?_)))
   cases hm
   exact Cw.ret (ret1 rfl (Res.mk a11 rfl))

theorem p27 {W : CW} {K : List Nat} {x0 : Str} {r : Bool}  (hm : Vm.impl_nameOk x0 = some r) : CallR Tryd.prog 27 [vS x0].toArray W.w (Res W [] fun W' v => v = vB r) :=
 (c27 (V := W.view K [])  hm).ad (fk 0) fun _ _ e => e

theorem c21 {V : CW} {x0 : Str} {r : Bool} (h99 : Gl 0 V [0]) (hm : Vm.impl_PathOk x0 = some r) : CallR Tryd.prog 21 [vS x0].toArray V.w (Res V LL fun Wf v => v = vB r) := by
 unfold Vm.impl_PathOk at hm
 obtain ⟨W0, hW0⟩ : ∃ W, W = V := ⟨V, rfl⟩
 subst hW0
 refine CallR.of Tryd.func21 rfl rfl rfl rfl (Cw.seq (Cw.region (Lw.g (vB false) rfl (Lw.nil (Cw.seq (Cw.region (Lw.m (vS x0) rfl ?_)))))))
 obtain ⟨z1, e2, hm⟩ := ob hm
 refine Lw.t rfl (T.call rfl (p36 (K := [0]) (k0 := 2) h99 e2)) ?_
 rintro v0_3 _ ⟨W3, rfl, l3, ⟨_, rfl, f3_0⟩⟩
 have a4 := l3.o
 refine Lw.g v0_3 rfl (Lw.nil (Cw.seq (Cw.seq (Cw.region (Lw.m v0_3 rfl (Lw.ln z1 f3_0.rd rfl (Lw.gt rfl (Lw.nil (Cw.cond (b := decide ((3 : Int) < ((z1.length : Int) : Int))) rfl (fun hc5 => ?_) (fun hc5 => ?_))))))))))
 ·replace hm := bt hm hc5
  refine Cw.seq (Cw.region (Lw.g (vB false) rfl (Lw.nil ?_)))
  cases hm
  exact Cw.ret (ret1 rfl (Res.mk a4 rfl))
 ·replace hm := bf hm hc5
  refine Cw.skip (Cw.seq (Cw.seq (Cw.region (Lw.m v0_3 rfl (Lw.ln z1 f3_0.rd rfl (Lw.m (vI 0) rfl (Lw.nil (Cw.block ?_))))))))
  obtain ⟨K10, hK10, hm⟩ := jn_e hm
  refine Cw.loop 13 20 [2, 5, 13] (fun m l w => ∃ (y6 : Bool) (y8 : Int) (j7 : Value) (W9 : CW), W9.w = w ∧ Le [] W3 W9 ∧ l = [vB y6, j7, vI y8] ∧ Vm.impl_PathOk_l1 z1 K10 m y6 y8 = some r) (((z1.length : Int) - 0).toNat + 1) ⟨false, 0, undef, W3, rfl, Le.refl _ _, rfl, hm⟩ ?_
  rintro m11 _ _ σ ⟨y6, y8, j7, W9, rfl, l9, rfl, hm⟩
  obtain _ | m11 := m11
  ·cases hm
  unfold Vm.impl_PathOk_l1 at hm
  have a12 := a4.n l9
  refine Cw.seq (Cw.region (Lw.lt rfl (Lw.nil (Cw.seq (Cw.cond (b := decide ((y8 : Int) < ((z1.length : Int) : Int))) rfl (fun hc14 => ?_) (fun hc14 => ?_))))))
  ·replace hm := bt hm hc14
   refine Cw.skip (Cw.seq (Cw.block (Cw.seq (Cw.region ?_))))
   obtain ⟨u15, e16, hm⟩ := ob hm
   refine Lw.r rfl (R.ix (α := Str) (f3_0.up l9 rfl).rd e16 rfl rfl rfl) (Lw.r rfl (R.ld rfl rfl ((f3_0.up l9 rfl).rd.at_ e16).str) (Lw.g (vS u15) rfl (Lw.nil (Cw.seq (Cw.region (Lw.m (vS u15) rfl ?_))))))
   obtain ⟨z17, e18, hm⟩ := ob hm
   refine Lw.t rfl (T.call rfl (p27 (K := [0])   e18)) ?_
   rintro _ _ ⟨W19, rfl, l19, rfl⟩
   have a20 := a12.n l19
   refine Lw.r rfl (R.not rfl) (Lw.nil (Cw.cond (b := (!z17)) rfl (fun hc22 => ?_) (fun hc22 => ?_)))
   ·replace hm := bt hm hc22
    refine Cw.seq (Cw.region (Lw.g (vB false) rfl (Lw.nil ?_)))
    cases hm
    exact Cw.ret (ret1 rfl (Res.mk a20 rfl))
   ·replace hm := bf hm hc22
    refine Cw.skip (Cw.region (Lw.add rfl (Lw.m (vI (w64 (y8 + 1))) rfl (Lw.nil (⟨?_, m11, Nat.lt_succ_self m11, ⟨y6, w64 (y8 + 1), vS u15, W19, rfl, (l9.trans l19), rfl, hm⟩⟩)))))
    iterate 9 (refine Agree.up rfl ?_)
    iterate 3 (refine Agree.up rfl ?_)
    exact Agree.base
  ·replace hm := bf hm hc14
   refine Cw.exit ?_
   rw [hK10] at hm
   refine Cw.seq (Cw.region (Lw.g (vB true) rfl (Lw.nil ?_)))
   cases hm
   exact Cw.ret (ret1 rfl (Res.mk a12 rfl))

theorem p21 {W : CW} {K : List Nat} {x0 : Str} {r : Bool} (h99 : Gl 0 W K) (hm : Vm.impl_PathOk x0 = some r) : CallR Tryd.prog 21 [vS x0].toArray W.w (Res W [] fun W' v => v = vB r) :=
 (c21 (V := W.view K []) (h99.view _) hm).ad (fk 0) fun _ _ e => e

theorem c20 {V : CW} {x0 : List Vm.Owner} {v0_ : Value} {r : Bool} (h0 : Rd V [0] [v0_] x0) (h99 : Gl 0 V [0]) (hm : Vm.impl_OwnersOk x0 = some r) : CallR Tryd.prog 20 [v0_].toArray V.w (Res V LL fun Wf v => v = vB r) := by
 unfold Vm.impl_OwnersOk at hm
 obtain ⟨W0, hW0⟩ : ∃ W, W = V := ⟨V, rfl⟩
 subst hW0
 refine CallR.of Tryd.func20 rfl rfl rfl rfl (Cw.seq (Cw.region (Lw.g (vB false) rfl (Lw.nil (Cw.seq (Cw.seq (Cw.region (Lw.m v0_ rfl (Lw.ln x0 h0 rfl (Lw.gt rfl (Lw.nil (Cw.cond (b := decide ((5 : Int) < ((x0.length : Int) : Int))) rfl (fun hc1 => ?_) (fun hc1 => ?_)))))))))))))
 ·replace hm := bt hm hc1
  refine Cw.seq (Cw.region (Lw.g (vB false) rfl (Lw.nil ?_)))
  cases hm
  exact Cw.ret (ret1 rfl (Res.mk (Le.refl _ _) rfl))
 ·replace hm := bf hm hc1
  refine Cw.skip (Cw.seq (Cw.seq (Cw.region (Lw.m v0_ rfl (Lw.ln x0 h0 rfl (Lw.m (vI 0) rfl (Lw.nil (Cw.block ?_))))))))
  obtain ⟨K7, hK7, hm⟩ := jn_e hm
  refine Cw.loop 10 40 [2, 3, 4, 10] (fun m l w => ∃ (y2 : Bool) (y5 : Int) (j3 j4 : Value) (W6 : CW), W6.w = w ∧ Le [2] W0 W6 ∧ l = [vB y2, j3, j4, vI y5] ∧ Vm.impl_OwnersOk_l1 x0 K7 m y2 y5 = some r) (((x0.length : Int) - 0).toNat + 1) ⟨false, 0, undef, undef, W0, rfl, Le.refl _ _, rfl, hm⟩ ?_
  rintro m8 _ _ σ ⟨y2, y5, j3, j4, W6, rfl, l6, rfl, hm⟩
  obtain _ | m8 := m8
  ·cases hm
  unfold Vm.impl_OwnersOk_l1 at hm
  have a9 := l6.s rfl
  refine Cw.seq (Cw.region (Lw.lt rfl (Lw.nil (Cw.seq (Cw.cond (b := decide ((y5 : Int) < ((x0.length : Int) : Int))) rfl (fun hc10 => ?_) (fun hc10 => ?_))))))
  ·replace hm := bt hm hc10
   refine Cw.skip (Cw.seq (Cw.block (Cw.seq (Cw.region (Lw.m (vI y5) rfl ?_)))))
   obtain ⟨u11, e12, hm⟩ := ob hm
   refine Lw.r rfl (R.ix (α := Owner) (h0.ul a9) e12 rfl rfl rfl) ?_
   obtain ⟨x14, c15, _, r16⟩ := ((h0.ul a9).at_ e12).cells
   obtain rfl := Owner.split r16
   refine Lw.r rfl (R.lda c15 rfl rfl) (Lw.t rfl (T.alloc 2 (cs := [vS ([] : Str), vS ([] : Str)]) rfl) ?_)
   rintro _ _ ⟨g17, W17, rfl, rfl, l17, b17⟩
   have a18 := a9.n l17
   refine Lw.g (vI y5) rfl (Lw.u (T.sta (vs := [vS u11.Path, vS u11.Who]) b17 rfl rfl (oc_cons rfl (oc_cons rfl oc_nil)) rfl rfl) ?_)
   rintro _ _ ⟨W19, rfl, l19, b19⟩
   have a20 := a18.t l19 rfl
   refine Lw.nil ?_
   obtain ⟨K23, hK23, hm⟩ := jn_e hm
   refine Cw.join 15 39 [39] (fun l w => ∃ (y21 : Bool) (W22 : CW), W22.w = w ∧ Le [] W19 W22 ∧ l = [vB y21] ∧ K23 y21 = some r) ?_ ?_
   ·rintro _ _ σ ⟨y21, W22, rfl, l22, rfl, hm⟩
    rw [hK23] at hm
    have a24 := a20.n l22
    refine Cw.cond (b := y21) rfl (fun hc26 => ?_) (fun hc26 => ?_)
    ·replace hm := bt hm hc26
     refine Cw.seq (Cw.region (Lw.g (vB false) rfl (Lw.nil ?_)))
     cases hm
     exact Cw.ret (ret1 rfl (Res.mk a24 rfl))
    ·replace hm := bf hm hc26
     refine Cw.skip (Cw.region (Lw.add rfl (Lw.m (vI (w64 (y5 + 1))) rfl (Lw.nil (⟨?_, m8, Nat.lt_succ_self m8, ⟨y2, w64 (y5 + 1), vI y5, ptr (bx g17), W22, rfl, (l6.trans ((l17.sub rfl).trans (l19.trans (l22.sub rfl)))), rfl, hm⟩⟩)))))
     iterate 2 (refine Agree.up rfl ?_)
     iterate 1 (refine Agree.up rfl ?_)
     refine Agree.ov0 rfl ?_
     iterate 6 (refine Agree.up rfl ?_)
     iterate 4 (refine Agree.up rfl ?_)
     exact Agree.base
   ·refine Cw.draw [] [(0, 0), (1, 1), (2, 2), (3, 0), (4, 0), (5, 0), (6, 1), (7, 2), (8, 0), (9, 0), (10, 0), (11, 0), (12, 0), (13, 0), (14, 0), (15, 0), (16, 0), (17, 0), (18, 0), (19, 1), (20, 0), (21, 1), (22, 0), (23, 0), (24, 0)] mixed (by kernel_rfl) fun W27 l27 => ?_
    have a28 := a20.n l27
    have b29 := b19.up l27 rfl
    refine Mw.p rfl rfl (fun _ => R.fa rfl) (Mw.q rfl rfl (fun _ c => R.ld (v := vS u11.Path) rfl rfl (b29.clc rfl rfl c)) ?_)
    obtain ⟨z31, e32, hm⟩ := ob hm
    refine Mw.t rfl rfl (T.call rfl (p21 (K := [0])  (h99.ul a28) e32)) ?_
    rintro _ _ ⟨W33, rfl, l33, rfl⟩
    refine ⟨⟨_, rfl, (l33.sub (M := []) rfl)⟩, ?_⟩
    refine Mw.p rfl rfl (fun _ => R.not rfl) (Mw.p rfl rfl (fun _ => R.mv (v := vB (!z31)) rfl) (bsplit (!z31) (fun hc36 => ?_) (fun hc36 => ?_)))
    ·replace hm := bt hm hc36
     refine Mw.pass' hc36 rfl rfl rfl rfl rfl rfl (Mw.pass' hc36 rfl rfl rfl rfl rfl rfl (Mw.pass' hc36 rfl rfl rfl rfl rfl rfl (Mw.pass' hc36 rfl rfl rfl rfl rfl rfl (Mw.p rfl rfl (fun _ => R.pk hc36 rfl (v := vB true) rfl) (Mw.p rfl rfl (fun _ => R.mv (v := vB true) rfl) (Mw.pass' rfl rfl rfl rfl rfl rfl rfl (Mw.pass' rfl rfl rfl rfl rfl rfl rfl (Mw.pass' rfl rfl rfl rfl rfl rfl rfl (Mw.passU rfl rfl rfl rfl rfl (Mw.passU rfl rfl rfl rfl rfl (Mw.passU rfl rfl rfl rfl rfl (Mw.passU rfl rfl rfl rfl rfl (Mw.passU rfl rfl rfl rfl rfl (Mw.passU rfl rfl rfl rfl rfl (Mw.passU rfl rfl rfl rfl rfl (Mw.passU rfl rfl rfl rfl rfl (Mw.passU rfl rfl rfl rfl rfl (Mw.pass' rfl rfl rfl rfl rfl rfl rfl (Mw.p rfl rfl (fun _ => R.pk rfl rfl (v := vB true) rfl) (Mw.nil (⟨?_, ⟨true, W33, rfl, (l27.trans l33), rfl, hm⟩⟩)))))))))))))))))))))
     iterate 25 (refine Agree.up rfl ?_)
     exact Agree.refl _
    ·replace hm := bf hm hc36
     refine Mw.gp hc36 rfl rfl rfl rfl rfl (fun _ => R.fa rfl) (Mw.gq hc36 rfl rfl rfl rfl rfl (fun _ c => R.ld (v := vS u11.Who) rfl rfl (b29.clc rfl rfl c)) ?_)
     obtain ⟨z37, e38, hm⟩ := ob hm
     refine Mw.gt hc36 rfl rfl rfl rfl rfl (T.call rfl (p27 (K := [0])   e38)) ?_
     rintro _ _ ⟨W39, rfl, l39, rfl⟩
     refine ⟨⟨_, rfl, ((l33.sub (M := []) rfl).trans (l39.sub (M := []) rfl))⟩, ?_⟩
     refine Mw.gp hc36 rfl rfl rfl rfl rfl (fun _ => R.not rfl) (Mw.p rfl rfl (fun _ => R.pk hc36 rfl (v := vB (!z37)) rfl) (Mw.p rfl rfl (fun _ => R.mv (v := vB (!z37)) rfl) (bsplit (!z37) (fun hc42 => ?_) (fun hc42 => ?_))))
     ·replace hm := bt hm hc42
      refine Mw.pass' hc42 rfl rfl rfl rfl rfl rfl (Mw.pass' hc42 rfl rfl rfl rfl rfl rfl (Mw.pass' hc42 rfl rfl rfl rfl rfl rfl (Mw.passU rfl rfl rfl rfl rfl (Mw.passU rfl rfl rfl rfl rfl (Mw.passU rfl rfl rfl rfl rfl (Mw.passU rfl rfl rfl rfl rfl (Mw.passU rfl rfl rfl rfl rfl (Mw.passU rfl rfl rfl rfl rfl (Mw.passU rfl rfl rfl rfl rfl (Mw.passU rfl rfl rfl rfl rfl (Mw.passU rfl rfl rfl rfl rfl (Mw.pass' hc42 rfl rfl rfl rfl rfl rfl (Mw.p rfl rfl (fun _ => R.pk hc42 rfl (v := vB true) rfl) (Mw.nil (⟨?_, ⟨true, W39, rfl, (l27.trans (l33.trans l39)), rfl, hm⟩⟩)))))))))))))))
      iterate 25 (refine Agree.up rfl ?_)
      exact Agree.refl _
     ·replace hm := bf hm hc42
      refine Mw.gp hc42 rfl rfl rfl rfl rfl (fun _ => R.mv (v := vI y5) rfl) (Mw.gp hc42 rfl rfl rfl rfl rfl (fun _ => R.gt rfl rfl) (Mw.gp hc42 rfl rfl rfl rfl rfl (fun _ => R.mv (v := vB (decide ((0 : Int) < (y5 : Int)))) rfl) (bsplit (decide ((0 : Int) < (y5 : Int))) (fun hc43 => ?_) (fun hc43 => ?_))))
      ·replace hm := bt hm hc43
       refine Mw.gp hc43 rfl rfl rfl rfl rfl (fun _ => R.mv (v := v0_) rfl) (Mw.gp hc43 rfl rfl rfl rfl rfl (fun _ => R.mv (v := vI y5) rfl) (Mw.gp hc43 rfl rfl rfl rfl rfl (fun _ => R.sub rfl rfl) ?_))
       obtain ⟨u44, e45, hm⟩ := ob hm
       refine Mw.gp hc43 rfl rfl rfl rfl rfl (fun _ => R.ix (α := Owner) (h0.ul a28) e45 rfl rfl rfl) (Mw.gp hc43 rfl rfl rfl rfl rfl (fun _ => R.fa rfl) (Mw.gq hc43 rfl rfl rfl rfl rfl (fun _ c => R.ld rfl rfl (cl_cell (Owner.at0 ((h0.ul a28).at_ e45)).1 rfl (Owner.at0 ((h0.ul a28).at_ e45)).str c)) (Mw.gp hc43 rfl rfl rfl rfl rfl (fun _ => R.fa rfl) (Mw.gq hc43 rfl rfl rfl rfl rfl (fun _ c => R.ld (v := vS u11.Path) rfl rfl (b29.clc rfl rfl c)) (Mw.gp hc43 rfl rfl rfl rfl rfl (fun _ => R.sge rfl rfl) (Mw.gp hc42 rfl rfl rfl rfl rfl (fun _ => R.pk hc43 rfl (v := vB (!Op.bytesLess u44.Path u11.Path)) rfl) (Mw.p rfl rfl (fun _ => R.pk hc42 rfl (v := vB (!Op.bytesLess u44.Path u11.Path)) rfl) (Mw.nil (⟨?_, ⟨(!Op.bytesLess u44.Path u11.Path), W39, rfl, (l27.trans (l33.trans l39)), rfl, hm⟩⟩)))))))))
       iterate 25 (refine Agree.up rfl ?_)
       exact Agree.refl _
      ·replace hm := bf hm hc43
       refine Mw.pass' hc43 rfl rfl rfl rfl rfl rfl (Mw.pass' hc43 rfl rfl rfl rfl rfl rfl (Mw.pass' hc43 rfl rfl rfl rfl rfl rfl (Mw.pass' hc43 rfl rfl rfl rfl rfl rfl (Mw.pass' hc43 rfl rfl rfl rfl rfl rfl (Mw.pass' hc43 rfl rfl rfl rfl rfl rfl (Mw.pass' hc43 rfl rfl rfl rfl rfl rfl (Mw.pass' hc43 rfl rfl rfl rfl rfl rfl (Mw.pass' hc43 rfl rfl rfl rfl rfl rfl (Mw.gp hc42 rfl rfl rfl rfl rfl (fun _ => R.pk hc43 rfl (v := vB false) rfl) (Mw.p rfl rfl (fun _ => R.pk hc42 rfl (v := vB false) rfl) (Mw.nil (⟨?_, ⟨false, W39, rfl, (l27.trans (l33.trans l39)), rfl, hm⟩⟩))))))))))))
       iterate 25 (refine Agree.up rfl ?_)
       exact Agree.refl _
  ·replace hm := bf hm hc10
   refine Cw.exit ?_
   rw [hK7] at hm
   refine Cw.seq (Cw.region (Lw.g (vB true) rfl (Lw.nil ?_)))
   cases hm
   exact Cw.ret (ret1 rfl (Res.mk a9 rfl))

theorem p20 {W : CW} {K : List Nat} {x0 : List Vm.Owner} {v0_ : Value} {r : Bool} (h0 : Rd W K [v0_] x0) (h99 : Gl 0 W K) (hm : Vm.impl_OwnersOk x0 = some r) : CallR Tryd.prog 20 [v0_].toArray W.w (Res W [] fun W' v => v = vB r) :=
 (c20 (V := W.view K []) (h0.view _) (h99.view _) hm).ad (fk 0) fun _ _ e => e

theorem c22 {V : CW} {x0 : Str} {x1 : Str} {r : Bool} (h99 : Gl 0 V [0]) (hm : Vm.impl_PathIn x0 x1 = some r) : CallR Tryd.prog 22 [vS x0, vS x1].toArray V.w (Res V LL fun Wf v => v = vB r) := by
 unfold Vm.impl_PathIn at hm
 obtain ⟨W0, hW0⟩ : ∃ W, W = V := ⟨V, rfl⟩
 subst hW0
 refine CallR.of Tryd.func22 rfl rfl rfl rfl (Cw.seq (Cw.region (Lw.g (vB false) rfl (Lw.nil ?_))))
 obtain ⟨K3, hK3, hm⟩ := jn_e hm
 refine Cw.join 5 16 [4] (fun l w => ∃ (y1 : Bool) (W2 : CW), W2.w = w ∧ Le [] W0 W2 ∧ l = [vB y1] ∧ K3 y1 = some r) ?_ ?_
 ·rintro _ _ σ ⟨y1, W2, rfl, l2, rfl, hm⟩
  rw [hK3] at hm
  have a4 := l2.o
  cases hm
  exact Cw.ret (ret1 rfl (Res.mk a4 rfl))
 ·refine Cw.region (Lw.m (vS x0) rfl ?_)
  obtain ⟨z5, e6, hm⟩ := ob hm
  refine Lw.t rfl (T.call rfl (p21 (K := [0])  h99 e6)) ?_
  rintro _ _ ⟨W7, rfl, l7, rfl⟩
  have a8 := l7.o
  refine Lw.m (vB z5) rfl (bsplit z5 (fun hc9 => ?_) (fun hc9 => ?_))
  ·replace hm := bt hm hc9
   refine Lw.want' hc9 rfl rfl rfl rfl (Lw.m (vS x1) rfl (Lw.want' hc9 rfl rfl rfl rfl ?_))
   obtain ⟨z11, e12, hm⟩ := ob hm
   refine Lw.t rfl (T.call rfl (p21 (K := [0])  (h99.ul a8) e12)) ?_
   rintro _ _ ⟨W13, rfl, l13, rfl⟩
   refine Lw.p hc9 (vB z11) rfl (Lw.m (vB z11) rfl (bsplit z11 (fun hc15 => ?_) (fun hc15 => ?_)))
   ·replace hm := bt hm hc15
    refine Lw.want' hc15 rfl rfl rfl rfl (Lw.m (vS x1) rfl (Lw.want' hc15 rfl rfl rfl rfl (Lw.m (vS x0) rfl (Lw.want' hc15 rfl rfl rfl rfl ?_))))
    obtain ⟨q16, e17, hm⟩ := ob hm
    refine Lw.r rfl (R.sad e17 rfl rfl) (Lw.want' hc15 rfl rfl rfl rfl ?_)
    obtain ⟨z18, e19, hm⟩ := ob hm
    refine Lw.t rfl (T.call rfl (p37 (K := [0])   e19)) ?_
    rintro _ _ ⟨W20, rfl, l20, rfl⟩
    refine Lw.p hc15 (vB z18) rfl (Lw.g (vB z18) rfl (Lw.nil (⟨?_, ⟨z18, W20, rfl, (l7.trans (l13.trans l20)), rfl, hm⟩⟩)))
    iterate 13 (refine Agree.up rfl ?_)
    exact Agree.refl _
   ·replace hm := bf hm hc15
    refine Lw.pass' hc15 rfl rfl rfl rfl rfl rfl rfl (Lw.pass' hc15 rfl rfl rfl rfl rfl rfl rfl (Lw.pass' hc15 rfl rfl rfl rfl rfl rfl rfl (Lw.pass' hc15 rfl rfl rfl rfl rfl rfl rfl (Lw.p hc15 (vB false) rfl (Lw.g (vB false) rfl (Lw.nil (⟨?_, ⟨false, W13, rfl, (l7.trans l13), rfl, hm⟩⟩)))))))
    iterate 13 (refine Agree.up rfl ?_)
    exact Agree.refl _
  ·replace hm := bf hm hc9
   refine Lw.pass' hc9 rfl rfl rfl rfl rfl rfl rfl (Lw.pass' hc9 rfl rfl rfl rfl rfl rfl rfl (Lw.p hc9 (vB false) rfl (Lw.m (vB false) rfl (Lw.pass' rfl rfl rfl rfl rfl rfl rfl rfl (Lw.pass' rfl rfl rfl rfl rfl rfl rfl rfl (Lw.pass' rfl rfl rfl rfl rfl rfl rfl rfl (Lw.pass' rfl rfl rfl rfl rfl rfl rfl rfl (Lw.p rfl (vB false) rfl (Lw.g (vB false) rfl (Lw.nil (⟨?_, ⟨false, W7, rfl, l7, rfl, hm⟩⟩)))))))))))
   iterate 13 (refine Agree.up rfl ?_)
   exact Agree.refl _

theorem p22 {W : CW} {K : List Nat} {x0 : Str} {x1 : Str} {r : Bool} (h99 : Gl 0 W K) (hm : Vm.impl_PathIn x0 x1 = some r) : CallR Tryd.prog 22 [vS x0, vS x1].toArray W.w (Res W [] fun W' v => v = vB r) :=
 (c22 (V := W.view K []) (h99.view _) hm).ad (fk 0) fun _ _ e => e

theorem c8 {V : CW} {x0 : List Vm.Owner} {v0_ : Value} {x1 : Str} {r : Str} (h0 : Rd V [0] [v0_] x0) (h99 : Gl 0 V [0]) (hm : Vm.impl_OwnerOf x0 x1 = some r) : CallR Tryd.prog 8 [v0_, vS x1].toArray V.w (Res V LL fun Wf v => v = vS r) := by
 unfold Vm.impl_OwnerOf at hm
 obtain ⟨W0, hW0⟩ : ∃ W, W = V := ⟨V, rfl⟩
 subst hW0
 refine CallR.of Tryd.func8 rfl rfl rfl rfl (Cw.seq (Cw.region (Lw.g (vS ([] : Str)) rfl (Lw.nil (Cw.seq ?_)))))
 obtain ⟨K3, hK3, hm⟩ := jn_e hm
 refine Cw.join 8 15 [15] (fun l w => ∃ (y1 : Bool) (W2 : CW), W2.w = w ∧ Le [] W0 W2 ∧ l = [vB y1] ∧ K3 y1 = some r) ?_ ?_
 ·rintro _ _ σ ⟨y1, W2, rfl, l2, rfl, hm⟩
  rw [hK3] at hm
  have a4 := l2.o
  refine Cw.cond (b := y1) rfl (fun hc5 => ?_) (fun hc5 => ?_)
  ·replace hm := bt hm hc5
   refine Cw.seq (Cw.region (Lw.g (vS ([] : Str)) rfl (Lw.nil ?_)))
   cases hm
   exact Cw.ret (ret1 rfl (Res.mk a4 rfl))
  ·replace hm := bf hm hc5
   refine Cw.skip (Cw.seq (Cw.region (Lw.t rfl (T.alloc 2 (cs := [vS ([] : Str), vS ([] : Str)]) rfl) ?_)))
   rintro _ _ ⟨g6, W6, rfl, rfl, l6, b6⟩
   have a7 := a4.n l6
   refine Lw.nil (Cw.seq (Cw.seq (Cw.region (Lw.m v0_ rfl (Lw.ln x0 (h0.ul a7) rfl (Lw.m (vI 0) rfl (Lw.nil (Cw.block ?_))))))))
   obtain ⟨K15, hK15, hm⟩ := jn_e hm
   refine Cw.loop 18 42 [7, 18] (fun m l w => ∃ (y10 : Int) (y11 : Str) (y12 : Str) (j9 : Value) (W14 : CW), W14.w = w ∧ Le [2, 3] W6 W14 ∧ l = [j9, vI y10] ∧ Bx W14 2 g6 [vS y11, vS y12] ∧ Vm.impl_OwnerOf_l1 x0 x1 K15 m y10 y11 y12 = some r) (((x0.length : Int) - 0).toNat + 1) ⟨0, ([] : Str), ([] : Str), undef, W6, rfl, Le.refl _ _, rfl, b6, hm⟩ ?_
   rintro m16 _ _ σ ⟨y10, y11, y12, j9, W14, rfl, l14, rfl, b13, hm⟩
   obtain _ | m16 := m16
   ·cases hm
   unfold Vm.impl_OwnerOf_l1 at hm
   have a17 := a7.t l14 rfl
   refine Cw.seq (Cw.region (Lw.lt rfl (Lw.nil (Cw.seq (Cw.cond (b := decide ((y10 : Int) < ((x0.length : Int) : Int))) rfl (fun hc18 => ?_) (fun hc18 => ?_))))))
   ·replace hm := bt hm hc18
    refine Cw.skip ?_
    obtain ⟨K24, hK24, hm⟩ := jn_e hm
    refine Cw.join 20 41 [7] (fun l w => ∃ (y20 : Str) (y21 : Str) (j19 : Value) (W23 : CW), W23.w = w ∧ Le [2, 3] W14 W23 ∧ l = [j19] ∧ Bx W23 2 g6 [vS y20, vS y21] ∧ K24 y20 y21 = some r) ?_ ?_
    ·rintro _ _ σ ⟨y20, y21, j19, W23, rfl, l23, rfl, b22, hm⟩
     rw [hK24] at hm
     refine Cw.region (Lw.add rfl (Lw.m (vI (w64 (y10 + 1))) rfl (Lw.nil (⟨?_, m16, Nat.lt_succ_self m16, ⟨w64 (y10 + 1), y20, y21, j19, W23, rfl, (l14.trans l23), rfl, b22, hm⟩⟩))))
     iterate 2 (refine Agree.up rfl ?_)
     iterate 1 (refine Agree.up rfl ?_)
     refine Agree.ov0 rfl ?_
     iterate 1 (refine Agree.up rfl ?_)
     iterate 2 (refine Agree.up rfl ?_)
     exact Agree.base
    ·refine Cw.block (Cw.seq (Cw.region ?_))
     obtain ⟨u26, e27, hm⟩ := ob hm
     refine Lw.r rfl (R.ix (α := Owner) (h0.ul a17) e27 rfl rfl rfl) ?_
     obtain ⟨x29, c30, _, r31⟩ := ((h0.ul a17).at_ e27).cells
     obtain rfl := Owner.split r31
     refine Lw.r rfl (R.lda c30 rfl rfl) (Lw.t rfl (T.alloc 3 (cs := [vS ([] : Str), vS ([] : Str)]) rfl) ?_)
     rintro _ _ ⟨g32, W32, rfl, rfl, l32, b32⟩
     have a33 := a17.n l32
     refine Lw.u (T.sta (vs := [vS u26.Path, vS u26.Who]) b32 rfl rfl (oc_cons rfl (oc_cons rfl oc_nil)) rfl rfl) ?_
     rintro _ _ ⟨W35, rfl, l35, b35⟩
     have a36 := a33.t l35 rfl
     have b37 := (b13.up l32 rfl).up l35 rfl
     refine Lw.nil ?_
     obtain ⟨K40, hK40, hm⟩ := jn_e hm
     refine Cw.join 22 40 [40] (fun l w => ∃ (y38 : Bool) (W39 : CW), W39.w = w ∧ Le [] W35 W39 ∧ l = [vB y38] ∧ K40 y38 = some r) ?_ ?_
     ·rintro _ _ σ ⟨y38, W39, rfl, l39, rfl, hm⟩
      rw [hK40] at hm
      refine Cw.cond (b := y38) rfl (fun hc44 => ?_) (fun hc44 => ?_)
      ·replace hm := bt hm hc44
       refine Cw.region (Lw.r rfl (R.lda (cs := [vS u26.Path, vS u26.Who]) (b35.up l39 rfl).cells rfl rfl) (Lw.u (T.sta (vs := [vS u26.Path, vS u26.Who]) (b37.up l39 rfl) rfl rfl (oc_cons rfl (oc_cons rfl oc_nil)) rfl rfl) ?_))
       rintro _ _ ⟨W45, rfl, l45, b45⟩
       refine Lw.nil (⟨?_, ⟨u26.Path, u26.Who, ptr (bx g32), W45, rfl, ((l32.sub rfl).trans ((l35.sub rfl).trans ((l39.sub rfl).trans (l45.sub rfl)))), rfl, b45, hm⟩⟩)
       iterate 1 (refine Agree.up rfl ?_)
       iterate 1 (refine Agree.up rfl ?_)
       refine Agree.ov0 rfl ?_
       iterate 3 (refine Agree.up rfl ?_)
       exact Agree.refl _
      ·replace hm := bf hm hc44
       refine Cw.skip (⟨?_, ⟨y11, y12, ptr (bx g32), W39, rfl, ((l32.sub rfl).trans ((l35.sub rfl).trans (l39.sub rfl))), rfl, (b37.up l39 rfl), hm⟩⟩)
       iterate 1 (refine Agree.up rfl ?_)
       refine Agree.ov0 rfl ?_
       iterate 3 (refine Agree.up rfl ?_)
       exact Agree.refl _
     ·refine Cw.region (Lw.fa rfl (Lw.r rfl (R.ld (v := vS u26.Path) rfl rfl (b35.cell rfl)) (Lw.m (vS x1) rfl (Lw.seq rfl (Lw.m (vB (u26.Path == x1)) rfl (bsplit (u26.Path == x1) (fun hc48 => ?_) (fun hc48 => ?_)))))))
      ·replace hm := bt hm hc48
       refine Lw.pass' hc48 rfl rfl rfl rfl rfl rfl rfl (Lw.pass' hc48 rfl rfl rfl rfl rfl rfl rfl (Lw.pass' hc48 rfl rfl rfl rfl rfl rfl rfl (Lw.pass' hc48 rfl rfl rfl rfl rfl rfl rfl (Lw.p hc48 (vB true) rfl (Lw.m (vB true) rfl (Lw.want' rfl rfl rfl rfl rfl (Lw.fa rfl (Lw.want' rfl rfl rfl rfl rfl (Lw.r rfl (R.ld (v := vS u26.Path) rfl rfl (b35.cell rfl)) (Lw.want' rfl rfl rfl rfl rfl (Lw.r rfl (R.lenS rfl) (Lw.want' rfl rfl rfl rfl rfl (Lw.fa rfl (Lw.want' rfl rfl rfl rfl rfl (Lw.r rfl (R.ld (v := vS y11) rfl rfl (b37.cell rfl)) (Lw.want' rfl rfl rfl rfl rfl (Lw.r rfl (R.lenS rfl) (Lw.want' rfl rfl rfl rfl rfl (Lw.gt rfl (Lw.p rfl (vB (decide (((y11.length : Int) : Int) < ((u26.Path.length : Int) : Int)))) rfl (Lw.nil (⟨?_, ⟨decide (((y11.length : Int) : Int) < ((u26.Path.length : Int) : Int)), W35, rfl, Le.refl _ _, rfl, hm⟩⟩))))))))))))))))))))))
       iterate 19 (refine Agree.up rfl ?_)
       exact Agree.refl _
      ·replace hm := bf hm hc48
       refine Lw.want' hc48 rfl rfl rfl rfl (Lw.fa rfl (Lw.want' hc48 rfl rfl rfl rfl (Lw.r rfl (R.ld (v := vS u26.Path) rfl rfl (b35.cell rfl)) (Lw.want' hc48 rfl rfl rfl rfl (Lw.m (vS x1) rfl (Lw.want' hc48 rfl rfl rfl rfl ?_))))))
       obtain ⟨z50, e51, hm⟩ := ob hm
       refine Lw.t rfl (T.call rfl (p22 (K := [0])  (h99.ul a36) e51)) ?_
       rintro _ _ ⟨W52, rfl, l52, rfl⟩
       refine Lw.p hc48 (vB z50) rfl (Lw.m (vB z50) rfl (bsplit z50 (fun hc56 => ?_) (fun hc56 => ?_)))
       ·replace hm := bt hm hc56
        refine Lw.want' hc56 rfl rfl rfl rfl (Lw.fa rfl (Lw.want' hc56 rfl rfl rfl rfl (Lw.r rfl (R.ld (v := vS u26.Path) rfl rfl ((b35.up l52 rfl).cell rfl)) (Lw.want' hc56 rfl rfl rfl rfl (Lw.r rfl (R.lenS rfl) (Lw.want' hc56 rfl rfl rfl rfl (Lw.fa rfl (Lw.want' hc56 rfl rfl rfl rfl (Lw.r rfl (R.ld (v := vS y11) rfl rfl ((b37.up l52 rfl).cell rfl)) (Lw.want' hc56 rfl rfl rfl rfl (Lw.r rfl (R.lenS rfl) (Lw.want' hc56 rfl rfl rfl rfl (Lw.gt rfl (Lw.p hc56 (vB (decide (((y11.length : Int) : Int) < ((u26.Path.length : Int) : Int)))) rfl (Lw.nil (⟨?_, ⟨decide (((y11.length : Int) : Int) < ((u26.Path.length : Int) : Int)), W52, rfl, l52, rfl, hm⟩⟩))))))))))))))))
        iterate 19 (refine Agree.up rfl ?_)
        exact Agree.refl _
       ·replace hm := bf hm hc56
        refine Lw.pass' hc56 rfl rfl rfl rfl rfl rfl rfl (Lw.pass' hc56 rfl rfl rfl rfl rfl rfl rfl (Lw.pass' hc56 rfl rfl rfl rfl rfl rfl rfl (Lw.pass' hc56 rfl rfl rfl rfl rfl rfl rfl (Lw.pass' hc56 rfl rfl rfl rfl rfl rfl rfl (Lw.pass' hc56 rfl rfl rfl rfl rfl rfl rfl (Lw.pass' hc56 rfl rfl rfl rfl rfl rfl rfl (Lw.p hc56 (vB false) rfl (Lw.nil (⟨?_, ⟨false, W52, rfl, l52, rfl, hm⟩⟩)))))))))
        iterate 19 (refine Agree.up rfl ?_)
        exact Agree.refl _
   ·replace hm := bf hm hc18
    refine Cw.exit ?_
    rw [hK15] at hm
    refine Cw.seq (Cw.region (Lw.fa rfl (Lw.r rfl (R.ld (v := vS y12) rfl rfl (b13.cell rfl)) (Lw.g (vS y12) rfl (Lw.nil ?_)))))
    cases hm
    exact Cw.ret (ret1 rfl (Res.mk a17 rfl))
 ·refine Cw.region (Lw.m v0_ rfl ?_)
  obtain ⟨z57, e58, hm⟩ := ob hm
  refine Lw.t rfl (T.call rfl (p20 (K := [0])  h0 h99 e58)) ?_
  rintro _ _ ⟨W59, rfl, l59, rfl⟩
  have a60 := l59.o
  refine Lw.r rfl (R.not rfl) (Lw.m (vB (!z57)) rfl (bsplit (!z57) (fun hc61 => ?_) (fun hc61 => ?_)))
  ·replace hm := bt hm hc61
   refine Lw.pass' hc61 rfl rfl rfl rfl rfl rfl rfl (Lw.pass' hc61 rfl rfl rfl rfl rfl rfl rfl (Lw.pass' hc61 rfl rfl rfl rfl rfl rfl rfl (Lw.p hc61 (vB true) rfl (Lw.nil (⟨?_, ⟨true, W59, rfl, l59, rfl, hm⟩⟩)))))
   iterate 8 (refine Agree.up rfl ?_)
   exact Agree.refl _
  ·replace hm := bf hm hc61
   refine Lw.want' hc61 rfl rfl rfl rfl (Lw.m (vS x1) rfl (Lw.want' hc61 rfl rfl rfl rfl ?_))
   obtain ⟨z63, e64, hm⟩ := ob hm
   refine Lw.t rfl (T.call rfl (p21 (K := [0])  (h99.ul a60) e64)) ?_
   rintro _ _ ⟨W65, rfl, l65, rfl⟩
   refine Lw.want' hc61 rfl rfl rfl rfl (Lw.r rfl (R.not rfl) (Lw.p hc61 (vB (!z63)) rfl (Lw.nil (⟨?_, ⟨(!z63), W65, rfl, (l59.trans l65), rfl, hm⟩⟩))))
   iterate 8 (refine Agree.up rfl ?_)
   exact Agree.refl _

theorem p8 {W : CW} {K : List Nat} {x0 : List Vm.Owner} {v0_ : Value} {x1 : Str} {r : Str} (h0 : Rd W K [v0_] x0) (h99 : Gl 0 W K) (hm : Vm.impl_OwnerOf x0 x1 = some r) : CallR Tryd.prog 8 [v0_, vS x1].toArray W.w (Res W [] fun W' v => v = vS r) :=
 (c8 (V := W.view K []) (h0.view _) (h99.view _) hm).ad (fk 0) fun _ _ e => e

theorem c23 {V : CW} {x0 : Vm.Owner} {x1 : Vm.Owner} {r : Bool} (h0 : Rd V [0] [vS x0.Path, vS x0.Who] x0) (h1 : Rd V [0] [vS x1.Path, vS x1.Who] x1) (hm : Vm.laws_eqOwner x0 x1 = some r) : CallR Tryd.prog 23 [.agg [vS x0.Path, vS x0.Who].toArray, .agg [vS x1.Path, vS x1.Who].toArray].toArray V.w (Res V LL fun Wf v => v = vB r) := by
 unfold Vm.laws_eqOwner at hm
 obtain ⟨W0, hW0⟩ : ∃ W, W = V := ⟨V, rfl⟩
 subst hW0
 refine CallR.of Tryd.func23 rfl rfl rfl rfl (Cw.seq (Cw.region (Lw.t rfl (T.box 2 (v := .agg [vS x0.Path, vS x0.Who].toArray) (cs := [vS x0.Path, vS x0.Who]) rfl rfl) ?_)))
 rintro _ _ ⟨g1, W1, rfl, rfl, l1, b1⟩
 have a2 := l1.o
 refine Lw.t rfl (T.box 3 (v := .agg [vS x1.Path, vS x1.Who].toArray) (cs := [vS x1.Path, vS x1.Who]) rfl rfl) ?_
 rintro _ _ ⟨g3, W3, rfl, rfl, l3, b3⟩
 have a4 := a2.n l3
 refine Lw.g (vB false) rfl (Lw.nil (Cw.seq (Cw.seq (Cw.region (Lw.fa rfl (Lw.r rfl (R.ld (v := vS x0.Path) rfl rfl ((b1.up l3 rfl).cell rfl)) (Lw.fa rfl (Lw.r rfl (R.ld (v := vS x1.Path) rfl rfl (b3.cell rfl)) (Lw.sne rfl (Lw.nil (Cw.cond (b := (x0.Path != x1.Path)) rfl (fun hc6 => ?_) (fun hc6 => ?_))))))))))))
 ·replace hm := bt hm hc6
  refine Cw.seq (Cw.region (Lw.g (vB false) rfl (Lw.nil ?_)))
  cases hm
  exact Cw.ret (ret1 rfl (Res.mk a4 rfl))
 ·replace hm := bf hm hc6
  refine Cw.skip (Cw.seq (Cw.seq (Cw.region (Lw.fa rfl (Lw.r rfl (R.ld (v := vS x0.Who) rfl rfl ((b1.up l3 rfl).cell rfl)) (Lw.fa rfl (Lw.r rfl (R.ld (v := vS x1.Who) rfl rfl (b3.cell rfl)) (Lw.sne rfl (Lw.nil (Cw.cond (b := (x0.Who != x1.Who)) rfl (fun hc7 => ?_) (fun hc7 => ?_)))))))))))
  ·replace hm := bt hm hc7
   refine Cw.seq (Cw.region (Lw.g (vB false) rfl (Lw.nil ?_)))
   cases hm
   exact Cw.ret (ret1 rfl (Res.mk a4 rfl))
  ·replace hm := bf hm hc7
   refine Cw.skip (Cw.seq (Cw.region (Lw.g (vB true) rfl (Lw.nil ?_))))
   cases hm
   exact Cw.ret (ret1 rfl (Res.mk a4 rfl))

theorem p23 {W : CW} {K : List Nat} {x0 : Vm.Owner} {x1 : Vm.Owner} {r : Bool} (h0 : Rd W K [vS x0.Path, vS x0.Who] x0) (h1 : Rd W K [vS x1.Path, vS x1.Who] x1) (hm : Vm.laws_eqOwner x0 x1 = some r) : CallR Tryd.prog 23 [.agg [vS x0.Path, vS x0.Who].toArray, .agg [vS x1.Path, vS x1.Who].toArray].toArray W.w (Res W [] fun W' v => v = vB r) :=
 (c23 (V := W.view K []) (h0.view _) (h1.view _) hm).ad (fk 0) fun _ _ e => e

theorem c9 {V : CW} {x0 : List Vm.Owner} {v0_ : Value} {x1 : List Vm.Owner} {v1_ : Value} {r : Bool} (h0 : Rd V [0] [v0_] x0) (h1 : Rd V [0] [v1_] x1) (hm : Vm.laws_eqOwnerS x0 x1 = some r) : CallR Tryd.prog 9 [v0_, v1_].toArray V.w (Res V LL fun Wf v => v = vB r) := by
 unfold Vm.laws_eqOwnerS at hm
 obtain ⟨W0, hW0⟩ : ∃ W, W = V := ⟨V, rfl⟩
 subst hW0
 refine CallR.of Tryd.func9 rfl rfl rfl rfl (Cw.seq (Cw.region (Lw.g (vB false) rfl (Lw.nil (Cw.seq (Cw.seq (Cw.region (Lw.m v0_ rfl (Lw.ln x0 h0 rfl (Lw.m v1_ rfl (Lw.ln x1 h1 rfl (Lw.ne rfl (Lw.nil (Cw.cond (b := (((x0.length : Int) : Int) != ((x1.length : Int) : Int))) rfl (fun hc1 => ?_) (fun hc1 => ?_)))))))))))))))
 ·replace hm := bt hm hc1
  refine Cw.seq (Cw.region (Lw.g (vB false) rfl (Lw.nil ?_)))
  cases hm
  exact Cw.ret (ret1 rfl (Res.mk (Le.refl _ _) rfl))
 ·replace hm := bf hm hc1
  refine Cw.skip (Cw.seq (Cw.seq (Cw.region (Lw.g (vI 0) rfl (Lw.nil (Cw.block ?_))))))
  obtain ⟨K5, hK5, hm⟩ := jn_e hm
  refine Cw.loop 11 26 [4, 5] (fun m l w => ∃ (y2 : Bool) (y3 : Int) (W4 : CW), W4.w = w ∧ Le [] W0 W4 ∧ l = [vB y2, vI y3] ∧ Vm.laws_eqOwnerS_l1 x0 x1 K5 m y2 y3 = some r) (((x0.length : Int) - 0).toNat + 1) ⟨false, 0, W0, rfl, Le.refl _ _, rfl, hm⟩ ?_
  rintro m6 _ _ σ ⟨y2, y3, W4, rfl, l4, rfl, hm⟩
  obtain _ | m6 := m6
  ·cases hm
  unfold Vm.laws_eqOwnerS_l1 at hm
  have a7 := l4.o
  refine Cw.seq (Cw.seq (Cw.region (Lw.m (vI y3) rfl (Lw.m v0_ rfl (Lw.ln x0 (h0.ul a7) rfl (Lw.lt rfl (Lw.nil (Cw.cond (b := decide ((y3 : Int) < ((x0.length : Int) : Int))) rfl (fun hc9 => ?_) (fun hc9 => ?_)))))))))
  ·replace hm := bt hm hc9
   refine Cw.skip (Cw.seq (Cw.block (Cw.seq (Cw.draw [] [(0, 0), (1, 0), (2, 0), (3, 1), (4, 0), (5, 0), (6, 0), (7, 1), (8, 3), (9, 0)] mixed (by kernel_rfl) fun W10 l10 => ?_))))
   have a11 := a7.n l10
   refine Mw.p rfl rfl (fun _ => R.mv (v := v0_) rfl) (Mw.p rfl rfl (fun _ => R.mv (v := vI y3) rfl) ?_)
   obtain ⟨u12, e13, hm⟩ := ob hm
   refine Mw.p rfl rfl (fun _ => R.ix (α := Owner) (h0.ul a11) e13 rfl rfl rfl) ?_
   obtain ⟨x15, c16, _, r17⟩ := ((h0.ul a11).at_ e13).cells
   obtain rfl := Owner.split r17
   refine Mw.q rfl rfl (fun _ c => R.lda (cl_cells ((h0.ul a11).at_ e13).1 rfl c16 c) rfl rfl) (Mw.p rfl rfl (fun _ => R.mv (v := v1_) rfl) (Mw.p rfl rfl (fun _ => R.mv (v := vI y3) rfl) ?_))
   obtain ⟨u18, e19, hm⟩ := ob hm
   refine Mw.p rfl rfl (fun _ => R.ix (α := Owner) (h1.ul a11) e19 rfl rfl rfl) ?_
   obtain ⟨x21, c22, _, r23⟩ := ((h1.ul a11).at_ e19).cells
   obtain rfl := Owner.split r23
   refine Mw.q rfl rfl (fun _ c => R.lda (cl_cells ((h1.ul a11).at_ e19).1 rfl c22 c) rfl rfl) ?_
   obtain ⟨z24, e25, hm⟩ := ob hm
   refine Mw.l rfl rfl (T.call rfl (p23 (K := [0])  (Owner.rd (K := [0]) u12.Path u12.Who ) (Owner.rd (K := [0]) u18.Path u18.Who ) e25)) ?_
   rintro _ _ ⟨W26, rfl, l26, rfl⟩
   have a27 := a11.n l26
   refine Mw.p rfl rfl (fun _ => R.not rfl) (Mw.nil (Cw.cond (b := (!z24)) rfl (fun hc28 => ?_) (fun hc28 => ?_)))
   ·replace hm := bt hm hc28
    refine Cw.seq (Cw.region (Lw.g (vB false) rfl (Lw.nil ?_)))
    cases hm
    exact Cw.ret (ret1 rfl (Res.mk a27 rfl))
   ·replace hm := bf hm hc28
    refine Cw.skip (Cw.region (Lw.m (vI y3) rfl (Lw.add rfl (Lw.g (vI (w64 (y3 + 1))) rfl (Lw.nil (⟨?_, m6, Nat.lt_succ_self m6, ⟨y2, w64 (y3 + 1), W26, rfl, (l4.trans (l10.trans l26)), rfl, hm⟩⟩))))))
    iterate 17 (refine Agree.up rfl ?_)
    iterate 2 (refine Agree.up rfl ?_)
    exact Agree.base
  ·replace hm := bf hm hc9
   refine Cw.exit ?_
   rw [hK5] at hm
   refine Cw.seq (Cw.region (Lw.g (vB true) rfl (Lw.nil ?_)))
   cases hm
   exact Cw.ret (ret1 rfl (Res.mk a7 rfl))

theorem p9 {W : CW} {K : List Nat} {x0 : List Vm.Owner} {v0_ : Value} {x1 : List Vm.Owner} {v1_ : Value} {r : Bool} (h0 : Rd W K [v0_] x0) (h1 : Rd W K [v1_] x1) (hm : Vm.laws_eqOwnerS x0 x1 = some r) : CallR Tryd.prog 9 [v0_, v1_].toArray W.w (Res W [] fun W' v => v = vB r) :=
 (c9 (V := W.view K []) (h0.view _) (h1.view _) hm).ad (fk 0) fun _ _ e => e

theorem c3 {V : CW} {x0 : List Vm.Owner} {v0_ : Value} {x1 : Str} {r : Bool} (h0 : Rd V [0] [v0_] x0) (h99 : Gl 0 V [0]) (hm : Vm.laws_FnExactOwnerOf x0 x1 = some r) : CallR Tryd.prog 3 [v0_, vS x1].toArray V.w (Res V LL fun Wf v => v = vB r) := by
 unfold Vm.laws_FnExactOwnerOf at hm
 obtain ⟨W0, hW0⟩ : ∃ W, W = V := ⟨V, rfl⟩
 subst hW0
 refine CallR.of Tryd.func3 rfl rfl rfl rfl (Cw.seq (Cw.region (Lw.g (vB false) rfl (Lw.nil (Cw.seq (Cw.seq (Cw.region (Lw.m (vS x1) rfl (Lw.r rfl (R.lenS rfl) (Lw.gt rfl (Lw.nil (Cw.cond (b := decide ((1048576 : Int) < ((x1.length : Int) : Int))) rfl (fun hc1 => ?_) (fun hc1 => ?_)))))))))))))
 ·replace hm := bt hm hc1
  refine Cw.seq (Cw.region (Lw.g (vB true) rfl (Lw.nil ?_)))
  cases hm
  exact Cw.ret (ret1 rfl (Res.mk (Le.refl _ _) rfl))
 ·replace hm := bf hm hc1
  refine Cw.skip (Cw.seq (Cw.region (Lw.g (vI 1048576) rfl (Lw.nil (Cw.seq (Cw.region (Lw.m v0_ rfl (Lw.m (vI 1048576) rfl ?_))))))))
  obtain ⟨z2, e3, hm⟩ := ob hm
  refine Lw.t rfl (T.call rfl (p5 (K := [0])  h0 e3)) ?_
  rintro _ _ ⟨W4, rfl, l4, rfl⟩
  have a5 := l4.o
  refine Lw.g (vI z2) rfl (Lw.nil (Cw.seq (Cw.seq (Cw.region (Lw.m (vI z2) rfl (Lw.lt rfl (Lw.nil (Cw.cond (b := decide ((z2 : Int) < (0 : Int))) rfl (fun hc6 => ?_) (fun hc6 => ?_)))))))))
  ·replace hm := bt hm hc6
   refine Cw.seq (Cw.region (Lw.g (vB true) rfl (Lw.nil ?_)))
   cases hm
   exact Cw.ret (ret1 rfl (Res.mk a5 rfl))
  ·replace hm := bf hm hc6
   refine Cw.skip (Cw.seq (Cw.region (Lw.m v0_ rfl ?_)))
   obtain ⟨z8, e9, hm⟩ := ob hm
   refine Lw.t rfl (T.call rfl (p7 (K := [0]) (k0 := 2) (h0.ul a5) e9)) ?_
   rintro v0_10 _ ⟨W10, rfl, l10, ⟨_, rfl, f10_0⟩⟩
   have a11 := a5.n l10
   refine Lw.m (vS x1) rfl ?_
   obtain ⟨z12, e13, hm⟩ := ob hm
   refine Lw.t rfl (T.call rfl (p6 (K := [2])  f10_0.rd e13)) ?_
   rintro _ _ ⟨W14, rfl, l14, rfl⟩
   have a15 := a11.n l14
   refine Lw.g (vS z12) rfl (Lw.nil (Cw.seq (Cw.region (Lw.m v0_ rfl ?_))))
   obtain ⟨z18, e19, hm⟩ := ob hm
   refine Lw.t rfl (T.call rfl (p7 (K := [0]) (k0 := 3) (h0.ul a15) e19)) ?_
   rintro v0_20 _ ⟨W20, rfl, l20, ⟨_, rfl, f20_0⟩⟩
   have a21 := a15.n l20
   refine Lw.g v0_20 rfl (Lw.nil (Cw.seq (Cw.region (Lw.m v0_20 rfl (Lw.m (vS x1) rfl ?_)))))
   obtain ⟨z24, e25, hm⟩ := ob hm
   refine Lw.t rfl (T.call rfl (p8 (K := [0, 3])  (f20_0.rd.sub (M := [0, 3]) rfl) ((h99.ul a21).sub (M := [0, 3]) rfl) e25)) ?_
   rintro _ _ ⟨W26, rfl, l26, rfl⟩
   have a27 := a21.n l26
   refine Lw.g (vS z24) rfl (Lw.nil (Cw.seq (Cw.seq (Cw.region (Lw.m (vS z24) rfl (Lw.m (vS z12) rfl (Lw.sne rfl (Lw.nil (Cw.cond (b := (z24 != z12)) rfl (fun hc30 => ?_) (fun hc30 => ?_))))))))))
   ·replace hm := bt hm hc30
    refine Cw.seq (Cw.region (Lw.g (vB false) rfl (Lw.nil ?_)))
    cases hm
    exact Cw.ret (ret1 rfl (Res.mk a27 rfl))
   ·replace hm := bf hm hc30
    refine Cw.skip (Cw.seq (Cw.seq (Cw.region (Lw.m v0_20 rfl (Lw.m v0_ rfl ?_)))))
    obtain ⟨z32, e33, hm⟩ := ob hm
    refine Lw.t rfl (T.call rfl (p7 (K := [0]) (k0 := 4) (h0.ul a27) e33)) ?_
    rintro v0_34 _ ⟨W34, rfl, l34, ⟨_, rfl, f34_0⟩⟩
    have a35 := a27.n l34
    obtain ⟨z38, e39, hm⟩ := ob hm
    refine Lw.t rfl (T.call rfl (p9 (K := [3, 4])  (((f20_0.up l26 rfl).up l34 rfl).rd.sub (M := [3, 4]) rfl) (f34_0.rd.sub (M := [3, 4]) rfl) e39)) ?_
    rintro _ _ ⟨W40, rfl, l40, rfl⟩
    have a41 := a35.n l40
    refine Lw.r rfl (R.not rfl) (Lw.nil (Cw.cond (b := (!z38)) rfl (fun hc45 => ?_) (fun hc45 => ?_)))
    ·replace hm := bt hm hc45
     refine Cw.seq (Cw.region (Lw.g (vB false) rfl (Lw.nil ?_)))
     cases hm
     exact Cw.ret (ret1 rfl (Res.mk a41 rfl))
    ·replace hm := bf hm hc45
     refine Cw.skip (Cw.seq (Cw.region (Lw.g (vB true) rfl (Lw.nil ?_))))
     cases hm
     exact Cw.ret (ret1 rfl (Res.mk a41 rfl))

theorem p3 {W : CW} {K : List Nat} {x0 : List Vm.Owner} {v0_ : Value} {x1 : Str} {r : Bool} (h0 : Rd W K [v0_] x0) (h99 : Gl 0 W K) (hm : Vm.laws_FnExactOwnerOf x0 x1 = some r) : CallR Tryd.prog 3 [v0_, vS x1].toArray W.w (Res W [] fun W' v => v = vB r) :=
 (c3 (V := W.view K []) (h0.view _) (h99.view _) hm).ad (fk 0) fun _ _ e => e

end Go.Sx
