/- Walks: each function answers as its model, printed by a program of ours. Conditions: the arguments read as they are given. -/
import Derived.Test.YtmjjhnahdmlmaaaDoorXTs
import Derived.Test.YtmjjhnahdmlmaaaDoorXMd
import Derived.Test.YtmjjhnahdmlmaaaDoorXW0
import Derived.Test.YtmjjhnahdmlmaaaDoorXW2
import Derived.Test.YtmjjhnahdmlmaaaDoorXW3
import Derived.Test.YtmjjhnahdmlmaaaDoorXW4
namespace Go.Sx
open Go Go.Proofs Go.Vm Rp
set_option linter.unusedVariables false
set_option linter.unusedSimpArgs false

theorem c63 {V : CW} {x0 : List Vm.Commit} {v0_ : Value} {x1 : Int} {r : Int} (h0 : Rd V [0] [v0_] x0) (hm : Vm.laws_heldCommitS x0 x1 = some r) : CallR Tryd.prog 63 [v0_, vI x1].toArray V.w (Res V LL fun Wf v => v = vI r) := by
 unfold Vm.laws_heldCommitS at hm
 obtain ⟨W0, hW0⟩ : ∃ W, W = V := ⟨V, rfl⟩
 subst hW0
 refine CallR.of Tryd.func63 rfl rfl rfl rfl (Cw.seq (Cw.region (Lw.g (vI 0) rfl (Lw.nil (Cw.seq (Cw.seq (Cw.region (Lw.g (vI 0) rfl (Lw.nil (Cw.block ?_))))))))))
 obtain ⟨K5, hK5, hm⟩ := jn_e hm
 refine Cw.loop 6 39 [1, 4, 5] (fun m l w => ∃ (y1 : Int) (y2 : Int) (y3 : Int) (W4 : CW), W4.w = w ∧ Le [] W0 W4 ∧ l = [vI y1, vI y2, vI y3] ∧ Vm.laws_heldCommitS_l1 x0 K5 m y1 y2 y3 = some r) (((x0.length : Int) - 0).toNat + 1) ⟨x1, 0, 0, W0, rfl, Le.refl _ _, rfl, hm⟩ ?_
 rintro m6 _ _ σ ⟨y1, y2, y3, W4, rfl, l4, rfl, hm⟩
 obtain _ | m6 := m6
 ·cases hm
 unfold Vm.laws_heldCommitS_l1 at hm
 have a7 := l4.o
 refine Cw.seq (Cw.seq (Cw.region ?_))
 have s8 := h0.ul a7
 refine Lw.m (vI y3) rfl (Lw.m v0_ rfl (Lw.ln x0 s8 rfl (Lw.lt rfl (Lw.nil (Cw.cond (b := decide ((y3 : Int) < ((x0.length : Int) : Int))) rfl (fun hc9 => ?_) (fun hc9 => ?_))))))
 ·replace hm := bt hm hc9
  refine Cw.skip (Cw.seq (Cw.block (Cw.seq (Cw.region (Lw.m v0_ rfl (Lw.m (vI y3) rfl ?_))))))
  obtain ⟨u10, e11, hm⟩ := ob hm
  refine Lw.r rfl (R.ix (α := Commit) s8 e11 rfl rfl rfl) (Lw.fa rfl ?_)
  obtain ⟨v12, c13, r14⟩ := (Commit.at0 (s8.at_ e11)).cell rfl
  refine Lw.r rfl (R.ld rfl rfl c13) (Lw.m (vI y1) rfl ?_)
  obtain ⟨z15, e16, hm⟩ := ob hm
  refine Lw.t rfl (T.call rfl (p118 (K := [0])  r14 e16)) ?_
  rintro _ _ ⟨W17, rfl, l17, rfl⟩
  have a18 := a7.n l17
  refine Lw.g (vI z15) rfl (Lw.nil (Cw.seq (Cw.seq (Cw.region (Lw.m (vI z15) rfl (Lw.lt rfl (Lw.nil (Cw.cond (b := decide ((z15 : Int) < (0 : Int))) rfl (fun hc19 => ?_) (fun hc19 => ?_)))))))))
  ·replace hm := bt hm hc19
   refine Cw.seq (Cw.region (Lw.g (vI (-1)) rfl (Lw.nil ?_)))
   cases hm
   exact Cw.ret (ret1 rfl (Res.mk a18 rfl))
  ·replace hm := bf hm hc19
   refine Cw.skip (Cw.seq (Cw.seq (Cw.draw [] [(0, 0), (1, 0), (2, 0), (3, 0), (4, 1), (5, 0), (6, 2), (7, 0)] mixed (by kernel_rfl) fun W20 l20 => ?_)))
   have a21 := a18.n l20
   refine Mw.p rfl rfl (fun _ => R.mv (v := v0_) rfl) (Mw.p rfl rfl (fun _ => R.mv (v := vI y3) rfl) ?_)
   obtain ⟨u22, e23, hm⟩ := ob hm
   refine Mw.p rfl rfl (fun _ => R.ix (α := Commit) (h0.ul a21) e23 rfl rfl rfl) (Mw.p rfl rfl (fun _ => R.fa rfl) (Mw.q rfl rfl (fun _ c => R.ld rfl rfl (cl_cell (Commit.at1 ((h0.ul a21).at_ e23)).1 rfl (Commit.at1 ((h0.ul a21).at_ e23)).str c)) (Mw.p rfl rfl (fun _ => R.mv (v := vI z15) rfl) ?_)))
   obtain ⟨z25, e26, hm⟩ := ob hm
   refine Mw.t rfl rfl (T.call rfl (p76 (K := [0])   e26)) ?_
   rintro _ _ ⟨W27, rfl, l27, rfl⟩
   have a28 := a21.n l27
   refine ⟨⟨_, rfl, (l27.sub (M := []) rfl)⟩, ?_⟩
   refine Mw.p rfl rfl (fun _ => R.sne rfl rfl) (Mw.nil (Cw.cond (b := (u22.Who != z25)) rfl (fun hc29 => ?_) (fun hc29 => ?_)))
   ·replace hm := bt hm hc29
    refine Cw.seq (Cw.region (Lw.g (vI (-1)) rfl (Lw.nil ?_)))
    cases hm
    exact Cw.ret (ret1 rfl (Res.mk a28 rfl))
   ·replace hm := bf hm hc29
    refine Cw.skip (Cw.seq (Cw.region (Lw.m (vI z15) rfl (Lw.add rfl (Lw.g (vI (w64 (z15 + 1))) rfl (Lw.nil (Cw.seq (Cw.region (Lw.m v0_ rfl (Lw.m (vI y3) rfl ?_))))))))))
    obtain ⟨u30, e31, hm⟩ := ob hm
    refine Lw.r rfl (R.ix (α := Commit) (h0.ul a28) e31 rfl rfl rfl) (Lw.fa rfl ?_)
    obtain ⟨v33, c34, r35⟩ := (Commit.at2 ((h0.ul a28).at_ e31)).cell rfl
    refine Lw.r rfl (R.ld rfl rfl c34) (Lw.m (vI (w64 (z15 + 1))) rfl ?_)
    obtain ⟨z36, e37, hm⟩ := ob hm
    refine Lw.t rfl (T.call rfl (p119 (K := [0])  r35 e37)) ?_
    rintro _ _ ⟨W38, rfl, l38, rfl⟩
    have a39 := a28.n l38
    refine Lw.g (vI z36) rfl (Lw.nil (Cw.seq (Cw.region (Lw.m (vI z36) rfl (Lw.lt rfl (Lw.nil (Cw.cond (b := decide ((z36 : Int) < (0 : Int))) rfl (fun hc40 => ?_) (fun hc40 => ?_))))))))
    ·replace hm := bt hm hc40
     refine Cw.seq (Cw.region (Lw.g (vI (-1)) rfl (Lw.nil ?_)))
     cases hm
     exact Cw.ret (ret1 rfl (Res.mk a39 rfl))
    ·replace hm := bf hm hc40
     refine Cw.skip (Cw.region (Lw.m (vI y3) rfl (Lw.add rfl (Lw.g (vI (w64 (y3 + 1))) rfl (Lw.nil (⟨?_, m6, Nat.lt_succ_self m6, ⟨z36, y2, w64 (y3 + 1), W38, rfl, (l4.trans (l17.trans (l20.trans (l27.trans l38)))), rfl, hm⟩⟩))))))
     iterate 41 (refine .u ?_)
     exact Agree.base
 ·replace hm := bf hm hc9
  refine Cw.exit ?_
  rw [hK5] at hm
  refine Cw.seq (Cw.region (Lw.m (vI y1) rfl (Lw.g (vI y1) rfl (Lw.nil ?_))))
  cases hm
  exact Cw.ret (ret1 rfl (Res.mk a7 rfl))

theorem p63 {W : CW} {K : List Nat} {x0 : List Vm.Commit} {v0_ : Value} {x1 : Int} {r : Int} (h0 : Rd W K [v0_] x0) (hm : Vm.laws_heldCommitS x0 x1 = some r) : CallR Tryd.prog 63 [v0_, vI x1].toArray W.w (Res W [] fun W' v => v = vI r) :=
 (c63 (V := W.view K []) (h0.view _) hm).ad (fk 0) fun _ _ e => e

theorem c64 {V : CW} {x0 : List Vm.Head} {v0_ : Value} {x1 : Int} {r : Int} (h0 : Rd V [0] [v0_] x0) (hm : Vm.laws_heldHeadS x0 x1 = some r) : CallR Tryd.prog 64 [v0_, vI x1].toArray V.w (Res V LL fun Wf v => v = vI r) := by
 unfold Vm.laws_heldHeadS at hm
 obtain ⟨W0, hW0⟩ : ∃ W, W = V := ⟨V, rfl⟩
 subst hW0
 refine CallR.of Tryd.func64 rfl rfl rfl rfl (Cw.seq (Cw.region (Lw.g (vI 0) rfl (Lw.nil (Cw.seq (Cw.seq (Cw.region (Lw.g (vI 0) rfl (Lw.nil (Cw.block ?_))))))))))
 obtain ⟨K5, hK5, hm⟩ := jn_e hm
 refine Cw.loop 6 30 [1, 4, 5] (fun m l w => ∃ (y1 : Int) (y2 : Int) (y3 : Int) (W4 : CW), W4.w = w ∧ Le [] W0 W4 ∧ l = [vI y1, vI y2, vI y3] ∧ Vm.laws_heldHeadS_l1 x0 K5 m y1 y2 y3 = some r) (((x0.length : Int) - 0).toNat + 1) ⟨x1, 0, 0, W0, rfl, Le.refl _ _, rfl, hm⟩ ?_
 rintro m6 _ _ σ ⟨y1, y2, y3, W4, rfl, l4, rfl, hm⟩
 obtain _ | m6 := m6
 ·cases hm
 unfold Vm.laws_heldHeadS_l1 at hm
 have a7 := l4.o
 refine Cw.seq (Cw.seq (Cw.region (Lw.m (vI y3) rfl (Lw.m v0_ rfl (Lw.ln x0 (h0.ul a7) rfl (Lw.lt rfl (Lw.nil (Cw.cond (b := decide ((y3 : Int) < ((x0.length : Int) : Int))) rfl (fun hc9 => ?_) (fun hc9 => ?_)))))))))
 ·replace hm := bt hm hc9
  refine Cw.skip (Cw.seq (Cw.block (Cw.seq (Cw.seq (Cw.draw [] [(0, 0), (1, 0), (2, 0), (3, 0), (4, 1), (5, 0), (6, 2), (7, 0)] mixed (by kernel_rfl) fun W10 l10 => ?_)))))
  have a11 := a7.n l10
  refine Mw.p rfl rfl (fun _ => R.mv (v := v0_) rfl) (Mw.p rfl rfl (fun _ => R.mv (v := vI y3) rfl) ?_)
  obtain ⟨u12, e13, hm⟩ := ob hm
  refine Mw.p rfl rfl (fun _ => R.ix (α := Head) (h0.ul a11) e13 rfl rfl rfl) (Mw.p rfl rfl (fun _ => R.fa rfl) (Mw.q rfl rfl (fun _ c => R.ld rfl rfl (cl_cell (Head.at0 ((h0.ul a11).at_ e13)).1 rfl (Head.at0 ((h0.ul a11).at_ e13)).str c)) (Mw.p rfl rfl (fun _ => R.mv (v := vI y1) rfl) ?_)))
  obtain ⟨z15, e16, hm⟩ := ob hm
  refine Mw.t rfl rfl (T.call rfl (p76 (K := [0])   e16)) ?_
  rintro _ _ ⟨W17, rfl, l17, rfl⟩
  have a18 := a11.n l17
  refine ⟨⟨_, rfl, (l17.sub (M := []) rfl)⟩, ?_⟩
  refine Mw.p rfl rfl (fun _ => R.sne rfl rfl) (Mw.nil (Cw.cond (b := (u12.Name != z15)) rfl (fun hc19 => ?_) (fun hc19 => ?_)))
  ·replace hm := bt hm hc19
   refine Cw.seq (Cw.region (Lw.g (vI (-1)) rfl (Lw.nil ?_)))
   cases hm
   exact Cw.ret (ret1 rfl (Res.mk a18 rfl))
  ·replace hm := bf hm hc19
   refine Cw.skip (Cw.seq (Cw.region (Lw.m (vI y1) rfl (Lw.add rfl (Lw.g (vI (w64 (y1 + 1))) rfl (Lw.nil (Cw.seq (Cw.seq (Cw.region (Lw.m v0_ rfl (Lw.m (vI y3) rfl ?_)))))))))))
   obtain ⟨u20, e21, hm⟩ := ob hm
   refine Lw.r rfl (R.ix (α := Head) (h0.ul a18) e21 rfl rfl rfl) (Lw.fa rfl (Lw.r rfl (R.ld rfl rfl (Head.at1 ((h0.ul a18).at_ e21)).int) (Lw.m (vI (w64 (y1 + 1))) rfl (Lw.ne rfl (Lw.nil (Cw.cond (b := ((u20.At : Int) != (w64 (y1 + 1) : Int))) rfl (fun hc23 => ?_) (fun hc23 => ?_)))))))
   ·replace hm := bt hm hc23
    refine Cw.seq (Cw.region (Lw.g (vI (-1)) rfl (Lw.nil ?_)))
    cases hm
    exact Cw.ret (ret1 rfl (Res.mk a18 rfl))
   ·replace hm := bf hm hc23
    refine Cw.skip (Cw.region (Lw.m (vI (w64 (y1 + 1))) rfl (Lw.add rfl (Lw.g (vI (w64 ((w64 (y1 + 1)) + 1))) rfl (Lw.nil (Cw.region (Lw.m (vI y3) rfl (Lw.add rfl (Lw.g (vI (w64 (y3 + 1))) rfl (Lw.nil (⟨?_, m6, Nat.lt_succ_self m6, ⟨w64 ((w64 (y1 + 1)) + 1), y2, w64 (y3 + 1), W17, rfl, (l4.trans (l10.trans l17)), rfl, hm⟩⟩)))))))))))
    iterate 31 (refine .u ?_)
    exact Agree.base
 ·replace hm := bf hm hc9
  refine Cw.exit ?_
  rw [hK5] at hm
  refine Cw.seq (Cw.region (Lw.m (vI y1) rfl (Lw.g (vI y1) rfl (Lw.nil ?_))))
  cases hm
  exact Cw.ret (ret1 rfl (Res.mk a7 rfl))

theorem p64 {W : CW} {K : List Nat} {x0 : List Vm.Head} {v0_ : Value} {x1 : Int} {r : Int} (h0 : Rd W K [v0_] x0) (hm : Vm.laws_heldHeadS x0 x1 = some r) : CallR Tryd.prog 64 [v0_, vI x1].toArray W.w (Res W [] fun W' v => v = vI r) :=
 (c64 (V := W.view K []) (h0.view _) hm).ad (fk 0) fun _ _ e => e

theorem c21 {V : CW} {x0 : Vm.Repo} {v0_0_ : Value} {v0_1_ : Value} {x1 : Int} {r : Int} (h0 : Rd V [0] [v0_0_, v0_1_] x0) (hm : Vm.laws_heldRepo x0 x1 = some r) : CallR Tryd.prog 21 [.agg [v0_0_, v0_1_].toArray, vI x1].toArray V.w (Res V LL fun Wf v => v = vI r) := by
 unfold Vm.laws_heldRepo at hm
 obtain ⟨w0_0, w0_1, he0, h0_0, h0_1⟩ := Repo.split h0
 simp only [List.cons.injEq, and_true, true_and] at he0
 obtain ⟨rfl, rfl⟩ := he0
 obtain ⟨W0, hW0⟩ : ∃ W, W = V := ⟨V, rfl⟩
 subst hW0
 refine CallR.of Tryd.func21 rfl rfl rfl rfl (Cw.seq (Cw.region (Lw.t rfl (T.box 2 (v := .agg [v0_0_, v0_1_].toArray) (cs := [v0_0_, v0_1_]) rfl rfl) ?_)))
 rintro _ _ ⟨g1, W1, rfl, rfl, l1, b1⟩
 have a2 := l1.o
 refine Lw.g (vI 0) rfl (Lw.nil (Cw.seq (Cw.region (Lw.fa rfl (Lw.r rfl (R.ld (v := v0_0_) rfl rfl (b1.cell rfl)) (Lw.m (vI x1) rfl ?_))))))
 obtain ⟨z4, e5, hm⟩ := ob hm
 refine Lw.t rfl (T.call rfl (p63 (K := [0])  (h0_0.ul a2) e5)) ?_
 rintro _ _ ⟨W6, rfl, l6, rfl⟩
 have a7 := a2.n l6
 refine Lw.g (vI z4) rfl (Lw.nil (Cw.seq (Cw.seq (Cw.region (Lw.m (vI z4) rfl (Lw.lt rfl (Lw.nil (Cw.cond (b := decide ((z4 : Int) < (0 : Int))) rfl (fun hc9 => ?_) (fun hc9 => ?_)))))))))
 ·replace hm := bt hm hc9
  refine Cw.seq (Cw.region (Lw.g (vI (-1)) rfl (Lw.nil ?_)))
  cases hm
  exact Cw.ret (ret1 rfl (Res.mk a7 rfl))
 ·replace hm := bf hm hc9
  refine Cw.skip (Cw.seq (Cw.region (Lw.fa rfl (Lw.r rfl (R.ld (v := v0_1_) rfl rfl ((b1.up l6 rfl).cell rfl)) (Lw.m (vI z4) rfl ?_)))))
  obtain ⟨z11, e12, hm⟩ := ob hm
  refine Lw.t rfl (T.call rfl (p64 (K := [0])  (h0_1.ul a7) e12)) ?_
  rintro _ _ ⟨W13, rfl, l13, rfl⟩
  have a14 := a7.n l13
  refine Lw.g (vI z11) rfl (Lw.nil (Cw.seq (Cw.seq (Cw.region (Lw.m (vI z11) rfl (Lw.lt rfl (Lw.nil (Cw.cond (b := decide ((z11 : Int) < (0 : Int))) rfl (fun hc16 => ?_) (fun hc16 => ?_)))))))))
  ·replace hm := bt hm hc16
   refine Cw.seq (Cw.region (Lw.g (vI (-1)) rfl (Lw.nil ?_)))
   cases hm
   exact Cw.ret (ret1 rfl (Res.mk a14 rfl))
  ·replace hm := bf hm hc16
   refine Cw.skip (Cw.seq (Cw.region (Lw.m (vI z11) rfl (Lw.g (vI z11) rfl (Lw.nil ?_)))))
   cases hm
   exact Cw.ret (ret1 rfl (Res.mk a14 rfl))

theorem p21 {W : CW} {K : List Nat} {x0 : Vm.Repo} {v0_0_ : Value} {v0_1_ : Value} {x1 : Int} {r : Int} (h0 : Rd W K [v0_0_, v0_1_] x0) (hm : Vm.laws_heldRepo x0 x1 = some r) : CallR Tryd.prog 21 [.agg [v0_0_, v0_1_].toArray, vI x1].toArray W.w (Res W [] fun W' v => v = vI r) :=
 (c21 (V := W.view K []) (h0.view _) hm).ad (fk 0) fun _ _ e => e

theorem c4 {V : CW} {x0 : Vm.Repo} {v0_0_ : Value} {v0_1_ : Value} {x1 : Str} {r : Bool} (h0 : Rd V [0] [v0_0_, v0_1_] x0) (h99 : Gl 2 V [0]) (hm : Vm.laws_FnExactRepoDrop x0 x1 = some r) : CallR Tryd.prog 4 [.agg [v0_0_, v0_1_].toArray, vS x1].toArray V.w (Res V LL fun Wf v => v = vB r) := by
 unfold Vm.laws_FnExactRepoDrop at hm
 obtain ⟨w0_0, w0_1, he0, h0_0, h0_1⟩ := Repo.split h0
 simp only [List.cons.injEq, and_true, true_and] at he0
 obtain ⟨rfl, rfl⟩ := he0
 obtain ⟨W0, hW0⟩ : ∃ W, W = V := ⟨V, rfl⟩
 subst hW0
 refine CallR.of Tryd.func4 rfl rfl rfl rfl (Cw.seq (Cw.region (Lw.t rfl (T.box 2 (v := .agg [v0_0_, v0_1_].toArray) (cs := [v0_0_, v0_1_]) rfl rfl) ?_)))
 rintro _ _ ⟨g1, W1, rfl, rfl, l1, b1⟩
 have a2 := l1.o
 refine Lw.g (vB false) rfl (Lw.nil (Cw.seq (Cw.seq (Cw.region (Lw.m (vS x1) rfl (Lw.r rfl (R.lenS rfl) (Lw.gt rfl (Lw.nil (Cw.cond (b := decide ((1048576 : Int) < ((x1.length : Int) : Int))) rfl (fun hc3 => ?_) (fun hc3 => ?_))))))))))
 ·replace hm := bt hm hc3
  refine Cw.seq (Cw.region (Lw.g (vB true) rfl (Lw.nil ?_)))
  cases hm
  exact Cw.ret (ret1 rfl (Res.mk a2 rfl))
 ·replace hm := bf hm hc3
  refine Cw.skip (Cw.seq (Cw.region (Lw.g (vI 1048576) rfl (Lw.nil (Cw.seq (Cw.region (Lw.r rfl (R.lda (cs := [v0_0_, v0_1_]) b1.cells rfl rfl) (Lw.m (vI 1048576) rfl ?_))))))))
  obtain ⟨z6, e7, hm⟩ := ob hm
  refine Lw.t rfl (T.call rfl (p15 (K := [0])  (Repo.rd (K := [0]) x0.Commits x0.Heads (h0_0.ul a2) (h0_1.ul a2)) e7)) ?_
  rintro _ _ ⟨W8, rfl, l8, rfl⟩
  have a9 := a2.n l8
  refine Lw.g (vI z6) rfl (Lw.nil (Cw.seq (Cw.seq (Cw.region (Lw.m (vI z6) rfl (Lw.lt rfl (Lw.nil (Cw.cond (b := decide ((z6 : Int) < (0 : Int))) rfl (fun hc11 => ?_) (fun hc11 => ?_)))))))))
  ·replace hm := bt hm hc11
   refine Cw.seq (Cw.region (Lw.g (vB true) rfl (Lw.nil ?_)))
   cases hm
   exact Cw.ret (ret1 rfl (Res.mk a9 rfl))
  ·replace hm := bf hm hc11
   refine Cw.skip (Cw.seq (Cw.region (Lw.r rfl (R.lda (cs := [v0_0_, v0_1_]) (b1.up l8 rfl).cells rfl rfl) ?_)))
   obtain ⟨z14, e15, hm⟩ := ob hm
   refine Lw.t rfl (T.call rfl (p17 (K := [0]) (k0 := 3) (k1 := 4) (Repo.rd (K := [0]) x0.Commits x0.Heads (h0_0.ul a9) (h0_1.ul a9)) e15)) ?_
   rintro _ _ ⟨W16, rfl, l16, ⟨v0_0_16, v0_1_16, rfl, f16_0, f16_1⟩⟩
   have a17 := a9.n l16
   refine Lw.m (vS x1) rfl ?_
   obtain ⟨z19, e20, hm⟩ := ob hm
   refine Lw.t rfl (T.call rfl (p16 (K := [3, 4]) (k0 := 5) (k1 := 6) (x0 := (Vm.Repo.mk z14.Commits z14.Heads)) (Repo.rd (K := [3, 4]) z14.Commits z14.Heads (f16_0.rd.sub (M := [3, 4]) rfl) (f16_1.rd.sub (M := [3, 4]) rfl)) e20)) ?_
   rintro _ _ ⟨W21, rfl, l21, ⟨v0_0_21, v0_1_21, rfl, f21_0, f21_1⟩⟩
   have a22 := a17.n l21
   refine Lw.m (.tuple [.agg [v0_0_21, v0_1_21].toArray, vB z19.2].toArray) rfl (Lw.r rfl (R.ext (vs := [.agg [v0_0_21, v0_1_21].toArray, vB z19.2]) (v := .agg [v0_0_21, v0_1_21].toArray) rfl rfl) (Lw.r rfl (R.ext (vs := [.agg [v0_0_21, v0_1_21].toArray, vB z19.2]) (v := vB z19.2) rfl rfl) (Lw.t rfl (T.alloc 7 (cs := [.slice none 0 0, .slice none 0 0]) rfl) ?_)))
   rintro _ _ ⟨g26, W26, rfl, rfl, l26, b26⟩
   have a27 := a22.n l26
   refine Lw.u (T.sta (vs := [v0_0_21, v0_1_21]) b26 rfl rfl (oc_cons (f21_0.up l26 rfl).oc (oc_cons (f21_1.up l26 rfl).oc oc_nil)) rfl rfl) ?_
   rintro _ _ ⟨W33, rfl, l33, b33⟩
   have a34 := a27.t l33 rfl
   have b39 := ((((b1.up l8 rfl).up l16 rfl).up l21 rfl).up l26 rfl).up l33 rfl
   refine Lw.g (vB z19.2) rfl (Lw.nil (Cw.seq (Cw.region (Lw.r rfl (R.lda (cs := [v0_0_, v0_1_]) b39.cells rfl rfl) ?_))))
   obtain ⟨z42, e43, hm⟩ := ob hm
   refine Lw.t rfl (T.call rfl (p17 (K := [0]) (k0 := 8) (k1 := 9) (Repo.rd (K := [0]) x0.Commits x0.Heads (h0_0.ul a34) (h0_1.ul a34)) e43)) ?_
   rintro _ _ ⟨W44, rfl, l44, ⟨v0_0_44, v0_1_44, rfl, f44_0, f44_1⟩⟩
   have a45 := a34.n l44
   refine Lw.t rfl (T.alloc 10 (cs := [.slice none 0 0, .slice none 0 0]) rfl) ?_
   rintro _ _ ⟨g52, W52, rfl, rfl, l52, b52⟩
   have a53 := a45.n l52
   refine Lw.u (T.sta (vs := [v0_0_44, v0_1_44]) b52 rfl rfl (oc_cons (f44_0.up l52 rfl).oc (oc_cons (f44_1.up l52 rfl).oc oc_nil)) rfl rfl) ?_
   rintro _ _ ⟨W62, rfl, l62, b62⟩
   have a63 := a53.t l62 rfl
   have o68 := (f44_0.up l52 rfl).up l62 rfl
   have o69 := (f44_1.up l52 rfl).up l62 rfl
   refine Lw.nil (Cw.seq (Cw.region (Lw.r rfl (R.lda (cs := [v0_0_44, v0_1_44]) b62.cells rfl rfl) (Lw.m (vS x1) rfl ?_))))
   obtain ⟨z73, e74, hm⟩ := ob hm
   refine Lw.t rfl (T.call rfl (p18 (K := [0, 8, 9]) (k0 := 11) (k1 := 12) (x0 := (Vm.Repo.mk z42.Commits z42.Heads)) ((Repo.rd (K := [8, 9]) z42.Commits z42.Heads (o68.rd.sub (M := [8, 9]) rfl) (o69.rd.sub (M := [8, 9]) rfl)).sub (M := [0, 8, 9]) rfl) ((h99.ul a63).sub (M := [0, 8, 9]) rfl) e74)) ?_
   rintro _ _ ⟨W75, rfl, l75, ⟨v0_0_75, v0_1_75, rfl, f75_0, f75_1⟩⟩
   have a76 := a63.n l75
   refine Lw.m (.tuple [.agg [v0_0_75, v0_1_75].toArray, vB z73.2].toArray) rfl (Lw.r rfl (R.ext (vs := [.agg [v0_0_75, v0_1_75].toArray, vB z73.2]) (v := .agg [v0_0_75, v0_1_75].toArray) rfl rfl) (Lw.r rfl (R.ext (vs := [.agg [v0_0_75, v0_1_75].toArray, vB z73.2]) (v := vB z73.2) rfl rfl) (Lw.t rfl (T.alloc 13 (cs := [.slice none 0 0, .slice none 0 0]) rfl) ?_)))
   rintro _ _ ⟨g86, W86, rfl, rfl, l86, b86⟩
   have a87 := a76.n l86
   refine Lw.u (T.sta (vs := [v0_0_75, v0_1_75]) b86 rfl rfl (oc_cons (f75_0.up l86 rfl).oc (oc_cons (f75_1.up l86 rfl).oc oc_nil)) rfl rfl) ?_
   rintro _ _ ⟨W99, rfl, l99, b99⟩
   have a100 := a87.t l99 rfl
   have o103 := (((((((f21_0.up l26 rfl).up l33 rfl).up l44 rfl).up l52 rfl).up l62 rfl).up l75 rfl).up l86 rfl).up l99 rfl
   have o104 := (((((((f21_1.up l26 rfl).up l33 rfl).up l44 rfl).up l52 rfl).up l62 rfl).up l75 rfl).up l86 rfl).up l99 rfl
   have o107 := (f75_0.up l86 rfl).up l99 rfl
   have o108 := (f75_1.up l86 rfl).up l99 rfl
   have b110 := (((((b33.up l44 rfl).up l52 rfl).up l62 rfl).up l75 rfl).up l86 rfl).up l99 rfl
   refine Lw.g (vB z73.2) rfl (Lw.nil (Cw.seq ?_))
   obtain ⟨K114, hK114, hm⟩ := jn_e hm
   refine Cw.join 39 47 [47] (fun l w => ∃ (y112 : Bool) (W113 : CW), W113.w = w ∧ Le [] W99 W113 ∧ l = [vB y112] ∧ K114 y112 = some r) ?_ ?_
   ·rintro _ _ σ ⟨y112, W113, rfl, l113, rfl, hm⟩
    rw [hK114] at hm
    have a115 := a100.n l113
    refine Cw.cond (b := y112) rfl (fun hc128 => ?_) (fun hc128 => ?_)
    ·replace hm := bt hm hc128
     refine Cw.seq (Cw.region (Lw.g (vB false) rfl (Lw.nil ?_)))
     cases hm
     exact Cw.ret (ret1 rfl (Res.mk a115 rfl))
    ·replace hm := bf hm hc128
     refine Cw.skip (Cw.seq (Cw.seq (Cw.draw [] [(0, 1), (1, 1), (2, 2), (3, 2), (4, 0)] mixed (by kernel_rfl) fun W129 l129 => ?_)))
     have a130 := a115.n l129
     have b139 := (((((((b39.up l44 rfl).up l52 rfl).up l62 rfl).up l75 rfl).up l86 rfl).up l99 rfl).up l113 rfl).up l129 rfl
     have b141 := ((((b62.up l75 rfl).up l86 rfl).up l99 rfl).up l113 rfl).up l129 rfl
     refine Mw.q rfl rfl (fun _ c => R.lda (cs := [v0_0_44, v0_1_44]) (b141.clcs rfl c) rfl rfl) (Mw.q rfl rfl (fun _ c => R.lda (cs := [v0_0_, v0_1_]) (b139.clcs rfl c) rfl rfl) ?_)
     obtain ⟨z145, e146, hm⟩ := ob hm
     refine Mw.t rfl rfl (T.call rfl (p17 (K := [0]) (k0 := 14) (k1 := 15) (Repo.rd (K := [0]) x0.Commits x0.Heads (h0_0.ul a130) (h0_1.ul a130)) e146)) ?_
     rintro _ _ ⟨W147, rfl, l147, ⟨v0_0_147, v0_1_147, rfl, f147_0, f147_1⟩⟩
     have a148 := a130.n l147
     have o153 := (((((o68.up l75 rfl).up l86 rfl).up l99 rfl).up l113 rfl).up l129 rfl).up l147 rfl
     have o154 := (((((o69.up l75 rfl).up l86 rfl).up l99 rfl).up l113 rfl).up l129 rfl).up l147 rfl
     refine ⟨⟨_, rfl, (l147.sub (M := []) rfl)⟩, ?_⟩
     obtain ⟨z161, e162, hm⟩ := ob hm
     refine Mw.t rfl rfl (T.call rfl (p19 (K := [8, 9, 14, 15])  (x0 := (Vm.Repo.mk z42.Commits z42.Heads)) (x1 := (Vm.Repo.mk z145.Commits z145.Heads)) ((Repo.rd (K := [8, 9]) z42.Commits z42.Heads (o153.rd.sub (M := [8, 9]) rfl) (o154.rd.sub (M := [8, 9]) rfl)).sub (M := [8, 9, 14, 15]) rfl) ((Repo.rd (K := [14, 15]) z145.Commits z145.Heads (f147_0.rd.sub (M := [14, 15]) rfl) (f147_1.rd.sub (M := [14, 15]) rfl)).sub (M := [8, 9, 14, 15]) rfl) e162)) ?_
     rintro _ _ ⟨W163, rfl, l163, rfl⟩
     have a164 := a148.n l163
     refine ⟨⟨_, rfl, ((l147.sub (M := []) rfl).trans (l163.sub (M := []) rfl))⟩, ?_⟩
     refine Mw.p rfl rfl (fun _ => R.not rfl) (Mw.nil (Cw.cond (b := (!z161)) rfl (fun hc179 => ?_) (fun hc179 => ?_)))
     ·replace hm := bt hm hc179
      refine Cw.seq (Cw.region (Lw.g (vB false) rfl (Lw.nil ?_)))
      cases hm
      exact Cw.ret (ret1 rfl (Res.mk a164 rfl))
     ·replace hm := bf hm hc179
      refine Cw.skip (Cw.seq (Cw.region (Lw.g (vI 1) rfl (Lw.nil (Cw.seq (Cw.region (Lw.r rfl (R.lda (cs := [v0_0_44, v0_1_44]) ((b141.up l147 rfl).up l163 rfl).cells rfl rfl) (Lw.m (vI 1) rfl ?_))))))))
      obtain ⟨z180, e181, hm⟩ := ob hm
      refine Lw.t rfl (T.call rfl (p20 (K := [0])  (c0 := 8) (c1 := 9) (x0 := (Vm.Repo.mk z42.Commits z42.Heads)) (o153.up l163 rfl) (o154.up l163 rfl) rfl e181)) ?_
      rintro _ _ ⟨W182, rfl, l182, ⟨rfl, f182_0, f182_1⟩⟩
      have a183 := a164.t l182 rfl
      have o186 := ((((o103.up l113 rfl).up l129 rfl).up l147 rfl).up l163 rfl).up l182 rfl
      have o187 := ((((o104.up l113 rfl).up l129 rfl).up l147 rfl).up l163 rfl).up l182 rfl
      have o188 := ((((o107.up l113 rfl).up l129 rfl).up l147 rfl).up l163 rfl).up l182 rfl
      have o189 := ((((o108.up l113 rfl).up l129 rfl).up l147 rfl).up l163 rfl).up l182 rfl
      have b193 := ((((b110.up l113 rfl).up l129 rfl).up l147 rfl).up l163 rfl).up l182 rfl
      have b195 := ((((b99.up l113 rfl).up l129 rfl).up l147 rfl).up l163 rfl).up l182 rfl
      refine Lw.g (vI z180.1) rfl (Lw.nil (Cw.seq ?_))
      obtain ⟨K198, hK198, hm⟩ := jn_e hm
      refine Cw.join 56 68 [68] (fun l w => ∃ (y196 : Bool) (W197 : CW), W197.w = w ∧ Le [] W182 W197 ∧ l = [vB y196] ∧ K198 y196 = some r) ?_ ?_
      ·rintro _ _ σ ⟨y196, W197, rfl, l197, rfl, hm⟩
       rw [hK198] at hm
       have a199 := a183.n l197
       refine Cw.cond (b := y196) rfl (fun hc214 => ?_) (fun hc214 => ?_)
       ·replace hm := bt hm hc214
        refine Cw.seq (Cw.region (Lw.g (vB false) rfl (Lw.nil ?_)))
        cases hm
        exact Cw.ret (ret1 rfl (Res.mk a199 rfl))
       ·replace hm := bf hm hc214
        refine Cw.skip (Cw.seq (Cw.region (Lw.g (vI 1) rfl (Lw.nil (Cw.seq (Cw.region (Lw.r rfl (R.lda (cs := [v0_0_75, v0_1_75]) (b195.up l197 rfl).cells rfl rfl) (Lw.m (vI 1) rfl ?_))))))))
        obtain ⟨z215, e216, hm⟩ := ob hm
        refine Lw.t rfl (T.call rfl (p20 (K := [0])  (c0 := 11) (c1 := 12) (x0 := (Vm.Repo.mk z73.1.Commits z73.1.Heads)) (o188.up l197 rfl) (o189.up l197 rfl) rfl e216)) ?_
        rintro _ _ ⟨W217, rfl, l217, ⟨rfl, f217_0, f217_1⟩⟩
        have a218 := a199.t l217 rfl
        have b230 := (b195.up l197 rfl).up l217 rfl
        refine Lw.g (vI z215.1) rfl (Lw.nil (Cw.seq (Cw.region (Lw.g (vI 1) rfl (Lw.nil (Cw.seq (Cw.region (Lw.r rfl (R.lda (cs := [v0_0_75, v0_1_75]) b230.cells rfl rfl) (Lw.m (vI 1) rfl ?_)))))))))
        obtain ⟨z231, e232, hm⟩ := ob hm
        refine Lw.t rfl (T.call rfl (p21 (K := [11, 12])  (x0 := (Vm.Repo.mk z215.2.Commits z215.2.Heads)) (Repo.rd (K := [11, 12]) z215.2.Commits z215.2.Heads (f217_0.rd.sub (M := [11, 12]) rfl) (f217_1.rd.sub (M := [11, 12]) rfl)) e232)) ?_
        rintro _ _ ⟨W233, rfl, l233, rfl⟩
        have a234 := a218.n l233
        refine Lw.g (vI z231) rfl (Lw.nil (Cw.seq (Cw.seq (Cw.region (Lw.m (vI z231) rfl (Lw.lt rfl (Lw.nil (Cw.cond (b := decide ((z231 : Int) < (0 : Int))) rfl (fun hc249 => ?_) (fun hc249 => ?_)))))))))
        ·replace hm := bt hm hc249
         refine Cw.seq (Cw.region (Lw.g (vB false) rfl (Lw.nil ?_)))
         cases hm
         exact Cw.ret (ret1 rfl (Res.mk a234 rfl))
        ·replace hm := bf hm hc249
         refine Cw.skip (Cw.seq (Cw.seq (Cw.region (Lw.m (vI z231) rfl (Lw.m (vI z215.1) rfl (Lw.ne rfl (Lw.nil (Cw.cond (b := ((z231 : Int) != (z215.1 : Int))) rfl (fun hc250 => ?_) (fun hc250 => ?_)))))))))
         ·replace hm := bt hm hc250
          refine Cw.seq (Cw.region (Lw.g (vB false) rfl (Lw.nil ?_)))
          cases hm
          exact Cw.ret (ret1 rfl (Res.mk a234 rfl))
         ·replace hm := bf hm hc250
          refine Cw.skip (Cw.seq (Cw.region (Lw.r rfl (R.lda (cs := [v0_0_, v0_1_]) ((((((b139.up l147 rfl).up l163 rfl).up l182 rfl).up l197 rfl).up l217 rfl).up l233 rfl).cells rfl rfl) ?_)))
          obtain ⟨z253, e254, hm⟩ := ob hm
          refine Lw.t rfl (T.call rfl (p17 (K := [0]) (k0 := 16) (k1 := 17) (Repo.rd (K := [0]) x0.Commits x0.Heads (h0_0.ul a234) (h0_1.ul a234)) e254)) ?_
          rintro _ _ ⟨W255, rfl, l255, ⟨v0_0_255, v0_1_255, rfl, f255_0, f255_1⟩⟩
          have a256 := a234.n l255
          refine Lw.m (vS x1) rfl ?_
          obtain ⟨z272, e273, hm⟩ := ob hm
          refine Lw.t rfl (T.call rfl (p18 (K := [0, 16, 17]) (k0 := 18) (k1 := 19) (x0 := (Vm.Repo.mk z253.Commits z253.Heads)) ((Repo.rd (K := [16, 17]) z253.Commits z253.Heads (f255_0.rd.sub (M := [16, 17]) rfl) (f255_1.rd.sub (M := [16, 17]) rfl)).sub (M := [0, 16, 17]) rfl) ((h99.ul a256).sub (M := [0, 16, 17]) rfl) e273)) ?_
          rintro _ _ ⟨W274, rfl, l274, ⟨v0_0_274, v0_1_274, rfl, f274_0, f274_1⟩⟩
          have a275 := a256.n l274
          refine Lw.m (.tuple [.agg [v0_0_274, v0_1_274].toArray, vB z272.2].toArray) rfl (Lw.r rfl (R.ext (vs := [.agg [v0_0_274, v0_1_274].toArray, vB z272.2]) (v := .agg [v0_0_274, v0_1_274].toArray) rfl rfl) (Lw.r rfl (R.ext (vs := [.agg [v0_0_274, v0_1_274].toArray, vB z272.2]) (v := vB z272.2) rfl rfl) (Lw.t rfl (T.alloc 20 (cs := [.slice none 0 0, .slice none 0 0]) rfl) ?_)))
          rintro _ _ ⟨g292, W292, rfl, rfl, l292, b292⟩
          have a293 := a275.n l292
          refine Lw.u (T.sta (vs := [v0_0_274, v0_1_274]) b292 rfl rfl (oc_cons (f274_0.up l292 rfl).oc (oc_cons (f274_1.up l292 rfl).oc oc_nil)) rfl rfl) ?_
          rintro _ _ ⟨W312, rfl, l312, b312⟩
          have a313 := a293.t l312 rfl
          refine Lw.g (vB z272.2) rfl (Lw.nil (Cw.seq ?_))
          obtain ⟨K334, hK334, hm⟩ := jn_e hm
          refine Cw.join 87 95 [95] (fun l w => ∃ (y332 : Bool) (W333 : CW), W333.w = w ∧ Le [] W312 W333 ∧ l = [vB y332] ∧ K334 y332 = some r) ?_ ?_
          ·rintro _ _ σ ⟨y332, W333, rfl, l333, rfl, hm⟩
           rw [hK334] at hm
           have a335 := a313.n l333
           refine Cw.cond (b := y332) rfl (fun hc355 => ?_) (fun hc355 => ?_)
           ·replace hm := bt hm hc355
            refine Cw.seq (Cw.region (Lw.g (vB false) rfl (Lw.nil ?_)))
            cases hm
            exact Cw.ret (ret1 rfl (Res.mk a335 rfl))
           ·replace hm := bf hm hc355
            refine Cw.skip (Cw.seq (Cw.region (Lw.g (vI 1) rfl (Lw.nil (Cw.seq (Cw.region (Lw.r rfl (R.lda (cs := [v0_0_75, v0_1_75]) ((((((b230.up l233 rfl).up l255 rfl).up l274 rfl).up l292 rfl).up l312 rfl).up l333 rfl).cells rfl rfl) (Lw.m (vI 1) rfl ?_))))))))
            obtain ⟨z356, e357, hm⟩ := ob hm
            refine Lw.t rfl (T.call rfl (p21 (K := [11, 12])  (x0 := (Vm.Repo.mk z215.2.Commits z215.2.Heads)) (Repo.rd (K := [11, 12]) z215.2.Commits z215.2.Heads (((((((f217_0.up l233 rfl).up l255 rfl).up l274 rfl).up l292 rfl).up l312 rfl).up l333 rfl).rd.sub (M := [11, 12]) rfl) (((((((f217_1.up l233 rfl).up l255 rfl).up l274 rfl).up l292 rfl).up l312 rfl).up l333 rfl).rd.sub (M := [11, 12]) rfl)) e357)) ?_
            rintro _ _ ⟨W358, rfl, l358, rfl⟩
            have a359 := a335.n l358
            refine Lw.g (vI z356) rfl (Lw.nil (Cw.seq (Cw.seq (Cw.region (Lw.m (vI z356) rfl (Lw.lt rfl (Lw.nil (Cw.cond (b := decide ((z356 : Int) < (0 : Int))) rfl (fun hc379 => ?_) (fun hc379 => ?_)))))))))
            ·replace hm := bt hm hc379
             refine Cw.seq (Cw.region (Lw.g (vB false) rfl (Lw.nil ?_)))
             cases hm
             exact Cw.ret (ret1 rfl (Res.mk a359 rfl))
            ·replace hm := bf hm hc379
             refine Cw.skip (Cw.seq (Cw.seq (Cw.region (Lw.m (vI z356) rfl (Lw.m (vI z215.1) rfl (Lw.ne rfl (Lw.nil (Cw.cond (b := ((z356 : Int) != (z215.1 : Int))) rfl (fun hc380 => ?_) (fun hc380 => ?_)))))))))
             ·replace hm := bt hm hc380
              refine Cw.seq (Cw.region (Lw.g (vB false) rfl (Lw.nil ?_)))
              cases hm
              exact Cw.ret (ret1 rfl (Res.mk a359 rfl))
             ·replace hm := bf hm hc380
              refine Cw.skip (Cw.seq (Cw.region (Lw.g (vB true) rfl (Lw.nil ?_))))
              cases hm
              exact Cw.ret (ret1 rfl (Res.mk a359 rfl))
          ·refine Cw.region (Lw.r rfl (R.lda (cs := [v0_0_274, v0_1_274]) b312.cells rfl rfl) (Lw.r rfl (R.lda (cs := [v0_0_21, v0_1_21]) (((((((b193.up l197 rfl).up l217 rfl).up l233 rfl).up l255 rfl).up l274 rfl).up l292 rfl).up l312 rfl).cells rfl rfl) ?_))
           obtain ⟨z381, e382, hm⟩ := ob hm
           refine Lw.t rfl (T.call rfl (p19 (K := [5, 6, 18, 19])  (x0 := (Vm.Repo.mk z272.1.Commits z272.1.Heads)) (x1 := (Vm.Repo.mk z19.1.Commits z19.1.Heads)) ((Repo.rd (K := [18, 19]) z272.1.Commits z272.1.Heads (((f274_0.up l292 rfl).up l312 rfl).rd.sub (M := [18, 19]) rfl) (((f274_1.up l292 rfl).up l312 rfl).rd.sub (M := [18, 19]) rfl)).sub (M := [5, 6, 18, 19]) rfl) ((Repo.rd (K := [5, 6]) z19.1.Commits z19.1.Heads ((((((((o186.up l197 rfl).up l217 rfl).up l233 rfl).up l255 rfl).up l274 rfl).up l292 rfl).up l312 rfl).rd.sub (M := [5, 6]) rfl) ((((((((o187.up l197 rfl).up l217 rfl).up l233 rfl).up l255 rfl).up l274 rfl).up l292 rfl).up l312 rfl).rd.sub (M := [5, 6]) rfl)).sub (M := [5, 6, 18, 19]) rfl) e382)) ?_
           rintro _ _ ⟨W383, rfl, l383, rfl⟩
           refine Lw.r rfl (R.not rfl) (Lw.m (vB (!z381)) rfl (bsplit (!z381) (fun hc404 => ?_) (fun hc404 => ?_)))
           ·replace hm := bt hm hc404
            refine Lw.ps hc404 rfl (Lw.ps hc404 rfl (Lw.ps hc404 rfl (Lw.p hc404 (vB true) rfl (Lw.nil (⟨?_, ⟨true, W383, rfl, l383, rfl, hm⟩⟩)))))
            iterate 9 (refine .u ?_)
            exact Agree.refl _
           ·replace hm := bf hm hc404
            refine Lw.wa hc404 rfl (Lw.m (vB z272.2) rfl (Lw.wa hc404 rfl (Lw.m (vB z19.2) rfl (Lw.wa hc404 rfl (Lw.r rfl (R.bne rfl rfl) (Lw.p hc404 (vB (z272.2 != z19.2)) rfl (Lw.nil (⟨?_, ⟨(z272.2 != z19.2), W383, rfl, l383, rfl, hm⟩⟩))))))))
            iterate 9 (refine .u ?_)
            exact Agree.refl _
      ·refine Cw.region (Lw.m (vI z180.1) rfl (Lw.lt rfl (Lw.m (vB (decide ((z180.1 : Int) < (0 : Int)))) rfl (bsplit (decide ((z180.1 : Int) < (0 : Int))) (fun hc405 => ?_) (fun hc405 => ?_)))))
       ·replace hm := bt hm hc405
        refine Lw.ps hc405 rfl (Lw.ps hc405 rfl (Lw.ps hc405 rfl (Lw.ps hc405 rfl (Lw.p hc405 (vB true) rfl (Lw.m (vB true) rfl (Lw.ps rfl rfl (Lw.ps rfl rfl (Lw.ps rfl rfl (Lw.p rfl (vB true) rfl (Lw.nil (⟨?_, ⟨true, W182, rfl, Le.refl _ _, rfl, hm⟩⟩)))))))))))
        iterate 13 (refine .u ?_)
        exact Agree.refl _
       ·replace hm := bf hm hc405
        refine Lw.wa hc405 rfl (Lw.r rfl (R.lda (cs := [v0_0_75, v0_1_75]) b195.cells rfl rfl) (Lw.wa hc405 rfl (Lw.r rfl (R.lda (cs := [v0_0_21, v0_1_21]) b193.cells rfl rfl) (Lw.wa hc405 rfl ?_))))
        obtain ⟨z406, e407, hm⟩ := ob hm
        refine Lw.t rfl (T.call rfl (p19 (K := [5, 6, 11, 12])  (x0 := (Vm.Repo.mk z73.1.Commits z73.1.Heads)) (x1 := (Vm.Repo.mk z19.1.Commits z19.1.Heads)) ((Repo.rd (K := [11, 12]) z73.1.Commits z73.1.Heads (o188.rd.sub (M := [11, 12]) rfl) (o189.rd.sub (M := [11, 12]) rfl)).sub (M := [5, 6, 11, 12]) rfl) ((Repo.rd (K := [5, 6]) z19.1.Commits z19.1.Heads (o186.rd.sub (M := [5, 6]) rfl) (o187.rd.sub (M := [5, 6]) rfl)).sub (M := [5, 6, 11, 12]) rfl) e407)) ?_
        rintro _ _ ⟨W408, rfl, l408, rfl⟩
        refine Lw.wa hc405 rfl (Lw.r rfl (R.not rfl) (Lw.p hc405 (vB (!z406)) rfl (Lw.m (vB (!z406)) rfl (bsplit (!z406) (fun hc424 => ?_) (fun hc424 => ?_)))))
        ·replace hm := bt hm hc424
         refine Lw.ps hc424 rfl (Lw.ps hc424 rfl (Lw.ps hc424 rfl (Lw.p hc424 (vB true) rfl (Lw.nil (⟨?_, ⟨true, W408, rfl, l408, rfl, hm⟩⟩)))))
         iterate 13 (refine .u ?_)
         exact Agree.refl _
        ·replace hm := bf hm hc424
         refine Lw.wa hc424 rfl (Lw.m (vB z73.2) rfl (Lw.wa hc424 rfl (Lw.m (vB z19.2) rfl (Lw.wa hc424 rfl (Lw.r rfl (R.bne rfl rfl) (Lw.p hc424 (vB (z73.2 != z19.2)) rfl (Lw.nil (⟨?_, ⟨(z73.2 != z19.2), W408, rfl, l408, rfl, hm⟩⟩))))))))
         iterate 13 (refine .u ?_)
         exact Agree.refl _
   ·refine Cw.region (Lw.r rfl (R.lda (cs := [v0_0_75, v0_1_75]) b99.cells rfl rfl) (Lw.r rfl (R.lda (cs := [v0_0_21, v0_1_21]) b110.cells rfl rfl) ?_))
    obtain ⟨z425, e426, hm⟩ := ob hm
    refine Lw.t rfl (T.call rfl (p19 (K := [5, 6, 11, 12])  (x0 := (Vm.Repo.mk z73.1.Commits z73.1.Heads)) (x1 := (Vm.Repo.mk z19.1.Commits z19.1.Heads)) ((Repo.rd (K := [11, 12]) z73.1.Commits z73.1.Heads (o107.rd.sub (M := [11, 12]) rfl) (o108.rd.sub (M := [11, 12]) rfl)).sub (M := [5, 6, 11, 12]) rfl) ((Repo.rd (K := [5, 6]) z19.1.Commits z19.1.Heads (o103.rd.sub (M := [5, 6]) rfl) (o104.rd.sub (M := [5, 6]) rfl)).sub (M := [5, 6, 11, 12]) rfl) e426)) ?_
    rintro _ _ ⟨W427, rfl, l427, rfl⟩
    refine Lw.r rfl (R.not rfl) (Lw.m (vB (!z425)) rfl (bsplit (!z425) (fun hc441 => ?_) (fun hc441 => ?_)))
    ·replace hm := bt hm hc441
     refine Lw.ps hc441 rfl (Lw.ps hc441 rfl (Lw.ps hc441 rfl (Lw.p hc441 (vB true) rfl (Lw.nil (⟨?_, ⟨true, W427, rfl, l427, rfl, hm⟩⟩)))))
     iterate 9 (refine .u ?_)
     exact Agree.refl _
    ·replace hm := bf hm hc441
     refine Lw.wa hc441 rfl (Lw.m (vB z73.2) rfl (Lw.wa hc441 rfl (Lw.m (vB z19.2) rfl (Lw.wa hc441 rfl (Lw.r rfl (R.bne rfl rfl) (Lw.p hc441 (vB (z73.2 != z19.2)) rfl (Lw.nil (⟨?_, ⟨(z73.2 != z19.2), W427, rfl, l427, rfl, hm⟩⟩))))))))
     iterate 9 (refine .u ?_)
     exact Agree.refl _

theorem p4 {W : CW} {K : List Nat} {x0 : Vm.Repo} {v0_0_ : Value} {v0_1_ : Value} {x1 : Str} {r : Bool} (h0 : Rd W K [v0_0_, v0_1_] x0) (h99 : Gl 2 W K) (hm : Vm.laws_FnExactRepoDrop x0 x1 = some r) : CallR Tryd.prog 4 [.agg [v0_0_, v0_1_].toArray, vS x1].toArray W.w (Res W [] fun W' v => v = vB r) :=
 (c4 (V := W.view K []) (h0.view _) (h99.view _) hm).ad (fk 0) fun _ _ e => e

end Go.Sx
