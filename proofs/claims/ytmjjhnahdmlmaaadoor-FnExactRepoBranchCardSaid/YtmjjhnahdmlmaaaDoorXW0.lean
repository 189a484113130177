/- Walks: each function answers as its model, printed by a program of ours. Conditions: the arguments read as they are given. -/
import Derived.Test.YtmjjhnahdmlmaaaDoorXTs
import Derived.Test.YtmjjhnahdmlmaaaDoorXMd
namespace Go.Sx
open Go Go.Proofs Go.Vm Rp
set_option linter.unusedVariables false
set_option linter.unusedSimpArgs false

theorem c126 {V : CW} {x0 : List Int} {v0_ : Value} {x1 : Int} {r : Int} (h0 : Rd V [0] [v0_] x0) (hm : Vm.laws_szIntS x0 x1 = some r) : CallR Tryd.prog 126 [v0_, vI x1].toArray V.w (Res V LL fun Wf v => v = vI r) := by
 unfold Vm.laws_szIntS at hm
 obtain ⟨W0, hW0⟩ : ∃ W, W = V := ⟨V, rfl⟩
 subst hW0
 refine CallR.of Tryd.func126 rfl rfl rfl rfl (Cw.seq (Cw.region (Lw.g (vI 0) rfl (Lw.nil (Cw.seq (Cw.region (Lw.m (vI x1) rfl (Lw.m v0_ rfl (Lw.ln x0 h0 rfl (Lw.sub rfl (Lw.g (vI (w64 (x1 - (x0.length : Int)))) rfl (Lw.nil (Cw.seq (Cw.seq (Cw.region (Lw.m (vI (w64 (x1 - (x0.length : Int)))) rfl (Lw.lt rfl (Lw.nil (Cw.cond (b := decide ((w64 (x1 - (x0.length : Int)) : Int) < (0 : Int))) rfl (fun hc1 => ?_) (fun hc1 => ?_))))))))))))))))))))
 ·replace hm := bt hm hc1
  refine Cw.seq (Cw.region (Lw.g (vI (-1)) rfl (Lw.nil ?_)))
  cases hm
  exact Cw.ret (ret1 rfl (Res.mk (Le.refl _ _) rfl))
 ·replace hm := bf hm hc1
  refine Cw.skip (Cw.seq (Cw.region (Lw.m (vI (w64 (x1 - (x0.length : Int)))) rfl (Lw.g (vI (w64 (x1 - (x0.length : Int)))) rfl (Lw.nil ?_)))))
  cases hm
  exact Cw.ret (ret1 rfl (Res.mk (Le.refl _ _) rfl))

theorem p126 {W : CW} {K : List Nat} {x0 : List Int} {v0_ : Value} {x1 : Int} {r : Int} (h0 : Rd W K [v0_] x0) (hm : Vm.laws_szIntS x0 x1 = some r) : CallR Tryd.prog 126 [v0_, vI x1].toArray W.w (Res W [] fun W' v => v = vI r) :=
 (c126 (V := W.view K []) (h0.view _) hm).ad (fk 0) fun _ _ e => e

theorem c47 {V : CW} {x0 : List Str} {v0_ : Value} {x1 : Int} {r : Int} (h0 : Rd V [0] [v0_] x0) (hm : Vm.laws_szStringS x0 x1 = some r) : CallR Tryd.prog 47 [v0_, vI x1].toArray V.w (Res V LL fun Wf v => v = vI r) := by
 unfold Vm.laws_szStringS at hm
 obtain ⟨W0, hW0⟩ : ∃ W, W = V := ⟨V, rfl⟩
 subst hW0
 refine CallR.of Tryd.func47 rfl rfl rfl rfl (Cw.seq (Cw.region (Lw.g (vI 0) rfl (Lw.nil (Cw.seq (Cw.region (Lw.m (vI x1) rfl (Lw.m v0_ rfl (Lw.ln x0 h0 rfl (Lw.sub rfl (Lw.g (vI (w64 (x1 - (x0.length : Int)))) rfl (Lw.nil (Cw.seq (Cw.seq (Cw.region (Lw.m (vI (w64 (x1 - (x0.length : Int)))) rfl (Lw.lt rfl (Lw.nil (Cw.cond (b := decide ((w64 (x1 - (x0.length : Int)) : Int) < (0 : Int))) rfl (fun hc1 => ?_) (fun hc1 => ?_))))))))))))))))))))
 ·replace hm := bt hm hc1
  refine Cw.seq (Cw.region (Lw.g (vI (-1)) rfl (Lw.nil ?_)))
  cases hm
  exact Cw.ret (ret1 rfl (Res.mk (Le.refl _ _) rfl))
 ·replace hm := bf hm hc1
  refine Cw.skip (Cw.seq (Cw.seq (Cw.region (Lw.g (vI 0) rfl (Lw.nil (Cw.block ?_))))))
  obtain ⟨K6, hK6, hm⟩ := jn_e hm
  refine Cw.loop 12 26 [1, 4, 5] (fun m l w => ∃ (y2 : Int) (y3 : Int) (y4 : Int) (W5 : CW), W5.w = w ∧ Le [] W0 W5 ∧ l = [vI y2, vI y3, vI y4] ∧ Vm.laws_szStringS_l1 x0 K6 m y2 y3 y4 = some r) (((x0.length : Int) - 0).toNat + 1) ⟨w64 (x1 - (x0.length : Int)), 0, 0, W0, rfl, Le.refl _ _, rfl, hm⟩ ?_
  rintro m7 _ _ σ ⟨y2, y3, y4, W5, rfl, l5, rfl, hm⟩
  obtain _ | m7 := m7
  ·cases hm
  unfold Vm.laws_szStringS_l1 at hm
  have a8 := l5.o
  refine Cw.seq (Cw.seq (Cw.region ?_))
  have s9 := h0.ul a8
  refine Lw.m (vI y4) rfl (Lw.m v0_ rfl (Lw.ln x0 s9 rfl (Lw.lt rfl (Lw.nil (Cw.cond (b := decide ((y4 : Int) < ((x0.length : Int) : Int))) rfl (fun hc10 => ?_) (fun hc10 => ?_))))))
  ·replace hm := bt hm hc10
   refine Cw.skip (Cw.seq (Cw.block (Cw.seq (Cw.region (Lw.m (vI y2) rfl (Lw.m v0_ rfl (Lw.m (vI y4) rfl ?_)))))))
   obtain ⟨u11, e12, hm⟩ := ob hm
   refine Lw.r rfl (R.ix (α := Str) s9 e12 rfl rfl rfl) (Lw.r rfl (R.ld rfl rfl (s9.at_ e12).str) (Lw.r rfl (R.lenS rfl) (Lw.sub rfl (Lw.g (vI (w64 (y2 - (u11.length : Int)))) rfl (Lw.nil (Cw.seq (Cw.region (Lw.m (vI (w64 (y2 - (u11.length : Int)))) rfl (Lw.lt rfl (Lw.nil (Cw.cond (b := decide ((w64 (y2 - (u11.length : Int)) : Int) < (0 : Int))) rfl (fun hc13 => ?_) (fun hc13 => ?_))))))))))))
   ·replace hm := bt hm hc13
    refine Cw.seq (Cw.region (Lw.g (vI (-1)) rfl (Lw.nil ?_)))
    cases hm
    exact Cw.ret (ret1 rfl (Res.mk a8 rfl))
   ·replace hm := bf hm hc13
    refine Cw.skip (Cw.region (Lw.m (vI y4) rfl (Lw.add rfl (Lw.g (vI (w64 (y4 + 1))) rfl (Lw.nil (⟨?_, m7, Nat.lt_succ_self m7, ⟨w64 (y2 - (u11.length : Int)), y3, w64 (y4 + 1), W5, rfl, l5, rfl, hm⟩⟩))))))
    iterate 20 (refine .u ?_)
    exact Agree.base
  ·replace hm := bf hm hc10
   refine Cw.exit ?_
   rw [hK6] at hm
   refine Cw.seq (Cw.region (Lw.m (vI y2) rfl (Lw.g (vI y2) rfl (Lw.nil ?_))))
   cases hm
   exact Cw.ret (ret1 rfl (Res.mk a8 rfl))

theorem p47 {W : CW} {K : List Nat} {x0 : List Str} {v0_ : Value} {x1 : Int} {r : Int} (h0 : Rd W K [v0_] x0) (hm : Vm.laws_szStringS x0 x1 = some r) : CallR Tryd.prog 47 [v0_, vI x1].toArray W.w (Res W [] fun W' v => v = vI r) :=
 (c47 (V := W.view K []) (h0.view _) hm).ad (fk 0) fun _ _ e => e

theorem c70 {V : CW} {x0 : Vm.File} {v0_1_ : Value} {x1 : Int} {r : Int} (h0 : Rd V [0] [vS x0.Path, v0_1_] x0) (hm : Vm.laws_szFile x0 x1 = some r) : CallR Tryd.prog 70 [.agg [vS x0.Path, v0_1_].toArray, vI x1].toArray V.w (Res V LL fun Wf v => v = vI r) := by
 unfold Vm.laws_szFile at hm
 obtain ⟨w0_0, he0, h0_1⟩ := File.split h0
 simp only [List.cons.injEq, and_true, true_and] at he0
 obtain rfl := he0
 obtain ⟨W0, hW0⟩ : ∃ W, W = V := ⟨V, rfl⟩
 subst hW0
 refine CallR.of Tryd.func70 rfl rfl rfl rfl (Cw.seq (Cw.region (Lw.t rfl (T.box 2 (v := .agg [vS x0.Path, v0_1_].toArray) (cs := [vS x0.Path, v0_1_]) rfl rfl) ?_)))
 rintro _ _ ⟨g1, W1, rfl, rfl, l1, b1⟩
 have a2 := l1.o
 refine Lw.g (vI 0) rfl (Lw.nil (Cw.seq (Cw.region (Lw.m (vI x1) rfl (Lw.fa rfl (Lw.r rfl (R.ld (v := vS x0.Path) rfl rfl (b1.cell rfl)) (Lw.r rfl (R.lenS rfl) (Lw.sub rfl (Lw.g (vI (w64 (x1 - (x0.Path.length : Int)))) rfl (Lw.nil (Cw.seq (Cw.seq (Cw.region (Lw.m (vI (w64 (x1 - (x0.Path.length : Int)))) rfl (Lw.lt rfl (Lw.nil (Cw.cond (b := decide ((w64 (x1 - (x0.Path.length : Int)) : Int) < (0 : Int))) rfl (fun hc3 => ?_) (fun hc3 => ?_))))))))))))))))))
 ·replace hm := bt hm hc3
  refine Cw.seq (Cw.region (Lw.g (vI (-1)) rfl (Lw.nil ?_)))
  cases hm
  exact Cw.ret (ret1 rfl (Res.mk a2 rfl))
 ·replace hm := bf hm hc3
  refine Cw.skip (Cw.seq (Cw.region (Lw.fa rfl (Lw.r rfl (R.ld (v := v0_1_) rfl rfl (b1.cell rfl)) (Lw.m (vI (w64 (x1 - (x0.Path.length : Int)))) rfl ?_)))))
  obtain ⟨z5, e6, hm⟩ := ob hm
  refine Lw.t rfl (T.call rfl (p47 (K := [0])  (h0_1.ul a2) e6)) ?_
  rintro _ _ ⟨W7, rfl, l7, rfl⟩
  have a8 := a2.n l7
  refine Lw.g (vI z5) rfl (Lw.nil (Cw.seq (Cw.seq (Cw.region (Lw.m (vI z5) rfl (Lw.lt rfl (Lw.nil (Cw.cond (b := decide ((z5 : Int) < (0 : Int))) rfl (fun hc10 => ?_) (fun hc10 => ?_)))))))))
  ·replace hm := bt hm hc10
   refine Cw.seq (Cw.region (Lw.g (vI (-1)) rfl (Lw.nil ?_)))
   cases hm
   exact Cw.ret (ret1 rfl (Res.mk a8 rfl))
  ·replace hm := bf hm hc10
   refine Cw.skip (Cw.seq (Cw.region (Lw.m (vI z5) rfl (Lw.g (vI z5) rfl (Lw.nil ?_)))))
   cases hm
   exact Cw.ret (ret1 rfl (Res.mk a8 rfl))

theorem p70 {W : CW} {K : List Nat} {x0 : Vm.File} {v0_1_ : Value} {x1 : Int} {r : Int} (h0 : Rd W K [vS x0.Path, v0_1_] x0) (hm : Vm.laws_szFile x0 x1 = some r) : CallR Tryd.prog 70 [.agg [vS x0.Path, v0_1_].toArray, vI x1].toArray W.w (Res W [] fun W' v => v = vI r) :=
 (c70 (V := W.view K []) (h0.view _) hm).ad (fk 0) fun _ _ e => e

theorem c24 {V : CW} {x0 : List Vm.File} {v0_ : Value} {x1 : Int} {r : Int} (h0 : Rd V [0] [v0_] x0) (hm : Vm.laws_szFileS x0 x1 = some r) : CallR Tryd.prog 24 [v0_, vI x1].toArray V.w (Res V LL fun Wf v => v = vI r) := by
 unfold Vm.laws_szFileS at hm
 obtain ⟨W0, hW0⟩ : ∃ W, W = V := ⟨V, rfl⟩
 subst hW0
 refine CallR.of Tryd.func24 rfl rfl rfl rfl (Cw.seq (Cw.region (Lw.g (vI 0) rfl (Lw.nil (Cw.seq (Cw.region (Lw.m (vI x1) rfl (Lw.m v0_ rfl (Lw.ln x0 h0 rfl (Lw.sub rfl (Lw.g (vI (w64 (x1 - (x0.length : Int)))) rfl (Lw.nil (Cw.seq (Cw.seq (Cw.region (Lw.m (vI (w64 (x1 - (x0.length : Int)))) rfl (Lw.lt rfl (Lw.nil (Cw.cond (b := decide ((w64 (x1 - (x0.length : Int)) : Int) < (0 : Int))) rfl (fun hc1 => ?_) (fun hc1 => ?_))))))))))))))))))))
 ·replace hm := bt hm hc1
  refine Cw.seq (Cw.region (Lw.g (vI (-1)) rfl (Lw.nil ?_)))
  cases hm
  exact Cw.ret (ret1 rfl (Res.mk (Le.refl _ _) rfl))
 ·replace hm := bf hm hc1
  refine Cw.skip (Cw.seq (Cw.seq (Cw.region (Lw.g (vI 0) rfl (Lw.nil (Cw.block ?_))))))
  obtain ⟨K6, hK6, hm⟩ := jn_e hm
  refine Cw.loop 12 25 [1, 4, 5] (fun m l w => ∃ (y2 : Int) (y3 : Int) (y4 : Int) (W5 : CW), W5.w = w ∧ Le [] W0 W5 ∧ l = [vI y2, vI y3, vI y4] ∧ Vm.laws_szFileS_l1 x0 K6 m y2 y3 y4 = some r) (((x0.length : Int) - 0).toNat + 1) ⟨w64 (x1 - (x0.length : Int)), 0, 0, W0, rfl, Le.refl _ _, rfl, hm⟩ ?_
  rintro m7 _ _ σ ⟨y2, y3, y4, W5, rfl, l5, rfl, hm⟩
  obtain _ | m7 := m7
  ·cases hm
  unfold Vm.laws_szFileS_l1 at hm
  have a8 := l5.o
  refine Cw.seq (Cw.seq (Cw.region ?_))
  have s9 := h0.ul a8
  refine Lw.m (vI y4) rfl (Lw.m v0_ rfl (Lw.ln x0 s9 rfl (Lw.lt rfl (Lw.nil (Cw.cond (b := decide ((y4 : Int) < ((x0.length : Int) : Int))) rfl (fun hc10 => ?_) (fun hc10 => ?_))))))
  ·replace hm := bt hm hc10
   refine Cw.skip (Cw.seq (Cw.block (Cw.seq (Cw.region (Lw.m v0_ rfl (Lw.m (vI y4) rfl ?_))))))
   obtain ⟨u11, e12, hm⟩ := ob hm
   refine Lw.r rfl (R.ix (α := File) s9 e12 rfl rfl rfl) ?_
   obtain ⟨x13, c14, _, r15⟩ := (s9.at_ e12).cells
   obtain ⟨v16, rfl, r17⟩ := File.split r15
   refine Lw.r rfl (R.lda c14 rfl rfl) (Lw.m (vI y2) rfl ?_)
   obtain ⟨z18, e19, hm⟩ := ob hm
   refine Lw.t rfl (T.call rfl (p70 (K := [0])  (File.rd (K := [0]) u11.Path u11.Text r17) e19)) ?_
   rintro _ _ ⟨W20, rfl, l20, rfl⟩
   have a21 := a8.n l20
   refine Lw.g (vI z18) rfl (Lw.nil (Cw.seq (Cw.region (Lw.m (vI z18) rfl (Lw.lt rfl (Lw.nil (Cw.cond (b := decide ((z18 : Int) < (0 : Int))) rfl (fun hc22 => ?_) (fun hc22 => ?_))))))))
   ·replace hm := bt hm hc22
    refine Cw.seq (Cw.region (Lw.g (vI (-1)) rfl (Lw.nil ?_)))
    cases hm
    exact Cw.ret (ret1 rfl (Res.mk a21 rfl))
   ·replace hm := bf hm hc22
    refine Cw.skip (Cw.region (Lw.m (vI y4) rfl (Lw.add rfl (Lw.g (vI (w64 (y4 + 1))) rfl (Lw.nil (⟨?_, m7, Nat.lt_succ_self m7, ⟨z18, y3, w64 (y4 + 1), W20, rfl, (l5.trans l20), rfl, hm⟩⟩))))))
    iterate 19 (refine .u ?_)
    exact Agree.base
  ·replace hm := bf hm hc10
   refine Cw.exit ?_
   rw [hK6] at hm
   refine Cw.seq (Cw.region (Lw.m (vI y2) rfl (Lw.g (vI y2) rfl (Lw.nil ?_))))
   cases hm
   exact Cw.ret (ret1 rfl (Res.mk a8 rfl))

theorem p24 {W : CW} {K : List Nat} {x0 : List Vm.File} {v0_ : Value} {x1 : Int} {r : Int} (h0 : Rd W K [v0_] x0) (hm : Vm.laws_szFileS x0 x1 = some r) : CallR Tryd.prog 24 [v0_, vI x1].toArray W.w (Res W [] fun W' v => v = vI r) :=
 (c24 (V := W.view K []) (h0.view _) hm).ad (fk 0) fun _ _ e => e

theorem c85 {V : CW} {x0 : Vm.Commit} {v0_0_ : Value} {v0_2_ : Value} {x1 : Int} {r : Int} (h0 : Rd V [0] [v0_0_, vS x0.Who, v0_2_] x0) (hm : Vm.laws_szCommit x0 x1 = some r) : CallR Tryd.prog 85 [.agg [v0_0_, vS x0.Who, v0_2_].toArray, vI x1].toArray V.w (Res V LL fun Wf v => v = vI r) := by
 unfold Vm.laws_szCommit at hm
 obtain ⟨w0_0, w0_1, he0, h0_0, h0_2⟩ := Commit.split h0
 simp only [List.cons.injEq, and_true, true_and] at he0
 obtain ⟨rfl, rfl⟩ := he0
 obtain ⟨W0, hW0⟩ : ∃ W, W = V := ⟨V, rfl⟩
 subst hW0
 refine CallR.of Tryd.func85 rfl rfl rfl rfl (Cw.seq (Cw.region (Lw.t rfl (T.box 2 (v := .agg [v0_0_, vS x0.Who, v0_2_].toArray) (cs := [v0_0_, vS x0.Who, v0_2_]) rfl rfl) ?_)))
 rintro _ _ ⟨g1, W1, rfl, rfl, l1, b1⟩
 have a2 := l1.o
 refine Lw.g (vI 0) rfl (Lw.nil (Cw.seq (Cw.region (Lw.fa rfl (Lw.r rfl (R.ld (v := v0_0_) rfl rfl (b1.cell rfl)) (Lw.m (vI x1) rfl ?_))))))
 obtain ⟨z4, e5, hm⟩ := ob hm
 refine Lw.t rfl (T.call rfl (p126 (K := [0])  (h0_0.ul a2) e5)) ?_
 rintro _ _ ⟨W6, rfl, l6, rfl⟩
 have a7 := a2.n l6
 refine Lw.g (vI z4) rfl (Lw.nil (Cw.seq (Cw.seq (Cw.region (Lw.m (vI z4) rfl (Lw.lt rfl (Lw.nil (Cw.cond (b := decide ((z4 : Int) < (0 : Int))) rfl (fun hc9 => ?_) (fun hc9 => ?_)))))))))
 ·replace hm := bt hm hc9
  refine Cw.seq (Cw.region (Lw.g (vI (-1)) rfl (Lw.nil ?_)))
  cases hm
  exact Cw.ret (ret1 rfl (Res.mk a7 rfl))
 ·replace hm := bf hm hc9
  refine Cw.skip (Cw.seq (Cw.region (Lw.m (vI z4) rfl (Lw.fa rfl (Lw.r rfl (R.ld (v := vS x0.Who) rfl rfl ((b1.up l6 rfl).cell rfl)) (Lw.r rfl (R.lenS rfl) (Lw.sub rfl (Lw.g (vI (w64 (z4 - (x0.Who.length : Int)))) rfl (Lw.nil (Cw.seq (Cw.seq (Cw.region (Lw.m (vI (w64 (z4 - (x0.Who.length : Int)))) rfl (Lw.lt rfl (Lw.nil (Cw.cond (b := decide ((w64 (z4 - (x0.Who.length : Int)) : Int) < (0 : Int))) rfl (fun hc10 => ?_) (fun hc10 => ?_)))))))))))))))))
  ·replace hm := bt hm hc10
   refine Cw.seq (Cw.region (Lw.g (vI (-1)) rfl (Lw.nil ?_)))
   cases hm
   exact Cw.ret (ret1 rfl (Res.mk a7 rfl))
  ·replace hm := bf hm hc10
   refine Cw.skip (Cw.seq (Cw.region (Lw.fa rfl (Lw.r rfl (R.ld (v := v0_2_) rfl rfl ((b1.up l6 rfl).cell rfl)) (Lw.m (vI (w64 (z4 - (x0.Who.length : Int)))) rfl ?_)))))
   obtain ⟨z12, e13, hm⟩ := ob hm
   refine Lw.t rfl (T.call rfl (p24 (K := [0])  (h0_2.ul a7) e13)) ?_
   rintro _ _ ⟨W14, rfl, l14, rfl⟩
   have a15 := a7.n l14
   refine Lw.g (vI z12) rfl (Lw.nil (Cw.seq (Cw.seq (Cw.region (Lw.m (vI z12) rfl (Lw.lt rfl (Lw.nil (Cw.cond (b := decide ((z12 : Int) < (0 : Int))) rfl (fun hc17 => ?_) (fun hc17 => ?_)))))))))
   ·replace hm := bt hm hc17
    refine Cw.seq (Cw.region (Lw.g (vI (-1)) rfl (Lw.nil ?_)))
    cases hm
    exact Cw.ret (ret1 rfl (Res.mk a15 rfl))
   ·replace hm := bf hm hc17
    refine Cw.skip (Cw.seq (Cw.region (Lw.m (vI z12) rfl (Lw.g (vI z12) rfl (Lw.nil ?_)))))
    cases hm
    exact Cw.ret (ret1 rfl (Res.mk a15 rfl))

theorem p85 {W : CW} {K : List Nat} {x0 : Vm.Commit} {v0_0_ : Value} {v0_2_ : Value} {x1 : Int} {r : Int} (h0 : Rd W K [v0_0_, vS x0.Who, v0_2_] x0) (hm : Vm.laws_szCommit x0 x1 = some r) : CallR Tryd.prog 85 [.agg [v0_0_, vS x0.Who, v0_2_].toArray, vI x1].toArray W.w (Res W [] fun W' v => v = vI r) :=
 (c85 (V := W.view K []) (h0.view _) hm).ad (fk 0) fun _ _ e => e

theorem c34 {V : CW} {x0 : List Vm.Commit} {v0_ : Value} {x1 : Int} {r : Int} (h0 : Rd V [0] [v0_] x0) (hm : Vm.laws_szCommitS x0 x1 = some r) : CallR Tryd.prog 34 [v0_, vI x1].toArray V.w (Res V LL fun Wf v => v = vI r) := by
 unfold Vm.laws_szCommitS at hm
 obtain ⟨W0, hW0⟩ : ∃ W, W = V := ⟨V, rfl⟩
 subst hW0
 refine CallR.of Tryd.func34 rfl rfl rfl rfl (Cw.seq (Cw.region (Lw.g (vI 0) rfl (Lw.nil (Cw.seq (Cw.region (Lw.m (vI x1) rfl (Lw.m v0_ rfl (Lw.ln x0 h0 rfl (Lw.sub rfl (Lw.g (vI (w64 (x1 - (x0.length : Int)))) rfl (Lw.nil (Cw.seq (Cw.seq (Cw.region (Lw.m (vI (w64 (x1 - (x0.length : Int)))) rfl (Lw.lt rfl (Lw.nil (Cw.cond (b := decide ((w64 (x1 - (x0.length : Int)) : Int) < (0 : Int))) rfl (fun hc1 => ?_) (fun hc1 => ?_))))))))))))))))))))
 ·replace hm := bt hm hc1
  refine Cw.seq (Cw.region (Lw.g (vI (-1)) rfl (Lw.nil ?_)))
  cases hm
  exact Cw.ret (ret1 rfl (Res.mk (Le.refl _ _) rfl))
 ·replace hm := bf hm hc1
  refine Cw.skip (Cw.seq (Cw.seq (Cw.region (Lw.g (vI 0) rfl (Lw.nil (Cw.block ?_))))))
  obtain ⟨K6, hK6, hm⟩ := jn_e hm
  refine Cw.loop 12 25 [1, 4, 5] (fun m l w => ∃ (y2 : Int) (y3 : Int) (y4 : Int) (W5 : CW), W5.w = w ∧ Le [] W0 W5 ∧ l = [vI y2, vI y3, vI y4] ∧ Vm.laws_szCommitS_l1 x0 K6 m y2 y3 y4 = some r) (((x0.length : Int) - 0).toNat + 1) ⟨w64 (x1 - (x0.length : Int)), 0, 0, W0, rfl, Le.refl _ _, rfl, hm⟩ ?_
  rintro m7 _ _ σ ⟨y2, y3, y4, W5, rfl, l5, rfl, hm⟩
  obtain _ | m7 := m7
  ·cases hm
  unfold Vm.laws_szCommitS_l1 at hm
  have a8 := l5.o
  refine Cw.seq (Cw.seq (Cw.region ?_))
  have s9 := h0.ul a8
  refine Lw.m (vI y4) rfl (Lw.m v0_ rfl (Lw.ln x0 s9 rfl (Lw.lt rfl (Lw.nil (Cw.cond (b := decide ((y4 : Int) < ((x0.length : Int) : Int))) rfl (fun hc10 => ?_) (fun hc10 => ?_))))))
  ·replace hm := bt hm hc10
   refine Cw.skip (Cw.seq (Cw.block (Cw.seq (Cw.region (Lw.m v0_ rfl (Lw.m (vI y4) rfl ?_))))))
   obtain ⟨u11, e12, hm⟩ := ob hm
   refine Lw.r rfl (R.ix (α := Commit) s9 e12 rfl rfl rfl) ?_
   obtain ⟨x13, c14, _, r15⟩ := (s9.at_ e12).cells
   obtain ⟨v16, v18, rfl, r17, r19⟩ := Commit.split r15
   refine Lw.r rfl (R.lda c14 rfl rfl) (Lw.m (vI y2) rfl ?_)
   obtain ⟨z20, e21, hm⟩ := ob hm
   refine Lw.t rfl (T.call rfl (p85 (K := [0])  (Commit.rd (K := [0]) u11.Parents u11.Who u11.Tree r17 r19) e21)) ?_
   rintro _ _ ⟨W22, rfl, l22, rfl⟩
   have a23 := a8.n l22
   refine Lw.g (vI z20) rfl (Lw.nil (Cw.seq (Cw.region (Lw.m (vI z20) rfl (Lw.lt rfl (Lw.nil (Cw.cond (b := decide ((z20 : Int) < (0 : Int))) rfl (fun hc24 => ?_) (fun hc24 => ?_))))))))
   ·replace hm := bt hm hc24
    refine Cw.seq (Cw.region (Lw.g (vI (-1)) rfl (Lw.nil ?_)))
    cases hm
    exact Cw.ret (ret1 rfl (Res.mk a23 rfl))
   ·replace hm := bf hm hc24
    refine Cw.skip (Cw.region (Lw.m (vI y4) rfl (Lw.add rfl (Lw.g (vI (w64 (y4 + 1))) rfl (Lw.nil (⟨?_, m7, Nat.lt_succ_self m7, ⟨z20, y3, w64 (y4 + 1), W22, rfl, (l5.trans l22), rfl, hm⟩⟩))))))
    iterate 19 (refine .u ?_)
    exact Agree.base
  ·replace hm := bf hm hc10
   refine Cw.exit ?_
   rw [hK6] at hm
   refine Cw.seq (Cw.region (Lw.m (vI y2) rfl (Lw.g (vI y2) rfl (Lw.nil ?_))))
   cases hm
   exact Cw.ret (ret1 rfl (Res.mk a8 rfl))

theorem p34 {W : CW} {K : List Nat} {x0 : List Vm.Commit} {v0_ : Value} {x1 : Int} {r : Int} (h0 : Rd W K [v0_] x0) (hm : Vm.laws_szCommitS x0 x1 = some r) : CallR Tryd.prog 34 [v0_, vI x1].toArray W.w (Res W [] fun W' v => v = vI r) :=
 (c34 (V := W.view K []) (h0.view _) hm).ad (fk 0) fun _ _ e => e

theorem c113 {V : CW} {x0 : Vm.Head} {x1 : Int} {r : Int} (h0 : Rd V [0] [vS x0.Name, vI x0.At] x0) (hm : Vm.laws_szHead x0 x1 = some r) : CallR Tryd.prog 113 [.agg [vS x0.Name, vI x0.At].toArray, vI x1].toArray V.w (Res V LL fun Wf v => v = vI r) := by
 unfold Vm.laws_szHead at hm
 obtain ⟨W0, hW0⟩ : ∃ W, W = V := ⟨V, rfl⟩
 subst hW0
 refine CallR.of Tryd.func113 rfl rfl rfl rfl (Cw.seq (Cw.region (Lw.t rfl (T.box 2 (v := .agg [vS x0.Name, vI x0.At].toArray) (cs := [vS x0.Name, vI x0.At]) rfl rfl) ?_)))
 rintro _ _ ⟨g1, W1, rfl, rfl, l1, b1⟩
 have a2 := l1.o
 refine Lw.g (vI 0) rfl (Lw.nil (Cw.seq (Cw.region (Lw.m (vI x1) rfl (Lw.fa rfl (Lw.r rfl (R.ld (v := vS x0.Name) rfl rfl (b1.cell rfl)) (Lw.r rfl (R.lenS rfl) (Lw.sub rfl (Lw.g (vI (w64 (x1 - (x0.Name.length : Int)))) rfl (Lw.nil (Cw.seq (Cw.seq (Cw.region (Lw.m (vI (w64 (x1 - (x0.Name.length : Int)))) rfl (Lw.lt rfl (Lw.nil (Cw.cond (b := decide ((w64 (x1 - (x0.Name.length : Int)) : Int) < (0 : Int))) rfl (fun hc3 => ?_) (fun hc3 => ?_))))))))))))))))))
 ·replace hm := bt hm hc3
  refine Cw.seq (Cw.region (Lw.g (vI (-1)) rfl (Lw.nil ?_)))
  cases hm
  exact Cw.ret (ret1 rfl (Res.mk a2 rfl))
 ·replace hm := bf hm hc3
  refine Cw.skip (Cw.seq (Cw.region (Lw.m (vI (w64 (x1 - (x0.Name.length : Int)))) rfl (Lw.g (vI (w64 (x1 - (x0.Name.length : Int)))) rfl (Lw.nil ?_)))))
  cases hm
  exact Cw.ret (ret1 rfl (Res.mk a2 rfl))

theorem p113 {W : CW} {K : List Nat} {x0 : Vm.Head} {x1 : Int} {r : Int} (h0 : Rd W K [vS x0.Name, vI x0.At] x0) (hm : Vm.laws_szHead x0 x1 = some r) : CallR Tryd.prog 113 [.agg [vS x0.Name, vI x0.At].toArray, vI x1].toArray W.w (Res W [] fun W' v => v = vI r) :=
 (c113 (V := W.view K []) (h0.view _) hm).ad (fk 0) fun _ _ e => e

theorem c54 {V : CW} {x0 : List Vm.Head} {v0_ : Value} {x1 : Int} {r : Int} (h0 : Rd V [0] [v0_] x0) (hm : Vm.laws_szHeadS x0 x1 = some r) : CallR Tryd.prog 54 [v0_, vI x1].toArray V.w (Res V LL fun Wf v => v = vI r) := by
 unfold Vm.laws_szHeadS at hm
 obtain ⟨W0, hW0⟩ : ∃ W, W = V := ⟨V, rfl⟩
 subst hW0
 refine CallR.of Tryd.func54 rfl rfl rfl rfl (Cw.seq (Cw.region (Lw.g (vI 0) rfl (Lw.nil (Cw.seq (Cw.region (Lw.m (vI x1) rfl (Lw.m v0_ rfl (Lw.ln x0 h0 rfl (Lw.sub rfl (Lw.g (vI (w64 (x1 - (x0.length : Int)))) rfl (Lw.nil (Cw.seq (Cw.seq (Cw.region (Lw.m (vI (w64 (x1 - (x0.length : Int)))) rfl (Lw.lt rfl (Lw.nil (Cw.cond (b := decide ((w64 (x1 - (x0.length : Int)) : Int) < (0 : Int))) rfl (fun hc1 => ?_) (fun hc1 => ?_))))))))))))))))))))
 ·replace hm := bt hm hc1
  refine Cw.seq (Cw.region (Lw.g (vI (-1)) rfl (Lw.nil ?_)))
  cases hm
  exact Cw.ret (ret1 rfl (Res.mk (Le.refl _ _) rfl))
 ·replace hm := bf hm hc1
  refine Cw.skip (Cw.seq (Cw.seq (Cw.region (Lw.g (vI 0) rfl (Lw.nil (Cw.block ?_))))))
  obtain ⟨K6, hK6, hm⟩ := jn_e hm
  refine Cw.loop 12 25 [1, 4, 5] (fun m l w => ∃ (y2 : Int) (y3 : Int) (y4 : Int) (W5 : CW), W5.w = w ∧ Le [] W0 W5 ∧ l = [vI y2, vI y3, vI y4] ∧ Vm.laws_szHeadS_l1 x0 K6 m y2 y3 y4 = some r) (((x0.length : Int) - 0).toNat + 1) ⟨w64 (x1 - (x0.length : Int)), 0, 0, W0, rfl, Le.refl _ _, rfl, hm⟩ ?_
  rintro m7 _ _ σ ⟨y2, y3, y4, W5, rfl, l5, rfl, hm⟩
  obtain _ | m7 := m7
  ·cases hm
  unfold Vm.laws_szHeadS_l1 at hm
  have a8 := l5.o
  refine Cw.seq (Cw.seq (Cw.region ?_))
  have s9 := h0.ul a8
  refine Lw.m (vI y4) rfl (Lw.m v0_ rfl (Lw.ln x0 s9 rfl (Lw.lt rfl (Lw.nil (Cw.cond (b := decide ((y4 : Int) < ((x0.length : Int) : Int))) rfl (fun hc10 => ?_) (fun hc10 => ?_))))))
  ·replace hm := bt hm hc10
   refine Cw.skip (Cw.seq (Cw.block (Cw.seq (Cw.region (Lw.m v0_ rfl (Lw.m (vI y4) rfl ?_))))))
   obtain ⟨u11, e12, hm⟩ := ob hm
   refine Lw.r rfl (R.ix (α := Head) s9 e12 rfl rfl rfl) ?_
   obtain ⟨x13, c14, _, r15⟩ := (s9.at_ e12).cells
   obtain rfl := Head.split r15
   refine Lw.r rfl (R.lda c14 rfl rfl) (Lw.m (vI y2) rfl ?_)
   obtain ⟨z16, e17, hm⟩ := ob hm
   refine Lw.t rfl (T.call rfl (p113 (K := [0])  (Head.rd (K := [0]) u11.Name u11.At ) e17)) ?_
   rintro _ _ ⟨W18, rfl, l18, rfl⟩
   have a19 := a8.n l18
   refine Lw.g (vI z16) rfl (Lw.nil (Cw.seq (Cw.region (Lw.m (vI z16) rfl (Lw.lt rfl (Lw.nil (Cw.cond (b := decide ((z16 : Int) < (0 : Int))) rfl (fun hc20 => ?_) (fun hc20 => ?_))))))))
   ·replace hm := bt hm hc20
    refine Cw.seq (Cw.region (Lw.g (vI (-1)) rfl (Lw.nil ?_)))
    cases hm
    exact Cw.ret (ret1 rfl (Res.mk a19 rfl))
   ·replace hm := bf hm hc20
    refine Cw.skip (Cw.region (Lw.m (vI y4) rfl (Lw.add rfl (Lw.g (vI (w64 (y4 + 1))) rfl (Lw.nil (⟨?_, m7, Nat.lt_succ_self m7, ⟨z16, y3, w64 (y4 + 1), W18, rfl, (l5.trans l18), rfl, hm⟩⟩))))))
    iterate 19 (refine .u ?_)
    exact Agree.base
  ·replace hm := bf hm hc10
   refine Cw.exit ?_
   rw [hK6] at hm
   refine Cw.seq (Cw.region (Lw.m (vI y2) rfl (Lw.g (vI y2) rfl (Lw.nil ?_))))
   cases hm
   exact Cw.ret (ret1 rfl (Res.mk a8 rfl))

theorem p54 {W : CW} {K : List Nat} {x0 : List Vm.Head} {v0_ : Value} {x1 : Int} {r : Int} (h0 : Rd W K [v0_] x0) (hm : Vm.laws_szHeadS x0 x1 = some r) : CallR Tryd.prog 54 [v0_, vI x1].toArray W.w (Res W [] fun W' v => v = vI r) :=
 (c54 (V := W.view K []) (h0.view _) hm).ad (fk 0) fun _ _ e => e

theorem c15 {V : CW} {x0 : Vm.Repo} {v0_0_ : Value} {v0_1_ : Value} {x1 : Int} {r : Int} (h0 : Rd V [0] [v0_0_, v0_1_] x0) (hm : Vm.laws_szRepo x0 x1 = some r) : CallR Tryd.prog 15 [.agg [v0_0_, v0_1_].toArray, vI x1].toArray V.w (Res V LL fun Wf v => v = vI r) := by
 unfold Vm.laws_szRepo at hm
 obtain ⟨w0_0, w0_1, he0, h0_0, h0_1⟩ := Repo.split h0
 simp only [List.cons.injEq, and_true, true_and] at he0
 obtain ⟨rfl, rfl⟩ := he0
 obtain ⟨W0, hW0⟩ : ∃ W, W = V := ⟨V, rfl⟩
 subst hW0
 refine CallR.of Tryd.func15 rfl rfl rfl rfl (Cw.seq (Cw.region (Lw.t rfl (T.box 2 (v := .agg [v0_0_, v0_1_].toArray) (cs := [v0_0_, v0_1_]) rfl rfl) ?_)))
 rintro _ _ ⟨g1, W1, rfl, rfl, l1, b1⟩
 have a2 := l1.o
 refine Lw.g (vI 0) rfl (Lw.nil (Cw.seq (Cw.region (Lw.fa rfl (Lw.r rfl (R.ld (v := v0_0_) rfl rfl (b1.cell rfl)) (Lw.m (vI x1) rfl ?_))))))
 obtain ⟨z4, e5, hm⟩ := ob hm
 refine Lw.t rfl (T.call rfl (p34 (K := [0])  (h0_0.ul a2) e5)) ?_
 rintro _ _ ⟨W6, rfl, l6, rfl⟩
 have a7 := a2.n l6
 refine Lw.g (vI z4) rfl (Lw.nil (Cw.seq (Cw.seq (Cw.region (Lw.m (vI z4) rfl (Lw.lt rfl (Lw.nil (Cw.cond (b := decide ((z4 : Int) < (0 : Int))) rfl (fun hc9 => ?_) (fun hc9 => ?_)))))))))
 ·replace hm := bt hm hc9
  refine Cw.seq (Cw.region (Lw.g (vI (-1)) rfl (Lw.nil ?_)))
  cases hm
  exact Cw.ret (ret1 rfl (Res.mk a7 rfl))
 ·replace hm := bf hm hc9
  refine Cw.skip (Cw.seq (Cw.region (Lw.fa rfl (Lw.r rfl (R.ld (v := v0_1_) rfl rfl ((b1.up l6 rfl).cell rfl)) (Lw.m (vI z4) rfl ?_)))))
  obtain ⟨z11, e12, hm⟩ := ob hm
  refine Lw.t rfl (T.call rfl (p54 (K := [0])  (h0_1.ul a7) e12)) ?_
  rintro _ _ ⟨W13, rfl, l13, rfl⟩
  have a14 := a7.n l13
  refine Lw.g (vI z11) rfl (Lw.nil (Cw.seq (Cw.seq (Cw.region (Lw.m (vI z11) rfl (Lw.lt rfl (Lw.nil (Cw.cond (b := decide ((z11 : Int) < (0 : Int))) rfl (fun hc16 => ?_) (fun hc16 => ?_)))))))))
  ·replace hm := bt hm hc16
   refine Cw.seq (Cw.region (Lw.g (vI (-1)) rfl (Lw.nil ?_)))
   cases hm
   exact Cw.ret (ret1 rfl (Res.mk a14 rfl))
  ·replace hm := bf hm hc16
   refine Cw.skip (Cw.seq (Cw.region (Lw.m (vI z11) rfl (Lw.g (vI z11) rfl (Lw.nil ?_)))))
   cases hm
   exact Cw.ret (ret1 rfl (Res.mk a14 rfl))

theorem p15 {W : CW} {K : List Nat} {x0 : Vm.Repo} {v0_0_ : Value} {v0_1_ : Value} {x1 : Int} {r : Int} (h0 : Rd W K [v0_0_, v0_1_] x0) (hm : Vm.laws_szRepo x0 x1 = some r) : CallR Tryd.prog 15 [.agg [v0_0_, v0_1_].toArray, vI x1].toArray W.w (Res W [] fun W' v => v = vI r) :=
 (c15 (V := W.view K []) (h0.view _) hm).ad (fk 0) fun _ _ e => e

theorem c36 {V : CW} {x0 : List Int} {v0_ : Value} {r : (List Int)} (h0 : Rd V [0] [v0_] x0) (hm : Vm.laws_toIntS x0 = some r) : CallR Tryd.prog 36 [v0_].toArray V.w (Res V LL fun Wf v => ∃ (u0 : Value), v = u0 ∧ OwS Wf LL [] [u0] r) := by
 unfold Vm.laws_toIntS at hm
 obtain ⟨W0, hW0⟩ : ∃ W, W = V := ⟨V, rfl⟩
 subst hW0
 refine CallR.of Tryd.func36 rfl rfl rfl rfl (Cw.seq (Cw.region (Lw.g (.slice none 0 0) rfl (Lw.nil (Cw.seq (Cw.region (Lw.m v0_ rfl (Lw.ln x0 h0 rfl ?_))))))))
 obtain ⟨q1, e2, hm⟩ := ob hm
 refine Lw.t rfl (T.mk (α := Int) 2 [] (n := (x0.length : Int)) rfl rfl e2) ?_
 rintro v3 _ ⟨W3, rfl, l3, o3⟩
 have a4 := l3.o
 refine Lw.g v3 rfl (Lw.nil (Cw.seq (Cw.seq (Cw.region (Lw.g (vI 0) rfl (Lw.nil (Cw.block ?_)))))))
 obtain ⟨K9, hK9, hm⟩ := jn_e hm
 refine Cw.loop 8 20 [4] (fun m l w => ∃ (y5 : Int) (y6 : List Int) (W8 : CW), W8.w = w ∧ Le [2] W3 W8 ∧ l = [vI y5] ∧ Ow W8 2 [] [v3] y6 ∧ Vm.laws_toIntS_l1 x0 K9 m y5 y6 = some r) (((x0.length : Int) - 0).toNat + 1) ⟨0, q1, W3, rfl, Le.refl _ _, rfl, o3, hm⟩ ?_
 rintro m10 _ _ σ ⟨y5, y6, W8, rfl, l8, rfl, o7, hm⟩
 obtain _ | m10 := m10
 ·cases hm
 unfold Vm.laws_toIntS_l1 at hm
 have a11 := a4.t l8 rfl
 refine Cw.seq (Cw.seq (Cw.region (Lw.m (vI y5) rfl (Lw.m v0_ rfl (Lw.ln x0 (h0.ul a11) rfl (Lw.lt rfl (Lw.nil (Cw.cond (b := decide ((y5 : Int) < ((x0.length : Int) : Int))) rfl (fun hc13 => ?_) (fun hc13 => ?_)))))))))
 ·replace hm := bt hm hc13
  refine Cw.skip (Cw.seq (Cw.block (Cw.region (Lw.m v3 rfl (Lw.m (vI y5) rfl (Lw.m v0_ rfl (Lw.m (vI y5) rfl ?_)))))))
  obtain ⟨u14, e15, hm⟩ := ob hm
  refine Lw.r rfl (R.ix (α := Int) (h0.ul a11) e15 rfl rfl rfl) (Lw.r rfl (R.ld rfl rfl ((h0.ul a11).at_ e15).int) ?_)
  obtain ⟨u16, e17, hm⟩ := ob hm
  refine Lw.r rfl (R.ix (α := Int) o7.rd e17 rfl rfl rfl) ?_
  obtain ⟨q19, e20, hm⟩ := ob hm
  refine Lw.u (T.stS (K' := []) o7 (rdI _) e20 rfl rfl rfl) ?_
  rintro _ _ ⟨W18, rfl, l18, o18⟩
  refine Lw.nil (Cw.region (Lw.m (vI y5) rfl (Lw.add rfl (Lw.g (vI (w64 (y5 + 1))) rfl (Lw.nil (⟨?_, m10, Nat.lt_succ_self m10, ⟨w64 (y5 + 1), q19, W18, rfl, (l8.trans l18), rfl, o18, hm⟩⟩))))))
  iterate 15 (refine .u ?_)
  exact Agree.base
 ·replace hm := bf hm hc13
  refine Cw.exit ?_
  rw [hK9] at hm
  refine Cw.seq (Cw.region (Lw.m v3 rfl (Lw.g v3 rfl (Lw.nil ?_))))
  cases hm
  exact Cw.ret (ret1 rfl (Res.mk a11 ⟨v3, rfl, o7.s.sub rfl rfl⟩))

theorem p36 {W : CW} {K : List Nat} {x0 : List Int} {v0_ : Value} {k0 : Nat} {r : (List Int)} (h0 : Rd W K [v0_] x0) (hm : Vm.laws_toIntS x0 = some r) : CallR Tryd.prog 36 [v0_].toArray W.w (Res W [] fun W' v => ∃ (u0 : Value), v = u0 ∧ Ow W' k0 [] [u0] r) :=
 (c36 (V := W.view K []) (h0.view _) hm).ad (fk k0) fun _ _ ⟨u0, e, f0⟩ => ⟨u0, e, f0.back (fk_LL _)⟩

theorem c50 {V : CW} {x0 : List Str} {v0_ : Value} {r : (List Str)} (h0 : Rd V [0] [v0_] x0) (hm : Vm.laws_toStringS x0 = some r) : CallR Tryd.prog 50 [v0_].toArray V.w (Res V LL fun Wf v => ∃ (u0 : Value), v = u0 ∧ OwS Wf LL [] [u0] r) := by
 unfold Vm.laws_toStringS at hm
 obtain ⟨W0, hW0⟩ : ∃ W, W = V := ⟨V, rfl⟩
 subst hW0
 refine CallR.of Tryd.func50 rfl rfl rfl rfl (Cw.seq (Cw.region (Lw.g (.slice none 0 0) rfl (Lw.nil (Cw.seq (Cw.region (Lw.m v0_ rfl (Lw.ln x0 h0 rfl ?_))))))))
 obtain ⟨q1, e2, hm⟩ := ob hm
 refine Lw.t rfl (T.mk (α := Str) 2 [] (n := (x0.length : Int)) rfl rfl e2) ?_
 rintro v3 _ ⟨W3, rfl, l3, o3⟩
 have a4 := l3.o
 refine Lw.g v3 rfl (Lw.nil (Cw.seq (Cw.seq (Cw.region (Lw.g (vI 0) rfl (Lw.nil (Cw.block ?_)))))))
 obtain ⟨K9, hK9, hm⟩ := jn_e hm
 refine Cw.loop 8 20 [4] (fun m l w => ∃ (y5 : Int) (y6 : List Str) (W8 : CW), W8.w = w ∧ Le [2] W3 W8 ∧ l = [vI y5] ∧ Ow W8 2 [] [v3] y6 ∧ Vm.laws_toStringS_l1 x0 K9 m y5 y6 = some r) (((x0.length : Int) - 0).toNat + 1) ⟨0, q1, W3, rfl, Le.refl _ _, rfl, o3, hm⟩ ?_
 rintro m10 _ _ σ ⟨y5, y6, W8, rfl, l8, rfl, o7, hm⟩
 obtain _ | m10 := m10
 ·cases hm
 unfold Vm.laws_toStringS_l1 at hm
 have a11 := a4.t l8 rfl
 refine Cw.seq (Cw.seq (Cw.region (Lw.m (vI y5) rfl (Lw.m v0_ rfl (Lw.ln x0 (h0.ul a11) rfl (Lw.lt rfl (Lw.nil (Cw.cond (b := decide ((y5 : Int) < ((x0.length : Int) : Int))) rfl (fun hc13 => ?_) (fun hc13 => ?_)))))))))
 ·replace hm := bt hm hc13
  refine Cw.skip (Cw.seq (Cw.block (Cw.region (Lw.m v3 rfl (Lw.m (vI y5) rfl (Lw.m v0_ rfl (Lw.m (vI y5) rfl ?_)))))))
  obtain ⟨u14, e15, hm⟩ := ob hm
  refine Lw.r rfl (R.ix (α := Str) (h0.ul a11) e15 rfl rfl rfl) (Lw.r rfl (R.ld rfl rfl ((h0.ul a11).at_ e15).str) ?_)
  obtain ⟨u16, e17, hm⟩ := ob hm
  refine Lw.r rfl (R.ix (α := Str) o7.rd e17 rfl rfl rfl) ?_
  obtain ⟨q19, e20, hm⟩ := ob hm
  refine Lw.u (T.stS (K' := []) o7 (rdS _) e20 rfl rfl rfl) ?_
  rintro _ _ ⟨W18, rfl, l18, o18⟩
  refine Lw.nil (Cw.region (Lw.m (vI y5) rfl (Lw.add rfl (Lw.g (vI (w64 (y5 + 1))) rfl (Lw.nil (⟨?_, m10, Nat.lt_succ_self m10, ⟨w64 (y5 + 1), q19, W18, rfl, (l8.trans l18), rfl, o18, hm⟩⟩))))))
  iterate 15 (refine .u ?_)
  exact Agree.base
 ·replace hm := bf hm hc13
  refine Cw.exit ?_
  rw [hK9] at hm
  refine Cw.seq (Cw.region (Lw.m v3 rfl (Lw.g v3 rfl (Lw.nil ?_))))
  cases hm
  exact Cw.ret (ret1 rfl (Res.mk a11 ⟨v3, rfl, o7.s.sub rfl rfl⟩))

theorem p50 {W : CW} {K : List Nat} {x0 : List Str} {v0_ : Value} {k0 : Nat} {r : (List Str)} (h0 : Rd W K [v0_] x0) (hm : Vm.laws_toStringS x0 = some r) : CallR Tryd.prog 50 [v0_].toArray W.w (Res W [] fun W' v => ∃ (u0 : Value), v = u0 ∧ Ow W' k0 [] [u0] r) :=
 (c50 (V := W.view K []) (h0.view _) hm).ad (fk k0) fun _ _ ⟨u0, e, f0⟩ => ⟨u0, e, f0.back (fk_LL _)⟩

theorem c73 {V : CW} {x0 : Vm.File} {v0_1_ : Value} {r : Vm.File} (h0 : Rd V [0] [vS x0.Path, v0_1_] x0) (hm : Vm.laws_toFile x0 = some r) : CallR Tryd.prog 73 [.agg [vS x0.Path, v0_1_].toArray].toArray V.w (Res V LL fun Wf v => ∃ (u0_1 : Value), v = .agg [vS r.Path, u0_1].toArray ∧ OwS Wf LL [] [u0_1] r.Text) := by
 unfold Vm.laws_toFile at hm
 obtain ⟨w0_0, he0, h0_1⟩ := File.split h0
 simp only [List.cons.injEq, and_true, true_and] at he0
 obtain rfl := he0
 obtain ⟨W0, hW0⟩ : ∃ W, W = V := ⟨V, rfl⟩
 subst hW0
 refine CallR.of Tryd.func73 rfl rfl rfl rfl (Cw.seq (Cw.region (Lw.t rfl (T.box 2 (v := .agg [vS x0.Path, v0_1_].toArray) (cs := [vS x0.Path, v0_1_]) rfl rfl) ?_)))
 rintro _ _ ⟨g1, W1, rfl, rfl, l1, b1⟩
 have a2 := l1.o
 refine Lw.t rfl (T.alloc 3 (cs := [vS ([] : Str), .slice none 0 0]) rfl) ?_
 rintro _ _ ⟨g3, W3, rfl, rfl, l3, b3⟩
 have a4 := a2.n l3
 refine Lw.nil (Cw.seq (Cw.region (Lw.t rfl (T.alloc 4 (cs := [vS ([] : Str), .slice none 0 0]) rfl) ?_)))
 rintro _ _ ⟨g6, W6, rfl, rfl, l6, b6⟩
 have a7 := a4.n l6
 have b8 := (b1.up l3 rfl).up l6 rfl
 refine Lw.nil (Cw.seq (Cw.region (Lw.fa rfl (Lw.r rfl (R.ld (v := vS x0.Path) rfl rfl (b8.cell rfl)) (Lw.fa rfl (Lw.u (T.st (j := 0) (v := vS x0.Path) b6 rfl rfl rfl rfl rfl) ?_))))))
 rintro _ _ ⟨W10, rfl, l10, b10⟩
 have a11 := a7.t l10 rfl
 refine Lw.nil (Cw.seq (Cw.region (Lw.fa rfl (Lw.r rfl (R.ld (v := v0_1_) rfl rfl ((b8.up l10 rfl).cell rfl)) ?_))))
 obtain ⟨z15, e16, hm⟩ := ob hm
 refine Lw.t rfl (T.call rfl (p50 (K := [0]) (k0 := 5) (h0_1.ul a11) e16)) ?_
 rintro v0_17 _ ⟨W17, rfl, l17, ⟨_, rfl, f17_0⟩⟩
 have a18 := a11.n l17
 refine Lw.fa rfl (Lw.u (T.st (j := 1) (v := v0_17) (b10.up l17 rfl) rfl rfl f17_0.oc rfl rfl) ?_)
 rintro _ _ ⟨W22, rfl, l22, b22⟩
 have a23 := a18.t l22 rfl
 refine Lw.nil (Cw.seq (Cw.region (Lw.r rfl (R.lda (cs := [vS x0.Path, v0_17]) b22.cells rfl rfl) (Lw.u (T.sta (vs := [vS x0.Path, v0_17]) ((((b3.up l6 rfl).up l10 rfl).up l17 rfl).up l22 rfl) rfl rfl (oc_cons rfl (oc_cons (f17_0.up l22 rfl).oc oc_nil)) rfl rfl) ?_))))
 rintro _ _ ⟨W27, rfl, l27, b27⟩
 have a28 := a23.t l27 rfl
 refine Lw.nil ?_
 cases hm
 exact Cw.ret (retA1 rfl b27 (Res.mk a28 ⟨v0_17, rfl, ((f17_0.up l22 rfl).up l27 rfl).s.sub rfl rfl⟩))

theorem p73 {W : CW} {K : List Nat} {x0 : Vm.File} {v0_1_ : Value} {k0 : Nat} {r : Vm.File} (h0 : Rd W K [vS x0.Path, v0_1_] x0) (hm : Vm.laws_toFile x0 = some r) : CallR Tryd.prog 73 [.agg [vS x0.Path, v0_1_].toArray].toArray W.w (Res W [] fun W' v => ∃ (u0_1 : Value), v = .agg [vS r.Path, u0_1].toArray ∧ Ow W' k0 [] [u0_1] r.Text) :=
 (c73 (V := W.view K []) (h0.view _) hm).ad (fk k0) fun _ _ ⟨u0_1, e, f0⟩ => ⟨u0_1, e, f0.back (fk_LL _)⟩

theorem c26 {V : CW} {x0 : List Vm.File} {v0_ : Value} {r : (List Vm.File)} (h0 : Rd V [0] [v0_] x0) (hm : Vm.laws_toFileS x0 = some r) : CallR Tryd.prog 26 [v0_].toArray V.w (Res V LL fun Wf v => ∃ (u0 : Value), v = u0 ∧ OwS Wf LL [] [u0] r) := by
 unfold Vm.laws_toFileS at hm
 obtain ⟨W0, hW0⟩ : ∃ W, W = V := ⟨V, rfl⟩
 subst hW0
 refine CallR.of Tryd.func26 rfl rfl rfl rfl (Cw.seq (Cw.region (Lw.g (.slice none 0 0) rfl (Lw.nil (Cw.seq (Cw.region (Lw.m v0_ rfl (Lw.ln x0 h0 rfl ?_))))))))
 obtain ⟨q1, e2, hm⟩ := ob hm
 refine Lw.t rfl (T.mk (α := File) 2 [] (n := (x0.length : Int)) rfl rfl e2) ?_
 rintro v3 _ ⟨W3, rfl, l3, o3⟩
 have a4 := l3.o
 refine Lw.g v3 rfl (Lw.nil (Cw.seq (Cw.seq (Cw.region (Lw.g (vI 0) rfl (Lw.nil (Cw.block ?_)))))))
 obtain ⟨K9, hK9, hm⟩ := jn_e hm
 refine Cw.loop 8 21 [4] (fun m l w => ∃ (y5 : Int) (y6 : List Vm.File) (W8 : CW), W8.w = w ∧ Le [2, 3] W3 W8 ∧ l = [vI y5] ∧ Ow W8 2 [] [v3] y6 ∧ Vm.laws_toFileS_l1 x0 K9 m y5 y6 = some r) (((x0.length : Int) - 0).toNat + 1) ⟨0, q1, W3, rfl, Le.refl _ _, rfl, o3, hm⟩ ?_
 rintro m10 _ _ σ ⟨y5, y6, W8, rfl, l8, rfl, o7, hm⟩
 obtain _ | m10 := m10
 ·cases hm
 unfold Vm.laws_toFileS_l1 at hm
 have a11 := a4.t l8 rfl
 refine Cw.seq (Cw.seq (Cw.region (Lw.m (vI y5) rfl (Lw.m v0_ rfl (Lw.ln x0 (h0.ul a11) rfl (Lw.lt rfl (Lw.nil (Cw.cond (b := decide ((y5 : Int) < ((x0.length : Int) : Int))) rfl (fun hc13 => ?_) (fun hc13 => ?_)))))))))
 ·replace hm := bt hm hc13
  refine Cw.skip (Cw.seq (Cw.block (Cw.region (Lw.m v3 rfl (Lw.m (vI y5) rfl (Lw.m v0_ rfl (Lw.m (vI y5) rfl ?_)))))))
  obtain ⟨u14, e15, hm⟩ := ob hm
  refine Lw.r rfl (R.ix (α := File) (h0.ul a11) e15 rfl rfl rfl) ?_
  obtain ⟨x16, c17, _, r18⟩ := ((h0.ul a11).at_ e15).cells
  obtain ⟨v19, rfl, r20⟩ := File.split r18
  refine Lw.r rfl (R.lda c17 rfl rfl) ?_
  obtain ⟨z21, e22, hm⟩ := ob hm
  refine Lw.t rfl (T.call rfl (p73 (K := [0]) (k0 := 3) (File.rd (K := [0]) u14.Path u14.Text r20) e22)) ?_
  rintro _ _ ⟨W23, rfl, l23, ⟨v0_1_23, rfl, f23_0⟩⟩
  obtain ⟨u26, e27, hm⟩ := ob hm
  refine Lw.r rfl (R.ix (α := File) (o7.up l23 rfl).rd e27 rfl rfl rfl) ?_
  obtain ⟨q29, e30, hm⟩ := ob hm
  refine Lw.u (T.stO (J := [3]) (o7.up l23 rfl) (File.own z21.Path z21.Text f23_0.s) e30 rfl rfl rfl) ?_
  rintro _ _ ⟨W28, rfl, l28, o28⟩
  refine Lw.nil (Cw.region (Lw.m (vI y5) rfl (Lw.add rfl (Lw.g (vI (w64 (y5 + 1))) rfl (Lw.nil (⟨?_, m10, Nat.lt_succ_self m10, ⟨w64 (y5 + 1), q29, W28, rfl, (l8.trans ((l23.sub rfl).trans l28)), rfl, o28, hm⟩⟩))))))
  iterate 16 (refine .u ?_)
  exact Agree.base
 ·replace hm := bf hm hc13
  refine Cw.exit ?_
  rw [hK9] at hm
  refine Cw.seq (Cw.region (Lw.m v3 rfl (Lw.g v3 rfl (Lw.nil ?_))))
  cases hm
  exact Cw.ret (ret1 rfl (Res.mk a11 ⟨v3, rfl, o7.s.sub rfl rfl⟩))

theorem p26 {W : CW} {K : List Nat} {x0 : List Vm.File} {v0_ : Value} {k0 : Nat} {r : (List Vm.File)} (h0 : Rd W K [v0_] x0) (hm : Vm.laws_toFileS x0 = some r) : CallR Tryd.prog 26 [v0_].toArray W.w (Res W [] fun W' v => ∃ (u0 : Value), v = u0 ∧ Ow W' k0 [] [u0] r) :=
 (c26 (V := W.view K []) (h0.view _) hm).ad (fk k0) fun _ _ ⟨u0, e, f0⟩ => ⟨u0, e, f0.back (fk_LL _)⟩

theorem c89 {V : CW} {x0 : Vm.Commit} {v0_0_ : Value} {v0_2_ : Value} {r : Vm.Commit} (h0 : Rd V [0] [v0_0_, vS x0.Who, v0_2_] x0) (hm : Vm.laws_toCommit x0 = some r) : CallR Tryd.prog 89 [.agg [v0_0_, vS x0.Who, v0_2_].toArray].toArray V.w (Res V LL fun Wf v => ∃ (u0_0 : Value) (u0_2 : Value), v = .agg [u0_0, vS r.Who, u0_2].toArray ∧ OwS Wf [31] [] [u0_0] r.Parents ∧ OwS Wf [32] [] [u0_2] r.Tree) := by
 unfold Vm.laws_toCommit at hm
 obtain ⟨w0_0, w0_1, he0, h0_0, h0_2⟩ := Commit.split h0
 simp only [List.cons.injEq, and_true, true_and] at he0
 obtain ⟨rfl, rfl⟩ := he0
 obtain ⟨W0, hW0⟩ : ∃ W, W = V := ⟨V, rfl⟩
 subst hW0
 refine CallR.of Tryd.func89 rfl rfl rfl rfl (Cw.seq (Cw.region (Lw.t rfl (T.box 2 (v := .agg [v0_0_, vS x0.Who, v0_2_].toArray) (cs := [v0_0_, vS x0.Who, v0_2_]) rfl rfl) ?_)))
 rintro _ _ ⟨g1, W1, rfl, rfl, l1, b1⟩
 have a2 := l1.o
 refine Lw.t rfl (T.alloc 3 (cs := [.slice none 0 0, vS ([] : Str), .slice none 0 0]) rfl) ?_
 rintro _ _ ⟨g3, W3, rfl, rfl, l3, b3⟩
 have a4 := a2.n l3
 refine Lw.nil (Cw.seq (Cw.region (Lw.t rfl (T.alloc 4 (cs := [.slice none 0 0, vS ([] : Str), .slice none 0 0]) rfl) ?_)))
 rintro _ _ ⟨g6, W6, rfl, rfl, l6, b6⟩
 have a7 := a4.n l6
 have b8 := (b1.up l3 rfl).up l6 rfl
 refine Lw.nil (Cw.seq (Cw.region (Lw.fa rfl (Lw.r rfl (R.ld (v := v0_0_) rfl rfl (b8.cell rfl)) ?_))))
 obtain ⟨z11, e12, hm⟩ := ob hm
 refine Lw.t rfl (T.call rfl (p36 (K := [0]) (k0 := 5) (h0_0.ul a7) e12)) ?_
 rintro v0_13 _ ⟨W13, rfl, l13, ⟨_, rfl, f13_0⟩⟩
 have a14 := a7.n l13
 refine Lw.fa rfl (Lw.u (T.st (j := 0) (v := v0_13) (b6.up l13 rfl) rfl rfl f13_0.oc rfl rfl) ?_)
 rintro _ _ ⟨W18, rfl, l18, b18⟩
 have a19 := a14.t l18 rfl
 have b21 := (b8.up l13 rfl).up l18 rfl
 refine Lw.nil (Cw.seq (Cw.region (Lw.fa rfl (Lw.r rfl (R.ld (v := vS x0.Who) rfl rfl (b21.cell rfl)) (Lw.fa rfl (Lw.u (T.st (j := 1) (v := vS x0.Who) b18 rfl rfl rfl rfl rfl) ?_))))))
 rintro _ _ ⟨W23, rfl, l23, b23⟩
 have a24 := a19.t l23 rfl
 refine Lw.nil (Cw.seq (Cw.region (Lw.fa rfl (Lw.r rfl (R.ld (v := v0_2_) rfl rfl ((b21.up l23 rfl).cell rfl)) ?_))))
 obtain ⟨z29, e30, hm⟩ := ob hm
 refine Lw.t rfl (T.call rfl (p26 (K := [0]) (k0 := 6) (h0_2.ul a24) e30)) ?_
 rintro v0_31 _ ⟨W31, rfl, l31, ⟨_, rfl, f31_0⟩⟩
 have a32 := a24.n l31
 refine Lw.fa rfl (Lw.u (T.st (j := 2) (v := v0_31) (b23.up l31 rfl) rfl rfl f31_0.oc rfl rfl) ?_)
 rintro _ _ ⟨W37, rfl, l37, b37⟩
 have a38 := a32.t l37 rfl
 have o39 := (((f13_0.up l18 rfl).up l23 rfl).up l31 rfl).up l37 rfl
 refine Lw.nil (Cw.seq (Cw.region (Lw.r rfl (R.lda (cs := [v0_13, vS x0.Who, v0_31]) b37.cells rfl rfl) (Lw.u (T.sta (vs := [v0_13, vS x0.Who, v0_31]) ((((((b3.up l6 rfl).up l13 rfl).up l18 rfl).up l23 rfl).up l31 rfl).up l37 rfl) rfl rfl (oc_cons o39.oc (oc_cons rfl (oc_cons (f31_0.up l37 rfl).oc oc_nil))) rfl rfl) ?_))))
 rintro _ _ ⟨W43, rfl, l43, b43⟩
 have a44 := a38.t l43 rfl
 refine Lw.nil ?_
 obtain ⟨W49, ew49, l49, o49⟩ := (o39.up l43 rfl).dyeO 31
 have a50 := a44.t l49 rfl
 obtain ⟨W55, ew55, l55, o55⟩ := (((f31_0.up l37 rfl).up l43 rfl).up l49 rfl).dyeO 32
 have a56 := a50.t l55 rfl
 cases hm
 rw [← ew55.trans (ew49)]
 exact Cw.ret (retA1 rfl ((b43.up l49 rfl).up l55 rfl) (Res.mk a56 ⟨v0_13, v0_31, rfl, (o49.up l55 rfl).s, o55.s⟩))

theorem p89 {W : CW} {K : List Nat} {x0 : Vm.Commit} {v0_0_ : Value} {v0_2_ : Value} {k0 : Nat} {k1 : Nat} {r : Vm.Commit} (h0 : Rd W K [v0_0_, vS x0.Who, v0_2_] x0) (hm : Vm.laws_toCommit x0 = some r) : CallR Tryd.prog 89 [.agg [v0_0_, vS x0.Who, v0_2_].toArray].toArray W.w (Res W [] fun W' v => ∃ (u0_0 : Value) (u0_2 : Value), v = .agg [u0_0, vS r.Who, u0_2].toArray ∧ Ow W' k0 [] [u0_0] r.Parents ∧ Ow W' k1 [] [u0_2] r.Tree) :=
 CallR.adJ (J := []) (fun c => bif Nat.beq c 0 then 0 else bif Nat.beq c 31 then k0 else bif Nat.beq c 32 then k1 else 0) (c89 (V := W.view K []) (h0.view _) hm) fun _ _ ⟨u0_0, u0_2, e, f0, f1⟩ => ⟨u0_0, u0_2, e, f0.one1.backN rfl, f1.one1.backN rfl⟩

theorem c37 {V : CW} {x0 : List Vm.Commit} {v0_ : Value} {r : (List Vm.Commit)} (h0 : Rd V [0] [v0_] x0) (hm : Vm.laws_toCommitS x0 = some r) : CallR Tryd.prog 37 [v0_].toArray V.w (Res V LL fun Wf v => ∃ (u0 : Value), v = u0 ∧ OwS Wf LL [] [u0] r) := by
 unfold Vm.laws_toCommitS at hm
 obtain ⟨W0, hW0⟩ : ∃ W, W = V := ⟨V, rfl⟩
 subst hW0
 refine CallR.of Tryd.func37 rfl rfl rfl rfl (Cw.seq (Cw.region (Lw.g (.slice none 0 0) rfl (Lw.nil (Cw.seq (Cw.region (Lw.m v0_ rfl (Lw.ln x0 h0 rfl ?_))))))))
 obtain ⟨q1, e2, hm⟩ := ob hm
 refine Lw.t rfl (T.mk (α := Commit) 2 [] (n := (x0.length : Int)) rfl rfl e2) ?_
 rintro v3 _ ⟨W3, rfl, l3, o3⟩
 have a4 := l3.o
 refine Lw.g v3 rfl (Lw.nil (Cw.seq (Cw.seq (Cw.region (Lw.g (vI 0) rfl (Lw.nil (Cw.block ?_)))))))
 obtain ⟨K9, hK9, hm⟩ := jn_e hm
 refine Cw.loop 8 21 [4] (fun m l w => ∃ (y5 : Int) (y6 : List Vm.Commit) (W8 : CW), W8.w = w ∧ Le [2, 3, 4] W3 W8 ∧ l = [vI y5] ∧ Ow W8 2 [] [v3] y6 ∧ Vm.laws_toCommitS_l1 x0 K9 m y5 y6 = some r) (((x0.length : Int) - 0).toNat + 1) ⟨0, q1, W3, rfl, Le.refl _ _, rfl, o3, hm⟩ ?_
 rintro m10 _ _ σ ⟨y5, y6, W8, rfl, l8, rfl, o7, hm⟩
 obtain _ | m10 := m10
 ·cases hm
 unfold Vm.laws_toCommitS_l1 at hm
 have a11 := a4.t l8 rfl
 refine Cw.seq (Cw.seq (Cw.region (Lw.m (vI y5) rfl (Lw.m v0_ rfl (Lw.ln x0 (h0.ul a11) rfl (Lw.lt rfl (Lw.nil (Cw.cond (b := decide ((y5 : Int) < ((x0.length : Int) : Int))) rfl (fun hc13 => ?_) (fun hc13 => ?_)))))))))
 ·replace hm := bt hm hc13
  refine Cw.skip (Cw.seq (Cw.block (Cw.region (Lw.m v3 rfl (Lw.m (vI y5) rfl (Lw.m v0_ rfl (Lw.m (vI y5) rfl ?_)))))))
  obtain ⟨u14, e15, hm⟩ := ob hm
  refine Lw.r rfl (R.ix (α := Commit) (h0.ul a11) e15 rfl rfl rfl) ?_
  obtain ⟨x16, c17, _, r18⟩ := ((h0.ul a11).at_ e15).cells
  obtain ⟨v19, v21, rfl, r20, r22⟩ := Commit.split r18
  refine Lw.r rfl (R.lda c17 rfl rfl) ?_
  obtain ⟨z23, e24, hm⟩ := ob hm
  refine Lw.t rfl (T.call rfl (p89 (K := [0]) (k0 := 3) (k1 := 4) (Commit.rd (K := [0]) u14.Parents u14.Who u14.Tree r20 r22) e24)) ?_
  rintro _ _ ⟨W25, rfl, l25, ⟨v0_0_25, v0_2_25, rfl, f25_0, f25_1⟩⟩
  obtain ⟨u28, e29, hm⟩ := ob hm
  refine Lw.r rfl (R.ix (α := Commit) (o7.up l25 rfl).rd e29 rfl rfl rfl) ?_
  obtain ⟨q31, e32, hm⟩ := ob hm
  refine Lw.u (T.stO (J := [3, 4]) (o7.up l25 rfl) (Commit.own z23.Parents z23.Who z23.Tree f25_0.s f25_1.s) e32 rfl rfl rfl) ?_
  rintro _ _ ⟨W30, rfl, l30, o30⟩
  refine Lw.nil (Cw.region (Lw.m (vI y5) rfl (Lw.add rfl (Lw.g (vI (w64 (y5 + 1))) rfl (Lw.nil (⟨?_, m10, Nat.lt_succ_self m10, ⟨w64 (y5 + 1), q31, W30, rfl, (l8.trans ((l25.sub rfl).trans l30)), rfl, o30, hm⟩⟩))))))
  iterate 16 (refine .u ?_)
  exact Agree.base
 ·replace hm := bf hm hc13
  refine Cw.exit ?_
  rw [hK9] at hm
  refine Cw.seq (Cw.region (Lw.m v3 rfl (Lw.g v3 rfl (Lw.nil ?_))))
  cases hm
  exact Cw.ret (ret1 rfl (Res.mk a11 ⟨v3, rfl, o7.s.sub rfl rfl⟩))

theorem p37 {W : CW} {K : List Nat} {x0 : List Vm.Commit} {v0_ : Value} {k0 : Nat} {r : (List Vm.Commit)} (h0 : Rd W K [v0_] x0) (hm : Vm.laws_toCommitS x0 = some r) : CallR Tryd.prog 37 [v0_].toArray W.w (Res W [] fun W' v => ∃ (u0 : Value), v = u0 ∧ Ow W' k0 [] [u0] r) :=
 (c37 (V := W.view K []) (h0.view _) hm).ad (fk k0) fun _ _ ⟨u0, e, f0⟩ => ⟨u0, e, f0.back (fk_LL _)⟩

theorem c115 {V : CW} {x0 : Vm.Head} {r : Vm.Head} (h0 : Rd V [0] [vS x0.Name, vI x0.At] x0) (hm : Vm.laws_toHead x0 = some r) : CallR Tryd.prog 115 [.agg [vS x0.Name, vI x0.At].toArray].toArray V.w (Res V LL fun Wf v => v = .agg [vS r.Name, vI r.At].toArray) := by
 unfold Vm.laws_toHead at hm
 obtain ⟨W0, hW0⟩ : ∃ W, W = V := ⟨V, rfl⟩
 subst hW0
 refine CallR.of Tryd.func115 rfl rfl rfl rfl (Cw.seq (Cw.region (Lw.t rfl (T.box 2 (v := .agg [vS x0.Name, vI x0.At].toArray) (cs := [vS x0.Name, vI x0.At]) rfl rfl) ?_)))
 rintro _ _ ⟨g1, W1, rfl, rfl, l1, b1⟩
 have a2 := l1.o
 refine Lw.t rfl (T.alloc 3 (cs := [vS ([] : Str), vI 0]) rfl) ?_
 rintro _ _ ⟨g3, W3, rfl, rfl, l3, b3⟩
 have a4 := a2.n l3
 refine Lw.nil (Cw.seq (Cw.region (Lw.t rfl (T.alloc 4 (cs := [vS ([] : Str), vI 0]) rfl) ?_)))
 rintro _ _ ⟨g6, W6, rfl, rfl, l6, b6⟩
 have a7 := a4.n l6
 have b8 := (b1.up l3 rfl).up l6 rfl
 refine Lw.nil (Cw.seq (Cw.region (Lw.fa rfl (Lw.r rfl (R.ld (v := vS x0.Name) rfl rfl (b8.cell rfl)) (Lw.fa rfl (Lw.u (T.st (j := 0) (v := vS x0.Name) b6 rfl rfl rfl rfl rfl) ?_))))))
 rintro _ _ ⟨W10, rfl, l10, b10⟩
 have a11 := a7.t l10 rfl
 refine Lw.nil (Cw.seq (Cw.region (Lw.fa rfl (Lw.r rfl (R.ld (v := vI x0.At) rfl rfl ((b8.up l10 rfl).cell rfl)) (Lw.fa rfl (Lw.u (T.st (j := 1) (v := vI x0.At) b10 rfl rfl rfl rfl rfl) ?_))))))
 rintro _ _ ⟨W14, rfl, l14, b14⟩
 have a15 := a11.t l14 rfl
 refine Lw.nil (Cw.seq (Cw.region (Lw.r rfl (R.lda (cs := [vS x0.Name, vI x0.At]) b14.cells rfl rfl) (Lw.u (T.sta (vs := [vS x0.Name, vI x0.At]) (((b3.up l6 rfl).up l10 rfl).up l14 rfl) rfl rfl (oc_cons rfl (oc_cons rfl oc_nil)) rfl rfl) ?_))))
 rintro _ _ ⟨W18, rfl, l18, b18⟩
 have a19 := a15.t l18 rfl
 refine Lw.nil ?_
 cases hm
 exact Cw.ret (retA1 rfl b18 (Res.mk a19 rfl))

theorem p115 {W : CW} {K : List Nat} {x0 : Vm.Head} {r : Vm.Head} (h0 : Rd W K [vS x0.Name, vI x0.At] x0) (hm : Vm.laws_toHead x0 = some r) : CallR Tryd.prog 115 [.agg [vS x0.Name, vI x0.At].toArray].toArray W.w (Res W [] fun W' v => v = .agg [vS r.Name, vI r.At].toArray) :=
 (c115 (V := W.view K []) (h0.view _) hm).ad (fk 0) fun _ _ e => e

theorem c57 {V : CW} {x0 : List Vm.Head} {v0_ : Value} {r : (List Vm.Head)} (h0 : Rd V [0] [v0_] x0) (hm : Vm.laws_toHeadS x0 = some r) : CallR Tryd.prog 57 [v0_].toArray V.w (Res V LL fun Wf v => ∃ (u0 : Value), v = u0 ∧ OwS Wf LL [] [u0] r) := by
 unfold Vm.laws_toHeadS at hm
 obtain ⟨W0, hW0⟩ : ∃ W, W = V := ⟨V, rfl⟩
 subst hW0
 refine CallR.of Tryd.func57 rfl rfl rfl rfl (Cw.seq (Cw.region (Lw.g (.slice none 0 0) rfl (Lw.nil (Cw.seq (Cw.region (Lw.m v0_ rfl (Lw.ln x0 h0 rfl ?_))))))))
 obtain ⟨q1, e2, hm⟩ := ob hm
 refine Lw.t rfl (T.mk (α := Head) 2 [] (n := (x0.length : Int)) rfl rfl e2) ?_
 rintro v3 _ ⟨W3, rfl, l3, o3⟩
 have a4 := l3.o
 refine Lw.g v3 rfl (Lw.nil (Cw.seq (Cw.seq (Cw.region (Lw.g (vI 0) rfl (Lw.nil (Cw.block ?_)))))))
 obtain ⟨K9, hK9, hm⟩ := jn_e hm
 refine Cw.loop 8 21 [4] (fun m l w => ∃ (y5 : Int) (y6 : List Vm.Head) (W8 : CW), W8.w = w ∧ Le [2] W3 W8 ∧ l = [vI y5] ∧ Ow W8 2 [] [v3] y6 ∧ Vm.laws_toHeadS_l1 x0 K9 m y5 y6 = some r) (((x0.length : Int) - 0).toNat + 1) ⟨0, q1, W3, rfl, Le.refl _ _, rfl, o3, hm⟩ ?_
 rintro m10 _ _ σ ⟨y5, y6, W8, rfl, l8, rfl, o7, hm⟩
 obtain _ | m10 := m10
 ·cases hm
 unfold Vm.laws_toHeadS_l1 at hm
 have a11 := a4.t l8 rfl
 refine Cw.seq (Cw.seq (Cw.region (Lw.m (vI y5) rfl (Lw.m v0_ rfl (Lw.ln x0 (h0.ul a11) rfl (Lw.lt rfl (Lw.nil (Cw.cond (b := decide ((y5 : Int) < ((x0.length : Int) : Int))) rfl (fun hc13 => ?_) (fun hc13 => ?_)))))))))
 ·replace hm := bt hm hc13
  refine Cw.skip (Cw.seq (Cw.block (Cw.region (Lw.m v3 rfl (Lw.m (vI y5) rfl (Lw.m v0_ rfl (Lw.m (vI y5) rfl ?_)))))))
  obtain ⟨u14, e15, hm⟩ := ob hm
  refine Lw.r rfl (R.ix (α := Head) (h0.ul a11) e15 rfl rfl rfl) ?_
  obtain ⟨x16, c17, _, r18⟩ := ((h0.ul a11).at_ e15).cells
  obtain rfl := Head.split r18
  refine Lw.r rfl (R.lda c17 rfl rfl) ?_
  obtain ⟨z19, e20, hm⟩ := ob hm
  refine Lw.t rfl (T.call rfl (p115 (K := [0])  (Head.rd (K := [0]) u14.Name u14.At ) e20)) ?_
  rintro _ _ ⟨W21, rfl, l21, rfl⟩
  obtain ⟨u24, e25, hm⟩ := ob hm
  refine Lw.r rfl (R.ix (α := Head) (o7.up l21 rfl).rd e25 rfl rfl rfl) ?_
  obtain ⟨q27, e28, hm⟩ := ob hm
  refine Lw.u (T.stS (K' := []) (o7.up l21 rfl) (Head.rd (K := []) z19.Name z19.At) e28 rfl rfl rfl) ?_
  rintro _ _ ⟨W26, rfl, l26, o26⟩
  refine Lw.nil (Cw.region (Lw.m (vI y5) rfl (Lw.add rfl (Lw.g (vI (w64 (y5 + 1))) rfl (Lw.nil (⟨?_, m10, Nat.lt_succ_self m10, ⟨w64 (y5 + 1), q27, W26, rfl, (l8.trans ((l21.sub rfl).trans l26)), rfl, o26, hm⟩⟩))))))
  iterate 16 (refine .u ?_)
  exact Agree.base
 ·replace hm := bf hm hc13
  refine Cw.exit ?_
  rw [hK9] at hm
  refine Cw.seq (Cw.region (Lw.m v3 rfl (Lw.g v3 rfl (Lw.nil ?_))))
  cases hm
  exact Cw.ret (ret1 rfl (Res.mk a11 ⟨v3, rfl, o7.s.sub rfl rfl⟩))

theorem p57 {W : CW} {K : List Nat} {x0 : List Vm.Head} {v0_ : Value} {k0 : Nat} {r : (List Vm.Head)} (h0 : Rd W K [v0_] x0) (hm : Vm.laws_toHeadS x0 = some r) : CallR Tryd.prog 57 [v0_].toArray W.w (Res W [] fun W' v => ∃ (u0 : Value), v = u0 ∧ Ow W' k0 [] [u0] r) :=
 (c57 (V := W.view K []) (h0.view _) hm).ad (fk k0) fun _ _ ⟨u0, e, f0⟩ => ⟨u0, e, f0.back (fk_LL _)⟩

theorem c17 {V : CW} {x0 : Vm.Repo} {v0_0_ : Value} {v0_1_ : Value} {r : Vm.Repo} (h0 : Rd V [0] [v0_0_, v0_1_] x0) (hm : Vm.laws_toRepo x0 = some r) : CallR Tryd.prog 17 [.agg [v0_0_, v0_1_].toArray].toArray V.w (Res V LL fun Wf v => ∃ (u0_0 : Value) (u0_1 : Value), v = .agg [u0_0, u0_1].toArray ∧ OwS Wf [31] [] [u0_0] r.Commits ∧ OwS Wf [32] [] [u0_1] r.Heads) := by
 unfold Vm.laws_toRepo at hm
 obtain ⟨w0_0, w0_1, he0, h0_0, h0_1⟩ := Repo.split h0
 simp only [List.cons.injEq, and_true, true_and] at he0
 obtain ⟨rfl, rfl⟩ := he0
 obtain ⟨W0, hW0⟩ : ∃ W, W = V := ⟨V, rfl⟩
 subst hW0
 refine CallR.of Tryd.func17 rfl rfl rfl rfl (Cw.seq (Cw.region (Lw.t rfl (T.box 2 (v := .agg [v0_0_, v0_1_].toArray) (cs := [v0_0_, v0_1_]) rfl rfl) ?_)))
 rintro _ _ ⟨g1, W1, rfl, rfl, l1, b1⟩
 have a2 := l1.o
 refine Lw.t rfl (T.alloc 3 (cs := [.slice none 0 0, .slice none 0 0]) rfl) ?_
 rintro _ _ ⟨g3, W3, rfl, rfl, l3, b3⟩
 have a4 := a2.n l3
 refine Lw.nil (Cw.seq (Cw.region (Lw.t rfl (T.alloc 4 (cs := [.slice none 0 0, .slice none 0 0]) rfl) ?_)))
 rintro _ _ ⟨g6, W6, rfl, rfl, l6, b6⟩
 have a7 := a4.n l6
 have b8 := (b1.up l3 rfl).up l6 rfl
 refine Lw.nil (Cw.seq (Cw.region (Lw.fa rfl (Lw.r rfl (R.ld (v := v0_0_) rfl rfl (b8.cell rfl)) ?_))))
 obtain ⟨z11, e12, hm⟩ := ob hm
 refine Lw.t rfl (T.call rfl (p37 (K := [0]) (k0 := 5) (h0_0.ul a7) e12)) ?_
 rintro v0_13 _ ⟨W13, rfl, l13, ⟨_, rfl, f13_0⟩⟩
 have a14 := a7.n l13
 refine Lw.fa rfl (Lw.u (T.st (j := 0) (v := v0_13) (b6.up l13 rfl) rfl rfl f13_0.oc rfl rfl) ?_)
 rintro _ _ ⟨W18, rfl, l18, b18⟩
 have a19 := a14.t l18 rfl
 refine Lw.nil (Cw.seq (Cw.region (Lw.fa rfl (Lw.r rfl (R.ld (v := v0_1_) rfl rfl (((b8.up l13 rfl).up l18 rfl).cell rfl)) ?_))))
 obtain ⟨z24, e25, hm⟩ := ob hm
 refine Lw.t rfl (T.call rfl (p57 (K := [0]) (k0 := 6) (h0_1.ul a19) e25)) ?_
 rintro v0_26 _ ⟨W26, rfl, l26, ⟨_, rfl, f26_0⟩⟩
 have a27 := a19.n l26
 refine Lw.fa rfl (Lw.u (T.st (j := 1) (v := v0_26) (b18.up l26 rfl) rfl rfl f26_0.oc rfl rfl) ?_)
 rintro _ _ ⟨W32, rfl, l32, b32⟩
 have a33 := a27.t l32 rfl
 have o34 := ((f13_0.up l18 rfl).up l26 rfl).up l32 rfl
 refine Lw.nil (Cw.seq (Cw.region (Lw.r rfl (R.lda (cs := [v0_13, v0_26]) b32.cells rfl rfl) (Lw.u (T.sta (vs := [v0_13, v0_26]) (((((b3.up l6 rfl).up l13 rfl).up l18 rfl).up l26 rfl).up l32 rfl) rfl rfl (oc_cons o34.oc (oc_cons (f26_0.up l32 rfl).oc oc_nil)) rfl rfl) ?_))))
 rintro _ _ ⟨W38, rfl, l38, b38⟩
 have a39 := a33.t l38 rfl
 refine Lw.nil ?_
 obtain ⟨W44, ew44, l44, o44⟩ := (o34.up l38 rfl).dyeO 31
 have a45 := a39.t l44 rfl
 obtain ⟨W50, ew50, l50, o50⟩ := (((f26_0.up l32 rfl).up l38 rfl).up l44 rfl).dyeO 32
 have a51 := a45.t l50 rfl
 cases hm
 rw [← ew50.trans (ew44)]
 exact Cw.ret (retA1 rfl ((b38.up l44 rfl).up l50 rfl) (Res.mk a51 ⟨v0_13, v0_26, rfl, (o44.up l50 rfl).s, o50.s⟩))

theorem p17 {W : CW} {K : List Nat} {x0 : Vm.Repo} {v0_0_ : Value} {v0_1_ : Value} {k0 : Nat} {k1 : Nat} {r : Vm.Repo} (h0 : Rd W K [v0_0_, v0_1_] x0) (hm : Vm.laws_toRepo x0 = some r) : CallR Tryd.prog 17 [.agg [v0_0_, v0_1_].toArray].toArray W.w (Res W [] fun W' v => ∃ (u0_0 : Value) (u0_1 : Value), v = .agg [u0_0, u0_1].toArray ∧ Ow W' k0 [] [u0_0] r.Commits ∧ Ow W' k1 [] [u0_1] r.Heads) :=
 CallR.adJ (J := []) (fun c => bif Nat.beq c 0 then 0 else bif Nat.beq c 31 then k0 else bif Nat.beq c 32 then k1 else 0) (c17 (V := W.view K []) (h0.view _) hm) fun _ _ ⟨u0_0, u0_1, e, f0, f1⟩ => ⟨u0_0, u0_1, e, f0.one1.backN rfl, f1.one1.backN rfl⟩

theorem c87 {V : CW} {x0 : Int} {x1 : Int} {x2 : Int} {r : Bool}  (hm : Vm.spec_l1In x0 x1 x2 = some r) : CallR Tryd.prog 87 [vI x0, vI x1, vI x2].toArray V.w (Res V LL fun Wf v => v = vB r) := by
 unfold Vm.spec_l1In at hm
 obtain ⟨W0, hW0⟩ : ∃ W, W = V := ⟨V, rfl⟩
 subst hW0
 refine CallR.of Tryd.func87 rfl rfl rfl rfl (Cw.seq (Cw.region (Lw.g (vB false) rfl (Lw.nil ?_))))
 obtain ⟨K3, hK3, hm⟩ := jn_e hm
 refine Cw.join 7 14 [6] (fun l w => ∃ (y1 : Bool) (W2 : CW), W2.w = w ∧ Le [] W0 W2 ∧ l = [vB y1] ∧ K3 y1 = some r) ?_ ?_
 ·rintro _ _ σ ⟨y1, W2, rfl, l2, rfl, hm⟩
  rw [hK3] at hm
  have a4 := l2.o
  cases hm
  exact Cw.ret (ret1 rfl (Res.mk a4 rfl))
 ·refine Cw.region (Lw.m (vI x0) rfl (Lw.m (vI x1) rfl (Lw.ge rfl (Lw.m (vB (decide ((x1 : Int) ≤ (x0 : Int)))) rfl (bsplit (decide ((x1 : Int) ≤ (x0 : Int))) (fun hc5 => ?_) (fun hc5 => ?_))))))
  ·replace hm := bt hm hc5
   refine Lw.wa hc5 rfl (Lw.m (vI x0) rfl (Lw.wa hc5 rfl (Lw.m (vI x2) rfl (Lw.wa hc5 rfl (Lw.le rfl (Lw.p hc5 (vB (decide ((x0 : Int) ≤ (x2 : Int)))) rfl (Lw.g (vB (decide ((x0 : Int) ≤ (x2 : Int)))) rfl (Lw.nil (⟨?_, ⟨decide ((x0 : Int) ≤ (x2 : Int)), W0, rfl, Le.refl _ _, rfl, hm⟩⟩)))))))))
   iterate 9 (refine .u ?_)
   exact Agree.refl _
  ·replace hm := bf hm hc5
   refine Lw.ps hc5 rfl (Lw.ps hc5 rfl (Lw.ps hc5 rfl (Lw.p hc5 (vB false) rfl (Lw.g (vB false) rfl (Lw.nil (⟨?_, ⟨false, W0, rfl, Le.refl _ _, rfl, hm⟩⟩))))))
   iterate 9 (refine .u ?_)
   exact Agree.refl _

theorem p87 {W : CW} {K : List Nat} {x0 : Int} {x1 : Int} {x2 : Int} {r : Bool}  (hm : Vm.spec_l1In x0 x1 x2 = some r) : CallR Tryd.prog 87 [vI x0, vI x1, vI x2].toArray W.w (Res W [] fun W' v => v = vB r) :=
 (c87 (V := W.view K [])  hm).ad (fk 0) fun _ _ e => e

end Go.Sx
