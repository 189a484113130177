/- Walks: each function answers as its model, printed by a program of ours. Conditions: the arguments read as they are given. -/
import Derived.Test.YtnnlfbiipbfkcaaXTs
import Derived.Test.YtnnlfbiipbfkcaaXMd
import Derived.Test.YtnnlfbiipbfkcaaXW0
namespace Go.Sx
open Go Go.Proofs Go.Vm Rp
set_option linter.unusedVariables false
set_option linter.unusedSimpArgs false

theorem c32 {V : CW} {x0 : List Str} {v0_ : Value} {x1 : List Str} {v1_ : Value} {r : Bool} (h0 : Rd V [0] [v0_] x0) (h1 : Rd V [0] [v1_] x1) (hm : Vm.laws_eqStringS x0 x1 = some r) : CallR Try.prog 32 [v0_, v1_].toArray V.w (Res V LL fun Wf v => v = vB r) := by
  unfold Vm.laws_eqStringS at hm
  obtain ⟨W0, hW0⟩ : ∃ W, W = V := ⟨V, rfl⟩
  subst hW0
  refine CallR.of Try.func32 rfl rfl rfl rfl ?_
  refine Cw.seq ?_
  refine Cw.region ?_
  refine Lw.r rfl (R.as (v := vB false) rfl) ?_
  refine Lw.nil ?_
  refine Cw.seq ?_
  refine Cw.seq ?_
  refine Cw.region ?_
  refine Lw.r rfl (R.mv (v := v0_) rfl) (Lw.r rfl (lenR (xs := x0) h0 rfl) (Lw.r rfl (R.mv (v := v1_) rfl) (Lw.r rfl (lenR (xs := x1) h1 rfl) (Lw.r rfl (R.ne rfl rfl) ?_))))
  refine Lw.nil ?_
  refine Cw.cond (b := (((x0.length : Int) : Int) != ((x1.length : Int) : Int))) rfl (fun hc1 => ?_) (fun hc1 => ?_)
  · replace hm := bt hm hc1
    refine Cw.seq ?_
    refine Cw.region ?_
    refine Lw.r rfl (R.as (v := vB false) rfl) ?_
    refine Lw.nil ?_
    cases hm
    exact Cw.ret (ret1 rfl (Res.mk (Le.refl _ _) rfl))
  · replace hm := bf hm hc1
    refine Cw.skip ?_
    refine Cw.seq ?_
    refine Cw.seq ?_
    refine Cw.region ?_
    refine Lw.r rfl (R.as (v := vI 0) rfl) ?_
    refine Lw.nil ?_
    refine Cw.block ?_
    obtain ⟨K5, hK5, hm⟩ := jn_e hm
    refine Cw.loop 11 25 [4, 5] (fun m l w => ∃ (y2 : Bool) (y3 : Int) (W4 : CW), W4.w = w ∧ Le [] W0 W4 ∧ l = [vB y2, vI y3] ∧ Vm.laws_eqStringS_l1 x0 x1 K5 m y2 y3 = some r) (((x0.length : Int) - 0).toNat + 1) ⟨false, 0, W0, rfl, Le.refl _ _, rfl, hm⟩ ?_
    rintro m6 _ _ σ ⟨y2, y3, W4, rfl, l4, rfl, hm⟩
    obtain _ | m6 := m6
    · cases hm
    unfold Vm.laws_eqStringS_l1 at hm
    have a7 : Le LL _ _ := l4.nil
    refine Cw.seq ?_
    refine Cw.seq ?_
    refine Cw.region ?_
    have s8 := h0.ul a7
    refine Lw.r rfl (R.mv (v := vI y3) rfl) (Lw.r rfl (R.mv (v := v0_) rfl) (Lw.r rfl (lenR (xs := x0) s8 rfl) (Lw.r rfl (R.lt rfl rfl) ?_)))
    refine Lw.nil ?_
    refine Cw.cond (b := decide ((y3 : Int) < ((x0.length : Int) : Int))) rfl (fun hc9 => ?_) (fun hc9 => ?_)
    · replace hm := bt hm hc9
      refine Cw.skip ?_
      refine Cw.seq ?_
      refine Cw.block ?_
      refine Cw.seq ?_
      refine Cw.draw [] [(0, 0), (1, 0), (2, 0), (3, 1), (4, 0), (5, 0), (6, 0), (7, 1), (8, 0)] mixed (by kernel_rfl) fun W10 l10 => ?_
      have a11 : Le LL _ _ := l10.nil
      refine Mw.p rfl rfl (fun _ => R.mv (v := v0_) rfl) (Mw.p rfl rfl (fun _ => R.mv (v := vI y3) rfl) ?_)
      obtain ⟨u12, e13, hm⟩ := ob hm
      have s14 := h0.ul (a7.trans a11)
      refine Mw.p rfl rfl (fun _ => R.ix (α := Str) s14 e13 rfl rfl rfl) (Mw.q rfl rfl (fun _ c => R.ld rfl rfl (cl_cell (s14.at_ e13).1 rfl (s14.at_ e13).str c)) (Mw.p rfl rfl (fun _ => R.mv (v := v1_) rfl) (Mw.p rfl rfl (fun _ => R.mv (v := vI y3) rfl) ?_)))
      obtain ⟨u15, e16, hm⟩ := ob hm
      have s17 := h1.ul (a7.trans a11)
      refine Mw.p rfl rfl (fun _ => R.ix (α := Str) s17 e16 rfl rfl rfl) (Mw.q rfl rfl (fun _ c => R.ld rfl rfl (cl_cell (s17.at_ e16).1 rfl (s17.at_ e16).str c)) (Mw.p rfl rfl (fun _ => R.sne rfl rfl) ?_))
      refine Mw.nil ?_
      refine Cw.cond (b := (u12 != u15)) rfl (fun hc18 => ?_) (fun hc18 => ?_)
      · replace hm := bt hm hc18
        refine Cw.seq ?_
        refine Cw.region ?_
        refine Lw.r rfl (R.as (v := vB false) rfl) ?_
        refine Lw.nil ?_
        cases hm
        exact Cw.ret (ret1 rfl (Res.mk (a7.trans a11) rfl))
      · replace hm := bf hm hc18
        refine Cw.skip ?_
        refine Cw.region ?_
        refine Lw.r rfl (R.mv (v := vI y3) rfl) (Lw.r rfl (R.add rfl rfl) (Lw.r rfl (R.as (v := vI (w64 (y3 + 1))) rfl) ?_))
        refine Lw.nil ?_
        refine ⟨?_, m6, Nat.lt_succ_self m6, ⟨y2, w64 (y3 + 1), W10, rfl, (l4.trans l10), rfl, hm⟩⟩
        iterate 16 (refine Agree.up rfl ?_)
        iterate 2 (refine Agree.up rfl ?_)
        exact Agree.base
    · replace hm := bf hm hc9
      refine Cw.exit ?_
      rw [hK5] at hm
      refine Cw.seq ?_
      refine Cw.region ?_
      refine Lw.r rfl (R.as (v := vB true) rfl) ?_
      refine Lw.nil ?_
      cases hm
      exact Cw.ret (ret1 rfl (Res.mk a7 rfl))

theorem p32 {W : CW} {K : List Nat} {x0 : List Str} {v0_ : Value} {x1 : List Str} {v1_ : Value} {r : Bool} (h0 : Rd W K [v0_] x0) (h1 : Rd W K [v1_] x1) (hm : Vm.laws_eqStringS x0 x1 = some r) : CallR Try.prog 32 [v0_, v1_].toArray W.w (Res W [] fun W' v => v = vB r) :=
  (c32 (V := W.view K []) (h0.view []) (h1.view []) hm).ad (fk 0) fun _ _ e => e

theorem c24 {V : CW} {x0 : Vm.Memo} {v0_0_ : Value} {v0_1_ : Value} {v0_2_ : Value} {v0_3_ : Value} {x1 : Vm.Memo} {v1_0_ : Value} {v1_1_ : Value} {v1_2_ : Value} {v1_3_ : Value} {r : Bool} (h0 : Rd V [0] [v0_0_, v0_1_, v0_2_, v0_3_] x0) (h1 : Rd V [0] [v1_0_, v1_1_, v1_2_, v1_3_] x1) (hm : Vm.laws_eqMemo x0 x1 = some r) : CallR Try.prog 24 [.agg [v0_0_, v0_1_, v0_2_, v0_3_].toArray, .agg [v1_0_, v1_1_, v1_2_, v1_3_].toArray].toArray V.w (Res V LL fun Wf v => v = vB r) := by
  unfold Vm.laws_eqMemo at hm
  obtain ⟨w0_0, w0_1, w0_2, w0_3, he0, h0_0, h0_1, h0_2, h0_3⟩ := Memo.split h0
  simp only [List.cons.injEq, and_true, true_and] at he0
  obtain ⟨rfl, rfl, rfl, rfl⟩ := he0
  obtain ⟨w1_0, w1_1, w1_2, w1_3, he1, h1_0, h1_1, h1_2, h1_3⟩ := Memo.split h1
  simp only [List.cons.injEq, and_true, true_and] at he1
  obtain ⟨rfl, rfl, rfl, rfl⟩ := he1
  obtain ⟨W0, hW0⟩ : ∃ W, W = V := ⟨V, rfl⟩
  subst hW0
  refine CallR.of Try.func24 rfl rfl rfl rfl ?_
  refine Cw.seq ?_
  refine Cw.region ?_
  refine Lw.t rfl (T.box 2 (v := .agg [v0_0_, v0_1_, v0_2_, v0_3_].toArray) (cs := [v0_0_, v0_1_, v0_2_, v0_3_]) rfl rfl) ?_
  rintro _ _ ⟨g1, W1, rfl, rfl, l1, b1⟩
  have a2 : Le LL _ _ := l1.nil
  refine Lw.t rfl (T.box 3 (v := .agg [v1_0_, v1_1_, v1_2_, v1_3_].toArray) (cs := [v1_0_, v1_1_, v1_2_, v1_3_]) rfl rfl) ?_
  rintro _ _ ⟨g3, W3, rfl, rfl, l3, b3⟩
  have a4 : Le LL _ _ := l3.nil
  have b5 := b1.up l3 rfl
  refine Lw.r rfl (R.as (v := vB false) rfl) ?_
  refine Lw.nil ?_
  refine Cw.seq ?_
  refine Cw.seq ?_
  refine Cw.region ?_
  refine Lw.r rfl (R.fa rfl) (Lw.r rfl (R.ld (v := v0_0_) rfl rfl (b5.cell rfl)) (Lw.r rfl (R.fa rfl) (Lw.r rfl (R.ld (v := v1_0_) rfl rfl (b3.cell rfl)) ?_)))
  have s6 := h0_0.ul (a2.trans a4)
  have s7 := h1_0.ul (a2.trans a4)
  obtain ⟨x8, e9, hm⟩ := ob hm
  refine Lw.t rfl (T.call rfl (p32 (K := [0])  s6 s7 e9)) ?_
  rintro _ _ ⟨W10, rfl, l10, rfl⟩
  have a11 : Le LL _ _ := l10.nil
  have b12 := b5.up l10 rfl
  have b13 := b3.up l10 rfl
  refine Lw.r rfl (R.not rfl) ?_
  refine Lw.nil ?_
  refine Cw.cond (b := (!x8)) rfl (fun hc14 => ?_) (fun hc14 => ?_)
  · replace hm := bt hm hc14
    refine Cw.seq ?_
    refine Cw.region ?_
    refine Lw.r rfl (R.as (v := vB false) rfl) ?_
    refine Lw.nil ?_
    cases hm
    exact Cw.ret (ret1 rfl (Res.mk (a2.trans (a4.trans a11)) rfl))
  · replace hm := bf hm hc14
    refine Cw.skip ?_
    refine Cw.seq ?_
    refine Cw.seq ?_
    refine Cw.region ?_
    refine Lw.r rfl (R.fa rfl) (Lw.r rfl (R.ld (v := v0_1_) rfl rfl (b12.cell rfl)) (Lw.r rfl (R.fa rfl) (Lw.r rfl (R.ld (v := v1_1_) rfl rfl (b13.cell rfl)) ?_)))
    have s15 := h0_1.ul (a2.trans (a4.trans a11))
    have s16 := h1_1.ul (a2.trans (a4.trans a11))
    obtain ⟨x17, e18, hm⟩ := ob hm
    refine Lw.t rfl (T.call rfl (p32 (K := [0])  s15 s16 e18)) ?_
    rintro _ _ ⟨W19, rfl, l19, rfl⟩
    have a20 : Le LL _ _ := l19.nil
    have b21 := b12.up l19 rfl
    have b22 := b13.up l19 rfl
    refine Lw.r rfl (R.not rfl) ?_
    refine Lw.nil ?_
    refine Cw.cond (b := (!x17)) rfl (fun hc23 => ?_) (fun hc23 => ?_)
    · replace hm := bt hm hc23
      refine Cw.seq ?_
      refine Cw.region ?_
      refine Lw.r rfl (R.as (v := vB false) rfl) ?_
      refine Lw.nil ?_
      cases hm
      exact Cw.ret (ret1 rfl (Res.mk (a2.trans (a4.trans (a11.trans a20))) rfl))
    · replace hm := bf hm hc23
      refine Cw.skip ?_
      refine Cw.seq ?_
      refine Cw.seq ?_
      refine Cw.region ?_
      refine Lw.r rfl (R.fa rfl) (Lw.r rfl (R.ld (v := v0_2_) rfl rfl (b21.cell rfl)) (Lw.r rfl (R.fa rfl) (Lw.r rfl (R.ld (v := v1_2_) rfl rfl (b22.cell rfl)) ?_)))
      have s24 := h0_2.ul (a2.trans (a4.trans (a11.trans a20)))
      have s25 := h1_2.ul (a2.trans (a4.trans (a11.trans a20)))
      obtain ⟨x26, e27, hm⟩ := ob hm
      refine Lw.t rfl (T.call rfl (p32 (K := [0])  s24 s25 e27)) ?_
      rintro _ _ ⟨W28, rfl, l28, rfl⟩
      have a29 : Le LL _ _ := l28.nil
      have b30 := b21.up l28 rfl
      have b31 := b22.up l28 rfl
      refine Lw.r rfl (R.not rfl) ?_
      refine Lw.nil ?_
      refine Cw.cond (b := (!x26)) rfl (fun hc32 => ?_) (fun hc32 => ?_)
      · replace hm := bt hm hc32
        refine Cw.seq ?_
        refine Cw.region ?_
        refine Lw.r rfl (R.as (v := vB false) rfl) ?_
        refine Lw.nil ?_
        cases hm
        exact Cw.ret (ret1 rfl (Res.mk (a2.trans (a4.trans (a11.trans (a20.trans a29)))) rfl))
      · replace hm := bf hm hc32
        refine Cw.skip ?_
        refine Cw.seq ?_
        refine Cw.seq ?_
        refine Cw.region ?_
        refine Lw.r rfl (R.fa rfl) (Lw.r rfl (R.ld (v := v0_3_) rfl rfl (b30.cell rfl)) (Lw.r rfl (R.fa rfl) (Lw.r rfl (R.ld (v := v1_3_) rfl rfl (b31.cell rfl)) ?_)))
        have s33 := h0_3.ul (a2.trans (a4.trans (a11.trans (a20.trans a29))))
        have s34 := h1_3.ul (a2.trans (a4.trans (a11.trans (a20.trans a29))))
        obtain ⟨x35, e36, hm⟩ := ob hm
        refine Lw.t rfl (T.call rfl (p32 (K := [0])  s33 s34 e36)) ?_
        rintro _ _ ⟨W37, rfl, l37, rfl⟩
        have a38 : Le LL _ _ := l37.nil
        have b39 := b30.up l37 rfl
        have b40 := b31.up l37 rfl
        refine Lw.r rfl (R.not rfl) ?_
        refine Lw.nil ?_
        refine Cw.cond (b := (!x35)) rfl (fun hc41 => ?_) (fun hc41 => ?_)
        · replace hm := bt hm hc41
          refine Cw.seq ?_
          refine Cw.region ?_
          refine Lw.r rfl (R.as (v := vB false) rfl) ?_
          refine Lw.nil ?_
          cases hm
          exact Cw.ret (ret1 rfl (Res.mk (a2.trans (a4.trans (a11.trans (a20.trans (a29.trans a38))))) rfl))
        · replace hm := bf hm hc41
          refine Cw.skip ?_
          refine Cw.seq ?_
          refine Cw.region ?_
          refine Lw.r rfl (R.as (v := vB true) rfl) ?_
          refine Lw.nil ?_
          cases hm
          exact Cw.ret (ret1 rfl (Res.mk (a2.trans (a4.trans (a11.trans (a20.trans (a29.trans a38))))) rfl))

theorem p24 {W : CW} {K : List Nat} {x0 : Vm.Memo} {v0_0_ : Value} {v0_1_ : Value} {v0_2_ : Value} {v0_3_ : Value} {x1 : Vm.Memo} {v1_0_ : Value} {v1_1_ : Value} {v1_2_ : Value} {v1_3_ : Value} {r : Bool} (h0 : Rd W K [v0_0_, v0_1_, v0_2_, v0_3_] x0) (h1 : Rd W K [v1_0_, v1_1_, v1_2_, v1_3_] x1) (hm : Vm.laws_eqMemo x0 x1 = some r) : CallR Try.prog 24 [.agg [v0_0_, v0_1_, v0_2_, v0_3_].toArray, .agg [v1_0_, v1_1_, v1_2_, v1_3_].toArray].toArray W.w (Res W [] fun W' v => v = vB r) :=
  (c24 (V := W.view K []) (h0.view []) (h1.view []) hm).ad (fk 0) fun _ _ e => e

theorem c17 {V : CW} {x0 : List Memo} {v0_ : Value} {x1 : List Memo} {v1_ : Value} {r : Bool} (h0 : Rd V [0] [v0_] x0) (h1 : Rd V [0] [v1_] x1) (hm : Vm.laws_eqMemoS x0 x1 = some r) : CallR Try.prog 17 [v0_, v1_].toArray V.w (Res V LL fun Wf v => v = vB r) := by
  unfold Vm.laws_eqMemoS at hm
  obtain ⟨W0, hW0⟩ : ∃ W, W = V := ⟨V, rfl⟩
  subst hW0
  refine CallR.of Try.func17 rfl rfl rfl rfl ?_
  refine Cw.seq ?_
  refine Cw.region ?_
  refine Lw.r rfl (R.as (v := vB false) rfl) ?_
  refine Lw.nil ?_
  refine Cw.seq ?_
  refine Cw.seq ?_
  refine Cw.region ?_
  refine Lw.r rfl (R.mv (v := v0_) rfl) (Lw.r rfl (lenR (xs := x0) h0 rfl) (Lw.r rfl (R.mv (v := v1_) rfl) (Lw.r rfl (lenR (xs := x1) h1 rfl) (Lw.r rfl (R.ne rfl rfl) ?_))))
  refine Lw.nil ?_
  refine Cw.cond (b := (((x0.length : Int) : Int) != ((x1.length : Int) : Int))) rfl (fun hc1 => ?_) (fun hc1 => ?_)
  · replace hm := bt hm hc1
    refine Cw.seq ?_
    refine Cw.region ?_
    refine Lw.r rfl (R.as (v := vB false) rfl) ?_
    refine Lw.nil ?_
    cases hm
    exact Cw.ret (ret1 rfl (Res.mk (Le.refl _ _) rfl))
  · replace hm := bf hm hc1
    refine Cw.skip ?_
    refine Cw.seq ?_
    refine Cw.seq ?_
    refine Cw.region ?_
    refine Lw.r rfl (R.as (v := vI 0) rfl) ?_
    refine Lw.nil ?_
    refine Cw.block ?_
    obtain ⟨K5, hK5, hm⟩ := jn_e hm
    refine Cw.loop 11 26 [4, 5] (fun m l w => ∃ (y2 : Bool) (y3 : Int) (W4 : CW), W4.w = w ∧ Le [] W0 W4 ∧ l = [vB y2, vI y3] ∧ Vm.laws_eqMemoS_l1 x0 x1 K5 m y2 y3 = some r) (((x0.length : Int) - 0).toNat + 1) ⟨false, 0, W0, rfl, Le.refl _ _, rfl, hm⟩ ?_
    rintro m6 _ _ σ ⟨y2, y3, W4, rfl, l4, rfl, hm⟩
    obtain _ | m6 := m6
    · cases hm
    unfold Vm.laws_eqMemoS_l1 at hm
    have a7 : Le LL _ _ := l4.nil
    refine Cw.seq ?_
    refine Cw.seq ?_
    refine Cw.region ?_
    have s8 := h0.ul a7
    refine Lw.r rfl (R.mv (v := vI y3) rfl) (Lw.r rfl (R.mv (v := v0_) rfl) (Lw.r rfl (lenR (xs := x0) s8 rfl) (Lw.r rfl (R.lt rfl rfl) ?_)))
    refine Lw.nil ?_
    refine Cw.cond (b := decide ((y3 : Int) < ((x0.length : Int) : Int))) rfl (fun hc9 => ?_) (fun hc9 => ?_)
    · replace hm := bt hm hc9
      refine Cw.skip ?_
      refine Cw.seq ?_
      refine Cw.block ?_
      refine Cw.seq ?_
      refine Cw.draw [] [(0, 0), (1, 0), (2, 0), (3, 1), (4, 0), (5, 0), (6, 0), (7, 1), (8, 3), (9, 0)] mixed (by kernel_rfl) fun W10 l10 => ?_
      have a11 : Le LL _ _ := l10.nil
      refine Mw.p rfl rfl (fun _ => R.mv (v := v0_) rfl) (Mw.p rfl rfl (fun _ => R.mv (v := vI y3) rfl) ?_)
      obtain ⟨u12, e13, hm⟩ := ob hm
      have s14 := h0.ul (a7.trans a11)
      refine Mw.p rfl rfl (fun _ => R.ix (α := Memo) s14 e13 rfl rfl rfl) ?_
      obtain ⟨x15, c16, _, r17⟩ := (s14.at_ e13).cells
      obtain ⟨v18, v20, v22, v24, rfl, r19, r21, r23, r25⟩ := Memo.split r17
      refine Mw.q rfl rfl (fun _ c => R.lda (cl_cells (s14.at_ e13).1 rfl c16 c) rfl rfl) (Mw.p rfl rfl (fun _ => R.mv (v := v1_) rfl) (Mw.p rfl rfl (fun _ => R.mv (v := vI y3) rfl) ?_))
      obtain ⟨u26, e27, hm⟩ := ob hm
      have s28 := h1.ul (a7.trans a11)
      refine Mw.p rfl rfl (fun _ => R.ix (α := Memo) s28 e27 rfl rfl rfl) ?_
      obtain ⟨x29, c30, _, r31⟩ := (s28.at_ e27).cells
      obtain ⟨v32, v34, v36, v38, rfl, r33, r35, r37, r39⟩ := Memo.split r31
      refine Mw.q rfl rfl (fun _ c => R.lda (cl_cells (s28.at_ e27).1 rfl c30 c) rfl rfl) ?_
      obtain ⟨x40, e41, hm⟩ := ob hm
      refine Mw.l rfl rfl (T.call rfl (p24 (K := [0])  (Memo.rd (K := [0]) u12.Old u12.One u12.Two u12.Done r19 r21 r23 r25) (Memo.rd (K := [0]) u26.Old u26.One u26.Two u26.Done r33 r35 r37 r39) e41)) ?_
      rintro _ _ ⟨W42, rfl, l42, rfl⟩
      have a43 : Le LL _ _ := l42.nil
      refine Mw.p rfl rfl (fun _ => R.not rfl) ?_
      refine Mw.nil ?_
      refine Cw.cond (b := (!x40)) rfl (fun hc44 => ?_) (fun hc44 => ?_)
      · replace hm := bt hm hc44
        refine Cw.seq ?_
        refine Cw.region ?_
        refine Lw.r rfl (R.as (v := vB false) rfl) ?_
        refine Lw.nil ?_
        cases hm
        exact Cw.ret (ret1 rfl (Res.mk (a7.trans (a11.trans a43)) rfl))
      · replace hm := bf hm hc44
        refine Cw.skip ?_
        refine Cw.region ?_
        refine Lw.r rfl (R.mv (v := vI y3) rfl) (Lw.r rfl (R.add rfl rfl) (Lw.r rfl (R.as (v := vI (w64 (y3 + 1))) rfl) ?_))
        refine Lw.nil ?_
        refine ⟨?_, m6, Nat.lt_succ_self m6, ⟨y2, w64 (y3 + 1), W42, rfl, (l4.trans (l10.trans l42)), rfl, hm⟩⟩
        iterate 17 (refine Agree.up rfl ?_)
        iterate 2 (refine Agree.up rfl ?_)
        exact Agree.base
    · replace hm := bf hm hc9
      refine Cw.exit ?_
      rw [hK5] at hm
      refine Cw.seq ?_
      refine Cw.region ?_
      refine Lw.r rfl (R.as (v := vB true) rfl) ?_
      refine Lw.nil ?_
      cases hm
      exact Cw.ret (ret1 rfl (Res.mk a7 rfl))

theorem p17 {W : CW} {K : List Nat} {x0 : List Memo} {v0_ : Value} {x1 : List Memo} {v1_ : Value} {r : Bool} (h0 : Rd W K [v0_] x0) (h1 : Rd W K [v1_] x1) (hm : Vm.laws_eqMemoS x0 x1 = some r) : CallR Try.prog 17 [v0_, v1_].toArray W.w (Res W [] fun W' v => v = vB r) :=
  (c17 (V := W.view K []) (h0.view []) (h1.view []) hm).ad (fk 0) fun _ _ e => e

theorem c3 {V : CW} {x0 : List Memo} {v0_ : Value} {r : Bool} (h0 : Rd V [0] [v0_] x0) (hm : Vm.laws_FnExactMemosOk x0 = some r) : CallR Try.prog 3 [v0_].toArray V.w (Res V LL fun Wf v => v = vB r) := by
  unfold Vm.laws_FnExactMemosOk at hm
  obtain ⟨W0, hW0⟩ : ∃ W, W = V := ⟨V, rfl⟩
  subst hW0
  refine CallR.of Try.func3 rfl rfl rfl rfl ?_
  refine Cw.seq ?_
  refine Cw.region ?_
  refine Lw.r rfl (R.as (v := vB false) rfl) ?_
  refine Lw.nil ?_
  refine Cw.seq ?_
  refine Cw.region ?_
  refine Lw.r rfl (R.as (v := vI 1048576) rfl) ?_
  refine Lw.nil ?_
  refine Cw.seq ?_
  refine Cw.region ?_
  refine Lw.r rfl (R.mv (v := v0_) rfl) (Lw.r rfl (R.mv (v := vI 1048576) rfl) ?_)
  obtain ⟨x1, e2, hm⟩ := ob hm
  refine Lw.t rfl (T.call rfl (p13 (K := [0])  h0 e2)) ?_
  rintro _ _ ⟨W3, rfl, l3, rfl⟩
  have a4 : Le LL _ _ := l3.nil
  refine Lw.r rfl (R.as (v := vI x1) rfl) ?_
  refine Lw.nil ?_
  refine Cw.seq ?_
  refine Cw.seq ?_
  refine Cw.region ?_
  refine Lw.r rfl (R.mv (v := vI x1) rfl) (Lw.r rfl (R.lt rfl rfl) ?_)
  refine Lw.nil ?_
  refine Cw.cond (b := decide ((x1 : Int) < (0 : Int))) rfl (fun hc5 => ?_) (fun hc5 => ?_)
  · replace hm := bt hm hc5
    refine Cw.seq ?_
    refine Cw.region ?_
    refine Lw.r rfl (R.as (v := vB true) rfl) ?_
    refine Lw.nil ?_
    cases hm
    exact Cw.ret (ret1 rfl (Res.mk a4 rfl))
  · replace hm := bf hm hc5
    refine Cw.skip ?_
    refine Cw.seq ?_
    refine Cw.region ?_
    refine Lw.r rfl (R.mv (v := v0_) rfl) ?_
    have s6 := h0.ul a4
    obtain ⟨x7, e8, hm⟩ := ob hm
    refine Lw.t rfl (T.call rfl (p15 (K := [0]) (k0 := 2) s6 e8)) ?_
    rintro v9_0 _ ⟨W9, rfl, l9, ⟨_, rfl, o9_0⟩⟩
    have a10 : Le LL _ _ := l9.nil
    obtain ⟨x11, e12, hm⟩ := ob hm
    refine Lw.t rfl (T.call rfl (p14 (K := [2])  o9_0.rd e12)) ?_
    rintro _ _ ⟨W13, rfl, l13, rfl⟩
    have a14 : Le LL _ _ := l13.nil
    have o15 := o9_0.up l13 rfl
    refine Lw.r rfl (R.as (v := vB x11) rfl) ?_
    refine Lw.nil ?_
    refine Cw.seq ?_
    refine Cw.region ?_
    refine Lw.r rfl (R.mv (v := v0_) rfl) ?_
    have s16 := h0.ul (a4.trans (a10.trans a14))
    obtain ⟨x17, e18, hm⟩ := ob hm
    refine Lw.t rfl (T.call rfl (p15 (K := [0]) (k0 := 3) s16 e18)) ?_
    rintro v19_0 _ ⟨W19, rfl, l19, ⟨_, rfl, o19_0⟩⟩
    have a20 : Le LL _ _ := l19.nil
    have o21 := o15.up l19 rfl
    refine Lw.r rfl (R.as (v := v19_0) rfl) ?_
    refine Lw.nil ?_
    refine Cw.seq ?_
    refine Cw.region ?_
    refine Lw.r rfl (R.mv (v := v19_0) rfl) ?_
    obtain ⟨x22, e23, hm⟩ := ob hm
    refine Lw.t rfl (T.call rfl (p16 (K := [3])  o19_0.rd e23)) ?_
    rintro _ _ ⟨W24, rfl, l24, rfl⟩
    have a25 : Le LL _ _ := l24.nil
    have o26 := o21.up l24 rfl
    have o27 := o19_0.up l24 rfl
    refine Lw.r rfl (R.as (v := vB x22) rfl) ?_
    refine Lw.nil ?_
    refine Cw.seq ?_
    refine Cw.seq ?_
    refine Cw.region ?_
    refine Lw.r rfl (R.mv (v := vB x22) rfl) (Lw.r rfl (R.mv (v := vB x11) rfl) (Lw.r rfl (R.bne rfl rfl) ?_))
    refine Lw.nil ?_
    refine Cw.cond (b := (x22 != x11)) rfl (fun hc28 => ?_) (fun hc28 => ?_)
    · replace hm := bt hm hc28
      refine Cw.seq ?_
      refine Cw.region ?_
      refine Lw.r rfl (R.as (v := vB false) rfl) ?_
      refine Lw.nil ?_
      cases hm
      exact Cw.ret (ret1 rfl (Res.mk (a4.trans (a10.trans (a14.trans (a20.trans a25)))) rfl))
    · replace hm := bf hm hc28
      refine Cw.skip ?_
      refine Cw.seq ?_
      refine Cw.seq ?_
      refine Cw.region ?_
      refine Lw.r rfl (R.mv (v := v19_0) rfl) (Lw.r rfl (R.mv (v := v0_) rfl) ?_)
      have s29 := h0.ul (a4.trans (a10.trans (a14.trans (a20.trans a25))))
      obtain ⟨x30, e31, hm⟩ := ob hm
      refine Lw.t rfl (T.call rfl (p15 (K := [0]) (k0 := 4) s29 e31)) ?_
      rintro v32_0 _ ⟨W32, rfl, l32, ⟨_, rfl, o32_0⟩⟩
      have a33 : Le LL _ _ := l32.nil
      have o34 := o26.up l32 rfl
      have o35 := o27.up l32 rfl
      obtain ⟨x36, e37, hm⟩ := ob hm
      refine Lw.t rfl (T.call rfl (p17 (K := [3, 4])  (o35.rd.sub (M := [3, 4]) rfl) (o32_0.rd.sub (M := [3, 4]) rfl) e37)) ?_
      rintro _ _ ⟨W38, rfl, l38, rfl⟩
      have a39 : Le LL _ _ := l38.nil
      have o40 := o34.up l38 rfl
      have o41 := o35.up l38 rfl
      have o42 := o32_0.up l38 rfl
      refine Lw.r rfl (R.not rfl) ?_
      refine Lw.nil ?_
      refine Cw.cond (b := (!x36)) rfl (fun hc43 => ?_) (fun hc43 => ?_)
      · replace hm := bt hm hc43
        refine Cw.seq ?_
        refine Cw.region ?_
        refine Lw.r rfl (R.as (v := vB false) rfl) ?_
        refine Lw.nil ?_
        cases hm
        exact Cw.ret (ret1 rfl (Res.mk (a4.trans (a10.trans (a14.trans (a20.trans (a25.trans (a33.trans a39)))))) rfl))
      · replace hm := bf hm hc43
        refine Cw.skip ?_
        refine Cw.seq ?_
        refine Cw.region ?_
        refine Lw.r rfl (R.as (v := vB true) rfl) ?_
        refine Lw.nil ?_
        cases hm
        exact Cw.ret (ret1 rfl (Res.mk (a4.trans (a10.trans (a14.trans (a20.trans (a25.trans (a33.trans a39)))))) rfl))

theorem p3 {W : CW} {K : List Nat} {x0 : List Memo} {v0_ : Value} {r : Bool} (h0 : Rd W K [v0_] x0) (hm : Vm.laws_FnExactMemosOk x0 = some r) : CallR Try.prog 3 [v0_].toArray W.w (Res W [] fun W' v => v = vB r) :=
  (c3 (V := W.view K []) (h0.view []) hm).ad (fk 0) fun _ _ e => e

theorem c97 {V : CW} {x0 : List Str} {v0_ : Value} {r : (List Str)} (h0 : Rd V [0] [v0_] x0) (hm : Vm.impl_copyText x0 = some r) : CallR Try.prog 97 [v0_].toArray V.w (Res V LL fun Wf v => ∃ u0 : Value, v = u0 ∧ OwS Wf LL [] [u0] r) := by
  unfold Vm.impl_copyText at hm
  obtain ⟨W0, hW0⟩ : ∃ W, W = V := ⟨V, rfl⟩
  subst hW0
  refine CallR.of Try.func97 rfl rfl rfl rfl ?_
  refine Cw.seq ?_
  refine Cw.region ?_
  refine Lw.r rfl (R.as (v := .slice none 0 0) rfl) ?_
  refine Lw.nil ?_
  refine Cw.seq ?_
  refine Cw.region ?_
  refine Lw.t rfl (T.lit0 (α := Str) 2 []) ?_
  rintro v1 _ ⟨W1, rfl, l1, o1⟩
  have a2 : Le LL _ _ := l1.nil
  refine Lw.r rfl (R.mv (v := v0_) rfl) ?_
  obtain ⟨q3, e4, hm⟩ := ob hm
  have s6 := h0.ul a2
  refine Lw.t rfl (T.appP (α := Str) o1 s6 rfl rfl e4) ?_
  rintro v5 _ ⟨W5, rfl, l5, o5⟩
  have a7 : Le LL _ _ := l5.sub rfl
  refine Lw.r rfl (R.as (v := v5) rfl) ?_
  refine Lw.nil ?_
  cases hm
  exact Cw.ret (ret1 rfl (Res.mk (a2.trans a7) ⟨v5, rfl, o5.s.sub rfl rfl⟩))

theorem p97 {W : CW} {K : List Nat} {x0 : List Str} {v0_ : Value} {k0 : Nat} {r : (List Str)} (h0 : Rd W K [v0_] x0) (hm : Vm.impl_copyText x0 = some r) : CallR Try.prog 97 [v0_].toArray W.w (Res W [] fun W' v => ∃ u0 : Value, v = u0 ∧ Ow W' k0 [] [u0] r) :=
  (c97 (V := W.view K []) (h0.view []) hm).ad (fk k0) fun _ _ ⟨u0, e, f0⟩ => ⟨u0, e, f0.back (fk_LL _)⟩

theorem c67 {V : CW} {x0 : Vm.Memo} {v0_0_ : Value} {v0_1_ : Value} {v0_2_ : Value} {v0_3_ : Value} {r : Memo} (h0 : Rd V [0] [v0_0_, v0_1_, v0_2_, v0_3_] x0) (hm : Vm.impl_Memo_own x0 = some r) : CallR Try.prog 67 [.agg [v0_0_, v0_1_, v0_2_, v0_3_].toArray].toArray V.w (Res V LL fun Wf v => ∃ u0_0 u0_1 u0_2 u0_3 : Value, v = .agg [u0_0, u0_1, u0_2, u0_3].toArray ∧ OwS Wf [31] [] [u0_0] r.Old ∧ OwS Wf [32] [] [u0_1] r.One ∧ OwS Wf [33] [] [u0_2] r.Two ∧ OwS Wf [34] [] [u0_3] r.Done) := by
  unfold Vm.impl_Memo_own at hm
  obtain ⟨w0_0, w0_1, w0_2, w0_3, he0, h0_0, h0_1, h0_2, h0_3⟩ := Memo.split h0
  simp only [List.cons.injEq, and_true, true_and] at he0
  obtain ⟨rfl, rfl, rfl, rfl⟩ := he0
  obtain ⟨W0, hW0⟩ : ∃ W, W = V := ⟨V, rfl⟩
  subst hW0
  refine CallR.of Try.func67 rfl rfl rfl rfl ?_
  refine Cw.seq ?_
  refine Cw.region ?_
  refine Lw.t rfl (T.box 2 (v := .agg [v0_0_, v0_1_, v0_2_, v0_3_].toArray) (cs := [v0_0_, v0_1_, v0_2_, v0_3_]) rfl rfl) ?_
  rintro _ _ ⟨g1, W1, rfl, rfl, l1, b1⟩
  have a2 : Le LL _ _ := l1.nil
  refine Lw.t rfl (T.alloc 3 (cs := [.slice none 0 0, .slice none 0 0, .slice none 0 0, .slice none 0 0]) rfl) ?_
  rintro _ _ ⟨g3, W3, rfl, rfl, l3, b3⟩
  have a4 : Le LL _ _ := l3.nil
  have b5 := b1.up l3 rfl
  refine Lw.nil ?_
  refine Cw.seq ?_
  refine Cw.draw [] [(0, 0), (1, 1), (3, 0), (4, 1), (6, 0), (7, 1), (9, 0), (10, 1), (2, 2), (5, 2), (8, 2), (11, 2), (12, 0), (13, 3)] mixed (by kernel_rfl) fun W6 l6 => ?_
  have a7 : Le LL _ _ := l6.nil
  have b8 := b5.up l6 rfl
  have b9 := b3.up l6 rfl
  refine Mw.p rfl rfl (fun _ => R.fa rfl) (Mw.q rfl rfl (fun _ c => R.ld (v := v0_0_) rfl rfl (b8.clc rfl rfl c)) (Mw.p rfl rfl (fun _ => R.fa rfl) (Mw.q rfl rfl (fun _ c => R.ld (v := v0_1_) rfl rfl (b8.clc rfl rfl c)) (Mw.p rfl rfl (fun _ => R.fa rfl) (Mw.q rfl rfl (fun _ c => R.ld (v := v0_2_) rfl rfl (b8.clc rfl rfl c)) (Mw.p rfl rfl (fun _ => R.fa rfl) (Mw.q rfl rfl (fun _ c => R.ld (v := v0_3_) rfl rfl (b8.clc rfl rfl c)) ?_)))))))
  have s10 := h0_0.ul (a2.trans (a4.trans a7))
  obtain ⟨x11, e12, hm⟩ := ob hm
  refine Mw.t rfl rfl (T.call rfl (p97 (K := [0]) (k0 := 4) s10 e12)) ?_
  rintro v13_0 _ ⟨W13, rfl, l13, ⟨_, rfl, o13_0⟩⟩
  have a14 : Le LL _ _ := l13.nil
  have b15 := b8.up l13 rfl
  have b16 := b9.up l13 rfl
  refine ⟨⟨_, rfl, l13⟩, ?_⟩
  have s17 := h0_1.ul (a2.trans (a4.trans (a7.trans a14)))
  obtain ⟨x18, e19, hm⟩ := ob hm
  refine Mw.t rfl rfl (T.call rfl (p97 (K := [0]) (k0 := 5) s17 e19)) ?_
  rintro v20_0 _ ⟨W20, rfl, l20, ⟨_, rfl, o20_0⟩⟩
  have a21 : Le LL _ _ := l20.nil
  have o22 := o13_0.up l20 rfl
  have b23 := b15.up l20 rfl
  have b24 := b16.up l20 rfl
  refine ⟨⟨_, rfl, (l13.trans l20)⟩, ?_⟩
  have s25 := h0_2.ul (a2.trans (a4.trans (a7.trans (a14.trans a21))))
  obtain ⟨x26, e27, hm⟩ := ob hm
  refine Mw.t rfl rfl (T.call rfl (p97 (K := [0]) (k0 := 6) s25 e27)) ?_
  rintro v28_0 _ ⟨W28, rfl, l28, ⟨_, rfl, o28_0⟩⟩
  have a29 : Le LL _ _ := l28.nil
  have o30 := o22.up l28 rfl
  have o31 := o20_0.up l28 rfl
  have b32 := b23.up l28 rfl
  have b33 := b24.up l28 rfl
  refine ⟨⟨_, rfl, (l13.trans (l20.trans l28))⟩, ?_⟩
  have s34 := h0_3.ul (a2.trans (a4.trans (a7.trans (a14.trans (a21.trans a29)))))
  obtain ⟨x35, e36, hm⟩ := ob hm
  refine Mw.t rfl rfl (T.call rfl (p97 (K := [0]) (k0 := 7) s34 e36)) ?_
  rintro v37_0 _ ⟨W37, rfl, l37, ⟨_, rfl, o37_0⟩⟩
  have a38 : Le LL _ _ := l37.nil
  have o39 := o30.up l37 rfl
  have o40 := o31.up l37 rfl
  have o41 := o28_0.up l37 rfl
  have b42 := b32.up l37 rfl
  have b43 := b33.up l37 rfl
  refine ⟨⟨_, rfl, (l13.trans (l20.trans (l28.trans l37)))⟩, ?_⟩
  refine Mw.p rfl rfl (fun _ => R.bd (zs := [.slice none 0 0, .slice none 0 0, .slice none 0 0, .slice none 0 0]) (cs := [v13_0, v20_0, v28_0, v37_0]) [(0, v13_0), (1, v20_0), (2, v28_0), (3, v37_0)] rfl rfl rfl (bp_cons o39.oc rfl (bp_cons o40.oc rfl (bp_cons o41.oc rfl (bp_cons o37_0.oc rfl bp_nil))))) ?_
  refine Mw.lu rfl (T.sta (vs := [v13_0, v20_0, v28_0, v37_0]) b43 rfl rfl (oc_cons o39.oc (oc_cons o40.oc (oc_cons o41.oc (oc_cons o37_0.oc oc_nil)))) rfl rfl) ?_
  rintro _ _ ⟨W44, rfl, l44, b44⟩
  have a45 : Le LL _ _ := l44.sub rfl
  have o46 := o39.up l44 rfl
  have o47 := o40.up l44 rfl
  have o48 := o41.up l44 rfl
  have o49 := o37_0.up l44 rfl
  have b50 := b42.up l44 rfl
  refine Mw.nil ?_
  obtain ⟨W51, w51, l51, o51⟩ := o46.dyeO 31
  have a52 : Le LL _ _ := l51.sub rfl
  have o53 := o47.up l51 rfl
  have o54 := o48.up l51 rfl
  have o55 := o49.up l51 rfl
  have b56 := b50.up l51 rfl
  have b57 := b44.up l51 rfl
  obtain ⟨W58, w58, l58, o58⟩ := o53.dyeO 32
  have a59 : Le LL _ _ := l58.sub rfl
  have o60 := o54.up l58 rfl
  have o61 := o55.up l58 rfl
  have o62 := o51.up l58 rfl
  have b63 := b56.up l58 rfl
  have b64 := b57.up l58 rfl
  obtain ⟨W65, w65, l65, o65⟩ := o60.dyeO 33
  have a66 : Le LL _ _ := l65.sub rfl
  have o67 := o61.up l65 rfl
  have o68 := o62.up l65 rfl
  have o69 := o58.up l65 rfl
  have b70 := b63.up l65 rfl
  have b71 := b64.up l65 rfl
  obtain ⟨W72, w72, l72, o72⟩ := o67.dyeO 34
  have a73 : Le LL _ _ := l72.sub rfl
  have o74 := o68.up l72 rfl
  have o75 := o69.up l72 rfl
  have o76 := o65.up l72 rfl
  have b77 := b70.up l72 rfl
  have b78 := b71.up l72 rfl
  cases hm
  rw [← w72.trans (w65.trans (w58.trans (w51)))]
  exact Cw.ret (retA1 rfl b78 (Res.mk (a2.trans (a4.trans (a7.trans (a14.trans (a21.trans (a29.trans (a38.trans (a45.trans (a52.trans (a59.trans (a66.trans a73))))))))))) ⟨v13_0, v20_0, v28_0, v37_0, rfl, o74.s, o75.s, o76.s, o72.s⟩))

theorem p67 {W : CW} {K : List Nat} {x0 : Vm.Memo} {v0_0_ : Value} {v0_1_ : Value} {v0_2_ : Value} {v0_3_ : Value} {k0 : Nat} {k1 : Nat} {k2 : Nat} {k3 : Nat} {r : Memo} (h0 : Rd W K [v0_0_, v0_1_, v0_2_, v0_3_] x0) (hm : Vm.impl_Memo_own x0 = some r) : CallR Try.prog 67 [.agg [v0_0_, v0_1_, v0_2_, v0_3_].toArray].toArray W.w (Res W [] fun W' v => ∃ u0_0 u0_1 u0_2 u0_3 : Value, v = .agg [u0_0, u0_1, u0_2, u0_3].toArray ∧ Ow W' k0 [] [u0_0] r.Old ∧ Ow W' k1 [] [u0_1] r.One ∧ Ow W' k2 [] [u0_2] r.Two ∧ Ow W' k3 [] [u0_3] r.Done) :=
  (c67 (V := W.view K []) (h0.view []) hm).ad (fun c => bif Nat.beq c 0 then 0 else bif Nat.beq c 31 then k0 else bif Nat.beq c 32 then k1 else bif Nat.beq c 33 then k2 else k3) fun _ _ ⟨u0_0, u0_1, u0_2, u0_3, e, f0, f1, f2, f3⟩ => ⟨u0_0, u0_1, u0_2, u0_3, e, f0.back (fk_one rfl), f1.back (fk_one rfl), f2.back (fk_one rfl), f3.back (fk_one rfl)⟩

theorem c68 {V : CW} {x0 : List Memo} {v0_ : Value} {r : (List Memo)} (h0 : Rd V [0] [v0_] x0) (hm : Vm.impl_ownMemos x0 = some r) : CallR Try.prog 68 [v0_].toArray V.w (Res V LL fun Wf v => ∃ u0 : Value, v = u0 ∧ OwS Wf LL [] [u0] r) := by
  unfold Vm.impl_ownMemos at hm
  obtain ⟨W0, hW0⟩ : ∃ W, W = V := ⟨V, rfl⟩
  subst hW0
  refine CallR.of Try.func68 rfl rfl rfl rfl ?_
  refine Cw.seq ?_
  refine Cw.region ?_
  refine Lw.r rfl (R.as (v := .slice none 0 0) rfl) ?_
  refine Lw.nil ?_
  refine Cw.seq ?_
  refine Cw.region ?_
  refine Lw.r rfl (R.as (v := .slice none 0 0) rfl) ?_
  refine Lw.nil ?_
  refine Cw.seq ?_
  refine Cw.seq ?_
  refine Cw.region ?_
  refine Lw.r rfl (R.mv (v := v0_) rfl) (Lw.r rfl (lenR (xs := x0) h0 rfl) (Lw.r rfl (R.mv (v := vI 0) rfl) ?_))
  refine Lw.nil ?_
  refine Cw.block ?_
  obtain ⟨K7, hK7, hm⟩ := jn_e hm
  refine Cw.loop 8 17 [3, 5, 8] (fun m l w => ∃ (y1 : List Vm.Memo) (y5 : Int) (v2 j4 : Value) (W6 : CW), W6.w = w ∧ Le [2, 3, 4, 5, 6, 7] W0 W6 ∧ l = [v2, j4, vI y5] ∧ Ow W6 2 [] [v2] y1 ∧ Vm.impl_ownMemos_l1 x0 K7 m y1 y5 = some r) (((x0.length : Int) - 0).toNat + 1) ⟨([] : List Memo), 0, .slice none 0 0, undef, W0, rfl, Le.refl _ _, rfl, owN 2 [], hm⟩ ?_
  rintro m8 _ _ σ ⟨y1, y5, v2, j4, W6, rfl, l6, rfl, o3, hm⟩
  obtain _ | m8 := m8
  · cases hm
  unfold Vm.impl_ownMemos_l1 at hm
  have a9 : Le LL _ _ := l6.sub rfl
  refine Cw.seq ?_
  refine Cw.region ?_
  refine Lw.r rfl (R.lt rfl rfl) ?_
  refine Lw.nil ?_
  refine Cw.seq ?_
  refine Cw.cond (b := decide ((y5 : Int) < ((x0.length : Int) : Int))) rfl (fun hc10 => ?_) (fun hc10 => ?_)
  · replace hm := bt hm hc10
    refine Cw.skip ?_
    refine Cw.seq ?_
    refine Cw.block ?_
    refine Cw.seq ?_
    refine Cw.region ?_
    obtain ⟨u11, e12, hm⟩ := ob hm
    have s13 := h0.ul a9
    refine Lw.r rfl (R.ix (α := Memo) s13 e12 rfl rfl rfl) ?_
    obtain ⟨x14, c15, _, r16⟩ := (s13.at_ e12).cells
    obtain ⟨v17, v19, v21, v23, rfl, r18, r20, r22, r24⟩ := Memo.split r16
    refine Lw.r rfl (R.lda c15 rfl rfl) ?_
    refine Lw.t rfl (T.alloc 3 (cs := [.slice none 0 0, .slice none 0 0, .slice none 0 0, .slice none 0 0]) rfl) ?_
    rintro _ _ ⟨g25, W25, rfl, rfl, l25, b25⟩
    have a26 : Le LL _ _ := l25.nil
    have o27 := o3.up l25 rfl
    refine Lw.u (T.sta (vs := [v17, v19, v21, v23]) b25 rfl rfl (oc_cons r18.oc (oc_cons r20.oc (oc_cons r22.oc (oc_cons r24.oc oc_nil)))) rfl rfl) ?_
    rintro _ _ ⟨W28, rfl, l28, b28⟩
    have a29 : Le LL _ _ := l28.sub rfl
    have o30 := o27.up l28 rfl
    refine Lw.nil ?_
    refine Cw.region ?_
    refine Lw.r rfl (R.mv (v := v2) rfl) (Lw.r rfl (R.lda (cs := [v17, v19, v21, v23]) b28.cells rfl rfl) ?_)
    have s31 := r18.ul (a26.trans a29)
    have s32 := r20.ul (a26.trans a29)
    have s33 := r22.ul (a26.trans a29)
    have s34 := r24.ul (a26.trans a29)
    obtain ⟨x35, e36, hm⟩ := ob hm
    refine Lw.t rfl (T.call rfl (p67 (K := [0]) (k0 := 4) (k1 := 5) (k2 := 6) (k3 := 7) (Memo.rd (K := [0]) u11.Old u11.One u11.Two u11.Done s31 s32 s33 s34) e36)) ?_
    rintro _ _ ⟨W37, rfl, l37, ⟨v37_0_0, v37_0_1, v37_0_2, v37_0_3, rfl, o37_0_0, o37_0_1, o37_0_2, o37_0_3⟩⟩
    have a38 : Le LL _ _ := l37.nil
    have o39 := o30.up l37 rfl
    have b40 := b28.up l37 rfl
    refine Lw.t rfl (T.bs 8 [.agg [v37_0_0, v37_0_1, v37_0_2, v37_0_3].toArray] (cs := [v37_0_0, v37_0_1, v37_0_2, v37_0_3]) rfl rfl (bsA rfl)) ?_
    rintro _ _ ⟨g41, W41, rfl, rfl, l41, b41⟩
    have a42 : Le LL _ _ := l41.nil
    have o43 := o39.up l41 rfl
    have o44 := o37_0_0.up l41 rfl
    have o45 := o37_0_1.up l41 rfl
    have o46 := o37_0_2.up l41 rfl
    have o47 := o37_0_3.up l41 rfl
    have b48 := b40.up l41 rfl
    obtain ⟨q49, e50, hm⟩ := ob hm
    refine Lw.t rfl (T.app1 (α := Memo) (J := [4, 5, 6, 7]) (K' := []) o43 b41 (Memo.own x35.Old x35.One x35.Two x35.Done o44.s o45.s o46.s o47.s) rfl rfl e50) ?_
    rintro v51 _ ⟨W51, rfl, l51, o51⟩
    have a52 : Le LL _ _ := l51.sub rfl
    have b53 := b48.up l51 rfl
    have b54 := b41.up l51 rfl
    refine Lw.r rfl (R.as (v := v51) rfl) ?_
    refine Lw.nil ?_
    refine Cw.region ?_
    refine Lw.r rfl (R.add rfl rfl) (Lw.r rfl (R.mv (v := vI (w64 (y5 + 1))) rfl) ?_)
    refine Lw.nil ?_
    refine ⟨?_, m8, Nat.lt_succ_self m8, ⟨q49, w64 (y5 + 1), v51, ptr (bx g25), W51, rfl, (l6.trans ((l25.sub rfl).trans ((l28.sub rfl).trans ((l37.sub rfl).trans ((l41.sub rfl).trans (l51.sub rfl)))))), rfl, o51, hm⟩⟩
    iterate 12 (refine Agree.up rfl ?_)
    iterate 3 (refine Agree.up rfl ?_)
    exact Agree.base
  · replace hm := bf hm hc10
    refine Cw.exit ?_
    rw [hK7] at hm
    refine Cw.seq ?_
    refine Cw.region ?_
    refine Lw.r rfl (R.mv (v := v2) rfl) (Lw.r rfl (R.as (v := v2) rfl) ?_)
    refine Lw.nil ?_
    cases hm
    exact Cw.ret (ret1 rfl (Res.mk a9 ⟨v2, rfl, o3.s.sub rfl rfl⟩))

theorem p68 {W : CW} {K : List Nat} {x0 : List Memo} {v0_ : Value} {k0 : Nat} {r : (List Memo)} (h0 : Rd W K [v0_] x0) (hm : Vm.impl_ownMemos x0 = some r) : CallR Try.prog 68 [v0_].toArray W.w (Res W [] fun W' v => ∃ u0 : Value, v = u0 ∧ Ow W' k0 [] [u0] r) :=
  (c68 (V := W.view K []) (h0.view []) hm).ad (fk k0) fun _ _ ⟨u0, e, f0⟩ => ⟨u0, e, f0.back (fk_LL _)⟩

theorem c19 {V : CW} {x0 : List Memo} {v0_ : Value} {x1 : Vm.Memo} {v1_0_ : Value} {v1_1_ : Value} {v1_2_ : Value} {v1_3_ : Value} {r : (List Memo) × Bool} (h0 : Rd V [0] [v0_] x0) (h1 : Rd V [0] [v1_0_, v1_1_, v1_2_, v1_3_] x1) (hm : Vm.impl_MemoPut x0 x1 = some r) : CallR Try.prog 19 [v0_, .agg [v1_0_, v1_1_, v1_2_, v1_3_].toArray].toArray V.w (Res V LL fun Wf v => ∃ u0 : Value, v = .tuple [u0, vB r.2].toArray ∧ OwS Wf LL [] [u0] r.1) := by
  unfold Vm.impl_MemoPut at hm
  obtain ⟨w1_0, w1_1, w1_2, w1_3, he1, h1_0, h1_1, h1_2, h1_3⟩ := Memo.split h1
  simp only [List.cons.injEq, and_true, true_and] at he1
  obtain ⟨rfl, rfl, rfl, rfl⟩ := he1
  obtain ⟨W0, hW0⟩ : ∃ W, W = V := ⟨V, rfl⟩
  subst hW0
  refine CallR.of Try.func19 rfl rfl rfl rfl ?_
  refine Cw.seq ?_
  refine Cw.region ?_
  refine Lw.t rfl (T.box 2 (v := .agg [v1_0_, v1_1_, v1_2_, v1_3_].toArray) (cs := [v1_0_, v1_1_, v1_2_, v1_3_]) rfl rfl) ?_
  rintro _ _ ⟨g1, W1, rfl, rfl, l1, b1⟩
  have a2 : Le LL _ _ := l1.nil
  refine Lw.r rfl (R.as (v := .slice none 0 0) rfl) (Lw.r rfl (R.as (v := vB false) rfl) ?_)
  refine Lw.nil ?_
  refine Cw.seq ?_
  refine Cw.seq ?_
  refine Cw.region ?_
  refine Lw.r rfl (R.mv (v := v0_) rfl) ?_
  have s3 := h0.ul a2
  obtain ⟨x4, e5, hm⟩ := ob hm
  refine Lw.t rfl (T.call rfl (p16 (K := [0])  s3 e5)) ?_
  rintro _ _ ⟨W6, rfl, l6, rfl⟩
  have a7 : Le LL _ _ := l6.nil
  have b8 := b1.up l6 rfl
  refine Lw.r rfl (R.not rfl) ?_
  refine Lw.nil ?_
  refine Cw.cond (b := (!x4)) rfl (fun hc9 => ?_) (fun hc9 => ?_)
  · replace hm := bt hm hc9
    refine Cw.seq ?_
    refine Cw.region ?_
    refine Lw.r rfl (R.as (v := .slice none 0 0) rfl) (Lw.r rfl (R.as (v := vB false) rfl) ?_)
    refine Lw.nil ?_
    cases hm
    exact Cw.ret (ret2 rfl rfl (Res.mk (a2.trans a7) ⟨.slice none 0 0, rfl, (owsN []).sub rfl rfl⟩))
  · replace hm := bf hm hc9
    refine Cw.skip ?_
    refine Cw.seq ?_
    refine Cw.region ?_
    refine Lw.r rfl (R.as (v := .slice none 0 0) rfl) ?_
    refine Lw.nil ?_
    refine Cw.seq ?_
    refine Cw.seq ?_
    refine Cw.region ?_
    have s10 := h0.ul (a2.trans a7)
    refine Lw.r rfl (R.mv (v := v0_) rfl) (Lw.r rfl (lenR (xs := x0) s10 rfl) (Lw.r rfl (R.mv (v := vI 0) rfl) ?_))
    refine Lw.nil ?_
    refine Cw.block ?_
    obtain ⟨K17, hK17, hm⟩ := jn_e hm
    refine Cw.loop 14 32 [6, 8, 14] (fun m l w => ∃ (y11 : List Vm.Memo) (y15 : Int) (v12 j14 : Value) (W16 : CW), W16.w = w ∧ Le [3, 4, 5, 6, 7, 8, 10, 11, 12, 13] W6 W16 ∧ l = [v12, j14, vI y15] ∧ Ow W16 3 [] [v12] y11 ∧ Vm.impl_MemoPut_l1 x0 x1 K17 m y11 y15 = some r) (((x0.length : Int) - 0).toNat + 1) ⟨([] : List Memo), 0, .slice none 0 0, undef, W6, rfl, Le.refl _ _, rfl, owN 3 [], hm⟩ ?_
    rintro m18 _ _ σ ⟨y11, y15, v12, j14, W16, rfl, l16, rfl, o13, hm⟩
    obtain _ | m18 := m18
    · cases hm
    unfold Vm.impl_MemoPut_l1 at hm
    have a19 : Le LL _ _ := l16.sub rfl
    have b20 := b8.up l16 rfl
    refine Cw.seq ?_
    refine Cw.region ?_
    refine Lw.r rfl (R.lt rfl rfl) ?_
    refine Lw.nil ?_
    refine Cw.seq ?_
    refine Cw.cond (b := decide ((y15 : Int) < ((x0.length : Int) : Int))) rfl (fun hc21 => ?_) (fun hc21 => ?_)
    · replace hm := bt hm hc21
      refine Cw.skip ?_
      obtain ⟨K27, hK27, hm⟩ := jn_e hm
      refine Cw.join 16 31 [6, 8] (fun l w => ∃ (y22 : List Vm.Memo) (v23 j25 : Value) (W26 : CW), W26.w = w ∧ Le [3, 4, 5, 6, 7, 8] W16 W26 ∧ l = [v23, j25] ∧ Ow W26 3 [] [v23] y22 ∧ K27 y22 = some r) ?_ ?_
      · rintro _ _ σ ⟨y22, v23, j25, W26, rfl, l26, rfl, o24, hm⟩
        rw [hK27] at hm
        have a28 : Le LL _ _ := l26.sub rfl
        have b29 := b20.up l26 rfl
        refine Cw.region ?_
        refine Lw.r rfl (R.add rfl rfl) (Lw.r rfl (R.mv (v := vI (w64 (y15 + 1))) rfl) ?_)
        refine Lw.nil ?_
        refine ⟨?_, m18, Nat.lt_succ_self m18, ⟨y22, w64 (y15 + 1), v23, j25, W26, rfl, (l16.trans (l26.sub rfl)), rfl, o24, hm⟩⟩
        iterate 2 (refine Agree.up rfl ?_)
        iterate 2 (refine Agree.up rfl ?_)
        refine Agree.ov0 rfl ?_
        iterate 1 (refine Agree.up rfl ?_)
        iterate 3 (refine Agree.up rfl ?_)
        exact Agree.base
      · refine Cw.block ?_
        refine Cw.seq ?_
        refine Cw.region ?_
        obtain ⟨u30, e31, hm⟩ := ob hm
        have s32 := h0.ul (a2.trans (a7.trans a19))
        refine Lw.r rfl (R.ix (α := Memo) s32 e31 rfl rfl rfl) ?_
        obtain ⟨x33, c34, _, r35⟩ := (s32.at_ e31).cells
        obtain ⟨v36, v38, v40, v42, rfl, r37, r39, r41, r43⟩ := Memo.split r35
        refine Lw.r rfl (R.lda c34 rfl rfl) ?_
        refine Lw.t rfl (T.alloc 4 (cs := [.slice none 0 0, .slice none 0 0, .slice none 0 0, .slice none 0 0]) rfl) ?_
        rintro _ _ ⟨g44, W44, rfl, rfl, l44, b44⟩
        have a45 : Le LL _ _ := l44.nil
        have o46 := o13.up l44 rfl
        have b47 := b20.up l44 rfl
        refine Lw.u (T.sta (vs := [v36, v38, v40, v42]) b44 rfl rfl (oc_cons r37.oc (oc_cons r39.oc (oc_cons r41.oc (oc_cons r43.oc oc_nil)))) rfl rfl) ?_
        rintro _ _ ⟨W48, rfl, l48, b48⟩
        have a49 : Le LL _ _ := l48.sub rfl
        have o50 := o46.up l48 rfl
        have b51 := b47.up l48 rfl
        refine Lw.nil ?_
        refine Cw.seq ?_
        refine Cw.region ?_
        refine Lw.r rfl (R.lda (cs := [v36, v38, v40, v42]) b48.cells rfl rfl) (Lw.r rfl (R.fa rfl) (Lw.r rfl (R.ld (v := v1_0_) rfl rfl (b51.cell rfl)) (Lw.r rfl (R.fa rfl) (Lw.r rfl (R.ld (v := v1_1_) rfl rfl (b51.cell rfl)) (Lw.r rfl (R.fa rfl) (Lw.r rfl (R.ld (v := v1_2_) rfl rfl (b51.cell rfl)) ?_))))))
        have s52 := r37.ul (a45.trans a49)
        have s53 := r39.ul (a45.trans a49)
        have s54 := r41.ul (a45.trans a49)
        have s55 := r43.ul (a45.trans a49)
        have s56 := h1_0.ul (a2.trans (a7.trans (a19.trans (a45.trans a49))))
        have s57 := h1_1.ul (a2.trans (a7.trans (a19.trans (a45.trans a49))))
        have s58 := h1_2.ul (a2.trans (a7.trans (a19.trans (a45.trans a49))))
        obtain ⟨x59, e60, hm⟩ := ob hm
        refine Lw.t rfl (T.call rfl (p63 (K := [0])  (Memo.rd (K := [0]) u30.Old u30.One u30.Two u30.Done s52 s53 s54 s55) s56 s57 s58 e60)) ?_
        rintro _ _ ⟨W61, rfl, l61, rfl⟩
        have a62 : Le LL _ _ := l61.nil
        have o63 := o50.up l61 rfl
        have b64 := b51.up l61 rfl
        have b65 := b48.up l61 rfl
        refine Lw.r rfl (R.not rfl) ?_
        refine Lw.nil ?_
        refine Cw.cond (b := (!x59)) rfl (fun hc66 => ?_) (fun hc66 => ?_)
        · replace hm := bt hm hc66
          refine Cw.region ?_
          refine Lw.r rfl (R.mv (v := v12) rfl) (Lw.r rfl (R.lda (cs := [v36, v38, v40, v42]) b65.cells rfl rfl) ?_)
          have s67 := r37.ul (a45.trans (a49.trans a62))
          have s68 := r39.ul (a45.trans (a49.trans a62))
          have s69 := r41.ul (a45.trans (a49.trans a62))
          have s70 := r43.ul (a45.trans (a49.trans a62))
          obtain ⟨x71, e72, hm⟩ := ob hm
          refine Lw.t rfl (T.call rfl (p67 (K := [0]) (k0 := 5) (k1 := 6) (k2 := 7) (k3 := 8) (Memo.rd (K := [0]) u30.Old u30.One u30.Two u30.Done s67 s68 s69 s70) e72)) ?_
          rintro _ _ ⟨W73, rfl, l73, ⟨v73_0_0, v73_0_1, v73_0_2, v73_0_3, rfl, o73_0_0, o73_0_1, o73_0_2, o73_0_3⟩⟩
          have a74 : Le LL _ _ := l73.nil
          have o75 := o63.up l73 rfl
          have b76 := b64.up l73 rfl
          have b77 := b65.up l73 rfl
          refine Lw.t rfl (T.bs 9 [.agg [v73_0_0, v73_0_1, v73_0_2, v73_0_3].toArray] (cs := [v73_0_0, v73_0_1, v73_0_2, v73_0_3]) rfl rfl (bsA rfl)) ?_
          rintro _ _ ⟨g78, W78, rfl, rfl, l78, b78⟩
          have a79 : Le LL _ _ := l78.nil
          have o80 := o75.up l78 rfl
          have o81 := o73_0_0.up l78 rfl
          have o82 := o73_0_1.up l78 rfl
          have o83 := o73_0_2.up l78 rfl
          have o84 := o73_0_3.up l78 rfl
          have b85 := b76.up l78 rfl
          have b86 := b77.up l78 rfl
          obtain ⟨q87, e88, hm⟩ := ob hm
          refine Lw.t rfl (T.app1 (α := Memo) (J := [5, 6, 7, 8]) (K' := []) o80 b78 (Memo.own x71.Old x71.One x71.Two x71.Done o81.s o82.s o83.s o84.s) rfl rfl e88) ?_
          rintro v89 _ ⟨W89, rfl, l89, o89⟩
          have a90 : Le LL _ _ := l89.sub rfl
          have b91 := b85.up l89 rfl
          have b92 := b86.up l89 rfl
          have b93 := b78.up l89 rfl
          refine Lw.r rfl (R.as (v := v89) rfl) ?_
          refine Lw.nil ?_
          refine ⟨?_, ⟨q87, v89, ptr (bx g44), W89, rfl, ((l44.sub rfl).trans ((l48.sub rfl).trans ((l61.sub rfl).trans ((l73.sub rfl).trans ((l78.sub rfl).trans (l89.sub rfl)))))), rfl, o89, hm⟩⟩
          iterate 18 (refine Agree.up rfl ?_)
          exact Agree.refl _
        · replace hm := bf hm hc66
          refine Cw.skip ?_
          refine ⟨?_, ⟨y11, v12, ptr (bx g44), W61, rfl, ((l44.sub rfl).trans ((l48.sub rfl).trans (l61.sub rfl))), rfl, o63, hm⟩⟩
          iterate 12 (refine Agree.up rfl ?_)
          exact Agree.refl _
    · replace hm := bf hm hc21
      refine Cw.exit ?_
      rw [hK17] at hm
      refine Cw.seq ?_
      refine Cw.region ?_
      refine Lw.r rfl (R.mv (v := v12) rfl) (Lw.r rfl (R.lda (cs := [v1_0_, v1_1_, v1_2_, v1_3_]) b20.cells rfl rfl) ?_)
      have s94 := h1_0.ul (a2.trans (a7.trans a19))
      have s95 := h1_1.ul (a2.trans (a7.trans a19))
      have s96 := h1_2.ul (a2.trans (a7.trans a19))
      have s97 := h1_3.ul (a2.trans (a7.trans a19))
      obtain ⟨x98, e99, hm⟩ := ob hm
      refine Lw.t rfl (T.call rfl (p67 (K := [0]) (k0 := 10) (k1 := 11) (k2 := 12) (k3 := 13) (Memo.rd (K := [0]) x1.Old x1.One x1.Two x1.Done s94 s95 s96 s97) e99)) ?_
      rintro _ _ ⟨W100, rfl, l100, ⟨v100_0_0, v100_0_1, v100_0_2, v100_0_3, rfl, o100_0_0, o100_0_1, o100_0_2, o100_0_3⟩⟩
      have a101 : Le LL _ _ := l100.nil
      have o102 := o13.up l100 rfl
      have b103 := b20.up l100 rfl
      refine Lw.t rfl (T.bs 14 [.agg [v100_0_0, v100_0_1, v100_0_2, v100_0_3].toArray] (cs := [v100_0_0, v100_0_1, v100_0_2, v100_0_3]) rfl rfl (bsA rfl)) ?_
      rintro _ _ ⟨g104, W104, rfl, rfl, l104, b104⟩
      have a105 : Le LL _ _ := l104.nil
      have o106 := o102.up l104 rfl
      have o107 := o100_0_0.up l104 rfl
      have o108 := o100_0_1.up l104 rfl
      have o109 := o100_0_2.up l104 rfl
      have o110 := o100_0_3.up l104 rfl
      have b111 := b103.up l104 rfl
      obtain ⟨q112, e113, hm⟩ := ob hm
      refine Lw.t rfl (T.app1 (α := Memo) (J := [10, 11, 12, 13]) (K' := []) o106 b104 (Memo.own x98.Old x98.One x98.Two x98.Done o107.s o108.s o109.s o110.s) rfl rfl e113) ?_
      rintro v114 _ ⟨W114, rfl, l114, o114⟩
      have a115 : Le LL _ _ := l114.sub rfl
      have b116 := b111.up l114 rfl
      have b117 := b104.up l114 rfl
      refine Lw.r rfl (R.as (v := v114) rfl) ?_
      refine Lw.nil ?_
      refine Cw.seq ?_
      refine Cw.seq ?_
      refine Cw.region ?_
      refine Lw.r rfl (R.mv (v := v114) rfl) ?_
      obtain ⟨x118, e119, hm⟩ := ob hm
      refine Lw.t rfl (T.call rfl (p16 (K := [3])  o114.rd e119)) ?_
      rintro _ _ ⟨W120, rfl, l120, rfl⟩
      have a121 : Le LL _ _ := l120.nil
      have o122 := o114.up l120 rfl
      have b123 := b116.up l120 rfl
      have b124 := b117.up l120 rfl
      refine Lw.r rfl (R.not rfl) ?_
      refine Lw.nil ?_
      refine Cw.cond (b := (!x118)) rfl (fun hc125 => ?_) (fun hc125 => ?_)
      · replace hm := bt hm hc125
        refine Cw.seq ?_
        refine Cw.region ?_
        refine Lw.r rfl (R.mv (v := v0_) rfl) ?_
        have s126 := h0.ul (a2.trans (a7.trans (a19.trans (a101.trans (a105.trans (a115.trans a121))))))
        obtain ⟨x127, e128, hm⟩ := ob hm
        refine Lw.t rfl (T.call rfl (p68 (K := [0]) (k0 := 15) s126 e128)) ?_
        rintro v129_0 _ ⟨W129, rfl, l129, ⟨_, rfl, o129_0⟩⟩
        have a130 : Le LL _ _ := l129.nil
        have o131 := o122.up l129 rfl
        have b132 := b123.up l129 rfl
        have b133 := b124.up l129 rfl
        refine Lw.r rfl (R.as (v := v129_0) rfl) (Lw.r rfl (R.as (v := vB false) rfl) ?_)
        refine Lw.nil ?_
        cases hm
        exact Cw.ret (ret2 rfl rfl (Res.mk (a2.trans (a7.trans (a19.trans (a101.trans (a105.trans (a115.trans (a121.trans a130))))))) ⟨v129_0, rfl, o129_0.s.sub rfl rfl⟩))
      · replace hm := bf hm hc125
        refine Cw.skip ?_
        refine Cw.seq ?_
        refine Cw.region ?_
        refine Lw.r rfl (R.mv (v := v114) rfl) (Lw.r rfl (R.as (v := v114) rfl) (Lw.r rfl (R.as (v := vB true) rfl) ?_))
        refine Lw.nil ?_
        cases hm
        exact Cw.ret (ret2 rfl rfl (Res.mk (a2.trans (a7.trans (a19.trans (a101.trans (a105.trans (a115.trans a121)))))) ⟨v114, rfl, o122.s.sub rfl rfl⟩))

theorem p19 {W : CW} {K : List Nat} {x0 : List Memo} {v0_ : Value} {x1 : Vm.Memo} {v1_0_ : Value} {v1_1_ : Value} {v1_2_ : Value} {v1_3_ : Value} {k0 : Nat} {r : (List Memo) × Bool} (h0 : Rd W K [v0_] x0) (h1 : Rd W K [v1_0_, v1_1_, v1_2_, v1_3_] x1) (hm : Vm.impl_MemoPut x0 x1 = some r) : CallR Try.prog 19 [v0_, .agg [v1_0_, v1_1_, v1_2_, v1_3_].toArray].toArray W.w (Res W [] fun W' v => ∃ u0 : Value, v = .tuple [u0, vB r.2].toArray ∧ Ow W' k0 [] [u0] r.1) :=
  (c19 (V := W.view K []) (h0.view []) (h1.view []) hm).ad (fk k0) fun _ _ ⟨u0, e, f0⟩ => ⟨u0, e, f0.back (fk_LL _)⟩

theorem c40 {V : CW} {x0 : List Str} {v0_ : Value} {x1 : List Str} {v1_ : Value} {r : Bool} (h0 : Rd V [0] [v0_] x0) (h1 : Rd V [0] [v1_] x1) (hm : Vm.laws_smTexts x0 x1 = some r) : CallR Try.prog 40 [v0_, v1_].toArray V.w (Res V LL fun Wf v => v = vB r) := by
  unfold Vm.laws_smTexts at hm
  obtain ⟨W0, hW0⟩ : ∃ W, W = V := ⟨V, rfl⟩
  subst hW0
  refine CallR.of Try.func40 rfl rfl rfl rfl ?_
  refine Cw.seq ?_
  refine Cw.region ?_
  refine Lw.r rfl (R.as (v := vB false) rfl) ?_
  refine Lw.nil ?_
  refine Cw.seq ?_
  refine Cw.seq ?_
  refine Cw.region ?_
  refine Lw.r rfl (R.mv (v := v0_) rfl) (Lw.r rfl (lenR (xs := x0) h0 rfl) (Lw.r rfl (R.mv (v := v1_) rfl) (Lw.r rfl (lenR (xs := x1) h1 rfl) (Lw.r rfl (R.ne rfl rfl) ?_))))
  refine Lw.nil ?_
  refine Cw.cond (b := (((x0.length : Int) : Int) != ((x1.length : Int) : Int))) rfl (fun hc1 => ?_) (fun hc1 => ?_)
  · replace hm := bt hm hc1
    refine Cw.seq ?_
    refine Cw.region ?_
    refine Lw.r rfl (R.as (v := vB false) rfl) ?_
    refine Lw.nil ?_
    cases hm
    exact Cw.ret (ret1 rfl (Res.mk (Le.refl _ _) rfl))
  · replace hm := bf hm hc1
    refine Cw.skip ?_
    refine Cw.seq ?_
    refine Cw.seq ?_
    refine Cw.region ?_
    refine Lw.r rfl (R.as (v := vI 0) rfl) ?_
    refine Lw.nil ?_
    refine Cw.block ?_
    obtain ⟨K5, hK5, hm⟩ := jn_e hm
    refine Cw.loop 11 25 [4, 5] (fun m l w => ∃ (y2 : Bool) (y3 : Int) (W4 : CW), W4.w = w ∧ Le [] W0 W4 ∧ l = [vB y2, vI y3] ∧ Vm.laws_smTexts_l1 x0 x1 K5 m y2 y3 = some r) (((x0.length : Int) - 0).toNat + 1) ⟨false, 0, W0, rfl, Le.refl _ _, rfl, hm⟩ ?_
    rintro m6 _ _ σ ⟨y2, y3, W4, rfl, l4, rfl, hm⟩
    obtain _ | m6 := m6
    · cases hm
    unfold Vm.laws_smTexts_l1 at hm
    have a7 : Le LL _ _ := l4.nil
    refine Cw.seq ?_
    refine Cw.seq ?_
    refine Cw.region ?_
    have s8 := h0.ul a7
    refine Lw.r rfl (R.mv (v := vI y3) rfl) (Lw.r rfl (R.mv (v := v0_) rfl) (Lw.r rfl (lenR (xs := x0) s8 rfl) (Lw.r rfl (R.lt rfl rfl) ?_)))
    refine Lw.nil ?_
    refine Cw.cond (b := decide ((y3 : Int) < ((x0.length : Int) : Int))) rfl (fun hc9 => ?_) (fun hc9 => ?_)
    · replace hm := bt hm hc9
      refine Cw.skip ?_
      refine Cw.seq ?_
      refine Cw.block ?_
      refine Cw.seq ?_
      refine Cw.draw [] [(0, 0), (1, 0), (2, 0), (3, 1), (4, 0), (5, 0), (6, 0), (7, 1), (8, 0)] mixed (by kernel_rfl) fun W10 l10 => ?_
      have a11 : Le LL _ _ := l10.nil
      refine Mw.p rfl rfl (fun _ => R.mv (v := v0_) rfl) (Mw.p rfl rfl (fun _ => R.mv (v := vI y3) rfl) ?_)
      obtain ⟨u12, e13, hm⟩ := ob hm
      have s14 := h0.ul (a7.trans a11)
      refine Mw.p rfl rfl (fun _ => R.ix (α := Str) s14 e13 rfl rfl rfl) (Mw.q rfl rfl (fun _ c => R.ld rfl rfl (cl_cell (s14.at_ e13).1 rfl (s14.at_ e13).str c)) (Mw.p rfl rfl (fun _ => R.mv (v := v1_) rfl) (Mw.p rfl rfl (fun _ => R.mv (v := vI y3) rfl) ?_)))
      obtain ⟨u15, e16, hm⟩ := ob hm
      have s17 := h1.ul (a7.trans a11)
      refine Mw.p rfl rfl (fun _ => R.ix (α := Str) s17 e16 rfl rfl rfl) (Mw.q rfl rfl (fun _ c => R.ld rfl rfl (cl_cell (s17.at_ e16).1 rfl (s17.at_ e16).str c)) (Mw.p rfl rfl (fun _ => R.sne rfl rfl) ?_))
      refine Mw.nil ?_
      refine Cw.cond (b := (u12 != u15)) rfl (fun hc18 => ?_) (fun hc18 => ?_)
      · replace hm := bt hm hc18
        refine Cw.seq ?_
        refine Cw.region ?_
        refine Lw.r rfl (R.as (v := vB false) rfl) ?_
        refine Lw.nil ?_
        cases hm
        exact Cw.ret (ret1 rfl (Res.mk (a7.trans a11) rfl))
      · replace hm := bf hm hc18
        refine Cw.skip ?_
        refine Cw.region ?_
        refine Lw.r rfl (R.mv (v := vI y3) rfl) (Lw.r rfl (R.add rfl rfl) (Lw.r rfl (R.as (v := vI (w64 (y3 + 1))) rfl) ?_))
        refine Lw.nil ?_
        refine ⟨?_, m6, Nat.lt_succ_self m6, ⟨y2, w64 (y3 + 1), W10, rfl, (l4.trans l10), rfl, hm⟩⟩
        iterate 16 (refine Agree.up rfl ?_)
        iterate 2 (refine Agree.up rfl ?_)
        exact Agree.base
    · replace hm := bf hm hc9
      refine Cw.exit ?_
      rw [hK5] at hm
      refine Cw.seq ?_
      refine Cw.region ?_
      refine Lw.r rfl (R.as (v := vB true) rfl) ?_
      refine Lw.nil ?_
      cases hm
      exact Cw.ret (ret1 rfl (Res.mk a7 rfl))

theorem p40 {W : CW} {K : List Nat} {x0 : List Str} {v0_ : Value} {x1 : List Str} {v1_ : Value} {r : Bool} (h0 : Rd W K [v0_] x0) (h1 : Rd W K [v1_] x1) (hm : Vm.laws_smTexts x0 x1 = some r) : CallR Try.prog 40 [v0_, v1_].toArray W.w (Res W [] fun W' v => v = vB r) :=
  (c40 (V := W.view K []) (h0.view []) (h1.view []) hm).ad (fk 0) fun _ _ e => e

theorem c80 {V : CW} {x0 : Int} {x1 : Int} {x2 : Int} {r : Bool} (hm : Vm.impl_within x0 x1 x2 = some r) : CallR Try.prog 80 [vI x0, vI x1, vI x2].toArray V.w (Res V LL fun Wf v => v = vB r) := by
  unfold Vm.impl_within at hm
  obtain ⟨W0, hW0⟩ : ∃ W, W = V := ⟨V, rfl⟩
  subst hW0
  refine CallR.of Try.func80 rfl rfl rfl rfl ?_
  refine Cw.seq ?_
  refine Cw.region ?_
  refine Lw.r rfl (R.as (v := vB false) rfl) ?_
  refine Lw.nil ?_
  obtain ⟨K3, hK3, hm⟩ := jn_e hm
  refine Cw.join 7 14 [6] (fun l w => ∃ (y1 : Bool) (W2 : CW), W2.w = w ∧ Le [] W0 W2 ∧ l = [vB y1] ∧ K3 y1 = some r) ?_ ?_
  · rintro _ _ σ ⟨y1, W2, rfl, l2, rfl, hm⟩
    rw [hK3] at hm
    have a4 : Le LL _ _ := l2.nil
    cases hm
    exact Cw.ret (ret1 rfl (Res.mk a4 rfl))
  · refine Cw.region ?_
    refine Lw.r rfl (R.mv (v := vI x1) rfl) (Lw.r rfl (R.mv (v := vI x0) rfl) (Lw.r rfl (R.le rfl rfl) (Lw.r rfl (R.mv (v := vB (decide ((x1 : Int) ≤ (x0 : Int)))) rfl) ?_)))
    refine bsplit (decide ((x1 : Int) ≤ (x0 : Int))) (fun hc5 => ?_) (fun hc5 => ?_)
    · replace hm := bt hm hc5
      refine Lw.want' hc5 rfl rfl rfl rfl ?_
      refine Lw.r rfl (R.mv (v := vI x0) rfl) ?_
      refine Lw.want' hc5 rfl rfl rfl rfl ?_
      refine Lw.r rfl (R.mv (v := vI x2) rfl) ?_
      refine Lw.want' hc5 rfl rfl rfl rfl ?_
      refine Lw.r rfl (R.le rfl rfl) (Lw.r rfl (R.pk hc5 rfl (v := vB (decide ((x0 : Int) ≤ (x2 : Int)))) rfl) (Lw.r rfl (R.as (v := vB (decide ((x0 : Int) ≤ (x2 : Int)))) rfl) ?_))
      refine Lw.nil ?_
      refine ⟨?_, ⟨decide ((x0 : Int) ≤ (x2 : Int)), W0, rfl, Le.refl _ _, rfl, hm⟩⟩
      iterate 9 (refine Agree.up rfl ?_)
      exact Agree.refl _
    · replace hm := bf hm hc5
      refine Lw.pass' hc5 rfl rfl rfl rfl rfl rfl rfl ?_
      refine Lw.pass' hc5 rfl rfl rfl rfl rfl rfl rfl ?_
      refine Lw.pass' hc5 rfl rfl rfl rfl rfl rfl rfl ?_
      refine Lw.r rfl (R.pk hc5 rfl (v := vB false) rfl) (Lw.r rfl (R.as (v := vB false) rfl) ?_)
      refine Lw.nil ?_
      refine ⟨?_, ⟨false, W0, rfl, Le.refl _ _, rfl, hm⟩⟩
      iterate 9 (refine Agree.up rfl ?_)
      exact Agree.refl _

theorem p80 {W : CW} {K : List Nat} {x0 : Int} {x1 : Int} {x2 : Int} {r : Bool} (hm : Vm.impl_within x0 x1 x2 = some r) : CallR Try.prog 80 [vI x0, vI x1, vI x2].toArray W.w (Res W [] fun W' v => v = vB r) :=
  (c80 (V := W.view K [])  hm).ad (fk 0) fun _ _ e => e

theorem c87 {V : CW} {x0 : Vm.Part} {v0_1_ : Value} {v0_2_ : Value} {v0_3_ : Value} {v0_4_ : Value} {r : (List Str) × Bool} (h0 : Rd V [0] [vB x0.Clash, v0_1_, v0_2_, v0_3_, v0_4_] x0) (hm : Vm.impl_MergeText_c1 x0 = some r) : CallR Try.prog 87 [.agg [vB x0.Clash, v0_1_, v0_2_, v0_3_, v0_4_].toArray].toArray V.w (Res V LL fun Wf v => ∃ u0 : Value, v = .tuple [u0, vB r.2].toArray ∧ OwS Wf LL [] [u0] r.1) := by
  unfold Vm.impl_MergeText_c1 at hm
  obtain ⟨w0_0, w0_1, w0_2, w0_3, he0, h0_1, h0_2, h0_3, h0_4⟩ := Part.split h0
  simp only [List.cons.injEq, and_true, true_and] at he0
  obtain ⟨rfl, rfl, rfl, rfl⟩ := he0
  obtain ⟨W0, hW0⟩ : ∃ W, W = V := ⟨V, rfl⟩
  subst hW0
  refine CallR.of Try.func87 rfl rfl rfl rfl ?_
  refine Cw.seq ?_
  refine Cw.region ?_
  refine Lw.t rfl (T.box 2 (v := .agg [vB x0.Clash, v0_1_, v0_2_, v0_3_, v0_4_].toArray) (cs := [vB x0.Clash, v0_1_, v0_2_, v0_3_, v0_4_]) rfl rfl) ?_
  rintro _ _ ⟨g1, W1, rfl, rfl, l1, b1⟩
  have a2 : Le LL _ _ := l1.nil
  refine Lw.r rfl (R.as (v := .slice none 0 0) rfl) (Lw.r rfl (R.as (v := vB false) rfl) ?_)
  refine Lw.nil ?_
  refine Cw.seq ?_
  refine Cw.region ?_
  refine Lw.r rfl (R.as (v := .slice none 0 0) rfl) (Lw.r rfl (R.as (v := vB false) rfl) ?_)
  refine Lw.nil ?_
  cases hm
  exact Cw.ret (ret2 rfl rfl (Res.mk a2 ⟨.slice none 0 0, rfl, (owsN []).sub rfl rfl⟩))

theorem p87 {W : CW} {K : List Nat} {x0 : Vm.Part} {v0_1_ : Value} {v0_2_ : Value} {v0_3_ : Value} {v0_4_ : Value} {k0 : Nat} {r : (List Str) × Bool} (h0 : Rd W K [vB x0.Clash, v0_1_, v0_2_, v0_3_, v0_4_] x0) (hm : Vm.impl_MergeText_c1 x0 = some r) : CallR Try.prog 87 [.agg [vB x0.Clash, v0_1_, v0_2_, v0_3_, v0_4_].toArray].toArray W.w (Res W [] fun W' v => ∃ u0 : Value, v = .tuple [u0, vB r.2].toArray ∧ Ow W' k0 [] [u0] r.1) :=
  (c87 (V := W.view K []) (h0.view []) hm).ad (fk k0) fun _ _ ⟨u0, e, f0⟩ => ⟨u0, e, f0.back (fk_LL _)⟩

theorem c109 {V : CW} {x0 : Byte} {r : Bool} (hm : Vm.impl_wordByte x0 = some r) : CallR Try.prog 109 [.int .u8 (UInt8.toNat x0 : Int)].toArray V.w (Res V LL fun Wf v => v = vB r) := by
  unfold Vm.impl_wordByte at hm
  obtain ⟨W0, hW0⟩ : ∃ W, W = V := ⟨V, rfl⟩
  subst hW0
  refine CallR.of Try.func109 rfl rfl rfl rfl ?_
  refine Cw.seq ?_
  refine Cw.region ?_
  refine Lw.r rfl (R.as (v := vB false) rfl) ?_
  refine Lw.nil ?_
  obtain ⟨K3, hK3, hm⟩ := jn_e hm
  refine Cw.join 3 16 [2] (fun l w => ∃ (y1 : Bool) (W2 : CW), W2.w = w ∧ Le [] W0 W2 ∧ l = [vB y1] ∧ K3 y1 = some r) ?_ ?_
  · rintro _ _ σ ⟨y1, W2, rfl, l2, rfl, hm⟩
    rw [hK3] at hm
    have a4 : Le LL _ _ := l2.nil
    cases hm
    exact Cw.ret (ret1 rfl (Res.mk a4 rfl))
  · refine Cw.region ?_
    refine Lw.r rfl (R.mv (v := .int .u8 (UInt8.toNat x0 : Int)) rfl) (Lw.r rfl (R.ge rfl rfl) (Lw.r rfl (R.mv (v := vB (decide ((97 : Int) ≤ ((UInt8.toNat x0 : Int) : Int)))) rfl) ?_))
    refine bsplit (decide ((97 : Int) ≤ ((UInt8.toNat x0 : Int) : Int))) (fun hc5 => ?_) (fun hc5 => ?_)
    · replace hm := bt hm hc5
      refine Lw.want' hc5 rfl rfl rfl rfl ?_
      refine Lw.r rfl (R.mv (v := .int .u8 (UInt8.toNat x0 : Int)) rfl) ?_
      refine Lw.want' hc5 rfl rfl rfl rfl ?_
      refine Lw.r rfl (R.le rfl rfl) (Lw.r rfl (R.pk hc5 rfl (v := vB (decide (((UInt8.toNat x0 : Int) : Int) ≤ (122 : Int)))) rfl) (Lw.r rfl (R.mv (v := vB (decide (((UInt8.toNat x0 : Int) : Int) ≤ (122 : Int)))) rfl) ?_))
      refine bsplit (decide (((UInt8.toNat x0 : Int) : Int) ≤ (122 : Int))) (fun hc6 => ?_) (fun hc6 => ?_)
      · replace hm := bt hm hc6
        refine Lw.pass' hc6 rfl rfl rfl rfl rfl rfl rfl ?_
        refine Lw.pass' hc6 rfl rfl rfl rfl rfl rfl rfl ?_
        refine Lw.pass' hc6 rfl rfl rfl rfl rfl rfl rfl ?_
        refine Lw.passU rfl rfl rfl rfl rfl rfl ?_
        refine Lw.passU rfl rfl rfl rfl rfl rfl ?_
        refine Lw.pass' hc6 rfl rfl rfl rfl rfl rfl rfl ?_
        refine Lw.r rfl (R.pk hc6 rfl (v := vB true) rfl) (Lw.r rfl (R.as (v := vB true) rfl) ?_)
        refine Lw.nil ?_
        refine ⟨?_, ⟨true, W0, rfl, Le.refl _ _, rfl, hm⟩⟩
        iterate 15 (refine Agree.up rfl ?_)
        exact Agree.refl _
      · replace hm := bf hm hc6
        refine Lw.want' hc6 rfl rfl rfl rfl ?_
        refine Lw.r rfl (R.mv (v := .int .u8 (UInt8.toNat x0 : Int)) rfl) ?_
        refine Lw.want' hc6 rfl rfl rfl rfl ?_
        refine Lw.r rfl (R.ge rfl rfl) ?_
        refine Lw.want' hc6 rfl rfl rfl rfl ?_
        refine Lw.r rfl (R.mv (v := vB (decide ((48 : Int) ≤ ((UInt8.toNat x0 : Int) : Int)))) rfl) ?_
        refine bsplit (decide ((48 : Int) ≤ ((UInt8.toNat x0 : Int) : Int))) (fun hc7 => ?_) (fun hc7 => ?_)
        · replace hm := bt hm hc7
          refine Lw.want' hc7 rfl rfl rfl rfl ?_
          refine Lw.r rfl (R.mv (v := .int .u8 (UInt8.toNat x0 : Int)) rfl) ?_
          refine Lw.want' hc7 rfl rfl rfl rfl ?_
          refine Lw.r rfl (R.le rfl rfl) ?_
          refine Lw.want' hc6 rfl rfl rfl rfl ?_
          refine Lw.r rfl (R.pk hc7 rfl (v := vB (decide (((UInt8.toNat x0 : Int) : Int) ≤ (57 : Int)))) rfl) (Lw.r rfl (R.pk hc6 rfl (v := vB (decide (((UInt8.toNat x0 : Int) : Int) ≤ (57 : Int)))) rfl) (Lw.r rfl (R.as (v := vB (decide (((UInt8.toNat x0 : Int) : Int) ≤ (57 : Int)))) rfl) ?_))
          refine Lw.nil ?_
          refine ⟨?_, ⟨decide (((UInt8.toNat x0 : Int) : Int) ≤ (57 : Int)), W0, rfl, Le.refl _ _, rfl, hm⟩⟩
          iterate 15 (refine Agree.up rfl ?_)
          exact Agree.refl _
        · replace hm := bf hm hc7
          refine Lw.pass' hc7 rfl rfl rfl rfl rfl rfl rfl ?_
          refine Lw.pass' hc7 rfl rfl rfl rfl rfl rfl rfl ?_
          refine Lw.want' hc6 rfl rfl rfl rfl ?_
          refine Lw.r rfl (R.pk hc7 rfl (v := vB false) rfl) (Lw.r rfl (R.pk hc6 rfl (v := vB false) rfl) (Lw.r rfl (R.as (v := vB false) rfl) ?_))
          refine Lw.nil ?_
          refine ⟨?_, ⟨false, W0, rfl, Le.refl _ _, rfl, hm⟩⟩
          iterate 15 (refine Agree.up rfl ?_)
          exact Agree.refl _
    · replace hm := bf hm hc5
      refine Lw.pass' hc5 rfl rfl rfl rfl rfl rfl rfl ?_
      refine Lw.pass' hc5 rfl rfl rfl rfl rfl rfl rfl ?_
      refine Lw.r rfl (R.pk hc5 rfl (v := vB false) rfl) (Lw.r rfl (R.mv (v := vB false) rfl) ?_)
      refine Lw.want' rfl rfl rfl rfl rfl ?_
      refine Lw.r rfl (R.mv (v := .int .u8 (UInt8.toNat x0 : Int)) rfl) ?_
      refine Lw.want' rfl rfl rfl rfl rfl ?_
      refine Lw.r rfl (R.ge rfl rfl) ?_
      refine Lw.want' rfl rfl rfl rfl rfl ?_
      refine Lw.r rfl (R.mv (v := vB (decide ((48 : Int) ≤ ((UInt8.toNat x0 : Int) : Int)))) rfl) ?_
      refine bsplit (decide ((48 : Int) ≤ ((UInt8.toNat x0 : Int) : Int))) (fun hc8 => ?_) (fun hc8 => ?_)
      · replace hm := bt hm hc8
        refine Lw.want' hc8 rfl rfl rfl rfl ?_
        refine Lw.r rfl (R.mv (v := .int .u8 (UInt8.toNat x0 : Int)) rfl) ?_
        refine Lw.want' hc8 rfl rfl rfl rfl ?_
        refine Lw.r rfl (R.le rfl rfl) ?_
        refine Lw.want' rfl rfl rfl rfl rfl ?_
        refine Lw.r rfl (R.pk hc8 rfl (v := vB (decide (((UInt8.toNat x0 : Int) : Int) ≤ (57 : Int)))) rfl) (Lw.r rfl (R.pk rfl rfl (v := vB (decide (((UInt8.toNat x0 : Int) : Int) ≤ (57 : Int)))) rfl) (Lw.r rfl (R.as (v := vB (decide (((UInt8.toNat x0 : Int) : Int) ≤ (57 : Int)))) rfl) ?_))
        refine Lw.nil ?_
        refine ⟨?_, ⟨decide (((UInt8.toNat x0 : Int) : Int) ≤ (57 : Int)), W0, rfl, Le.refl _ _, rfl, hm⟩⟩
        iterate 15 (refine Agree.up rfl ?_)
        exact Agree.refl _
      · replace hm := bf hm hc8
        refine Lw.pass' hc8 rfl rfl rfl rfl rfl rfl rfl ?_
        refine Lw.pass' hc8 rfl rfl rfl rfl rfl rfl rfl ?_
        refine Lw.want' rfl rfl rfl rfl rfl ?_
        refine Lw.r rfl (R.pk hc8 rfl (v := vB false) rfl) (Lw.r rfl (R.pk rfl rfl (v := vB false) rfl) (Lw.r rfl (R.as (v := vB false) rfl) ?_))
        refine Lw.nil ?_
        refine ⟨?_, ⟨false, W0, rfl, Le.refl _ _, rfl, hm⟩⟩
        iterate 15 (refine Agree.up rfl ?_)
        exact Agree.refl _

theorem p109 {W : CW} {K : List Nat} {x0 : Byte} {r : Bool} (hm : Vm.impl_wordByte x0 = some r) : CallR Try.prog 109 [.int .u8 (UInt8.toNat x0 : Int)].toArray W.w (Res W [] fun W' v => v = vB r) :=
  (c109 (V := W.view K [])  hm).ad (fk 0) fun _ _ e => e

theorem c93 {V : CW} {x0 : Str} {r : Bool} (hm : Vm.impl_nameOk x0 = some r) : CallR Try.prog 93 [vS x0].toArray V.w (Res V LL fun Wf v => v = vB r) := by
  unfold Vm.impl_nameOk at hm
  obtain ⟨W0, hW0⟩ : ∃ W, W = V := ⟨V, rfl⟩
  subst hW0
  refine CallR.of Try.func93 rfl rfl rfl rfl ?_
  refine Cw.seq ?_
  refine Cw.region ?_
  refine Lw.r rfl (R.as (v := vB false) rfl) ?_
  refine Lw.nil ?_
  refine Cw.seq ?_
  refine Cw.seq ?_
  refine Cw.region ?_
  refine Lw.r rfl (R.mv (v := vS x0) rfl) (Lw.r rfl (R.lenS rfl) ?_)
  obtain ⟨x1, e2, hm⟩ := ob hm
  refine Lw.t rfl (T.call rfl (p80 (K := [0])   e2)) ?_
  rintro _ _ ⟨W3, rfl, l3, rfl⟩
  have a4 : Le LL _ _ := l3.nil
  refine Lw.r rfl (R.not rfl) ?_
  refine Lw.nil ?_
  refine Cw.cond (b := (!x1)) rfl (fun hc5 => ?_) (fun hc5 => ?_)
  · replace hm := bt hm hc5
    refine Cw.seq ?_
    refine Cw.region ?_
    refine Lw.r rfl (R.as (v := vB false) rfl) ?_
    refine Lw.nil ?_
    cases hm
    exact Cw.ret (ret1 rfl (Res.mk a4 rfl))
  · replace hm := bf hm hc5
    refine Cw.skip ?_
    refine Cw.seq ?_
    refine Cw.seq ?_
    refine Cw.region ?_
    refine Lw.r rfl (R.as (v := vI 0) rfl) ?_
    refine Lw.nil ?_
    refine Cw.block ?_
    obtain ⟨K9, hK9, hm⟩ := jn_e hm
    refine Cw.loop 8 18 [2, 3] (fun m l w => ∃ (y6 : Bool) (y7 : Int) (W8 : CW), W8.w = w ∧ Le [] W3 W8 ∧ l = [vB y6, vI y7] ∧ Vm.impl_nameOk_l1 x0 K9 m y6 y7 = some r) (((x0.length : Int) - 0).toNat + 1) ⟨false, 0, W3, rfl, Le.refl _ _, rfl, hm⟩ ?_
    rintro m10 _ _ σ ⟨y6, y7, W8, rfl, l8, rfl, hm⟩
    obtain _ | m10 := m10
    · cases hm
    unfold Vm.impl_nameOk_l1 at hm
    have a11 : Le LL _ _ := l8.nil
    refine Cw.seq ?_
    refine Cw.seq ?_
    refine Cw.region ?_
    refine Lw.r rfl (R.mv (v := vI y7) rfl) (Lw.r rfl (R.mv (v := vS x0) rfl) (Lw.r rfl (R.lenS rfl) (Lw.r rfl (R.lt rfl rfl) ?_)))
    refine Lw.nil ?_
    refine Cw.cond (b := decide ((y7 : Int) < ((x0.length : Int) : Int))) rfl (fun hc12 => ?_) (fun hc12 => ?_)
    · replace hm := bt hm hc12
      refine Cw.skip ?_
      refine Cw.seq ?_
      refine Cw.block ?_
      refine Cw.seq ?_
      refine Cw.region ?_
      refine Lw.r rfl (R.mv (v := vS x0) rfl) (Lw.r rfl (R.mv (v := vI y7) rfl) ?_)
      obtain ⟨u13, e14, hm⟩ := ob hm
      refine Lw.r rfl (R.chm e14 rfl rfl) ?_
      obtain ⟨x15, e16, hm⟩ := ob hm
      refine Lw.t rfl (T.call rfl (p109 (K := [0])   e16)) ?_
      rintro _ _ ⟨W17, rfl, l17, rfl⟩
      have a18 : Le LL _ _ := l17.nil
      refine Lw.r rfl (R.not rfl) ?_
      refine Lw.nil ?_
      refine Cw.cond (b := (!x15)) rfl (fun hc19 => ?_) (fun hc19 => ?_)
      · replace hm := bt hm hc19
        refine Cw.seq ?_
        refine Cw.region ?_
        refine Lw.r rfl (R.as (v := vB false) rfl) ?_
        refine Lw.nil ?_
        cases hm
        exact Cw.ret (ret1 rfl (Res.mk (a4.trans (a11.trans a18)) rfl))
      · replace hm := bf hm hc19
        refine Cw.skip ?_
        refine Cw.region ?_
        refine Lw.r rfl (R.mv (v := vI y7) rfl) (Lw.r rfl (R.add rfl rfl) (Lw.r rfl (R.as (v := vI (w64 (y7 + 1))) rfl) ?_))
        refine Lw.nil ?_
        refine ⟨?_, m10, Nat.lt_succ_self m10, ⟨y6, w64 (y7 + 1), W17, rfl, (l8.trans l17), rfl, hm⟩⟩
        iterate 12 (refine Agree.up rfl ?_)
        iterate 2 (refine Agree.up rfl ?_)
        exact Agree.base
    · replace hm := bf hm hc12
      refine Cw.exit ?_
      rw [hK9] at hm
      refine Cw.seq ?_
      refine Cw.region ?_
      refine Lw.r rfl (R.as (v := vB true) rfl) ?_
      refine Lw.nil ?_
      cases hm
      exact Cw.ret (ret1 rfl (Res.mk (a4.trans a11) rfl))

theorem p93 {W : CW} {K : List Nat} {x0 : Str} {r : Bool} (hm : Vm.impl_nameOk x0 = some r) : CallR Try.prog 93 [vS x0].toArray W.w (Res W [] fun W' v => v = vB r) :=
  (c93 (V := W.view K [])  hm).ad (fk 0) fun _ _ e => e

theorem c94 {V : CW} {x0 : List Str} {v0_ : Value} {r : Bool} (h0 : Rd V [0] [v0_] x0) (hm : Vm.impl_namesOk x0 = some r) : CallR Try.prog 94 [v0_].toArray V.w (Res V LL fun Wf v => v = vB r) := by
  unfold Vm.impl_namesOk at hm
  obtain ⟨W0, hW0⟩ : ∃ W, W = V := ⟨V, rfl⟩
  subst hW0
  refine CallR.of Try.func94 rfl rfl rfl rfl ?_
  refine Cw.seq ?_
  refine Cw.region ?_
  refine Lw.r rfl (R.as (v := vB false) rfl) ?_
  refine Lw.nil ?_
  refine Cw.seq ?_
  refine Cw.seq ?_
  refine Cw.region ?_
  refine Lw.r rfl (R.mv (v := v0_) rfl) (Lw.r rfl (lenR (xs := x0) h0 rfl) (Lw.r rfl (R.mv (v := vI 0) rfl) ?_))
  refine Lw.nil ?_
  refine Cw.block ?_
  obtain ⟨K6, hK6, hm⟩ := jn_e hm
  refine Cw.loop 7 28 [2, 3, 4, 7] (fun m l w => ∃ (y1 : Bool) (y4 : Int) (j2 j3 : Value) (W5 : CW), W5.w = w ∧ Le [] W0 W5 ∧ l = [vB y1, j2, j3, vI y4] ∧ Vm.impl_namesOk_l1 x0 K6 m y1 y4 = some r) (((x0.length : Int) - 0).toNat + 1) ⟨false, 0, undef, undef, W0, rfl, Le.refl _ _, rfl, hm⟩ ?_
  rintro m7 _ _ σ ⟨y1, y4, j2, j3, W5, rfl, l5, rfl, hm⟩
  obtain _ | m7 := m7
  · cases hm
  unfold Vm.impl_namesOk_l1 at hm
  have a8 : Le LL _ _ := l5.nil
  refine Cw.seq ?_
  refine Cw.region ?_
  refine Lw.r rfl (R.lt rfl rfl) ?_
  refine Lw.nil ?_
  refine Cw.seq ?_
  refine Cw.cond (b := decide ((y4 : Int) < ((x0.length : Int) : Int))) rfl (fun hc9 => ?_) (fun hc9 => ?_)
  · replace hm := bt hm hc9
    refine Cw.skip ?_
    refine Cw.seq ?_
    refine Cw.block ?_
    refine Cw.seq ?_
    refine Cw.region ?_
    refine Lw.r rfl (R.mv (v := vI y4) rfl) ?_
    obtain ⟨u10, e11, hm⟩ := ob hm
    have s12 := h0.ul a8
    refine Lw.r rfl (R.ix (α := Str) s12 e11 rfl rfl rfl) (Lw.r rfl (R.ld rfl rfl (s12.at_ e11).str) (Lw.r rfl (R.as (v := vI y4) rfl) (Lw.r rfl (R.as (v := vS u10) rfl) ?_)))
    refine Lw.nil ?_
    obtain ⟨K15, hK15, hm⟩ := jn_e hm
    refine Cw.join 12 27 [27] (fun l w => ∃ (y13 : Bool) (W14 : CW), W14.w = w ∧ Le [] W5 W14 ∧ l = [vB y13] ∧ K15 y13 = some r) ?_ ?_
    · rintro _ _ σ ⟨y13, W14, rfl, l14, rfl, hm⟩
      rw [hK15] at hm
      have a16 : Le LL _ _ := l14.nil
      refine Cw.cond (b := y13) rfl (fun hc17 => ?_) (fun hc17 => ?_)
      · replace hm := bt hm hc17
        refine Cw.seq ?_
        refine Cw.region ?_
        refine Lw.r rfl (R.as (v := vB false) rfl) ?_
        refine Lw.nil ?_
        cases hm
        exact Cw.ret (ret1 rfl (Res.mk (a8.trans a16) rfl))
      · replace hm := bf hm hc17
        refine Cw.skip ?_
        refine Cw.region ?_
        refine Lw.r rfl (R.add rfl rfl) (Lw.r rfl (R.mv (v := vI (w64 (y4 + 1))) rfl) ?_)
        refine Lw.nil ?_
        refine ⟨?_, m7, Nat.lt_succ_self m7, ⟨y1, w64 (y4 + 1), vI y4, vS u10, W14, rfl, (l5.trans l14), rfl, hm⟩⟩
        iterate 2 (refine Agree.up rfl ?_)
        iterate 1 (refine Agree.up rfl ?_)
        refine Agree.ov0 rfl ?_
        iterate 6 (refine Agree.up rfl ?_)
        iterate 4 (refine Agree.up rfl ?_)
        exact Agree.base
    · refine Cw.region ?_
      refine Lw.r rfl (R.mv (v := vS u10) rfl) ?_
      obtain ⟨x18, e19, hm⟩ := ob hm
      refine Lw.t rfl (T.call rfl (p93 (K := [0])   e19)) ?_
      rintro _ _ ⟨W20, rfl, l20, rfl⟩
      have a21 : Le LL _ _ := l20.nil
      refine Lw.r rfl (R.not rfl) (Lw.r rfl (R.mv (v := vB (!x18)) rfl) ?_)
      refine bsplit (!x18) (fun hc22 => ?_) (fun hc22 => ?_)
      · replace hm := bt hm hc22
        refine Lw.pass' hc22 rfl rfl rfl rfl rfl rfl rfl ?_
        refine Lw.pass' hc22 rfl rfl rfl rfl rfl rfl rfl ?_
        refine Lw.pass' hc22 rfl rfl rfl rfl rfl rfl rfl ?_
        refine Lw.passU rfl rfl rfl rfl rfl rfl ?_
        refine Lw.passU rfl rfl rfl rfl rfl rfl ?_
        refine Lw.passU rfl rfl rfl rfl rfl rfl ?_
        refine Lw.passU rfl rfl rfl rfl rfl rfl ?_
        refine Lw.passU rfl rfl rfl rfl rfl rfl ?_
        refine Lw.passU rfl rfl rfl rfl rfl rfl ?_
        refine Lw.passU rfl rfl rfl rfl rfl rfl ?_
        refine Lw.pass' hc22 rfl rfl rfl rfl rfl rfl rfl ?_
        refine Lw.r rfl (R.pk hc22 rfl (v := vB true) rfl) ?_
        refine Lw.nil ?_
        refine ⟨?_, ⟨true, W20, rfl, l20, rfl, hm⟩⟩
        iterate 16 (refine Agree.up rfl ?_)
        exact Agree.refl _
      · replace hm := bf hm hc22
        refine Lw.want' hc22 rfl rfl rfl rfl ?_
        refine Lw.r rfl (R.mv (v := vI y4) rfl) ?_
        refine Lw.want' hc22 rfl rfl rfl rfl ?_
        refine Lw.r rfl (R.gt rfl rfl) ?_
        refine Lw.want' hc22 rfl rfl rfl rfl ?_
        refine Lw.r rfl (R.mv (v := vB (decide ((0 : Int) < (y4 : Int)))) rfl) ?_
        refine bsplit (decide ((0 : Int) < (y4 : Int))) (fun hc23 => ?_) (fun hc23 => ?_)
        · replace hm := bt hm hc23
          refine Lw.want' hc23 rfl rfl rfl rfl ?_
          refine Lw.r rfl (R.mv (v := v0_) rfl) ?_
          refine Lw.want' hc23 rfl rfl rfl rfl ?_
          refine Lw.r rfl (R.mv (v := vI y4) rfl) ?_
          refine Lw.want' hc23 rfl rfl rfl rfl ?_
          refine Lw.r rfl (R.sub rfl rfl) ?_
          refine Lw.want' hc23 rfl rfl rfl rfl ?_
          obtain ⟨u24, e25, hm⟩ := ob hm
          have s26 := h0.ul (a8.trans a21)
          refine Lw.r rfl (R.ix (α := Str) s26 e25 rfl rfl rfl) ?_
          refine Lw.want' hc23 rfl rfl rfl rfl ?_
          refine Lw.r rfl (R.ld rfl rfl (s26.at_ e25).str) ?_
          refine Lw.want' hc23 rfl rfl rfl rfl ?_
          refine Lw.r rfl (R.mv (v := vS u10) rfl) ?_
          refine Lw.want' hc23 rfl rfl rfl rfl ?_
          refine Lw.r rfl (R.sge rfl rfl) ?_
          refine Lw.want' hc22 rfl rfl rfl rfl ?_
          refine Lw.r rfl (R.pk hc23 rfl (v := vB (!Op.bytesLess u24 u10)) rfl) (Lw.r rfl (R.pk hc22 rfl (v := vB (!Op.bytesLess u24 u10)) rfl) ?_)
          refine Lw.nil ?_
          refine ⟨?_, ⟨(!Op.bytesLess u24 u10), W20, rfl, l20, rfl, hm⟩⟩
          iterate 16 (refine Agree.up rfl ?_)
          exact Agree.refl _
        · replace hm := bf hm hc23
          refine Lw.pass' hc23 rfl rfl rfl rfl rfl rfl rfl ?_
          refine Lw.pass' hc23 rfl rfl rfl rfl rfl rfl rfl ?_
          refine Lw.pass' hc23 rfl rfl rfl rfl rfl rfl rfl ?_
          refine Lw.pass' hc23 rfl rfl rfl rfl rfl rfl rfl ?_
          refine Lw.pass' hc23 rfl rfl rfl rfl rfl rfl rfl ?_
          refine Lw.pass' hc23 rfl rfl rfl rfl rfl rfl rfl ?_
          refine Lw.pass' hc23 rfl rfl rfl rfl rfl rfl rfl ?_
          refine Lw.want' hc22 rfl rfl rfl rfl ?_
          refine Lw.r rfl (R.pk hc23 rfl (v := vB false) rfl) (Lw.r rfl (R.pk hc22 rfl (v := vB false) rfl) ?_)
          refine Lw.nil ?_
          refine ⟨?_, ⟨false, W20, rfl, l20, rfl, hm⟩⟩
          iterate 16 (refine Agree.up rfl ?_)
          exact Agree.refl _
  · replace hm := bf hm hc9
    refine Cw.exit ?_
    rw [hK6] at hm
    refine Cw.seq ?_
    refine Cw.region ?_
    refine Lw.r rfl (R.as (v := vB true) rfl) ?_
    refine Lw.nil ?_
    cases hm
    exact Cw.ret (ret1 rfl (Res.mk a8 rfl))

theorem p94 {W : CW} {K : List Nat} {x0 : List Str} {v0_ : Value} {r : Bool} (h0 : Rd W K [v0_] x0) (hm : Vm.impl_namesOk x0 = some r) : CallR Try.prog 94 [v0_].toArray W.w (Res W [] fun W' v => v = vB r) :=
  (c94 (V := W.view K []) (h0.view []) hm).ad (fk 0) fun _ _ e => e

theorem c51 {V : CW} {x0 : Vm.Review} {v0_3_ : Value} {r : Bool} (h0 : Rd V [0] [vS x0.Branch, vS x0.Into, vS x0.By, v0_3_] x0) (hm : Vm.impl_ReviewOk x0 = some r) : CallR Try.prog 51 [.agg [vS x0.Branch, vS x0.Into, vS x0.By, v0_3_].toArray].toArray V.w (Res V LL fun Wf v => v = vB r) := by
  unfold Vm.impl_ReviewOk at hm
  obtain ⟨w0_0, he0, h0_3⟩ := Review.split h0
  simp only [List.cons.injEq, and_true, true_and] at he0
  obtain rfl := he0
  obtain ⟨W0, hW0⟩ : ∃ W, W = V := ⟨V, rfl⟩
  subst hW0
  refine CallR.of Try.func51 rfl rfl rfl rfl ?_
  refine Cw.seq ?_
  refine Cw.region ?_
  refine Lw.t rfl (T.box 2 (v := .agg [vS x0.Branch, vS x0.Into, vS x0.By, v0_3_].toArray) (cs := [vS x0.Branch, vS x0.Into, vS x0.By, v0_3_]) rfl rfl) ?_
  rintro _ _ ⟨g1, W1, rfl, rfl, l1, b1⟩
  have a2 : Le LL _ _ := l1.nil
  refine Lw.r rfl (R.as (v := vB false) rfl) ?_
  refine Lw.nil ?_
  obtain ⟨K5, hK5, hm⟩ := jn_e hm
  refine Cw.join 3 33 [2] (fun l w => ∃ (y3 : Bool) (W4 : CW), W4.w = w ∧ Le [] W1 W4 ∧ l = [vB y3] ∧ K5 y3 = some r) ?_ ?_
  · rintro _ _ σ ⟨y3, W4, rfl, l4, rfl, hm⟩
    rw [hK5] at hm
    have a6 : Le LL _ _ := l4.nil
    have b7 := b1.up l4 rfl
    cases hm
    exact Cw.ret (ret1 rfl (Res.mk (a2.trans a6) rfl))
  · refine Cw.region ?_
    refine Lw.r rfl (R.fa rfl) (Lw.r rfl (R.ld (v := vS x0.Branch) rfl rfl (b1.cell rfl)) ?_)
    obtain ⟨x8, e9, hm⟩ := ob hm
    refine Lw.t rfl (T.call rfl (p93 (K := [0])   e9)) ?_
    rintro _ _ ⟨W10, rfl, l10, rfl⟩
    have a11 : Le LL _ _ := l10.nil
    have b12 := b1.up l10 rfl
    refine Lw.r rfl (R.mv (v := vB x8) rfl) ?_
    refine bsplit x8 (fun hc13 => ?_) (fun hc13 => ?_)
    · replace hm := bt hm hc13
      refine Lw.want' hc13 rfl rfl rfl rfl ?_
      refine Lw.r rfl (R.fa rfl) ?_
      refine Lw.want' hc13 rfl rfl rfl rfl ?_
      refine Lw.r rfl (R.ld (v := vS x0.Into) rfl rfl (b12.cell rfl)) ?_
      refine Lw.want' hc13 rfl rfl rfl rfl ?_
      obtain ⟨x14, e15, hm⟩ := ob hm
      refine Lw.t rfl (T.call rfl (p93 (K := [0])   e15)) ?_
      rintro _ _ ⟨W16, rfl, l16, rfl⟩
      have a17 : Le LL _ _ := l16.nil
      have b18 := b12.up l16 rfl
      refine Lw.r rfl (R.pk hc13 rfl (v := vB x14) rfl) (Lw.r rfl (R.mv (v := vB x14) rfl) ?_)
      refine bsplit x14 (fun hc19 => ?_) (fun hc19 => ?_)
      · replace hm := bt hm hc19
        refine Lw.want' hc19 rfl rfl rfl rfl ?_
        refine Lw.r rfl (R.fa rfl) ?_
        refine Lw.want' hc19 rfl rfl rfl rfl ?_
        refine Lw.r rfl (R.ld (v := vS x0.By) rfl rfl (b18.cell rfl)) ?_
        refine Lw.want' hc19 rfl rfl rfl rfl ?_
        obtain ⟨x20, e21, hm⟩ := ob hm
        refine Lw.t rfl (T.call rfl (p93 (K := [0])   e21)) ?_
        rintro _ _ ⟨W22, rfl, l22, rfl⟩
        have a23 : Le LL _ _ := l22.nil
        have b24 := b18.up l22 rfl
        refine Lw.r rfl (R.pk hc19 rfl (v := vB x20) rfl) (Lw.r rfl (R.mv (v := vB x20) rfl) ?_)
        refine bsplit x20 (fun hc25 => ?_) (fun hc25 => ?_)
        · replace hm := bt hm hc25
          refine Lw.want' hc25 rfl rfl rfl rfl ?_
          refine Lw.r rfl (R.fa rfl) ?_
          refine Lw.want' hc25 rfl rfl rfl rfl ?_
          refine Lw.r rfl (R.ld (v := vS x0.Branch) rfl rfl (b24.cell rfl)) ?_
          refine Lw.want' hc25 rfl rfl rfl rfl ?_
          refine Lw.r rfl (R.fa rfl) ?_
          refine Lw.want' hc25 rfl rfl rfl rfl ?_
          refine Lw.r rfl (R.ld (v := vS x0.Into) rfl rfl (b24.cell rfl)) ?_
          refine Lw.want' hc25 rfl rfl rfl rfl ?_
          refine Lw.r rfl (R.sne rfl rfl) (Lw.r rfl (R.pk hc25 rfl (v := vB (x0.Branch != x0.Into)) rfl) (Lw.r rfl (R.mv (v := vB (x0.Branch != x0.Into)) rfl) ?_))
          refine bsplit (x0.Branch != x0.Into) (fun hc26 => ?_) (fun hc26 => ?_)
          · replace hm := bt hm hc26
            refine Lw.want' hc26 rfl rfl rfl rfl ?_
            refine Lw.r rfl (R.fa rfl) ?_
            refine Lw.want' hc26 rfl rfl rfl rfl ?_
            refine Lw.r rfl (R.ld (v := v0_3_) rfl rfl (b24.cell rfl)) ?_
            refine Lw.want' hc26 rfl rfl rfl rfl ?_
            have s27 := h0_3.ul (a2.trans (a11.trans (a17.trans a23)))
            refine Lw.r rfl (lenR (xs := x0.Yes) s27 rfl) ?_
            refine Lw.want' hc26 rfl rfl rfl rfl ?_
            refine Lw.r rfl (R.le rfl rfl) (Lw.r rfl (R.pk hc26 rfl (v := vB (decide (((x0.Yes.length : Int) : Int) ≤ (5 : Int)))) rfl) (Lw.r rfl (R.mv (v := vB (decide (((x0.Yes.length : Int) : Int) ≤ (5 : Int)))) rfl) ?_))
            refine bsplit (decide (((x0.Yes.length : Int) : Int) ≤ (5 : Int))) (fun hc28 => ?_) (fun hc28 => ?_)
            · replace hm := bt hm hc28
              refine Lw.want' hc28 rfl rfl rfl rfl ?_
              refine Lw.r rfl (R.fa rfl) ?_
              refine Lw.want' hc28 rfl rfl rfl rfl ?_
              refine Lw.r rfl (R.ld (v := v0_3_) rfl rfl (b24.cell rfl)) ?_
              refine Lw.want' hc28 rfl rfl rfl rfl ?_
              obtain ⟨x29, e30, hm⟩ := ob hm
              refine Lw.t rfl (T.call rfl (p94 (K := [0])  s27 e30)) ?_
              rintro _ _ ⟨W31, rfl, l31, rfl⟩
              have a32 : Le LL _ _ := l31.nil
              have b33 := b24.up l31 rfl
              refine Lw.r rfl (R.pk hc28 rfl (v := vB x29) rfl) (Lw.r rfl (R.as (v := vB x29) rfl) ?_)
              refine Lw.nil ?_
              refine ⟨?_, ⟨x29, W31, rfl, (l10.trans (l16.trans (l22.trans l31))), rfl, hm⟩⟩
              iterate 32 (refine Agree.up rfl ?_)
              exact Agree.refl _
            · replace hm := bf hm hc28
              refine Lw.pass' hc28 rfl rfl rfl rfl rfl rfl rfl ?_
              refine Lw.pass' hc28 rfl rfl rfl rfl rfl rfl rfl ?_
              refine Lw.pass' hc28 rfl rfl rfl rfl rfl rfl rfl ?_
              refine Lw.r rfl (R.pk hc28 rfl (v := vB false) rfl) (Lw.r rfl (R.as (v := vB false) rfl) ?_)
              refine Lw.nil ?_
              refine ⟨?_, ⟨false, W22, rfl, (l10.trans (l16.trans l22)), rfl, hm⟩⟩
              iterate 32 (refine Agree.up rfl ?_)
              exact Agree.refl _
          · replace hm := bf hm hc26
            refine Lw.pass' hc26 rfl rfl rfl rfl rfl rfl rfl ?_
            refine Lw.pass' hc26 rfl rfl rfl rfl rfl rfl rfl ?_
            refine Lw.pass' hc26 rfl rfl rfl rfl rfl rfl rfl ?_
            refine Lw.pass' hc26 rfl rfl rfl rfl rfl rfl rfl ?_
            refine Lw.r rfl (R.pk hc26 rfl (v := vB false) rfl) (Lw.r rfl (R.mv (v := vB false) rfl) ?_)
            refine Lw.pass' rfl rfl rfl rfl rfl rfl rfl rfl ?_
            refine Lw.pass' rfl rfl rfl rfl rfl rfl rfl rfl ?_
            refine Lw.pass' rfl rfl rfl rfl rfl rfl rfl rfl ?_
            refine Lw.r rfl (R.pk rfl rfl (v := vB false) rfl) (Lw.r rfl (R.as (v := vB false) rfl) ?_)
            refine Lw.nil ?_
            refine ⟨?_, ⟨false, W22, rfl, (l10.trans (l16.trans l22)), rfl, hm⟩⟩
            iterate 32 (refine Agree.up rfl ?_)
            exact Agree.refl _
        · replace hm := bf hm hc25
          refine Lw.pass' hc25 rfl rfl rfl rfl rfl rfl rfl ?_
          refine Lw.pass' hc25 rfl rfl rfl rfl rfl rfl rfl ?_
          refine Lw.pass' hc25 rfl rfl rfl rfl rfl rfl rfl ?_
          refine Lw.pass' hc25 rfl rfl rfl rfl rfl rfl rfl ?_
          refine Lw.pass' hc25 rfl rfl rfl rfl rfl rfl rfl ?_
          refine Lw.r rfl (R.pk hc25 rfl (v := vB false) rfl) (Lw.r rfl (R.mv (v := vB false) rfl) ?_)
          refine Lw.pass' rfl rfl rfl rfl rfl rfl rfl rfl ?_
          refine Lw.pass' rfl rfl rfl rfl rfl rfl rfl rfl ?_
          refine Lw.pass' rfl rfl rfl rfl rfl rfl rfl rfl ?_
          refine Lw.pass' rfl rfl rfl rfl rfl rfl rfl rfl ?_
          refine Lw.r rfl (R.pk rfl rfl (v := vB false) rfl) (Lw.r rfl (R.mv (v := vB false) rfl) ?_)
          refine Lw.pass' rfl rfl rfl rfl rfl rfl rfl rfl ?_
          refine Lw.pass' rfl rfl rfl rfl rfl rfl rfl rfl ?_
          refine Lw.pass' rfl rfl rfl rfl rfl rfl rfl rfl ?_
          refine Lw.r rfl (R.pk rfl rfl (v := vB false) rfl) (Lw.r rfl (R.as (v := vB false) rfl) ?_)
          refine Lw.nil ?_
          refine ⟨?_, ⟨false, W22, rfl, (l10.trans (l16.trans l22)), rfl, hm⟩⟩
          iterate 32 (refine Agree.up rfl ?_)
          exact Agree.refl _
      · replace hm := bf hm hc19
        refine Lw.pass' hc19 rfl rfl rfl rfl rfl rfl rfl ?_
        refine Lw.pass' hc19 rfl rfl rfl rfl rfl rfl rfl ?_
        refine Lw.pass' hc19 rfl rfl rfl rfl rfl rfl rfl ?_
        refine Lw.r rfl (R.pk hc19 rfl (v := vB false) rfl) (Lw.r rfl (R.mv (v := vB false) rfl) ?_)
        refine Lw.pass' rfl rfl rfl rfl rfl rfl rfl rfl ?_
        refine Lw.pass' rfl rfl rfl rfl rfl rfl rfl rfl ?_
        refine Lw.pass' rfl rfl rfl rfl rfl rfl rfl rfl ?_
        refine Lw.pass' rfl rfl rfl rfl rfl rfl rfl rfl ?_
        refine Lw.pass' rfl rfl rfl rfl rfl rfl rfl rfl ?_
        refine Lw.r rfl (R.pk rfl rfl (v := vB false) rfl) (Lw.r rfl (R.mv (v := vB false) rfl) ?_)
        refine Lw.pass' rfl rfl rfl rfl rfl rfl rfl rfl ?_
        refine Lw.pass' rfl rfl rfl rfl rfl rfl rfl rfl ?_
        refine Lw.pass' rfl rfl rfl rfl rfl rfl rfl rfl ?_
        refine Lw.pass' rfl rfl rfl rfl rfl rfl rfl rfl ?_
        refine Lw.r rfl (R.pk rfl rfl (v := vB false) rfl) (Lw.r rfl (R.mv (v := vB false) rfl) ?_)
        refine Lw.pass' rfl rfl rfl rfl rfl rfl rfl rfl ?_
        refine Lw.pass' rfl rfl rfl rfl rfl rfl rfl rfl ?_
        refine Lw.pass' rfl rfl rfl rfl rfl rfl rfl rfl ?_
        refine Lw.r rfl (R.pk rfl rfl (v := vB false) rfl) (Lw.r rfl (R.as (v := vB false) rfl) ?_)
        refine Lw.nil ?_
        refine ⟨?_, ⟨false, W16, rfl, (l10.trans l16), rfl, hm⟩⟩
        iterate 32 (refine Agree.up rfl ?_)
        exact Agree.refl _
    · replace hm := bf hm hc13
      refine Lw.pass' hc13 rfl rfl rfl rfl rfl rfl rfl ?_
      refine Lw.pass' hc13 rfl rfl rfl rfl rfl rfl rfl ?_
      refine Lw.pass' hc13 rfl rfl rfl rfl rfl rfl rfl ?_
      refine Lw.r rfl (R.pk hc13 rfl (v := vB false) rfl) (Lw.r rfl (R.mv (v := vB false) rfl) ?_)
      refine Lw.pass' rfl rfl rfl rfl rfl rfl rfl rfl ?_
      refine Lw.pass' rfl rfl rfl rfl rfl rfl rfl rfl ?_
      refine Lw.pass' rfl rfl rfl rfl rfl rfl rfl rfl ?_
      refine Lw.r rfl (R.pk rfl rfl (v := vB false) rfl) (Lw.r rfl (R.mv (v := vB false) rfl) ?_)
      refine Lw.pass' rfl rfl rfl rfl rfl rfl rfl rfl ?_
      refine Lw.pass' rfl rfl rfl rfl rfl rfl rfl rfl ?_
      refine Lw.pass' rfl rfl rfl rfl rfl rfl rfl rfl ?_
      refine Lw.pass' rfl rfl rfl rfl rfl rfl rfl rfl ?_
      refine Lw.pass' rfl rfl rfl rfl rfl rfl rfl rfl ?_
      refine Lw.r rfl (R.pk rfl rfl (v := vB false) rfl) (Lw.r rfl (R.mv (v := vB false) rfl) ?_)
      refine Lw.pass' rfl rfl rfl rfl rfl rfl rfl rfl ?_
      refine Lw.pass' rfl rfl rfl rfl rfl rfl rfl rfl ?_
      refine Lw.pass' rfl rfl rfl rfl rfl rfl rfl rfl ?_
      refine Lw.pass' rfl rfl rfl rfl rfl rfl rfl rfl ?_
      refine Lw.r rfl (R.pk rfl rfl (v := vB false) rfl) (Lw.r rfl (R.mv (v := vB false) rfl) ?_)
      refine Lw.pass' rfl rfl rfl rfl rfl rfl rfl rfl ?_
      refine Lw.pass' rfl rfl rfl rfl rfl rfl rfl rfl ?_
      refine Lw.pass' rfl rfl rfl rfl rfl rfl rfl rfl ?_
      refine Lw.r rfl (R.pk rfl rfl (v := vB false) rfl) (Lw.r rfl (R.as (v := vB false) rfl) ?_)
      refine Lw.nil ?_
      refine ⟨?_, ⟨false, W10, rfl, l10, rfl, hm⟩⟩
      iterate 32 (refine Agree.up rfl ?_)
      exact Agree.refl _

theorem p51 {W : CW} {K : List Nat} {x0 : Vm.Review} {v0_3_ : Value} {r : Bool} (h0 : Rd W K [vS x0.Branch, vS x0.Into, vS x0.By, v0_3_] x0) (hm : Vm.impl_ReviewOk x0 = some r) : CallR Try.prog 51 [.agg [vS x0.Branch, vS x0.Into, vS x0.By, v0_3_].toArray].toArray W.w (Res W [] fun W' v => v = vB r) :=
  (c51 (V := W.view K []) (h0.view []) hm).ad (fk 0) fun _ _ e => e

theorem c132 {V : CW} {x0 : Str} {r : Bool} (hm : Vm.cmp_isNaN_string x0 = some r) : CallR Try.prog 132 [vS x0].toArray V.w (Res V LL fun Wf v => v = vB r) := by
  unfold Vm.cmp_isNaN_string at hm
  obtain ⟨W0, hW0⟩ : ∃ W, W = V := ⟨V, rfl⟩
  subst hW0
  refine CallR.of Try.func132 rfl rfl rfl rfl ?_
  refine Cw.seq ?_
  refine Cw.region ?_
  refine Lw.r rfl (R.as (v := vB false) rfl) ?_
  refine Lw.nil ?_
  refine Cw.seq ?_
  refine Cw.region ?_
  refine Lw.r rfl (R.mv (v := vS x0) rfl) (Lw.r rfl (R.mv (v := vS x0) rfl) (Lw.r rfl (R.sne rfl rfl) (Lw.r rfl (R.as (v := vB (x0 != x0)) rfl) ?_)))
  refine Lw.nil ?_
  cases hm
  exact Cw.ret (ret1 rfl (Res.mk (Le.refl _ _) rfl))

theorem p132 {W : CW} {K : List Nat} {x0 : Str} {r : Bool} (hm : Vm.cmp_isNaN_string x0 = some r) : CallR Try.prog 132 [vS x0].toArray W.w (Res W [] fun W' v => v = vB r) :=
  (c132 (V := W.view K [])  hm).ad (fk 0) fun _ _ e => e

theorem c122 {V : CW} {x0 : Str} {x1 : Str} {r : Bool} (hm : Vm.cmp_Less_string x0 x1 = some r) : CallR Try.prog 122 [vS x0, vS x1].toArray V.w (Res V LL fun Wf v => v = vB r) := by
  unfold Vm.cmp_Less_string at hm
  obtain ⟨W0, hW0⟩ : ∃ W, W = V := ⟨V, rfl⟩
  subst hW0
  refine CallR.of Try.func122 rfl rfl rfl rfl ?_
  refine Cw.seq ?_
  refine Cw.region ?_
  refine Lw.r rfl (R.as (v := vB false) rfl) ?_
  refine Lw.nil ?_
  obtain ⟨K3, hK3, hm⟩ := jn_e hm
  refine Cw.join 5 16 [4] (fun l w => ∃ (y1 : Bool) (W2 : CW), W2.w = w ∧ Le [] W0 W2 ∧ l = [vB y1] ∧ K3 y1 = some r) ?_ ?_
  · rintro _ _ σ ⟨y1, W2, rfl, l2, rfl, hm⟩
    rw [hK3] at hm
    have a4 : Le LL _ _ := l2.nil
    cases hm
    exact Cw.ret (ret1 rfl (Res.mk a4 rfl))
  · refine Cw.region ?_
    refine Lw.r rfl (R.mv (v := vS x0) rfl) ?_
    obtain ⟨x5, e6, hm⟩ := ob hm
    refine Lw.t rfl (T.call rfl (p132 (K := [0])   e6)) ?_
    rintro _ _ ⟨W7, rfl, l7, rfl⟩
    have a8 : Le LL _ _ := l7.nil
    refine Lw.r rfl (R.mv (v := vB x5) rfl) ?_
    refine bsplit x5 (fun hc9 => ?_) (fun hc9 => ?_)
    · replace hm := bt hm hc9
      refine Lw.want' hc9 rfl rfl rfl rfl ?_
      refine Lw.r rfl (R.mv (v := vS x1) rfl) ?_
      refine Lw.want' hc9 rfl rfl rfl rfl ?_
      obtain ⟨x10, e11, hm⟩ := ob hm
      refine Lw.t rfl (T.call rfl (p132 (K := [0])   e11)) ?_
      rintro _ _ ⟨W12, rfl, l12, rfl⟩
      have a13 : Le LL _ _ := l12.nil
      refine Lw.want' hc9 rfl rfl rfl rfl ?_
      refine Lw.r rfl (R.not rfl) (Lw.r rfl (R.pk hc9 rfl (v := vB (!x10)) rfl) (Lw.r rfl (R.mv (v := vB (!x10)) rfl) ?_))
      refine bsplit (!x10) (fun hc14 => ?_) (fun hc14 => ?_)
      · replace hm := bt hm hc14
        refine Lw.pass' hc14 rfl rfl rfl rfl rfl rfl rfl ?_
        refine Lw.pass' hc14 rfl rfl rfl rfl rfl rfl rfl ?_
        refine Lw.pass' hc14 rfl rfl rfl rfl rfl rfl rfl ?_
        refine Lw.r rfl (R.pk hc14 rfl (v := vB true) rfl) (Lw.r rfl (R.as (v := vB true) rfl) ?_)
        refine Lw.nil ?_
        refine ⟨?_, ⟨true, W12, rfl, (l7.trans l12), rfl, hm⟩⟩
        iterate 13 (refine Agree.up rfl ?_)
        exact Agree.refl _
      · replace hm := bf hm hc14
        refine Lw.want' hc14 rfl rfl rfl rfl ?_
        refine Lw.r rfl (R.mv (v := vS x0) rfl) ?_
        refine Lw.want' hc14 rfl rfl rfl rfl ?_
        refine Lw.r rfl (R.mv (v := vS x1) rfl) ?_
        refine Lw.want' hc14 rfl rfl rfl rfl ?_
        refine Lw.r rfl (R.slt rfl rfl) (Lw.r rfl (R.pk hc14 rfl (v := vB (Op.bytesLess x0 x1)) rfl) (Lw.r rfl (R.as (v := vB (Op.bytesLess x0 x1)) rfl) ?_))
        refine Lw.nil ?_
        refine ⟨?_, ⟨Op.bytesLess x0 x1, W12, rfl, (l7.trans l12), rfl, hm⟩⟩
        iterate 13 (refine Agree.up rfl ?_)
        exact Agree.refl _
    · replace hm := bf hm hc9
      refine Lw.pass' hc9 rfl rfl rfl rfl rfl rfl rfl ?_
      refine Lw.pass' hc9 rfl rfl rfl rfl rfl rfl rfl ?_
      refine Lw.pass' hc9 rfl rfl rfl rfl rfl rfl rfl ?_
      refine Lw.r rfl (R.pk hc9 rfl (v := vB false) rfl) (Lw.r rfl (R.mv (v := vB false) rfl) ?_)
      refine Lw.want' rfl rfl rfl rfl rfl ?_
      refine Lw.r rfl (R.mv (v := vS x0) rfl) ?_
      refine Lw.want' rfl rfl rfl rfl rfl ?_
      refine Lw.r rfl (R.mv (v := vS x1) rfl) ?_
      refine Lw.want' rfl rfl rfl rfl rfl ?_
      refine Lw.r rfl (R.slt rfl rfl) (Lw.r rfl (R.pk rfl rfl (v := vB (Op.bytesLess x0 x1)) rfl) (Lw.r rfl (R.as (v := vB (Op.bytesLess x0 x1)) rfl) ?_))
      refine Lw.nil ?_
      refine ⟨?_, ⟨Op.bytesLess x0 x1, W7, rfl, l7, rfl, hm⟩⟩
      iterate 13 (refine Agree.up rfl ?_)
      exact Agree.refl _

theorem p122 {W : CW} {K : List Nat} {x0 : Str} {x1 : Str} {r : Bool} (hm : Vm.cmp_Less_string x0 x1 = some r) : CallR Try.prog 122 [vS x0, vS x1].toArray W.w (Res W [] fun W' v => v = vB r) :=
  (c122 (V := W.view K [])  hm).ad (fk 0) fun _ _ e => e

theorem c115 {V : CW} {x0 : Int} {x1 : Int} {x2 : Int} {r : Bool} (hm : Vm.spec_l1In x0 x1 x2 = some r) : CallR Try.prog 115 [vI x0, vI x1, vI x2].toArray V.w (Res V LL fun Wf v => v = vB r) := by
  unfold Vm.spec_l1In at hm
  obtain ⟨W0, hW0⟩ : ∃ W, W = V := ⟨V, rfl⟩
  subst hW0
  refine CallR.of Try.func115 rfl rfl rfl rfl ?_
  refine Cw.seq ?_
  refine Cw.region ?_
  refine Lw.r rfl (R.as (v := vB false) rfl) ?_
  refine Lw.nil ?_
  obtain ⟨K3, hK3, hm⟩ := jn_e hm
  refine Cw.join 7 14 [6] (fun l w => ∃ (y1 : Bool) (W2 : CW), W2.w = w ∧ Le [] W0 W2 ∧ l = [vB y1] ∧ K3 y1 = some r) ?_ ?_
  · rintro _ _ σ ⟨y1, W2, rfl, l2, rfl, hm⟩
    rw [hK3] at hm
    have a4 : Le LL _ _ := l2.nil
    cases hm
    exact Cw.ret (ret1 rfl (Res.mk a4 rfl))
  · refine Cw.region ?_
    refine Lw.r rfl (R.mv (v := vI x0) rfl) (Lw.r rfl (R.mv (v := vI x1) rfl) (Lw.r rfl (R.ge rfl rfl) (Lw.r rfl (R.mv (v := vB (decide ((x1 : Int) ≤ (x0 : Int)))) rfl) ?_)))
    refine bsplit (decide ((x1 : Int) ≤ (x0 : Int))) (fun hc5 => ?_) (fun hc5 => ?_)
    · replace hm := bt hm hc5
      refine Lw.want' hc5 rfl rfl rfl rfl ?_
      refine Lw.r rfl (R.mv (v := vI x0) rfl) ?_
      refine Lw.want' hc5 rfl rfl rfl rfl ?_
      refine Lw.r rfl (R.mv (v := vI x2) rfl) ?_
      refine Lw.want' hc5 rfl rfl rfl rfl ?_
      refine Lw.r rfl (R.le rfl rfl) (Lw.r rfl (R.pk hc5 rfl (v := vB (decide ((x0 : Int) ≤ (x2 : Int)))) rfl) (Lw.r rfl (R.as (v := vB (decide ((x0 : Int) ≤ (x2 : Int)))) rfl) ?_))
      refine Lw.nil ?_
      refine ⟨?_, ⟨decide ((x0 : Int) ≤ (x2 : Int)), W0, rfl, Le.refl _ _, rfl, hm⟩⟩
      iterate 9 (refine Agree.up rfl ?_)
      exact Agree.refl _
    · replace hm := bf hm hc5
      refine Lw.pass' hc5 rfl rfl rfl rfl rfl rfl rfl ?_
      refine Lw.pass' hc5 rfl rfl rfl rfl rfl rfl rfl ?_
      refine Lw.pass' hc5 rfl rfl rfl rfl rfl rfl rfl ?_
      refine Lw.r rfl (R.pk hc5 rfl (v := vB false) rfl) (Lw.r rfl (R.as (v := vB false) rfl) ?_)
      refine Lw.nil ?_
      refine ⟨?_, ⟨false, W0, rfl, Le.refl _ _, rfl, hm⟩⟩
      iterate 9 (refine Agree.up rfl ?_)
      exact Agree.refl _

theorem p115 {W : CW} {K : List Nat} {x0 : Int} {x1 : Int} {x2 : Int} {r : Bool} (hm : Vm.spec_l1In x0 x1 x2 = some r) : CallR Try.prog 115 [vI x0, vI x1, vI x2].toArray W.w (Res W [] fun W' v => v = vB r) :=
  (c115 (V := W.view K [])  hm).ad (fk 0) fun _ _ e => e

theorem c108 {V : CW} {x0 : Str} {r : Bool} (hm : Vm.spec_l4Name x0 = some r) : CallR Try.prog 108 [vS x0].toArray V.w (Res V LL fun Wf v => v = vB r) := by
  unfold Vm.spec_l4Name at hm
  obtain ⟨W0, hW0⟩ : ∃ W, W = V := ⟨V, rfl⟩
  subst hW0
  refine CallR.of Try.func108 rfl rfl rfl rfl ?_
  refine Cw.seq ?_
  refine Cw.region ?_
  refine Lw.r rfl (R.as (v := vB false) rfl) ?_
  refine Lw.nil ?_
  refine Cw.seq ?_
  refine Cw.seq ?_
  refine Cw.region ?_
  refine Lw.r rfl (R.as (v := vI 0) rfl) ?_
  refine Lw.nil ?_
  refine Cw.block ?_
  obtain ⟨K4, hK4, hm⟩ := jn_e hm
  refine Cw.loop 4 31 [2, 3] (fun m l w => ∃ (y1 : Bool) (y2 : Int) (W3 : CW), W3.w = w ∧ Le [] W0 W3 ∧ l = [vB y1, vI y2] ∧ Vm.spec_l4Name_l1 x0 K4 m y1 y2 = some r) (((x0.length : Int) - 0).toNat + 1) ⟨false, 0, W0, rfl, Le.refl _ _, rfl, hm⟩ ?_
  rintro m5 _ _ σ ⟨y1, y2, W3, rfl, l3, rfl, hm⟩
  obtain _ | m5 := m5
  · cases hm
  unfold Vm.spec_l4Name_l1 at hm
  have a6 : Le LL _ _ := l3.nil
  refine Cw.seq ?_
  refine Cw.seq ?_
  refine Cw.region ?_
  refine Lw.r rfl (R.mv (v := vI y2) rfl) (Lw.r rfl (R.mv (v := vS x0) rfl) (Lw.r rfl (R.lenS rfl) (Lw.r rfl (R.lt rfl rfl) ?_)))
  refine Lw.nil ?_
  refine Cw.cond (b := decide ((y2 : Int) < ((x0.length : Int) : Int))) rfl (fun hc7 => ?_) (fun hc7 => ?_)
  · replace hm := bt hm hc7
    refine Cw.skip ?_
    refine Cw.seq ?_
    refine Cw.block ?_
    obtain ⟨K10, hK10, hm⟩ := jn_e hm
    refine Cw.join 10 31 [31] (fun l w => ∃ (y8 : Bool) (W9 : CW), W9.w = w ∧ Le [] W3 W9 ∧ l = [vB y8] ∧ K10 y8 = some r) ?_ ?_
    · rintro _ _ σ ⟨y8, W9, rfl, l9, rfl, hm⟩
      rw [hK10] at hm
      have a11 : Le LL _ _ := l9.nil
      refine Cw.cond (b := y8) rfl (fun hc12 => ?_) (fun hc12 => ?_)
      · replace hm := bt hm hc12
        refine Cw.seq ?_
        refine Cw.region ?_
        refine Lw.r rfl (R.as (v := vB false) rfl) ?_
        refine Lw.nil ?_
        cases hm
        exact Cw.ret (ret1 rfl (Res.mk (a6.trans a11) rfl))
      · replace hm := bf hm hc12
        refine Cw.skip ?_
        refine Cw.region ?_
        refine Lw.r rfl (R.mv (v := vI y2) rfl) (Lw.r rfl (R.add rfl rfl) (Lw.r rfl (R.as (v := vI (w64 (y2 + 1))) rfl) ?_))
        refine Lw.nil ?_
        refine ⟨?_, m5, Nat.lt_succ_self m5, ⟨y1, w64 (y2 + 1), W9, rfl, (l3.trans l9), rfl, hm⟩⟩
        iterate 3 (refine Agree.up rfl ?_)
        iterate 1 (refine Agree.up rfl ?_)
        refine Agree.ov0 rfl ?_
        iterate 4 (refine Agree.up rfl ?_)
        iterate 2 (refine Agree.up rfl ?_)
        exact Agree.base
    · refine Cw.region ?_
      refine Lw.r rfl (R.mv (v := vS x0) rfl) (Lw.r rfl (R.mv (v := vI y2) rfl) ?_)
      obtain ⟨u13, e14, hm⟩ := ob hm
      refine Lw.r rfl (R.chm e14 rfl rfl) (Lw.r rfl (R.lt rfl rfl) (Lw.r rfl (R.mv (v := vB (decide (((UInt8.toNat u13 : Int) : Int) < (97 : Int)))) rfl) ?_))
      refine bsplit (decide (((UInt8.toNat u13 : Int) : Int) < (97 : Int))) (fun hc15 => ?_) (fun hc15 => ?_)
      · replace hm := bt hm hc15
        refine Lw.pass' hc15 rfl rfl rfl rfl rfl rfl rfl ?_
        refine Lw.pass' hc15 rfl rfl rfl rfl rfl rfl rfl ?_
        refine Lw.pass' hc15 rfl rfl rfl rfl rfl rfl rfl ?_
        refine Lw.pass' hc15 rfl rfl rfl rfl rfl rfl rfl ?_
        refine Lw.r rfl (R.pk hc15 rfl (v := vB true) rfl) (Lw.r rfl (R.mv (v := vB true) rfl) ?_)
        refine Lw.want' rfl rfl rfl rfl rfl ?_
        refine Lw.r rfl (R.mv (v := vS x0) rfl) ?_
        refine Lw.want' rfl rfl rfl rfl rfl ?_
        refine Lw.r rfl (R.mv (v := vI y2) rfl) ?_
        refine Lw.want' rfl rfl rfl rfl rfl ?_
        obtain ⟨u16, e17, hm⟩ := ob hm
        refine Lw.r rfl (R.chm e17 rfl rfl) ?_
        refine Lw.want' rfl rfl rfl rfl rfl ?_
        refine Lw.r rfl (R.lt rfl rfl) ?_
        refine Lw.want' rfl rfl rfl rfl rfl ?_
        refine Lw.r rfl (R.mv (v := vB (decide (((UInt8.toNat u16 : Int) : Int) < (48 : Int)))) rfl) ?_
        refine bsplit (decide (((UInt8.toNat u16 : Int) : Int) < (48 : Int))) (fun hc18 => ?_) (fun hc18 => ?_)
        · replace hm := bt hm hc18
          refine Lw.pass' hc18 rfl rfl rfl rfl rfl rfl rfl ?_
          refine Lw.pass' hc18 rfl rfl rfl rfl rfl rfl rfl ?_
          refine Lw.pass' hc18 rfl rfl rfl rfl rfl rfl rfl ?_
          refine Lw.pass' hc18 rfl rfl rfl rfl rfl rfl rfl ?_
          refine Lw.want' rfl rfl rfl rfl rfl ?_
          refine Lw.r rfl (R.pk hc18 rfl (v := vB true) rfl) (Lw.r rfl (R.pk rfl rfl (v := vB true) rfl) ?_)
          refine Lw.nil ?_
          refine ⟨?_, ⟨true, W3, rfl, Le.refl _ _, rfl, hm⟩⟩
          iterate 22 (refine Agree.up rfl ?_)
          exact Agree.refl _
        · replace hm := bf hm hc18
          refine Lw.want' hc18 rfl rfl rfl rfl ?_
          refine Lw.r rfl (R.mv (v := vS x0) rfl) ?_
          refine Lw.want' hc18 rfl rfl rfl rfl ?_
          refine Lw.r rfl (R.mv (v := vI y2) rfl) ?_
          refine Lw.want' hc18 rfl rfl rfl rfl ?_
          obtain ⟨u19, e20, hm⟩ := ob hm
          refine Lw.r rfl (R.chm e20 rfl rfl) ?_
          refine Lw.want' hc18 rfl rfl rfl rfl ?_
          refine Lw.r rfl (R.gt rfl rfl) ?_
          refine Lw.want' rfl rfl rfl rfl rfl ?_
          refine Lw.r rfl (R.pk hc18 rfl (v := vB (decide ((57 : Int) < ((UInt8.toNat u19 : Int) : Int)))) rfl) (Lw.r rfl (R.pk rfl rfl (v := vB (decide ((57 : Int) < ((UInt8.toNat u19 : Int) : Int)))) rfl) ?_)
          refine Lw.nil ?_
          refine ⟨?_, ⟨decide ((57 : Int) < ((UInt8.toNat u19 : Int) : Int)), W3, rfl, Le.refl _ _, rfl, hm⟩⟩
          iterate 22 (refine Agree.up rfl ?_)
          exact Agree.refl _
      · replace hm := bf hm hc15
        refine Lw.want' hc15 rfl rfl rfl rfl ?_
        refine Lw.r rfl (R.mv (v := vS x0) rfl) ?_
        refine Lw.want' hc15 rfl rfl rfl rfl ?_
        refine Lw.r rfl (R.mv (v := vI y2) rfl) ?_
        refine Lw.want' hc15 rfl rfl rfl rfl ?_
        obtain ⟨u21, e22, hm⟩ := ob hm
        refine Lw.r rfl (R.chm e22 rfl rfl) ?_
        refine Lw.want' hc15 rfl rfl rfl rfl ?_
        refine Lw.r rfl (R.gt rfl rfl) (Lw.r rfl (R.pk hc15 rfl (v := vB (decide ((122 : Int) < ((UInt8.toNat u21 : Int) : Int)))) rfl) (Lw.r rfl (R.mv (v := vB (decide ((122 : Int) < ((UInt8.toNat u21 : Int) : Int)))) rfl) ?_))
        refine bsplit (decide ((122 : Int) < ((UInt8.toNat u21 : Int) : Int))) (fun hc23 => ?_) (fun hc23 => ?_)
        · replace hm := bt hm hc23
          refine Lw.want' hc23 rfl rfl rfl rfl ?_
          refine Lw.r rfl (R.mv (v := vS x0) rfl) ?_
          refine Lw.want' hc23 rfl rfl rfl rfl ?_
          refine Lw.r rfl (R.mv (v := vI y2) rfl) ?_
          refine Lw.want' hc23 rfl rfl rfl rfl ?_
          obtain ⟨u24, e25, hm⟩ := ob hm
          refine Lw.r rfl (R.chm e25 rfl rfl) ?_
          refine Lw.want' hc23 rfl rfl rfl rfl ?_
          refine Lw.r rfl (R.lt rfl rfl) ?_
          refine Lw.want' hc23 rfl rfl rfl rfl ?_
          refine Lw.r rfl (R.mv (v := vB (decide (((UInt8.toNat u24 : Int) : Int) < (48 : Int)))) rfl) ?_
          refine bsplit (decide (((UInt8.toNat u24 : Int) : Int) < (48 : Int))) (fun hc26 => ?_) (fun hc26 => ?_)
          · replace hm := bt hm hc26
            refine Lw.pass' hc26 rfl rfl rfl rfl rfl rfl rfl ?_
            refine Lw.pass' hc26 rfl rfl rfl rfl rfl rfl rfl ?_
            refine Lw.pass' hc26 rfl rfl rfl rfl rfl rfl rfl ?_
            refine Lw.pass' hc26 rfl rfl rfl rfl rfl rfl rfl ?_
            refine Lw.want' hc23 rfl rfl rfl rfl ?_
            refine Lw.r rfl (R.pk hc26 rfl (v := vB true) rfl) (Lw.r rfl (R.pk hc23 rfl (v := vB true) rfl) ?_)
            refine Lw.nil ?_
            refine ⟨?_, ⟨true, W3, rfl, Le.refl _ _, rfl, hm⟩⟩
            iterate 22 (refine Agree.up rfl ?_)
            exact Agree.refl _
          · replace hm := bf hm hc26
            refine Lw.want' hc26 rfl rfl rfl rfl ?_
            refine Lw.r rfl (R.mv (v := vS x0) rfl) ?_
            refine Lw.want' hc26 rfl rfl rfl rfl ?_
            refine Lw.r rfl (R.mv (v := vI y2) rfl) ?_
            refine Lw.want' hc26 rfl rfl rfl rfl ?_
            obtain ⟨u27, e28, hm⟩ := ob hm
            refine Lw.r rfl (R.chm e28 rfl rfl) ?_
            refine Lw.want' hc26 rfl rfl rfl rfl ?_
            refine Lw.r rfl (R.gt rfl rfl) ?_
            refine Lw.want' hc23 rfl rfl rfl rfl ?_
            refine Lw.r rfl (R.pk hc26 rfl (v := vB (decide ((57 : Int) < ((UInt8.toNat u27 : Int) : Int)))) rfl) (Lw.r rfl (R.pk hc23 rfl (v := vB (decide ((57 : Int) < ((UInt8.toNat u27 : Int) : Int)))) rfl) ?_)
            refine Lw.nil ?_
            refine ⟨?_, ⟨decide ((57 : Int) < ((UInt8.toNat u27 : Int) : Int)), W3, rfl, Le.refl _ _, rfl, hm⟩⟩
            iterate 22 (refine Agree.up rfl ?_)
            exact Agree.refl _
        · replace hm := bf hm hc23
          refine Lw.pass' hc23 rfl rfl rfl rfl rfl rfl rfl ?_
          refine Lw.pass' hc23 rfl rfl rfl rfl rfl rfl rfl ?_
          refine Lw.pass' hc23 rfl rfl rfl rfl rfl rfl rfl ?_
          refine Lw.pass' hc23 rfl rfl rfl rfl rfl rfl rfl ?_
          refine Lw.pass' hc23 rfl rfl rfl rfl rfl rfl rfl ?_
          refine Lw.passU rfl rfl rfl rfl rfl rfl ?_
          refine Lw.passU rfl rfl rfl rfl rfl rfl ?_
          refine Lw.passU rfl rfl rfl rfl rfl rfl ?_
          refine Lw.passU rfl rfl rfl rfl rfl rfl ?_
          refine Lw.pass' hc23 rfl rfl rfl rfl rfl rfl rfl ?_
          refine Lw.r rfl (R.pk hc23 rfl (v := vB false) rfl) ?_
          refine Lw.nil ?_
          refine ⟨?_, ⟨false, W3, rfl, Le.refl _ _, rfl, hm⟩⟩
          iterate 22 (refine Agree.up rfl ?_)
          exact Agree.refl _
  · replace hm := bf hm hc7
    refine Cw.exit ?_
    rw [hK4] at hm
    refine Cw.seq ?_
    refine Cw.region ?_
    refine Lw.r rfl (R.mv (v := vS x0) rfl) (Lw.r rfl (R.lenS rfl) ?_)
    obtain ⟨x29, e30, hm⟩ := ob hm
    refine Lw.t rfl (T.call rfl (p115 (K := [0])   e30)) ?_
    rintro _ _ ⟨W31, rfl, l31, rfl⟩
    have a32 : Le LL _ _ := l31.nil
    refine Lw.r rfl (R.as (v := vB x29) rfl) ?_
    refine Lw.nil ?_
    cases hm
    exact Cw.ret (ret1 rfl (Res.mk (a6.trans a32) rfl))

theorem p108 {W : CW} {K : List Nat} {x0 : Str} {r : Bool} (hm : Vm.spec_l4Name x0 = some r) : CallR Try.prog 108 [vS x0].toArray W.w (Res W [] fun W' v => v = vB r) :=
  (c108 (V := W.view K [])  hm).ad (fk 0) fun _ _ e => e

theorem c50 {V : CW} {x0 : Vm.Review} {v0_3_ : Value} {x1 : Vm.Review} {v1_3_ : Value} {r : Bool} (h0 : Rd V [0] [vS x0.Branch, vS x0.Into, vS x0.By, v0_3_] x0) (h1 : Rd V [0] [vS x1.Branch, vS x1.Into, vS x1.By, v1_3_] x1) (hm : Vm.laws_smReview x0 x1 = some r) : CallR Try.prog 50 [.agg [vS x0.Branch, vS x0.Into, vS x0.By, v0_3_].toArray, .agg [vS x1.Branch, vS x1.Into, vS x1.By, v1_3_].toArray].toArray V.w (Res V LL fun Wf v => v = vB r) := by
  unfold Vm.laws_smReview at hm
  obtain ⟨w0_0, he0, h0_3⟩ := Review.split h0
  simp only [List.cons.injEq, and_true, true_and] at he0
  obtain rfl := he0
  obtain ⟨w1_0, he1, h1_3⟩ := Review.split h1
  simp only [List.cons.injEq, and_true, true_and] at he1
  obtain rfl := he1
  obtain ⟨W0, hW0⟩ : ∃ W, W = V := ⟨V, rfl⟩
  subst hW0
  refine CallR.of Try.func50 rfl rfl rfl rfl ?_
  refine Cw.seq ?_
  refine Cw.region ?_
  refine Lw.t rfl (T.box 2 (v := .agg [vS x0.Branch, vS x0.Into, vS x0.By, v0_3_].toArray) (cs := [vS x0.Branch, vS x0.Into, vS x0.By, v0_3_]) rfl rfl) ?_
  rintro _ _ ⟨g1, W1, rfl, rfl, l1, b1⟩
  have a2 : Le LL _ _ := l1.nil
  refine Lw.t rfl (T.box 3 (v := .agg [vS x1.Branch, vS x1.Into, vS x1.By, v1_3_].toArray) (cs := [vS x1.Branch, vS x1.Into, vS x1.By, v1_3_]) rfl rfl) ?_
  rintro _ _ ⟨g3, W3, rfl, rfl, l3, b3⟩
  have a4 : Le LL _ _ := l3.nil
  have b5 := b1.up l3 rfl
  refine Lw.r rfl (R.as (v := vB false) rfl) ?_
  refine Lw.nil ?_
  obtain ⟨K8, hK8, hm⟩ := jn_e hm
  refine Cw.join 5 30 [4] (fun l w => ∃ (y6 : Bool) (W7 : CW), W7.w = w ∧ Le [] W3 W7 ∧ l = [vB y6] ∧ K8 y6 = some r) ?_ ?_
  · rintro _ _ σ ⟨y6, W7, rfl, l7, rfl, hm⟩
    rw [hK8] at hm
    have a9 : Le LL _ _ := l7.nil
    have b10 := b5.up l7 rfl
    have b11 := b3.up l7 rfl
    cases hm
    exact Cw.ret (ret1 rfl (Res.mk (a2.trans (a4.trans a9)) rfl))
  · refine Cw.region ?_
    refine Lw.r rfl (R.fa rfl) (Lw.r rfl (R.ld (v := vS x0.Branch) rfl rfl (b5.cell rfl)) (Lw.r rfl (R.fa rfl) (Lw.r rfl (R.ld (v := vS x1.Branch) rfl rfl (b3.cell rfl)) (Lw.r rfl (R.seq rfl rfl) (Lw.r rfl (R.mv (v := vB (x0.Branch == x1.Branch)) rfl) ?_)))))
    refine bsplit (x0.Branch == x1.Branch) (fun hc12 => ?_) (fun hc12 => ?_)
    · replace hm := bt hm hc12
      refine Lw.want' hc12 rfl rfl rfl rfl ?_
      refine Lw.r rfl (R.fa rfl) ?_
      refine Lw.want' hc12 rfl rfl rfl rfl ?_
      refine Lw.r rfl (R.ld (v := vS x0.Into) rfl rfl (b5.cell rfl)) ?_
      refine Lw.want' hc12 rfl rfl rfl rfl ?_
      refine Lw.r rfl (R.fa rfl) ?_
      refine Lw.want' hc12 rfl rfl rfl rfl ?_
      refine Lw.r rfl (R.ld (v := vS x1.Into) rfl rfl (b3.cell rfl)) ?_
      refine Lw.want' hc12 rfl rfl rfl rfl ?_
      refine Lw.r rfl (R.seq rfl rfl) (Lw.r rfl (R.pk hc12 rfl (v := vB (x0.Into == x1.Into)) rfl) (Lw.r rfl (R.mv (v := vB (x0.Into == x1.Into)) rfl) ?_))
      refine bsplit (x0.Into == x1.Into) (fun hc13 => ?_) (fun hc13 => ?_)
      · replace hm := bt hm hc13
        refine Lw.want' hc13 rfl rfl rfl rfl ?_
        refine Lw.r rfl (R.fa rfl) ?_
        refine Lw.want' hc13 rfl rfl rfl rfl ?_
        refine Lw.r rfl (R.ld (v := vS x0.By) rfl rfl (b5.cell rfl)) ?_
        refine Lw.want' hc13 rfl rfl rfl rfl ?_
        refine Lw.r rfl (R.fa rfl) ?_
        refine Lw.want' hc13 rfl rfl rfl rfl ?_
        refine Lw.r rfl (R.ld (v := vS x1.By) rfl rfl (b3.cell rfl)) ?_
        refine Lw.want' hc13 rfl rfl rfl rfl ?_
        refine Lw.r rfl (R.seq rfl rfl) (Lw.r rfl (R.pk hc13 rfl (v := vB (x0.By == x1.By)) rfl) (Lw.r rfl (R.mv (v := vB (x0.By == x1.By)) rfl) ?_))
        refine bsplit (x0.By == x1.By) (fun hc14 => ?_) (fun hc14 => ?_)
        · replace hm := bt hm hc14
          refine Lw.want' hc14 rfl rfl rfl rfl ?_
          refine Lw.r rfl (R.fa rfl) ?_
          refine Lw.want' hc14 rfl rfl rfl rfl ?_
          refine Lw.r rfl (R.ld (v := v0_3_) rfl rfl (b5.cell rfl)) ?_
          refine Lw.want' hc14 rfl rfl rfl rfl ?_
          refine Lw.r rfl (R.fa rfl) ?_
          refine Lw.want' hc14 rfl rfl rfl rfl ?_
          refine Lw.r rfl (R.ld (v := v1_3_) rfl rfl (b3.cell rfl)) ?_
          refine Lw.want' hc14 rfl rfl rfl rfl ?_
          have s15 := h0_3.ul (a2.trans a4)
          have s16 := h1_3.ul (a2.trans a4)
          obtain ⟨x17, e18, hm⟩ := ob hm
          refine Lw.t rfl (T.call rfl (p40 (K := [0])  s15 s16 e18)) ?_
          rintro _ _ ⟨W19, rfl, l19, rfl⟩
          have a20 : Le LL _ _ := l19.nil
          have b21 := b5.up l19 rfl
          have b22 := b3.up l19 rfl
          refine Lw.r rfl (R.pk hc14 rfl (v := vB x17) rfl) (Lw.r rfl (R.as (v := vB x17) rfl) ?_)
          refine Lw.nil ?_
          refine ⟨?_, ⟨x17, W19, rfl, l19, rfl, hm⟩⟩
          iterate 27 (refine Agree.up rfl ?_)
          exact Agree.refl _
        · replace hm := bf hm hc14
          refine Lw.pass' hc14 rfl rfl rfl rfl rfl rfl rfl ?_
          refine Lw.pass' hc14 rfl rfl rfl rfl rfl rfl rfl ?_
          refine Lw.pass' hc14 rfl rfl rfl rfl rfl rfl rfl ?_
          refine Lw.pass' hc14 rfl rfl rfl rfl rfl rfl rfl ?_
          refine Lw.pass' hc14 rfl rfl rfl rfl rfl rfl rfl ?_
          refine Lw.r rfl (R.pk hc14 rfl (v := vB false) rfl) (Lw.r rfl (R.as (v := vB false) rfl) ?_)
          refine Lw.nil ?_
          refine ⟨?_, ⟨false, W3, rfl, Le.refl _ _, rfl, hm⟩⟩
          iterate 27 (refine Agree.up rfl ?_)
          exact Agree.refl _
      · replace hm := bf hm hc13
        refine Lw.pass' hc13 rfl rfl rfl rfl rfl rfl rfl ?_
        refine Lw.pass' hc13 rfl rfl rfl rfl rfl rfl rfl ?_
        refine Lw.pass' hc13 rfl rfl rfl rfl rfl rfl rfl ?_
        refine Lw.pass' hc13 rfl rfl rfl rfl rfl rfl rfl ?_
        refine Lw.pass' hc13 rfl rfl rfl rfl rfl rfl rfl ?_
        refine Lw.r rfl (R.pk hc13 rfl (v := vB false) rfl) (Lw.r rfl (R.mv (v := vB false) rfl) ?_)
        refine Lw.pass' rfl rfl rfl rfl rfl rfl rfl rfl ?_
        refine Lw.pass' rfl rfl rfl rfl rfl rfl rfl rfl ?_
        refine Lw.pass' rfl rfl rfl rfl rfl rfl rfl rfl ?_
        refine Lw.pass' rfl rfl rfl rfl rfl rfl rfl rfl ?_
        refine Lw.pass' rfl rfl rfl rfl rfl rfl rfl rfl ?_
        refine Lw.r rfl (R.pk rfl rfl (v := vB false) rfl) (Lw.r rfl (R.as (v := vB false) rfl) ?_)
        refine Lw.nil ?_
        refine ⟨?_, ⟨false, W3, rfl, Le.refl _ _, rfl, hm⟩⟩
        iterate 27 (refine Agree.up rfl ?_)
        exact Agree.refl _
    · replace hm := bf hm hc12
      refine Lw.pass' hc12 rfl rfl rfl rfl rfl rfl rfl ?_
      refine Lw.pass' hc12 rfl rfl rfl rfl rfl rfl rfl ?_
      refine Lw.pass' hc12 rfl rfl rfl rfl rfl rfl rfl ?_
      refine Lw.pass' hc12 rfl rfl rfl rfl rfl rfl rfl ?_
      refine Lw.pass' hc12 rfl rfl rfl rfl rfl rfl rfl ?_
      refine Lw.r rfl (R.pk hc12 rfl (v := vB false) rfl) (Lw.r rfl (R.mv (v := vB false) rfl) ?_)
      refine Lw.pass' rfl rfl rfl rfl rfl rfl rfl rfl ?_
      refine Lw.pass' rfl rfl rfl rfl rfl rfl rfl rfl ?_
      refine Lw.pass' rfl rfl rfl rfl rfl rfl rfl rfl ?_
      refine Lw.pass' rfl rfl rfl rfl rfl rfl rfl rfl ?_
      refine Lw.pass' rfl rfl rfl rfl rfl rfl rfl rfl ?_
      refine Lw.r rfl (R.pk rfl rfl (v := vB false) rfl) (Lw.r rfl (R.mv (v := vB false) rfl) ?_)
      refine Lw.pass' rfl rfl rfl rfl rfl rfl rfl rfl ?_
      refine Lw.pass' rfl rfl rfl rfl rfl rfl rfl rfl ?_
      refine Lw.pass' rfl rfl rfl rfl rfl rfl rfl rfl ?_
      refine Lw.pass' rfl rfl rfl rfl rfl rfl rfl rfl ?_
      refine Lw.pass' rfl rfl rfl rfl rfl rfl rfl rfl ?_
      refine Lw.r rfl (R.pk rfl rfl (v := vB false) rfl) (Lw.r rfl (R.as (v := vB false) rfl) ?_)
      refine Lw.nil ?_
      refine ⟨?_, ⟨false, W3, rfl, Le.refl _ _, rfl, hm⟩⟩
      iterate 27 (refine Agree.up rfl ?_)
      exact Agree.refl _

theorem p50 {W : CW} {K : List Nat} {x0 : Vm.Review} {v0_3_ : Value} {x1 : Vm.Review} {v1_3_ : Value} {r : Bool} (h0 : Rd W K [vS x0.Branch, vS x0.Into, vS x0.By, v0_3_] x0) (h1 : Rd W K [vS x1.Branch, vS x1.Into, vS x1.By, v1_3_] x1) (hm : Vm.laws_smReview x0 x1 = some r) : CallR Try.prog 50 [.agg [vS x0.Branch, vS x0.Into, vS x0.By, v0_3_].toArray, .agg [vS x1.Branch, vS x1.Into, vS x1.By, v1_3_].toArray].toArray W.w (Res W [] fun W' v => v = vB r) :=
  (c50 (V := W.view K []) (h0.view []) (h1.view []) hm).ad (fk 0) fun _ _ e => e

theorem c53 {V : CW} {x0 : List Str} {v0_ : Value} {x1 : Str} {r : Bool} (h0 : Rd V [0] [v0_] x0) (hm : Vm.laws_smHas x0 x1 = some r) : CallR Try.prog 53 [v0_, vS x1].toArray V.w (Res V LL fun Wf v => v = vB r) := by
  unfold Vm.laws_smHas at hm
  obtain ⟨W0, hW0⟩ : ∃ W, W = V := ⟨V, rfl⟩
  subst hW0
  refine CallR.of Try.func53 rfl rfl rfl rfl ?_
  refine Cw.seq ?_
  refine Cw.region ?_
  refine Lw.r rfl (R.as (v := vB false) rfl) ?_
  refine Lw.nil ?_
  refine Cw.seq ?_
  refine Cw.seq ?_
  refine Cw.region ?_
  refine Lw.r rfl (R.as (v := vI 0) rfl) ?_
  refine Lw.nil ?_
  refine Cw.block ?_
  obtain ⟨K4, hK4, hm⟩ := jn_e hm
  refine Cw.loop 6 17 [4, 5] (fun m l w => ∃ (y1 : Bool) (y2 : Int) (W3 : CW), W3.w = w ∧ Le [] W0 W3 ∧ l = [vB y1, vI y2] ∧ Vm.laws_smHas_l1 x0 x1 K4 m y1 y2 = some r) (((x0.length : Int) - 0).toNat + 1) ⟨false, 0, W0, rfl, Le.refl _ _, rfl, hm⟩ ?_
  rintro m5 _ _ σ ⟨y1, y2, W3, rfl, l3, rfl, hm⟩
  obtain _ | m5 := m5
  · cases hm
  unfold Vm.laws_smHas_l1 at hm
  have a6 : Le LL _ _ := l3.nil
  refine Cw.seq ?_
  refine Cw.seq ?_
  refine Cw.region ?_
  have s7 := h0.ul a6
  refine Lw.r rfl (R.mv (v := vI y2) rfl) (Lw.r rfl (R.mv (v := v0_) rfl) (Lw.r rfl (lenR (xs := x0) s7 rfl) (Lw.r rfl (R.lt rfl rfl) ?_)))
  refine Lw.nil ?_
  refine Cw.cond (b := decide ((y2 : Int) < ((x0.length : Int) : Int))) rfl (fun hc8 => ?_) (fun hc8 => ?_)
  · replace hm := bt hm hc8
    refine Cw.skip ?_
    refine Cw.seq ?_
    refine Cw.block ?_
    refine Cw.seq ?_
    refine Cw.region ?_
    refine Lw.r rfl (R.mv (v := v0_) rfl) (Lw.r rfl (R.mv (v := vI y2) rfl) ?_)
    obtain ⟨u9, e10, hm⟩ := ob hm
    refine Lw.r rfl (R.ix (α := Str) s7 e10 rfl rfl rfl) (Lw.r rfl (R.ld rfl rfl (s7.at_ e10).str) (Lw.r rfl (R.mv (v := vS x1) rfl) (Lw.r rfl (R.seq rfl rfl) ?_)))
    refine Lw.nil ?_
    refine Cw.cond (b := (u9 == x1)) rfl (fun hc11 => ?_) (fun hc11 => ?_)
    · replace hm := bt hm hc11
      refine Cw.seq ?_
      refine Cw.region ?_
      refine Lw.r rfl (R.as (v := vB true) rfl) ?_
      refine Lw.nil ?_
      cases hm
      exact Cw.ret (ret1 rfl (Res.mk a6 rfl))
    · replace hm := bf hm hc11
      refine Cw.skip ?_
      refine Cw.region ?_
      refine Lw.r rfl (R.mv (v := vI y2) rfl) (Lw.r rfl (R.add rfl rfl) (Lw.r rfl (R.as (v := vI (w64 (y2 + 1))) rfl) ?_))
      refine Lw.nil ?_
      refine ⟨?_, m5, Nat.lt_succ_self m5, ⟨y1, w64 (y2 + 1), W3, rfl, l3, rfl, hm⟩⟩
      iterate 13 (refine Agree.up rfl ?_)
      iterate 2 (refine Agree.up rfl ?_)
      exact Agree.base
  · replace hm := bf hm hc8
    refine Cw.exit ?_
    rw [hK4] at hm
    refine Cw.seq ?_
    refine Cw.region ?_
    refine Lw.r rfl (R.as (v := vB false) rfl) ?_
    refine Lw.nil ?_
    cases hm
    exact Cw.ret (ret1 rfl (Res.mk a6 rfl))

theorem p53 {W : CW} {K : List Nat} {x0 : List Str} {v0_ : Value} {x1 : Str} {r : Bool} (h0 : Rd W K [v0_] x0) (hm : Vm.laws_smHas x0 x1 = some r) : CallR Try.prog 53 [v0_, vS x1].toArray W.w (Res W [] fun W' v => v = vB r) :=
  (c53 (V := W.view K []) (h0.view []) hm).ad (fk 0) fun _ _ e => e

theorem c54 {V : CW} {x0 : Vm.Review} {v0_3_ : Value} {x1 : Int} {r : Int} (h0 : Rd V [0] [vS x0.Branch, vS x0.Into, vS x0.By, v0_3_] x0) (hm : Vm.laws_szReview x0 x1 = some r) : CallR Try.prog 54 [.agg [vS x0.Branch, vS x0.Into, vS x0.By, v0_3_].toArray, vI x1].toArray V.w (Res V LL fun Wf v => v = vI r) := by
  unfold Vm.laws_szReview at hm
  obtain ⟨w0_0, he0, h0_3⟩ := Review.split h0
  simp only [List.cons.injEq, and_true, true_and] at he0
  obtain rfl := he0
  obtain ⟨W0, hW0⟩ : ∃ W, W = V := ⟨V, rfl⟩
  subst hW0
  refine CallR.of Try.func54 rfl rfl rfl rfl ?_
  refine Cw.seq ?_
  refine Cw.region ?_
  refine Lw.t rfl (T.box 2 (v := .agg [vS x0.Branch, vS x0.Into, vS x0.By, v0_3_].toArray) (cs := [vS x0.Branch, vS x0.Into, vS x0.By, v0_3_]) rfl rfl) ?_
  rintro _ _ ⟨g1, W1, rfl, rfl, l1, b1⟩
  have a2 : Le LL _ _ := l1.nil
  refine Lw.r rfl (R.as (v := vI 0) rfl) ?_
  refine Lw.nil ?_
  refine Cw.seq ?_
  refine Cw.region ?_
  refine Lw.r rfl (R.mv (v := vI x1) rfl) (Lw.r rfl (R.fa rfl) (Lw.r rfl (R.ld (v := vS x0.Branch) rfl rfl (b1.cell rfl)) (Lw.r rfl (R.lenS rfl) (Lw.r rfl (R.sub rfl rfl) (Lw.r rfl (R.as (v := vI (w64 (x1 - (x0.Branch.length : Int)))) rfl) ?_)))))
  refine Lw.nil ?_
  refine Cw.seq ?_
  refine Cw.seq ?_
  refine Cw.region ?_
  refine Lw.r rfl (R.mv (v := vI (w64 (x1 - (x0.Branch.length : Int)))) rfl) (Lw.r rfl (R.lt rfl rfl) ?_)
  refine Lw.nil ?_
  refine Cw.cond (b := decide ((w64 (x1 - (x0.Branch.length : Int)) : Int) < (0 : Int))) rfl (fun hc3 => ?_) (fun hc3 => ?_)
  · replace hm := bt hm hc3
    refine Cw.seq ?_
    refine Cw.region ?_
    refine Lw.r rfl (R.as (v := vI (-1)) rfl) ?_
    refine Lw.nil ?_
    cases hm
    exact Cw.ret (ret1 rfl (Res.mk a2 rfl))
  · replace hm := bf hm hc3
    refine Cw.skip ?_
    refine Cw.seq ?_
    refine Cw.region ?_
    refine Lw.r rfl (R.mv (v := vI (w64 (x1 - (x0.Branch.length : Int)))) rfl) (Lw.r rfl (R.fa rfl) (Lw.r rfl (R.ld (v := vS x0.Into) rfl rfl (b1.cell rfl)) (Lw.r rfl (R.lenS rfl) (Lw.r rfl (R.sub rfl rfl) (Lw.r rfl (R.as (v := vI (w64 ((w64 (x1 - (x0.Branch.length : Int))) - (x0.Into.length : Int)))) rfl) ?_)))))
    refine Lw.nil ?_
    refine Cw.seq ?_
    refine Cw.seq ?_
    refine Cw.region ?_
    refine Lw.r rfl (R.mv (v := vI (w64 ((w64 (x1 - (x0.Branch.length : Int))) - (x0.Into.length : Int)))) rfl) (Lw.r rfl (R.lt rfl rfl) ?_)
    refine Lw.nil ?_
    refine Cw.cond (b := decide ((w64 ((w64 (x1 - (x0.Branch.length : Int))) - (x0.Into.length : Int)) : Int) < (0 : Int))) rfl (fun hc4 => ?_) (fun hc4 => ?_)
    · replace hm := bt hm hc4
      refine Cw.seq ?_
      refine Cw.region ?_
      refine Lw.r rfl (R.as (v := vI (-1)) rfl) ?_
      refine Lw.nil ?_
      cases hm
      exact Cw.ret (ret1 rfl (Res.mk a2 rfl))
    · replace hm := bf hm hc4
      refine Cw.skip ?_
      refine Cw.seq ?_
      refine Cw.region ?_
      refine Lw.r rfl (R.mv (v := vI (w64 ((w64 (x1 - (x0.Branch.length : Int))) - (x0.Into.length : Int)))) rfl) (Lw.r rfl (R.fa rfl) (Lw.r rfl (R.ld (v := vS x0.By) rfl rfl (b1.cell rfl)) (Lw.r rfl (R.lenS rfl) (Lw.r rfl (R.sub rfl rfl) (Lw.r rfl (R.as (v := vI (w64 ((w64 ((w64 (x1 - (x0.Branch.length : Int))) - (x0.Into.length : Int))) - (x0.By.length : Int)))) rfl) ?_)))))
      refine Lw.nil ?_
      refine Cw.seq ?_
      refine Cw.seq ?_
      refine Cw.region ?_
      refine Lw.r rfl (R.mv (v := vI (w64 ((w64 ((w64 (x1 - (x0.Branch.length : Int))) - (x0.Into.length : Int))) - (x0.By.length : Int)))) rfl) (Lw.r rfl (R.lt rfl rfl) ?_)
      refine Lw.nil ?_
      refine Cw.cond (b := decide ((w64 ((w64 ((w64 (x1 - (x0.Branch.length : Int))) - (x0.Into.length : Int))) - (x0.By.length : Int)) : Int) < (0 : Int))) rfl (fun hc5 => ?_) (fun hc5 => ?_)
      · replace hm := bt hm hc5
        refine Cw.seq ?_
        refine Cw.region ?_
        refine Lw.r rfl (R.as (v := vI (-1)) rfl) ?_
        refine Lw.nil ?_
        cases hm
        exact Cw.ret (ret1 rfl (Res.mk a2 rfl))
      · replace hm := bf hm hc5
        refine Cw.skip ?_
        refine Cw.seq ?_
        refine Cw.region ?_
        refine Lw.r rfl (R.fa rfl) (Lw.r rfl (R.ld (v := v0_3_) rfl rfl (b1.cell rfl)) (Lw.r rfl (R.mv (v := vI (w64 ((w64 ((w64 (x1 - (x0.Branch.length : Int))) - (x0.Into.length : Int))) - (x0.By.length : Int)))) rfl) ?_))
        have s6 := h0_3.ul a2
        obtain ⟨x7, e8, hm⟩ := ob hm
        refine Lw.t rfl (T.call rfl (p28 (K := [0])  s6 e8)) ?_
        rintro _ _ ⟨W9, rfl, l9, rfl⟩
        have a10 : Le LL _ _ := l9.nil
        have b11 := b1.up l9 rfl
        refine Lw.r rfl (R.as (v := vI x7) rfl) ?_
        refine Lw.nil ?_
        refine Cw.seq ?_
        refine Cw.seq ?_
        refine Cw.region ?_
        refine Lw.r rfl (R.mv (v := vI x7) rfl) (Lw.r rfl (R.lt rfl rfl) ?_)
        refine Lw.nil ?_
        refine Cw.cond (b := decide ((x7 : Int) < (0 : Int))) rfl (fun hc12 => ?_) (fun hc12 => ?_)
        · replace hm := bt hm hc12
          refine Cw.seq ?_
          refine Cw.region ?_
          refine Lw.r rfl (R.as (v := vI (-1)) rfl) ?_
          refine Lw.nil ?_
          cases hm
          exact Cw.ret (ret1 rfl (Res.mk (a2.trans a10) rfl))
        · replace hm := bf hm hc12
          refine Cw.skip ?_
          refine Cw.seq ?_
          refine Cw.region ?_
          refine Lw.r rfl (R.mv (v := vI x7) rfl) (Lw.r rfl (R.as (v := vI x7) rfl) ?_)
          refine Lw.nil ?_
          cases hm
          exact Cw.ret (ret1 rfl (Res.mk (a2.trans a10) rfl))

theorem p54 {W : CW} {K : List Nat} {x0 : Vm.Review} {v0_3_ : Value} {x1 : Int} {r : Int} (h0 : Rd W K [vS x0.Branch, vS x0.Into, vS x0.By, v0_3_] x0) (hm : Vm.laws_szReview x0 x1 = some r) : CallR Try.prog 54 [.agg [vS x0.Branch, vS x0.Into, vS x0.By, v0_3_].toArray, vI x1].toArray W.w (Res W [] fun W' v => v = vI r) :=
  (c54 (V := W.view K []) (h0.view []) hm).ad (fk 0) fun _ _ e => e

end Go.Sx
