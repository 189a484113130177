/- Walks: each function answers as its model, printed by a program of ours. Conditions: the arguments read as they are given. -/
import Derived.Test.YtjdljoplpcakpaaXTs
import Derived.Test.YtjdljoplpcakpaaXMd
import Derived.Test.YtjdljoplpcakpaaXW0
import Derived.Test.YtjdljoplpcakpaaXW1
import Derived.Test.YtjdljoplpcakpaaXW2
namespace Go.Sx
open Go Go.Proofs Go.Vm Rp
set_option linter.unusedVariables false
set_option linter.unusedSimpArgs false

theorem c26 {V : CW} {x0 : List Vm.Memo} {v0_ : Value} {x1 : Int} {r : Int} (h0 : Rd V [0] [v0_] x0) (hm : Vm.laws_heldMemoS x0 x1 = some r) : CallR Try.prog 26 [v0_, vI x1].toArray V.w (Res V LL fun Wf v => v = vI r) := by
  unfold Vm.laws_heldMemoS at hm
  obtain ⟨W0, hW0⟩ : ∃ W, W = V := ⟨V, rfl⟩
  subst hW0
  refine CallR.of Try.func26 rfl rfl rfl rfl ?_
  refine Cw.seq ?_
  refine Cw.region ?_
  refine Lw.r rfl (R.as (v := vI 0) rfl) ?_
  refine Lw.nil ?_
  refine Cw.seq ?_
  refine Cw.seq ?_
  refine Cw.region ?_
  refine Lw.r rfl (R.as (v := vI 0) rfl) ?_
  refine Lw.nil ?_
  refine Cw.block ?_
  obtain ⟨K5, hK5, hm⟩ := jn_e hm
  refine Cw.loop 6 47 [1, 4, 5] (fun m l w => ∃ (y1 : Int) (y2 : Int) (y3 : Int) (W4 : CW), W4.w = w ∧ Le [] W0 W4 ∧ l = [vI y1, vI y2, vI y3] ∧ Vm.laws_heldMemoS_l1 x0 K5 m y1 y2 y3 = some r) (((x0.length : Int) - 0).toNat + 1) ⟨x1, 0, 0, W0, rfl, Le.refl _ _, rfl, hm⟩ ?_
  rintro m6 _ _ σ ⟨y1, y2, y3, W4, rfl, l4, rfl, hm⟩
  obtain _ | m6 := m6
  · cases hm
  unfold Vm.laws_heldMemoS_l1 at hm
  have a7 : Le LL _ _ := l4.nil
  refine Cw.seq ?_
  refine Cw.seq ?_
  refine Cw.region ?_
  have s8 := h0.ul a7
  refine Lw.r rfl (R.mv (v := vI y3) rfl) (Lw.r rfl (R.mv (v := v0_) rfl) (Lw.r rfl (lenR (xs := x0) s8 rfl) (Lw.r rfl (R.lt rfl rfl) ?_)))
  refine Lw.nil ?_
  refine Cw.cond (b := decide ((y3 : Int) < ((x0.length : Int) : Int))) rfl (fun hc9 => ?_) (fun hc9 => ?_)
  · replace hm := bt hm hc9
    refine Cw.skip ?_
    refine Cw.seq ?_
    refine Cw.block ?_
    refine Cw.seq ?_
    refine Cw.region ?_
    refine Lw.r rfl (R.mv (v := v0_) rfl) (Lw.r rfl (R.mv (v := vI y3) rfl) ?_)
    obtain ⟨u10, e11, hm⟩ := ob hm
    refine Lw.r rfl (R.ix (α := Memo) s8 e11 rfl rfl rfl) (Lw.r rfl (R.fa rfl) ?_)
    obtain ⟨v12, c13, r14⟩ := (Memo.at0 (s8.at_ e11)).cell rfl
    refine Lw.r rfl (R.ld rfl rfl c13) (Lw.r rfl (R.mv (v := vI y1) rfl) ?_)
    obtain ⟨z15, e16, hm⟩ := ob hm
    refine Lw.t rfl (T.call rfl (p42 (K := [0])  r14 e16)) ?_
    rintro _ _ ⟨W17, rfl, l17, rfl⟩
    have a18 : Le LL _ _ := l17.nil
    refine Lw.r rfl (R.as (v := vI z15) rfl) ?_
    refine Lw.nil ?_
    refine Cw.seq ?_
    refine Cw.seq ?_
    refine Cw.region ?_
    refine Lw.r rfl (R.mv (v := vI z15) rfl) (Lw.r rfl (R.lt rfl rfl) ?_)
    refine Lw.nil ?_
    refine Cw.cond (b := decide ((z15 : Int) < (0 : Int))) rfl (fun hc19 => ?_) (fun hc19 => ?_)
    · replace hm := bt hm hc19
      refine Cw.seq ?_
      refine Cw.region ?_
      refine Lw.r rfl (R.as (v := vI (-1)) rfl) ?_
      refine Lw.nil ?_
      cases hm
      exact Cw.ret (ret1 rfl (Res.mk (a7.trans a18) rfl))
    · replace hm := bf hm hc19
      refine Cw.skip ?_
      refine Cw.seq ?_
      refine Cw.region ?_
      refine Lw.r rfl (R.mv (v := v0_) rfl) (Lw.r rfl (R.mv (v := vI y3) rfl) ?_)
      obtain ⟨u20, e21, hm⟩ := ob hm
      have s22 := h0.ul (a7.trans a18)
      refine Lw.r rfl (R.ix (α := Memo) s22 e21 rfl rfl rfl) (Lw.r rfl (R.fa rfl) ?_)
      obtain ⟨v23, c24, r25⟩ := (Memo.at1 (s22.at_ e21)).cell rfl
      refine Lw.r rfl (R.ld rfl rfl c24) (Lw.r rfl (R.mv (v := vI z15) rfl) ?_)
      obtain ⟨z26, e27, hm⟩ := ob hm
      refine Lw.t rfl (T.call rfl (p42 (K := [0])  r25 e27)) ?_
      rintro _ _ ⟨W28, rfl, l28, rfl⟩
      have a29 : Le LL _ _ := l28.nil
      refine Lw.r rfl (R.as (v := vI z26) rfl) ?_
      refine Lw.nil ?_
      refine Cw.seq ?_
      refine Cw.seq ?_
      refine Cw.region ?_
      refine Lw.r rfl (R.mv (v := vI z26) rfl) (Lw.r rfl (R.lt rfl rfl) ?_)
      refine Lw.nil ?_
      refine Cw.cond (b := decide ((z26 : Int) < (0 : Int))) rfl (fun hc30 => ?_) (fun hc30 => ?_)
      · replace hm := bt hm hc30
        refine Cw.seq ?_
        refine Cw.region ?_
        refine Lw.r rfl (R.as (v := vI (-1)) rfl) ?_
        refine Lw.nil ?_
        cases hm
        exact Cw.ret (ret1 rfl (Res.mk (a7.trans (a18.trans a29)) rfl))
      · replace hm := bf hm hc30
        refine Cw.skip ?_
        refine Cw.seq ?_
        refine Cw.region ?_
        refine Lw.r rfl (R.mv (v := v0_) rfl) (Lw.r rfl (R.mv (v := vI y3) rfl) ?_)
        obtain ⟨u31, e32, hm⟩ := ob hm
        have s33 := h0.ul (a7.trans (a18.trans a29))
        refine Lw.r rfl (R.ix (α := Memo) s33 e32 rfl rfl rfl) (Lw.r rfl (R.fa rfl) ?_)
        obtain ⟨v34, c35, r36⟩ := (Memo.at2 (s33.at_ e32)).cell rfl
        refine Lw.r rfl (R.ld rfl rfl c35) (Lw.r rfl (R.mv (v := vI z26) rfl) ?_)
        obtain ⟨z37, e38, hm⟩ := ob hm
        refine Lw.t rfl (T.call rfl (p42 (K := [0])  r36 e38)) ?_
        rintro _ _ ⟨W39, rfl, l39, rfl⟩
        have a40 : Le LL _ _ := l39.nil
        refine Lw.r rfl (R.as (v := vI z37) rfl) ?_
        refine Lw.nil ?_
        refine Cw.seq ?_
        refine Cw.seq ?_
        refine Cw.region ?_
        refine Lw.r rfl (R.mv (v := vI z37) rfl) (Lw.r rfl (R.lt rfl rfl) ?_)
        refine Lw.nil ?_
        refine Cw.cond (b := decide ((z37 : Int) < (0 : Int))) rfl (fun hc41 => ?_) (fun hc41 => ?_)
        · replace hm := bt hm hc41
          refine Cw.seq ?_
          refine Cw.region ?_
          refine Lw.r rfl (R.as (v := vI (-1)) rfl) ?_
          refine Lw.nil ?_
          cases hm
          exact Cw.ret (ret1 rfl (Res.mk (a7.trans (a18.trans (a29.trans a40))) rfl))
        · replace hm := bf hm hc41
          refine Cw.skip ?_
          refine Cw.seq ?_
          refine Cw.region ?_
          refine Lw.r rfl (R.mv (v := v0_) rfl) (Lw.r rfl (R.mv (v := vI y3) rfl) ?_)
          obtain ⟨u42, e43, hm⟩ := ob hm
          have s44 := h0.ul (a7.trans (a18.trans (a29.trans a40)))
          refine Lw.r rfl (R.ix (α := Memo) s44 e43 rfl rfl rfl) (Lw.r rfl (R.fa rfl) ?_)
          obtain ⟨v45, c46, r47⟩ := (Memo.at3 (s44.at_ e43)).cell rfl
          refine Lw.r rfl (R.ld rfl rfl c46) (Lw.r rfl (R.mv (v := vI z37) rfl) ?_)
          obtain ⟨z48, e49, hm⟩ := ob hm
          refine Lw.t rfl (T.call rfl (p42 (K := [0])  r47 e49)) ?_
          rintro _ _ ⟨W50, rfl, l50, rfl⟩
          have a51 : Le LL _ _ := l50.nil
          refine Lw.r rfl (R.as (v := vI z48) rfl) ?_
          refine Lw.nil ?_
          refine Cw.seq ?_
          refine Cw.region ?_
          refine Lw.r rfl (R.mv (v := vI z48) rfl) (Lw.r rfl (R.lt rfl rfl) ?_)
          refine Lw.nil ?_
          refine Cw.cond (b := decide ((z48 : Int) < (0 : Int))) rfl (fun hc52 => ?_) (fun hc52 => ?_)
          · replace hm := bt hm hc52
            refine Cw.seq ?_
            refine Cw.region ?_
            refine Lw.r rfl (R.as (v := vI (-1)) rfl) ?_
            refine Lw.nil ?_
            cases hm
            exact Cw.ret (ret1 rfl (Res.mk (a7.trans (a18.trans (a29.trans (a40.trans a51)))) rfl))
          · replace hm := bf hm hc52
            refine Cw.skip ?_
            refine Cw.region ?_
            refine Lw.r rfl (R.mv (v := vI y3) rfl) (Lw.r rfl (R.add rfl rfl) (Lw.r rfl (R.as (v := vI (w64 (y3 + 1))) rfl) ?_))
            refine Lw.nil ?_
            refine ⟨?_, m6, Nat.lt_succ_self m6, ⟨z48, y2, w64 (y3 + 1), W50, rfl, (l4.trans (l17.trans (l28.trans (l39.trans l50)))), rfl, hm⟩⟩
            iterate 47 (refine Agree.up rfl ?_)
            iterate 3 (refine Agree.up rfl ?_)
            exact Agree.base
  · replace hm := bf hm hc9
    refine Cw.exit ?_
    rw [hK5] at hm
    refine Cw.seq ?_
    refine Cw.region ?_
    refine Lw.r rfl (R.mv (v := vI y1) rfl) (Lw.r rfl (R.as (v := vI y1) rfl) ?_)
    refine Lw.nil ?_
    cases hm
    exact Cw.ret (ret1 rfl (Res.mk a7 rfl))

theorem p26 {W : CW} {K : List Nat} {x0 : List Vm.Memo} {v0_ : Value} {x1 : Int} {r : Int} (h0 : Rd W K [v0_] x0) (hm : Vm.laws_heldMemoS x0 x1 = some r) : CallR Try.prog 26 [v0_, vI x1].toArray W.w (Res W [] fun W' v => v = vI r) :=
  (c26 (V := W.view K []) (h0.view _) hm).ad (fk 0) fun _ _ e => e

theorem c5 {V : CW} {x0 : List Vm.Memo} {v0_ : Value} {x1 : Vm.Memo} {v1_0_ : Value} {v1_1_ : Value} {v1_2_ : Value} {v1_3_ : Value} {r : Bool} (h0 : Rd V [0] [v0_] x0) (h1 : Rd V [0] [v1_0_, v1_1_, v1_2_, v1_3_] x1) (hm : Vm.laws_FnExactMemoPut x0 x1 = some r) : CallR Try.prog 5 [v0_, .agg [v1_0_, v1_1_, v1_2_, v1_3_].toArray].toArray V.w (Res V LL fun Wf v => v = vB r) := by
  unfold Vm.laws_FnExactMemoPut at hm
  obtain ⟨w1_0, w1_1, w1_2, w1_3, he1, h1_0, h1_1, h1_2, h1_3⟩ := Memo.split h1
  simp only [List.cons.injEq, and_true, true_and] at he1
  obtain ⟨rfl, rfl, rfl, rfl⟩ := he1
  obtain ⟨W0, hW0⟩ : ∃ W, W = V := ⟨V, rfl⟩
  subst hW0
  refine CallR.of Try.func5 rfl rfl rfl rfl ?_
  refine Cw.seq ?_
  refine Cw.region ?_
  refine Lw.t rfl (T.box 2 (v := .agg [v1_0_, v1_1_, v1_2_, v1_3_].toArray) (cs := [v1_0_, v1_1_, v1_2_, v1_3_]) rfl rfl) ?_
  rintro _ _ ⟨g1, W1, rfl, rfl, l1, b1⟩
  have a2 : Le LL _ _ := l1.nil
  refine Lw.r rfl (R.as (v := vB false) rfl) ?_
  refine Lw.nil ?_
  refine Cw.seq ?_
  refine Cw.region ?_
  refine Lw.r rfl (R.as (v := vI 1048576) rfl) ?_
  refine Lw.nil ?_
  refine Cw.seq ?_
  refine Cw.region ?_
  refine Lw.r rfl (R.mv (v := v0_) rfl) (Lw.r rfl (R.mv (v := vI 1048576) rfl) ?_)
  have s3 := h0.ul a2
  obtain ⟨z4, e5, hm⟩ := ob hm
  refine Lw.t rfl (T.call rfl (p12 (K := [0])  s3 e5)) ?_
  rintro _ _ ⟨W6, rfl, l6, rfl⟩
  have a7 : Le LL _ _ := l6.nil
  have b8 := b1.up l6 rfl
  refine Lw.r rfl (R.as (v := vI z4) rfl) ?_
  refine Lw.nil ?_
  refine Cw.seq ?_
  refine Cw.seq ?_
  refine Cw.region ?_
  refine Lw.r rfl (R.mv (v := vI z4) rfl) (Lw.r rfl (R.lt rfl rfl) ?_)
  refine Lw.nil ?_
  refine Cw.cond (b := decide ((z4 : Int) < (0 : Int))) rfl (fun hc9 => ?_) (fun hc9 => ?_)
  · replace hm := bt hm hc9
    refine Cw.seq ?_
    refine Cw.region ?_
    refine Lw.r rfl (R.as (v := vB true) rfl) ?_
    refine Lw.nil ?_
    cases hm
    exact Cw.ret (ret1 rfl (Res.mk (a2.trans a7) rfl))
  · replace hm := bf hm hc9
    refine Cw.skip ?_
    refine Cw.seq ?_
    refine Cw.region ?_
    refine Lw.r rfl (R.lda (cs := [v1_0_, v1_1_, v1_2_, v1_3_]) b8.cells rfl rfl) (Lw.r rfl (R.mv (v := vI z4) rfl) ?_)
    have s10 := h1_0.ul (a2.trans a7)
    have s11 := h1_1.ul (a2.trans a7)
    have s12 := h1_2.ul (a2.trans a7)
    have s13 := h1_3.ul (a2.trans a7)
    obtain ⟨z14, e15, hm⟩ := ob hm
    refine Lw.t rfl (T.call rfl (p21 (K := [0])  (Memo.rd (K := [0]) x1.Old x1.One x1.Two x1.Done s10 s11 s12 s13) e15)) ?_
    rintro _ _ ⟨W16, rfl, l16, rfl⟩
    have a17 : Le LL _ _ := l16.nil
    have b18 := b8.up l16 rfl
    refine Lw.r rfl (R.as (v := vI z14) rfl) ?_
    refine Lw.nil ?_
    refine Cw.seq ?_
    refine Cw.seq ?_
    refine Cw.region ?_
    refine Lw.r rfl (R.mv (v := vI z14) rfl) (Lw.r rfl (R.lt rfl rfl) ?_)
    refine Lw.nil ?_
    refine Cw.cond (b := decide ((z14 : Int) < (0 : Int))) rfl (fun hc19 => ?_) (fun hc19 => ?_)
    · replace hm := bt hm hc19
      refine Cw.seq ?_
      refine Cw.region ?_
      refine Lw.r rfl (R.as (v := vB true) rfl) ?_
      refine Lw.nil ?_
      cases hm
      exact Cw.ret (ret1 rfl (Res.mk (a2.trans (a7.trans a17)) rfl))
    · replace hm := bf hm hc19
      refine Cw.skip ?_
      refine Cw.seq ?_
      refine Cw.draw [] [(0, 0), (2, 1), (1, 2), (3, 3), (4, 2), (5, 0), (6, 0), (7, 0), (8, 0), (9, 0)] mixed (by kernel_rfl) fun W20 l20 => ?_
      have a21 : Le LL _ _ := l20.nil
      have b22 := b18.up l20 rfl
      refine Mw.p rfl rfl (fun _ => R.mv (v := v0_) rfl) (Mw.q rfl rfl (fun _ c => R.lda (cs := [v1_0_, v1_1_, v1_2_, v1_3_]) (b22.clcs rfl c) rfl rfl) ?_)
      have s23 := h0.ul (a2.trans (a7.trans (a17.trans a21)))
      obtain ⟨z24, e25, hm⟩ := ob hm
      refine Mw.t rfl rfl (T.call rfl (p14 (K := [0]) (k0 := 3) s23 e25)) ?_
      rintro v0_26 _ ⟨W26, rfl, l26, ⟨_, rfl, f26_0⟩⟩
      have a27 : Le LL _ _ := l26.nil
      have b28 := b22.up l26 rfl
      refine ⟨⟨_, rfl, (l26.sub (M := []) rfl)⟩, ?_⟩
      have s29 := h1_0.ul (a2.trans (a7.trans (a17.trans (a21.trans a27))))
      have s30 := h1_1.ul (a2.trans (a7.trans (a17.trans (a21.trans a27))))
      have s31 := h1_2.ul (a2.trans (a7.trans (a17.trans (a21.trans a27))))
      have s32 := h1_3.ul (a2.trans (a7.trans (a17.trans (a21.trans a27))))
      obtain ⟨z33, e34, hm⟩ := ob hm
      refine Mw.l rfl rfl (T.call rfl (p22 (K := [0]) (k0 := 4) (k1 := 5) (k2 := 6) (k3 := 7) (Memo.rd (K := [0]) x1.Old x1.One x1.Two x1.Done s29 s30 s31 s32) e34)) ?_
      rintro _ _ ⟨W35, rfl, l35, ⟨v0_0_35, v0_1_35, v0_2_35, v0_3_35, rfl, f35_0, f35_1, f35_2, f35_3⟩⟩
      have a36 : Le LL _ _ := l35.nil
      have o37 := f26_0.up l35 rfl
      have b38 := b28.up l35 rfl
      obtain ⟨z39, e40, hm⟩ := ob hm
      refine Mw.t rfl rfl (T.call rfl (p19 (K := [3, 4, 5, 6, 7]) (k0 := 8) (o37.rd.sub (M := [3, 4, 5, 6, 7]) rfl) ((Memo.rd (K := [4, 5, 6, 7]) z33.Old z33.One z33.Two z33.Done (f35_0.rd.sub (M := [4, 5, 6, 7]) rfl) (f35_1.rd.sub (M := [4, 5, 6, 7]) rfl) (f35_2.rd.sub (M := [4, 5, 6, 7]) rfl) (f35_3.rd.sub (M := [4, 5, 6, 7]) rfl)).sub (M := [3, 4, 5, 6, 7]) rfl) e40)) ?_
      rintro _ _ ⟨W41, rfl, l41, ⟨v0_41, rfl, f41_0⟩⟩
      have a42 : Le LL _ _ := l41.nil
      have o43 := o37.up l41 rfl
      have o44 := f35_0.up l41 rfl
      have o45 := f35_1.up l41 rfl
      have o46 := f35_2.up l41 rfl
      have o47 := f35_3.up l41 rfl
      have b48 := b38.up l41 rfl
      refine ⟨⟨_, rfl, ((l26.sub (M := []) rfl).trans ((l35.sub (M := []) rfl).trans (l41.sub (M := []) rfl)))⟩, ?_⟩
      refine Mw.p rfl rfl (fun _ => R.mv (v := .tuple [v0_41, vB z39.2].toArray) rfl) (Mw.p rfl rfl (fun _ => R.ext (vs := [v0_41, vB z39.2]) (v := v0_41) rfl rfl) (Mw.p rfl rfl (fun _ => R.ext (vs := [v0_41, vB z39.2]) (v := vB z39.2) rfl rfl) (Mw.p rfl rfl (fun _ => R.as (v := v0_41) rfl) (Mw.p rfl rfl (fun _ => R.as (v := vB z39.2) rfl) ?_))))
      refine Mw.nil ?_
      refine Cw.seq ?_
      refine Cw.region ?_
      refine Lw.r rfl (R.mv (v := v0_) rfl) ?_
      have s49 := h0.ul (a2.trans (a7.trans (a17.trans (a21.trans (a27.trans (a36.trans a42))))))
      obtain ⟨z50, e51, hm⟩ := ob hm
      refine Lw.t rfl (T.call rfl (p14 (K := [0]) (k0 := 9) s49 e51)) ?_
      rintro v0_52 _ ⟨W52, rfl, l52, ⟨_, rfl, f52_0⟩⟩
      have a53 : Le LL _ _ := l52.nil
      have o54 := o43.up l52 rfl
      have o55 := o44.up l52 rfl
      have o56 := o45.up l52 rfl
      have o57 := o46.up l52 rfl
      have o58 := o47.up l52 rfl
      have o59 := f41_0.up l52 rfl
      have b60 := b48.up l52 rfl
      refine Lw.r rfl (R.as (v := v0_52) rfl) ?_
      refine Lw.nil ?_
      refine Cw.seq ?_
      refine Cw.region ?_
      refine Lw.r rfl (R.lda (cs := [v1_0_, v1_1_, v1_2_, v1_3_]) b60.cells rfl rfl) ?_
      have s61 := h1_0.ul (a2.trans (a7.trans (a17.trans (a21.trans (a27.trans (a36.trans (a42.trans a53)))))))
      have s62 := h1_1.ul (a2.trans (a7.trans (a17.trans (a21.trans (a27.trans (a36.trans (a42.trans a53)))))))
      have s63 := h1_2.ul (a2.trans (a7.trans (a17.trans (a21.trans (a27.trans (a36.trans (a42.trans a53)))))))
      have s64 := h1_3.ul (a2.trans (a7.trans (a17.trans (a21.trans (a27.trans (a36.trans (a42.trans a53)))))))
      obtain ⟨z65, e66, hm⟩ := ob hm
      refine Lw.t rfl (T.call rfl (p22 (K := [0]) (k0 := 10) (k1 := 11) (k2 := 12) (k3 := 13) (Memo.rd (K := [0]) x1.Old x1.One x1.Two x1.Done s61 s62 s63 s64) e66)) ?_
      rintro _ _ ⟨W67, rfl, l67, ⟨v0_0_67, v0_1_67, v0_2_67, v0_3_67, rfl, f67_0, f67_1, f67_2, f67_3⟩⟩
      have a68 : Le LL _ _ := l67.nil
      have o69 := o54.up l67 rfl
      have o70 := o55.up l67 rfl
      have o71 := o56.up l67 rfl
      have o72 := o57.up l67 rfl
      have o73 := o58.up l67 rfl
      have o74 := o59.up l67 rfl
      have o75 := f52_0.up l67 rfl
      have b76 := b60.up l67 rfl
      refine Lw.t rfl (T.alloc 14 (cs := [.slice none 0 0, .slice none 0 0, .slice none 0 0, .slice none 0 0]) rfl) ?_
      rintro _ _ ⟨g77, W77, rfl, rfl, l77, b77⟩
      have a78 : Le LL _ _ := l77.nil
      have o79 := o69.up l77 rfl
      have o80 := o70.up l77 rfl
      have o81 := o71.up l77 rfl
      have o82 := o72.up l77 rfl
      have o83 := o73.up l77 rfl
      have o84 := o74.up l77 rfl
      have o85 := o75.up l77 rfl
      have o86 := f67_0.up l77 rfl
      have o87 := f67_1.up l77 rfl
      have o88 := f67_2.up l77 rfl
      have o89 := f67_3.up l77 rfl
      have b90 := b76.up l77 rfl
      refine Lw.u (T.sta (vs := [v0_0_67, v0_1_67, v0_2_67, v0_3_67]) b77 rfl rfl (oc_cons o86.oc (oc_cons o87.oc (oc_cons o88.oc (oc_cons o89.oc oc_nil)))) rfl rfl) ?_
      rintro _ _ ⟨W91, rfl, l91, b91⟩
      have a92 : Le LL _ _ := l91.sub rfl
      have o93 := o79.up l91 rfl
      have o94 := o80.up l91 rfl
      have o95 := o81.up l91 rfl
      have o96 := o82.up l91 rfl
      have o97 := o83.up l91 rfl
      have o98 := o84.up l91 rfl
      have o99 := o85.up l91 rfl
      have o100 := o86.up l91 rfl
      have o101 := o87.up l91 rfl
      have o102 := o88.up l91 rfl
      have o103 := o89.up l91 rfl
      have b104 := b90.up l91 rfl
      refine Lw.nil ?_
      refine Cw.seq ?_
      refine Cw.region ?_
      refine Lw.r rfl (R.mv (v := v0_52) rfl) (Lw.r rfl (R.lda (cs := [v0_0_67, v0_1_67, v0_2_67, v0_3_67]) b91.cells rfl rfl) ?_)
      obtain ⟨z105, e106, hm⟩ := ob hm
      refine Lw.t rfl (T.call rfl (p18 (K := [9, 10, 11, 12, 13]) (k0 := 15) (o99.rd.sub (M := [9, 10, 11, 12, 13]) rfl) ((Memo.rd (K := [10, 11, 12, 13]) z65.Old z65.One z65.Two z65.Done (o100.rd.sub (M := [10, 11, 12, 13]) rfl) (o101.rd.sub (M := [10, 11, 12, 13]) rfl) (o102.rd.sub (M := [10, 11, 12, 13]) rfl) (o103.rd.sub (M := [10, 11, 12, 13]) rfl)).sub (M := [9, 10, 11, 12, 13]) rfl) e106)) ?_
      rintro _ _ ⟨W107, rfl, l107, ⟨v0_107, rfl, f107_0⟩⟩
      have a108 : Le LL _ _ := l107.nil
      have o109 := o93.up l107 rfl
      have o110 := o94.up l107 rfl
      have o111 := o95.up l107 rfl
      have o112 := o96.up l107 rfl
      have o113 := o97.up l107 rfl
      have o114 := o98.up l107 rfl
      have o115 := o99.up l107 rfl
      have o116 := o100.up l107 rfl
      have o117 := o101.up l107 rfl
      have o118 := o102.up l107 rfl
      have o119 := o103.up l107 rfl
      have b120 := b104.up l107 rfl
      have b121 := b91.up l107 rfl
      refine Lw.r rfl (R.mv (v := .tuple [v0_107, vB z105.2].toArray) rfl) (Lw.r rfl (R.ext (vs := [v0_107, vB z105.2]) (v := v0_107) rfl rfl) (Lw.r rfl (R.ext (vs := [v0_107, vB z105.2]) (v := vB z105.2) rfl rfl) (Lw.r rfl (R.as (v := v0_107) rfl) (Lw.r rfl (R.as (v := vB z105.2) rfl) ?_))))
      refine Lw.nil ?_
      refine Cw.seq ?_
      obtain ⟨K124, hK124, hm⟩ := jn_e hm
      refine Cw.join 45 53 [53] (fun l w => ∃ (y122 : Bool) (W123 : CW), W123.w = w ∧ Le [] W107 W123 ∧ l = [vB y122] ∧ K124 y122 = some r) ?_ ?_
      · rintro _ _ σ ⟨y122, W123, rfl, l123, rfl, hm⟩
        rw [hK124] at hm
        have a125 : Le LL _ _ := l123.nil
        have o126 := o109.up l123 rfl
        have o127 := o110.up l123 rfl
        have o128 := o111.up l123 rfl
        have o129 := o112.up l123 rfl
        have o130 := o113.up l123 rfl
        have o131 := o114.up l123 rfl
        have o132 := o115.up l123 rfl
        have o133 := o116.up l123 rfl
        have o134 := o117.up l123 rfl
        have o135 := o118.up l123 rfl
        have o136 := o119.up l123 rfl
        have o137 := f107_0.up l123 rfl
        have b138 := b120.up l123 rfl
        have b139 := b121.up l123 rfl
        refine Cw.cond (b := y122) rfl (fun hc140 => ?_) (fun hc140 => ?_)
        · replace hm := bt hm hc140
          refine Cw.seq ?_
          refine Cw.region ?_
          refine Lw.r rfl (R.as (v := vB false) rfl) ?_
          refine Lw.nil ?_
          cases hm
          exact Cw.ret (ret1 rfl (Res.mk (a2.trans (a7.trans (a17.trans (a21.trans (a27.trans (a36.trans (a42.trans (a53.trans (a68.trans (a78.trans (a92.trans (a108.trans a125)))))))))))) rfl))
        · replace hm := bf hm hc140
          refine Cw.skip ?_
          refine Cw.seq ?_
          refine Cw.seq ?_
          refine Cw.region ?_
          refine Lw.r rfl (R.mv (v := v0_52) rfl) (Lw.r rfl (R.mv (v := v0_) rfl) ?_)
          have s141 := h0.ul (a2.trans (a7.trans (a17.trans (a21.trans (a27.trans (a36.trans (a42.trans (a53.trans (a68.trans (a78.trans (a92.trans (a108.trans a125))))))))))))
          obtain ⟨z142, e143, hm⟩ := ob hm
          refine Lw.t rfl (T.call rfl (p14 (K := [0]) (k0 := 16) s141 e143)) ?_
          rintro v0_144 _ ⟨W144, rfl, l144, ⟨_, rfl, f144_0⟩⟩
          have a145 : Le LL _ _ := l144.nil
          have o146 := o126.up l144 rfl
          have o147 := o127.up l144 rfl
          have o148 := o128.up l144 rfl
          have o149 := o129.up l144 rfl
          have o150 := o130.up l144 rfl
          have o151 := o131.up l144 rfl
          have o152 := o132.up l144 rfl
          have o153 := o133.up l144 rfl
          have o154 := o134.up l144 rfl
          have o155 := o135.up l144 rfl
          have o156 := o136.up l144 rfl
          have o157 := o137.up l144 rfl
          have b158 := b138.up l144 rfl
          have b159 := b139.up l144 rfl
          obtain ⟨z160, e161, hm⟩ := ob hm
          refine Lw.t rfl (T.call rfl (p16 (K := [9, 16])  (o152.rd.sub (M := [9, 16]) rfl) (f144_0.rd.sub (M := [9, 16]) rfl) e161)) ?_
          rintro _ _ ⟨W162, rfl, l162, rfl⟩
          have a163 : Le LL _ _ := l162.nil
          have o164 := o146.up l162 rfl
          have o165 := o147.up l162 rfl
          have o166 := o148.up l162 rfl
          have o167 := o149.up l162 rfl
          have o168 := o150.up l162 rfl
          have o169 := o151.up l162 rfl
          have o170 := o152.up l162 rfl
          have o171 := o153.up l162 rfl
          have o172 := o154.up l162 rfl
          have o173 := o155.up l162 rfl
          have o174 := o156.up l162 rfl
          have o175 := o157.up l162 rfl
          have o176 := f144_0.up l162 rfl
          have b177 := b158.up l162 rfl
          have b178 := b159.up l162 rfl
          refine Lw.r rfl (R.not rfl) ?_
          refine Lw.nil ?_
          refine Cw.cond (b := (!z160)) rfl (fun hc179 => ?_) (fun hc179 => ?_)
          · replace hm := bt hm hc179
            refine Cw.seq ?_
            refine Cw.region ?_
            refine Lw.r rfl (R.as (v := vB false) rfl) ?_
            refine Lw.nil ?_
            cases hm
            exact Cw.ret (ret1 rfl (Res.mk (a2.trans (a7.trans (a17.trans (a21.trans (a27.trans (a36.trans (a42.trans (a53.trans (a68.trans (a78.trans (a92.trans (a108.trans (a125.trans (a145.trans a163)))))))))))))) rfl))
          · replace hm := bf hm hc179
            refine Cw.skip ?_
            refine Cw.seq ?_
            refine Cw.seq ?_
            refine Cw.draw [] [(0, 1), (1, 1), (2, 2), (3, 2), (4, 0)] mixed (by kernel_rfl) fun W180 l180 => ?_
            have a181 : Le LL _ _ := l180.nil
            have o182 := o164.up l180 rfl
            have o183 := o165.up l180 rfl
            have o184 := o166.up l180 rfl
            have o185 := o167.up l180 rfl
            have o186 := o168.up l180 rfl
            have o187 := o169.up l180 rfl
            have o188 := o170.up l180 rfl
            have o189 := o171.up l180 rfl
            have o190 := o172.up l180 rfl
            have o191 := o173.up l180 rfl
            have o192 := o174.up l180 rfl
            have o193 := o175.up l180 rfl
            have o194 := o176.up l180 rfl
            have b195 := b177.up l180 rfl
            have b196 := b178.up l180 rfl
            refine Mw.q rfl rfl (fun _ c => R.lda (cs := [v0_0_67, v0_1_67, v0_2_67, v0_3_67]) (b196.clcs rfl c) rfl rfl) (Mw.q rfl rfl (fun _ c => R.lda (cs := [v1_0_, v1_1_, v1_2_, v1_3_]) (b195.clcs rfl c) rfl rfl) ?_)
            have s197 := h1_0.ul (a2.trans (a7.trans (a17.trans (a21.trans (a27.trans (a36.trans (a42.trans (a53.trans (a68.trans (a78.trans (a92.trans (a108.trans (a125.trans (a145.trans (a163.trans a181)))))))))))))))
            have s198 := h1_1.ul (a2.trans (a7.trans (a17.trans (a21.trans (a27.trans (a36.trans (a42.trans (a53.trans (a68.trans (a78.trans (a92.trans (a108.trans (a125.trans (a145.trans (a163.trans a181)))))))))))))))
            have s199 := h1_2.ul (a2.trans (a7.trans (a17.trans (a21.trans (a27.trans (a36.trans (a42.trans (a53.trans (a68.trans (a78.trans (a92.trans (a108.trans (a125.trans (a145.trans (a163.trans a181)))))))))))))))
            have s200 := h1_3.ul (a2.trans (a7.trans (a17.trans (a21.trans (a27.trans (a36.trans (a42.trans (a53.trans (a68.trans (a78.trans (a92.trans (a108.trans (a125.trans (a145.trans (a163.trans a181)))))))))))))))
            obtain ⟨z201, e202, hm⟩ := ob hm
            refine Mw.t rfl rfl (T.call rfl (p22 (K := [0]) (k0 := 17) (k1 := 18) (k2 := 19) (k3 := 20) (Memo.rd (K := [0]) x1.Old x1.One x1.Two x1.Done s197 s198 s199 s200) e202)) ?_
            rintro _ _ ⟨W203, rfl, l203, ⟨v0_0_203, v0_1_203, v0_2_203, v0_3_203, rfl, f203_0, f203_1, f203_2, f203_3⟩⟩
            have a204 : Le LL _ _ := l203.nil
            have o205 := o182.up l203 rfl
            have o206 := o183.up l203 rfl
            have o207 := o184.up l203 rfl
            have o208 := o185.up l203 rfl
            have o209 := o186.up l203 rfl
            have o210 := o187.up l203 rfl
            have o211 := o188.up l203 rfl
            have o212 := o189.up l203 rfl
            have o213 := o190.up l203 rfl
            have o214 := o191.up l203 rfl
            have o215 := o192.up l203 rfl
            have o216 := o193.up l203 rfl
            have o217 := o194.up l203 rfl
            have b218 := b195.up l203 rfl
            have b219 := b196.up l203 rfl
            refine ⟨⟨_, rfl, (l203.sub (M := []) rfl)⟩, ?_⟩
            obtain ⟨z220, e221, hm⟩ := ob hm
            refine Mw.t rfl rfl (T.call rfl (p23 (K := [10, 11, 12, 13, 17, 18, 19, 20])  ((Memo.rd (K := [10, 11, 12, 13]) z65.Old z65.One z65.Two z65.Done (o212.rd.sub (M := [10, 11, 12, 13]) rfl) (o213.rd.sub (M := [10, 11, 12, 13]) rfl) (o214.rd.sub (M := [10, 11, 12, 13]) rfl) (o215.rd.sub (M := [10, 11, 12, 13]) rfl)).sub (M := [10, 11, 12, 13, 17, 18, 19, 20]) rfl) ((Memo.rd (K := [17, 18, 19, 20]) z201.Old z201.One z201.Two z201.Done (f203_0.rd.sub (M := [17, 18, 19, 20]) rfl) (f203_1.rd.sub (M := [17, 18, 19, 20]) rfl) (f203_2.rd.sub (M := [17, 18, 19, 20]) rfl) (f203_3.rd.sub (M := [17, 18, 19, 20]) rfl)).sub (M := [10, 11, 12, 13, 17, 18, 19, 20]) rfl) e221)) ?_
            rintro _ _ ⟨W222, rfl, l222, rfl⟩
            have a223 : Le LL _ _ := l222.nil
            have o224 := o205.up l222 rfl
            have o225 := o206.up l222 rfl
            have o226 := o207.up l222 rfl
            have o227 := o208.up l222 rfl
            have o228 := o209.up l222 rfl
            have o229 := o210.up l222 rfl
            have o230 := o211.up l222 rfl
            have o231 := o212.up l222 rfl
            have o232 := o213.up l222 rfl
            have o233 := o214.up l222 rfl
            have o234 := o215.up l222 rfl
            have o235 := o216.up l222 rfl
            have o236 := o217.up l222 rfl
            have o237 := f203_0.up l222 rfl
            have o238 := f203_1.up l222 rfl
            have o239 := f203_2.up l222 rfl
            have o240 := f203_3.up l222 rfl
            have b241 := b218.up l222 rfl
            have b242 := b219.up l222 rfl
            refine ⟨⟨_, rfl, ((l203.sub (M := []) rfl).trans (l222.sub (M := []) rfl))⟩, ?_⟩
            refine Mw.p rfl rfl (fun _ => R.not rfl) ?_
            refine Mw.nil ?_
            refine Cw.cond (b := (!z220)) rfl (fun hc243 => ?_) (fun hc243 => ?_)
            · replace hm := bt hm hc243
              refine Cw.seq ?_
              refine Cw.region ?_
              refine Lw.r rfl (R.as (v := vB false) rfl) ?_
              refine Lw.nil ?_
              cases hm
              exact Cw.ret (ret1 rfl (Res.mk (a2.trans (a7.trans (a17.trans (a21.trans (a27.trans (a36.trans (a42.trans (a53.trans (a68.trans (a78.trans (a92.trans (a108.trans (a125.trans (a145.trans (a163.trans (a181.trans (a204.trans a223))))))))))))))))) rfl))
            · replace hm := bf hm hc243
              refine Cw.skip ?_
              refine Cw.seq ?_
              refine Cw.region ?_
              refine Lw.r rfl (R.as (v := vI 1) rfl) ?_
              refine Lw.nil ?_
              refine Cw.seq ?_
              refine Cw.region ?_
              refine Lw.r rfl (R.mv (v := v0_52) rfl) (Lw.r rfl (R.mv (v := vI 1) rfl) ?_)
              obtain ⟨z244, e245, hm⟩ := ob hm
              refine Lw.t rfl (T.call rfl (p24 (K := [0])  (c0 := 9) o230 rfl e245)) ?_
              rintro _ _ ⟨W246, rfl, l246, ⟨rfl, f246_0⟩⟩
              have a247 : Le LL _ _ := l246.sub rfl
              have o248 := o224.up l246 rfl
              have o249 := o225.up l246 rfl
              have o250 := o226.up l246 rfl
              have o251 := o227.up l246 rfl
              have o252 := o228.up l246 rfl
              have o253 := o229.up l246 rfl
              have o254 := o231.up l246 rfl
              have o255 := o232.up l246 rfl
              have o256 := o233.up l246 rfl
              have o257 := o234.up l246 rfl
              have o258 := o235.up l246 rfl
              have o259 := o236.up l246 rfl
              have o260 := o237.up l246 rfl
              have o261 := o238.up l246 rfl
              have o262 := o239.up l246 rfl
              have o263 := o240.up l246 rfl
              have b264 := b241.up l246 rfl
              have b265 := b242.up l246 rfl
              refine Lw.r rfl (R.as (v := vI z244.1) rfl) ?_
              refine Lw.nil ?_
              refine Cw.seq ?_
              refine Cw.region ?_
              refine Lw.r rfl (R.lda (cs := [v0_0_67, v0_1_67, v0_2_67, v0_3_67]) b265.cells rfl rfl) (Lw.r rfl (R.mv (v := vI z244.1) rfl) ?_)
              obtain ⟨z266, e267, hm⟩ := ob hm
              refine Lw.t rfl (T.call rfl (p25 (K := [0])  (c0 := 10) (c1 := 11) (c2 := 12) (c3 := 13) (x0 := (Vm.Memo.mk z65.Old z65.One z65.Two z65.Done)) o254 o255 o256 o257 rfl e267)) ?_
              rintro _ _ ⟨W268, rfl, l268, ⟨rfl, f268_0, f268_1, f268_2, f268_3⟩⟩
              have a269 : Le LL _ _ := l268.sub rfl
              have o270 := o248.up l268 rfl
              have o271 := o249.up l268 rfl
              have o272 := o250.up l268 rfl
              have o273 := o251.up l268 rfl
              have o274 := o252.up l268 rfl
              have o275 := o253.up l268 rfl
              have o276 := f246_0.up l268 rfl
              have o277 := o258.up l268 rfl
              have o278 := o259.up l268 rfl
              have o279 := o260.up l268 rfl
              have o280 := o261.up l268 rfl
              have o281 := o262.up l268 rfl
              have o282 := o263.up l268 rfl
              have b283 := b264.up l268 rfl
              have b284 := b265.up l268 rfl
              refine Lw.r rfl (R.as (v := vI z266.1) rfl) ?_
              refine Lw.nil ?_
              refine Cw.seq ?_
              obtain ⟨K287, hK287, hm⟩ := jn_e hm
              refine Cw.join 70 82 [82] (fun l w => ∃ (y285 : Bool) (W286 : CW), W286.w = w ∧ Le [] W268 W286 ∧ l = [vB y285] ∧ K287 y285 = some r) ?_ ?_
              · rintro _ _ σ ⟨y285, W286, rfl, l286, rfl, hm⟩
                rw [hK287] at hm
                have a288 : Le LL _ _ := l286.nil
                have o289 := o270.up l286 rfl
                have o290 := o271.up l286 rfl
                have o291 := o272.up l286 rfl
                have o292 := o273.up l286 rfl
                have o293 := o274.up l286 rfl
                have o294 := o275.up l286 rfl
                have o295 := o276.up l286 rfl
                have o296 := f268_0.up l286 rfl
                have o297 := f268_1.up l286 rfl
                have o298 := f268_2.up l286 rfl
                have o299 := f268_3.up l286 rfl
                have o300 := o277.up l286 rfl
                have o301 := o278.up l286 rfl
                have o302 := o279.up l286 rfl
                have o303 := o280.up l286 rfl
                have o304 := o281.up l286 rfl
                have o305 := o282.up l286 rfl
                have b306 := b283.up l286 rfl
                have b307 := b284.up l286 rfl
                refine Cw.cond (b := y285) rfl (fun hc308 => ?_) (fun hc308 => ?_)
                · replace hm := bt hm hc308
                  refine Cw.seq ?_
                  refine Cw.region ?_
                  refine Lw.r rfl (R.as (v := vB false) rfl) ?_
                  refine Lw.nil ?_
                  cases hm
                  exact Cw.ret (ret1 rfl (Res.mk (a2.trans (a7.trans (a17.trans (a21.trans (a27.trans (a36.trans (a42.trans (a53.trans (a68.trans (a78.trans (a92.trans (a108.trans (a125.trans (a145.trans (a163.trans (a181.trans (a204.trans (a223.trans (a247.trans (a269.trans a288)))))))))))))))))))) rfl))
                · replace hm := bf hm hc308
                  refine Cw.skip ?_
                  refine Cw.seq ?_
                  refine Cw.region ?_
                  refine Lw.r rfl (R.as (v := vI 1) rfl) ?_
                  refine Lw.nil ?_
                  refine Cw.seq ?_
                  refine Cw.region ?_
                  refine Lw.r rfl (R.mv (v := v0_107) rfl) (Lw.r rfl (R.mv (v := vI 1) rfl) ?_)
                  obtain ⟨z309, e310, hm⟩ := ob hm
                  refine Lw.t rfl (T.call rfl (p24 (K := [0])  (c0 := 15) o300 rfl e310)) ?_
                  rintro _ _ ⟨W311, rfl, l311, ⟨rfl, f311_0⟩⟩
                  have a312 : Le LL _ _ := l311.sub rfl
                  have o313 := o289.up l311 rfl
                  have o314 := o290.up l311 rfl
                  have o315 := o291.up l311 rfl
                  have o316 := o292.up l311 rfl
                  have o317 := o293.up l311 rfl
                  have o318 := o294.up l311 rfl
                  have o319 := o295.up l311 rfl
                  have o320 := o296.up l311 rfl
                  have o321 := o297.up l311 rfl
                  have o322 := o298.up l311 rfl
                  have o323 := o299.up l311 rfl
                  have o324 := o301.up l311 rfl
                  have o325 := o302.up l311 rfl
                  have o326 := o303.up l311 rfl
                  have o327 := o304.up l311 rfl
                  have o328 := o305.up l311 rfl
                  have b329 := b306.up l311 rfl
                  have b330 := b307.up l311 rfl
                  refine Lw.r rfl (R.as (v := vI z309.1) rfl) ?_
                  refine Lw.nil ?_
                  refine Cw.seq ?_
                  refine Cw.region ?_
                  refine Lw.r rfl (R.as (v := vI 1) rfl) ?_
                  refine Lw.nil ?_
                  refine Cw.seq ?_
                  refine Cw.region ?_
                  refine Lw.r rfl (R.mv (v := v0_107) rfl) (Lw.r rfl (R.mv (v := vI 1) rfl) ?_)
                  obtain ⟨z331, e332, hm⟩ := ob hm
                  refine Lw.t rfl (T.call rfl (p26 (K := [15])  f311_0.rd e332)) ?_
                  rintro _ _ ⟨W333, rfl, l333, rfl⟩
                  have a334 : Le LL _ _ := l333.nil
                  have o335 := o313.up l333 rfl
                  have o336 := o314.up l333 rfl
                  have o337 := o315.up l333 rfl
                  have o338 := o316.up l333 rfl
                  have o339 := o317.up l333 rfl
                  have o340 := o318.up l333 rfl
                  have o341 := o319.up l333 rfl
                  have o342 := o320.up l333 rfl
                  have o343 := o321.up l333 rfl
                  have o344 := o322.up l333 rfl
                  have o345 := o323.up l333 rfl
                  have o346 := f311_0.up l333 rfl
                  have o347 := o324.up l333 rfl
                  have o348 := o325.up l333 rfl
                  have o349 := o326.up l333 rfl
                  have o350 := o327.up l333 rfl
                  have o351 := o328.up l333 rfl
                  have b352 := b329.up l333 rfl
                  have b353 := b330.up l333 rfl
                  refine Lw.r rfl (R.as (v := vI z331) rfl) ?_
                  refine Lw.nil ?_
                  refine Cw.seq ?_
                  refine Cw.seq ?_
                  refine Cw.region ?_
                  refine Lw.r rfl (R.mv (v := vI z331) rfl) (Lw.r rfl (R.lt rfl rfl) ?_)
                  refine Lw.nil ?_
                  refine Cw.cond (b := decide ((z331 : Int) < (0 : Int))) rfl (fun hc354 => ?_) (fun hc354 => ?_)
                  · replace hm := bt hm hc354
                    refine Cw.seq ?_
                    refine Cw.region ?_
                    refine Lw.r rfl (R.as (v := vB false) rfl) ?_
                    refine Lw.nil ?_
                    cases hm
                    exact Cw.ret (ret1 rfl (Res.mk (a2.trans (a7.trans (a17.trans (a21.trans (a27.trans (a36.trans (a42.trans (a53.trans (a68.trans (a78.trans (a92.trans (a108.trans (a125.trans (a145.trans (a163.trans (a181.trans (a204.trans (a223.trans (a247.trans (a269.trans (a288.trans (a312.trans a334)))))))))))))))))))))) rfl))
                  · replace hm := bf hm hc354
                    refine Cw.skip ?_
                    refine Cw.seq ?_
                    refine Cw.seq ?_
                    refine Cw.region ?_
                    refine Lw.r rfl (R.mv (v := vI z331) rfl) (Lw.r rfl (R.mv (v := vI z309.1) rfl) (Lw.r rfl (R.ne rfl rfl) ?_))
                    refine Lw.nil ?_
                    refine Cw.cond (b := ((z331 : Int) != (z309.1 : Int))) rfl (fun hc355 => ?_) (fun hc355 => ?_)
                    · replace hm := bt hm hc355
                      refine Cw.seq ?_
                      refine Cw.region ?_
                      refine Lw.r rfl (R.as (v := vB false) rfl) ?_
                      refine Lw.nil ?_
                      cases hm
                      exact Cw.ret (ret1 rfl (Res.mk (a2.trans (a7.trans (a17.trans (a21.trans (a27.trans (a36.trans (a42.trans (a53.trans (a68.trans (a78.trans (a92.trans (a108.trans (a125.trans (a145.trans (a163.trans (a181.trans (a204.trans (a223.trans (a247.trans (a269.trans (a288.trans (a312.trans a334)))))))))))))))))))))) rfl))
                    · replace hm := bf hm hc355
                      refine Cw.skip ?_
                      refine Cw.seq ?_
                      refine Cw.draw [] [(0, 0), (2, 1), (1, 2), (3, 3), (4, 2), (5, 0), (6, 0), (7, 0), (8, 0), (9, 0)] mixed (by kernel_rfl) fun W356 l356 => ?_
                      have a357 : Le LL _ _ := l356.nil
                      have o358 := o335.up l356 rfl
                      have o359 := o336.up l356 rfl
                      have o360 := o337.up l356 rfl
                      have o361 := o338.up l356 rfl
                      have o362 := o339.up l356 rfl
                      have o363 := o340.up l356 rfl
                      have o364 := o341.up l356 rfl
                      have o365 := o342.up l356 rfl
                      have o366 := o343.up l356 rfl
                      have o367 := o344.up l356 rfl
                      have o368 := o345.up l356 rfl
                      have o369 := o346.up l356 rfl
                      have o370 := o347.up l356 rfl
                      have o371 := o348.up l356 rfl
                      have o372 := o349.up l356 rfl
                      have o373 := o350.up l356 rfl
                      have o374 := o351.up l356 rfl
                      have b375 := b352.up l356 rfl
                      have b376 := b353.up l356 rfl
                      refine Mw.p rfl rfl (fun _ => R.mv (v := v0_) rfl) (Mw.q rfl rfl (fun _ c => R.lda (cs := [v1_0_, v1_1_, v1_2_, v1_3_]) (b375.clcs rfl c) rfl rfl) ?_)
                      have s377 := h0.ul (a2.trans (a7.trans (a17.trans (a21.trans (a27.trans (a36.trans (a42.trans (a53.trans (a68.trans (a78.trans (a92.trans (a108.trans (a125.trans (a145.trans (a163.trans (a181.trans (a204.trans (a223.trans (a247.trans (a269.trans (a288.trans (a312.trans (a334.trans a357)))))))))))))))))))))))
                      obtain ⟨z378, e379, hm⟩ := ob hm
                      refine Mw.t rfl rfl (T.call rfl (p14 (K := [0]) (k0 := 21) s377 e379)) ?_
                      rintro v0_380 _ ⟨W380, rfl, l380, ⟨_, rfl, f380_0⟩⟩
                      have a381 : Le LL _ _ := l380.nil
                      have o382 := o358.up l380 rfl
                      have o383 := o359.up l380 rfl
                      have o384 := o360.up l380 rfl
                      have o385 := o361.up l380 rfl
                      have o386 := o362.up l380 rfl
                      have o387 := o363.up l380 rfl
                      have o388 := o364.up l380 rfl
                      have o389 := o365.up l380 rfl
                      have o390 := o366.up l380 rfl
                      have o391 := o367.up l380 rfl
                      have o392 := o368.up l380 rfl
                      have o393 := o369.up l380 rfl
                      have o394 := o370.up l380 rfl
                      have o395 := o371.up l380 rfl
                      have o396 := o372.up l380 rfl
                      have o397 := o373.up l380 rfl
                      have o398 := o374.up l380 rfl
                      have b399 := b375.up l380 rfl
                      have b400 := b376.up l380 rfl
                      refine ⟨⟨_, rfl, (l380.sub (M := []) rfl)⟩, ?_⟩
                      have s401 := h1_0.ul (a2.trans (a7.trans (a17.trans (a21.trans (a27.trans (a36.trans (a42.trans (a53.trans (a68.trans (a78.trans (a92.trans (a108.trans (a125.trans (a145.trans (a163.trans (a181.trans (a204.trans (a223.trans (a247.trans (a269.trans (a288.trans (a312.trans (a334.trans (a357.trans a381))))))))))))))))))))))))
                      have s402 := h1_1.ul (a2.trans (a7.trans (a17.trans (a21.trans (a27.trans (a36.trans (a42.trans (a53.trans (a68.trans (a78.trans (a92.trans (a108.trans (a125.trans (a145.trans (a163.trans (a181.trans (a204.trans (a223.trans (a247.trans (a269.trans (a288.trans (a312.trans (a334.trans (a357.trans a381))))))))))))))))))))))))
                      have s403 := h1_2.ul (a2.trans (a7.trans (a17.trans (a21.trans (a27.trans (a36.trans (a42.trans (a53.trans (a68.trans (a78.trans (a92.trans (a108.trans (a125.trans (a145.trans (a163.trans (a181.trans (a204.trans (a223.trans (a247.trans (a269.trans (a288.trans (a312.trans (a334.trans (a357.trans a381))))))))))))))))))))))))
                      have s404 := h1_3.ul (a2.trans (a7.trans (a17.trans (a21.trans (a27.trans (a36.trans (a42.trans (a53.trans (a68.trans (a78.trans (a92.trans (a108.trans (a125.trans (a145.trans (a163.trans (a181.trans (a204.trans (a223.trans (a247.trans (a269.trans (a288.trans (a312.trans (a334.trans (a357.trans a381))))))))))))))))))))))))
                      obtain ⟨z405, e406, hm⟩ := ob hm
                      refine Mw.l rfl rfl (T.call rfl (p22 (K := [0]) (k0 := 22) (k1 := 23) (k2 := 24) (k3 := 25) (Memo.rd (K := [0]) x1.Old x1.One x1.Two x1.Done s401 s402 s403 s404) e406)) ?_
                      rintro _ _ ⟨W407, rfl, l407, ⟨v0_0_407, v0_1_407, v0_2_407, v0_3_407, rfl, f407_0, f407_1, f407_2, f407_3⟩⟩
                      have a408 : Le LL _ _ := l407.nil
                      have o409 := o382.up l407 rfl
                      have o410 := o383.up l407 rfl
                      have o411 := o384.up l407 rfl
                      have o412 := o385.up l407 rfl
                      have o413 := o386.up l407 rfl
                      have o414 := o387.up l407 rfl
                      have o415 := o388.up l407 rfl
                      have o416 := o389.up l407 rfl
                      have o417 := o390.up l407 rfl
                      have o418 := o391.up l407 rfl
                      have o419 := o392.up l407 rfl
                      have o420 := o393.up l407 rfl
                      have o421 := o394.up l407 rfl
                      have o422 := o395.up l407 rfl
                      have o423 := o396.up l407 rfl
                      have o424 := o397.up l407 rfl
                      have o425 := o398.up l407 rfl
                      have o426 := f380_0.up l407 rfl
                      have b427 := b399.up l407 rfl
                      have b428 := b400.up l407 rfl
                      obtain ⟨z429, e430, hm⟩ := ob hm
                      refine Mw.t rfl rfl (T.call rfl (p18 (K := [21, 22, 23, 24, 25]) (k0 := 26) (o426.rd.sub (M := [21, 22, 23, 24, 25]) rfl) ((Memo.rd (K := [22, 23, 24, 25]) z405.Old z405.One z405.Two z405.Done (f407_0.rd.sub (M := [22, 23, 24, 25]) rfl) (f407_1.rd.sub (M := [22, 23, 24, 25]) rfl) (f407_2.rd.sub (M := [22, 23, 24, 25]) rfl) (f407_3.rd.sub (M := [22, 23, 24, 25]) rfl)).sub (M := [21, 22, 23, 24, 25]) rfl) e430)) ?_
                      rintro _ _ ⟨W431, rfl, l431, ⟨v0_431, rfl, f431_0⟩⟩
                      have a432 : Le LL _ _ := l431.nil
                      have o433 := o409.up l431 rfl
                      have o434 := o410.up l431 rfl
                      have o435 := o411.up l431 rfl
                      have o436 := o412.up l431 rfl
                      have o437 := o413.up l431 rfl
                      have o438 := o414.up l431 rfl
                      have o439 := o415.up l431 rfl
                      have o440 := o416.up l431 rfl
                      have o441 := o417.up l431 rfl
                      have o442 := o418.up l431 rfl
                      have o443 := o419.up l431 rfl
                      have o444 := o420.up l431 rfl
                      have o445 := o421.up l431 rfl
                      have o446 := o422.up l431 rfl
                      have o447 := o423.up l431 rfl
                      have o448 := o424.up l431 rfl
                      have o449 := o425.up l431 rfl
                      have o450 := o426.up l431 rfl
                      have o451 := f407_0.up l431 rfl
                      have o452 := f407_1.up l431 rfl
                      have o453 := f407_2.up l431 rfl
                      have o454 := f407_3.up l431 rfl
                      have b455 := b427.up l431 rfl
                      have b456 := b428.up l431 rfl
                      refine ⟨⟨_, rfl, ((l380.sub (M := []) rfl).trans ((l407.sub (M := []) rfl).trans (l431.sub (M := []) rfl)))⟩, ?_⟩
                      refine Mw.p rfl rfl (fun _ => R.mv (v := .tuple [v0_431, vB z429.2].toArray) rfl) (Mw.p rfl rfl (fun _ => R.ext (vs := [v0_431, vB z429.2]) (v := v0_431) rfl rfl) (Mw.p rfl rfl (fun _ => R.ext (vs := [v0_431, vB z429.2]) (v := vB z429.2) rfl rfl) (Mw.p rfl rfl (fun _ => R.as (v := v0_431) rfl) (Mw.p rfl rfl (fun _ => R.as (v := vB z429.2) rfl) ?_))))
                      refine Mw.nil ?_
                      refine Cw.seq ?_
                      obtain ⟨K459, hK459, hm⟩ := jn_e hm
                      refine Cw.join 102 110 [110] (fun l w => ∃ (y457 : Bool) (W458 : CW), W458.w = w ∧ Le [] W431 W458 ∧ l = [vB y457] ∧ K459 y457 = some r) ?_ ?_
                      · rintro _ _ σ ⟨y457, W458, rfl, l458, rfl, hm⟩
                        rw [hK459] at hm
                        have a460 : Le LL _ _ := l458.nil
                        have o461 := o433.up l458 rfl
                        have o462 := o434.up l458 rfl
                        have o463 := o435.up l458 rfl
                        have o464 := o436.up l458 rfl
                        have o465 := o437.up l458 rfl
                        have o466 := o438.up l458 rfl
                        have o467 := o439.up l458 rfl
                        have o468 := o440.up l458 rfl
                        have o469 := o441.up l458 rfl
                        have o470 := o442.up l458 rfl
                        have o471 := o443.up l458 rfl
                        have o472 := o444.up l458 rfl
                        have o473 := o445.up l458 rfl
                        have o474 := o446.up l458 rfl
                        have o475 := o447.up l458 rfl
                        have o476 := o448.up l458 rfl
                        have o477 := o449.up l458 rfl
                        have o478 := o450.up l458 rfl
                        have o479 := o451.up l458 rfl
                        have o480 := o452.up l458 rfl
                        have o481 := o453.up l458 rfl
                        have o482 := o454.up l458 rfl
                        have o483 := f431_0.up l458 rfl
                        have b484 := b455.up l458 rfl
                        have b485 := b456.up l458 rfl
                        refine Cw.cond (b := y457) rfl (fun hc486 => ?_) (fun hc486 => ?_)
                        · replace hm := bt hm hc486
                          refine Cw.seq ?_
                          refine Cw.region ?_
                          refine Lw.r rfl (R.as (v := vB false) rfl) ?_
                          refine Lw.nil ?_
                          cases hm
                          exact Cw.ret (ret1 rfl (Res.mk (a2.trans (a7.trans (a17.trans (a21.trans (a27.trans (a36.trans (a42.trans (a53.trans (a68.trans (a78.trans (a92.trans (a108.trans (a125.trans (a145.trans (a163.trans (a181.trans (a204.trans (a223.trans (a247.trans (a269.trans (a288.trans (a312.trans (a334.trans (a357.trans (a381.trans (a408.trans (a432.trans a460))))))))))))))))))))))))))) rfl))
                        · replace hm := bf hm hc486
                          refine Cw.skip ?_
                          refine Cw.seq ?_
                          refine Cw.region ?_
                          refine Lw.r rfl (R.as (v := vI 1) rfl) ?_
                          refine Lw.nil ?_
                          refine Cw.seq ?_
                          refine Cw.region ?_
                          refine Lw.r rfl (R.mv (v := v0_107) rfl) (Lw.r rfl (R.mv (v := vI 1) rfl) ?_)
                          obtain ⟨z487, e488, hm⟩ := ob hm
                          refine Lw.t rfl (T.call rfl (p26 (K := [15])  o472.rd e488)) ?_
                          rintro _ _ ⟨W489, rfl, l489, rfl⟩
                          have a490 : Le LL _ _ := l489.nil
                          have o491 := o461.up l489 rfl
                          have o492 := o462.up l489 rfl
                          have o493 := o463.up l489 rfl
                          have o494 := o464.up l489 rfl
                          have o495 := o465.up l489 rfl
                          have o496 := o466.up l489 rfl
                          have o497 := o467.up l489 rfl
                          have o498 := o468.up l489 rfl
                          have o499 := o469.up l489 rfl
                          have o500 := o470.up l489 rfl
                          have o501 := o471.up l489 rfl
                          have o502 := o472.up l489 rfl
                          have o503 := o473.up l489 rfl
                          have o504 := o474.up l489 rfl
                          have o505 := o475.up l489 rfl
                          have o506 := o476.up l489 rfl
                          have o507 := o477.up l489 rfl
                          have o508 := o478.up l489 rfl
                          have o509 := o479.up l489 rfl
                          have o510 := o480.up l489 rfl
                          have o511 := o481.up l489 rfl
                          have o512 := o482.up l489 rfl
                          have o513 := o483.up l489 rfl
                          have b514 := b484.up l489 rfl
                          have b515 := b485.up l489 rfl
                          refine Lw.r rfl (R.as (v := vI z487) rfl) ?_
                          refine Lw.nil ?_
                          refine Cw.seq ?_
                          refine Cw.seq ?_
                          refine Cw.region ?_
                          refine Lw.r rfl (R.mv (v := vI z487) rfl) (Lw.r rfl (R.lt rfl rfl) ?_)
                          refine Lw.nil ?_
                          refine Cw.cond (b := decide ((z487 : Int) < (0 : Int))) rfl (fun hc516 => ?_) (fun hc516 => ?_)
                          · replace hm := bt hm hc516
                            refine Cw.seq ?_
                            refine Cw.region ?_
                            refine Lw.r rfl (R.as (v := vB false) rfl) ?_
                            refine Lw.nil ?_
                            cases hm
                            exact Cw.ret (ret1 rfl (Res.mk (a2.trans (a7.trans (a17.trans (a21.trans (a27.trans (a36.trans (a42.trans (a53.trans (a68.trans (a78.trans (a92.trans (a108.trans (a125.trans (a145.trans (a163.trans (a181.trans (a204.trans (a223.trans (a247.trans (a269.trans (a288.trans (a312.trans (a334.trans (a357.trans (a381.trans (a408.trans (a432.trans (a460.trans a490)))))))))))))))))))))))))))) rfl))
                          · replace hm := bf hm hc516
                            refine Cw.skip ?_
                            refine Cw.seq ?_
                            refine Cw.seq ?_
                            refine Cw.region ?_
                            refine Lw.r rfl (R.mv (v := vI z487) rfl) (Lw.r rfl (R.mv (v := vI z309.1) rfl) (Lw.r rfl (R.ne rfl rfl) ?_))
                            refine Lw.nil ?_
                            refine Cw.cond (b := ((z487 : Int) != (z309.1 : Int))) rfl (fun hc517 => ?_) (fun hc517 => ?_)
                            · replace hm := bt hm hc517
                              refine Cw.seq ?_
                              refine Cw.region ?_
                              refine Lw.r rfl (R.as (v := vB false) rfl) ?_
                              refine Lw.nil ?_
                              cases hm
                              exact Cw.ret (ret1 rfl (Res.mk (a2.trans (a7.trans (a17.trans (a21.trans (a27.trans (a36.trans (a42.trans (a53.trans (a68.trans (a78.trans (a92.trans (a108.trans (a125.trans (a145.trans (a163.trans (a181.trans (a204.trans (a223.trans (a247.trans (a269.trans (a288.trans (a312.trans (a334.trans (a357.trans (a381.trans (a408.trans (a432.trans (a460.trans a490)))))))))))))))))))))))))))) rfl))
                            · replace hm := bf hm hc517
                              refine Cw.skip ?_
                              refine Cw.seq ?_
                              refine Cw.region ?_
                              refine Lw.r rfl (R.as (v := vB true) rfl) ?_
                              refine Lw.nil ?_
                              cases hm
                              exact Cw.ret (ret1 rfl (Res.mk (a2.trans (a7.trans (a17.trans (a21.trans (a27.trans (a36.trans (a42.trans (a53.trans (a68.trans (a78.trans (a92.trans (a108.trans (a125.trans (a145.trans (a163.trans (a181.trans (a204.trans (a223.trans (a247.trans (a269.trans (a288.trans (a312.trans (a334.trans (a357.trans (a381.trans (a408.trans (a432.trans (a460.trans a490)))))))))))))))))))))))))))) rfl))
                      · refine Cw.region ?_
                        refine Lw.r rfl (R.mv (v := v0_431) rfl) (Lw.r rfl (R.mv (v := v0_41) rfl) ?_)
                        obtain ⟨z518, e519, hm⟩ := ob hm
                        refine Lw.t rfl (T.call rfl (p16 (K := [8, 26])  (f431_0.rd.sub (M := [8, 26]) rfl) (o438.rd.sub (M := [8, 26]) rfl) e519)) ?_
                        rintro _ _ ⟨W520, rfl, l520, rfl⟩
                        have a521 : Le LL _ _ := l520.nil
                        have o522 := o433.up l520 rfl
                        have o523 := o434.up l520 rfl
                        have o524 := o435.up l520 rfl
                        have o525 := o436.up l520 rfl
                        have o526 := o437.up l520 rfl
                        have o527 := o438.up l520 rfl
                        have o528 := o439.up l520 rfl
                        have o529 := o440.up l520 rfl
                        have o530 := o441.up l520 rfl
                        have o531 := o442.up l520 rfl
                        have o532 := o443.up l520 rfl
                        have o533 := o444.up l520 rfl
                        have o534 := o445.up l520 rfl
                        have o535 := o446.up l520 rfl
                        have o536 := o447.up l520 rfl
                        have o537 := o448.up l520 rfl
                        have o538 := o449.up l520 rfl
                        have o539 := o450.up l520 rfl
                        have o540 := o451.up l520 rfl
                        have o541 := o452.up l520 rfl
                        have o542 := o453.up l520 rfl
                        have o543 := o454.up l520 rfl
                        have o544 := f431_0.up l520 rfl
                        have b545 := b455.up l520 rfl
                        have b546 := b456.up l520 rfl
                        refine Lw.r rfl (R.not rfl) (Lw.r rfl (R.mv (v := vB (!z518)) rfl) ?_)
                        refine bsplit (!z518) (fun hc547 => ?_) (fun hc547 => ?_)
                        · replace hm := bt hm hc547
                          refine Lw.pass' hc547 rfl rfl rfl rfl rfl rfl rfl ?_
                          refine Lw.pass' hc547 rfl rfl rfl rfl rfl rfl rfl ?_
                          refine Lw.pass' hc547 rfl rfl rfl rfl rfl rfl rfl ?_
                          refine Lw.r rfl (R.pk hc547 rfl (v := vB true) rfl) ?_
                          refine Lw.nil ?_
                          refine ⟨?_, ⟨true, W520, rfl, l520, rfl, hm⟩⟩
                          iterate 9 (refine Agree.up rfl ?_)
                          exact Agree.refl _
                        · replace hm := bf hm hc547
                          refine Lw.want' hc547 rfl rfl rfl rfl ?_
                          refine Lw.r rfl (R.mv (v := vB z429.2) rfl) ?_
                          refine Lw.want' hc547 rfl rfl rfl rfl ?_
                          refine Lw.r rfl (R.mv (v := vB z39.2) rfl) ?_
                          refine Lw.want' hc547 rfl rfl rfl rfl ?_
                          refine Lw.r rfl (R.bne rfl rfl) (Lw.r rfl (R.pk hc547 rfl (v := vB (z429.2 != z39.2)) rfl) ?_)
                          refine Lw.nil ?_
                          refine ⟨?_, ⟨(z429.2 != z39.2), W520, rfl, l520, rfl, hm⟩⟩
                          iterate 9 (refine Agree.up rfl ?_)
                          exact Agree.refl _
              · refine Cw.region ?_
                refine Lw.r rfl (R.mv (v := vI z266.1) rfl) (Lw.r rfl (R.lt rfl rfl) (Lw.r rfl (R.mv (v := vB (decide ((z266.1 : Int) < (0 : Int)))) rfl) ?_))
                refine bsplit (decide ((z266.1 : Int) < (0 : Int))) (fun hc548 => ?_) (fun hc548 => ?_)
                · replace hm := bt hm hc548
                  refine Lw.pass' hc548 rfl rfl rfl rfl rfl rfl rfl ?_
                  refine Lw.pass' hc548 rfl rfl rfl rfl rfl rfl rfl ?_
                  refine Lw.pass' hc548 rfl rfl rfl rfl rfl rfl rfl ?_
                  refine Lw.pass' hc548 rfl rfl rfl rfl rfl rfl rfl ?_
                  refine Lw.r rfl (R.pk hc548 rfl (v := vB true) rfl) (Lw.r rfl (R.mv (v := vB true) rfl) ?_)
                  refine Lw.pass' rfl rfl rfl rfl rfl rfl rfl rfl ?_
                  refine Lw.pass' rfl rfl rfl rfl rfl rfl rfl rfl ?_
                  refine Lw.pass' rfl rfl rfl rfl rfl rfl rfl rfl ?_
                  refine Lw.r rfl (R.pk rfl rfl (v := vB true) rfl) ?_
                  refine Lw.nil ?_
                  refine ⟨?_, ⟨true, W268, rfl, Le.refl _ _, rfl, hm⟩⟩
                  iterate 13 (refine Agree.up rfl ?_)
                  exact Agree.refl _
                · replace hm := bf hm hc548
                  refine Lw.want' hc548 rfl rfl rfl rfl ?_
                  refine Lw.r rfl (R.mv (v := v0_107) rfl) ?_
                  refine Lw.want' hc548 rfl rfl rfl rfl ?_
                  refine Lw.r rfl (R.mv (v := v0_41) rfl) ?_
                  refine Lw.want' hc548 rfl rfl rfl rfl ?_
                  obtain ⟨z549, e550, hm⟩ := ob hm
                  refine Lw.t rfl (T.call rfl (p16 (K := [8, 15])  (o277.rd.sub (M := [8, 15]) rfl) (o275.rd.sub (M := [8, 15]) rfl) e550)) ?_
                  rintro _ _ ⟨W551, rfl, l551, rfl⟩
                  have a552 : Le LL _ _ := l551.nil
                  have o553 := o270.up l551 rfl
                  have o554 := o271.up l551 rfl
                  have o555 := o272.up l551 rfl
                  have o556 := o273.up l551 rfl
                  have o557 := o274.up l551 rfl
                  have o558 := o275.up l551 rfl
                  have o559 := o276.up l551 rfl
                  have o560 := f268_0.up l551 rfl
                  have o561 := f268_1.up l551 rfl
                  have o562 := f268_2.up l551 rfl
                  have o563 := f268_3.up l551 rfl
                  have o564 := o277.up l551 rfl
                  have o565 := o278.up l551 rfl
                  have o566 := o279.up l551 rfl
                  have o567 := o280.up l551 rfl
                  have o568 := o281.up l551 rfl
                  have o569 := o282.up l551 rfl
                  have b570 := b283.up l551 rfl
                  have b571 := b284.up l551 rfl
                  refine Lw.want' hc548 rfl rfl rfl rfl ?_
                  refine Lw.r rfl (R.not rfl) (Lw.r rfl (R.pk hc548 rfl (v := vB (!z549)) rfl) (Lw.r rfl (R.mv (v := vB (!z549)) rfl) ?_))
                  refine bsplit (!z549) (fun hc572 => ?_) (fun hc572 => ?_)
                  · replace hm := bt hm hc572
                    refine Lw.pass' hc572 rfl rfl rfl rfl rfl rfl rfl ?_
                    refine Lw.pass' hc572 rfl rfl rfl rfl rfl rfl rfl ?_
                    refine Lw.pass' hc572 rfl rfl rfl rfl rfl rfl rfl ?_
                    refine Lw.r rfl (R.pk hc572 rfl (v := vB true) rfl) ?_
                    refine Lw.nil ?_
                    refine ⟨?_, ⟨true, W551, rfl, l551, rfl, hm⟩⟩
                    iterate 13 (refine Agree.up rfl ?_)
                    exact Agree.refl _
                  · replace hm := bf hm hc572
                    refine Lw.want' hc572 rfl rfl rfl rfl ?_
                    refine Lw.r rfl (R.mv (v := vB z105.2) rfl) ?_
                    refine Lw.want' hc572 rfl rfl rfl rfl ?_
                    refine Lw.r rfl (R.mv (v := vB z39.2) rfl) ?_
                    refine Lw.want' hc572 rfl rfl rfl rfl ?_
                    refine Lw.r rfl (R.bne rfl rfl) (Lw.r rfl (R.pk hc572 rfl (v := vB (z105.2 != z39.2)) rfl) ?_)
                    refine Lw.nil ?_
                    refine ⟨?_, ⟨(z105.2 != z39.2), W551, rfl, l551, rfl, hm⟩⟩
                    iterate 13 (refine Agree.up rfl ?_)
                    exact Agree.refl _
      · refine Cw.region ?_
        refine Lw.r rfl (R.mv (v := v0_107) rfl) (Lw.r rfl (R.mv (v := v0_41) rfl) ?_)
        obtain ⟨z573, e574, hm⟩ := ob hm
        refine Lw.t rfl (T.call rfl (p16 (K := [8, 15])  (f107_0.rd.sub (M := [8, 15]) rfl) (o114.rd.sub (M := [8, 15]) rfl) e574)) ?_
        rintro _ _ ⟨W575, rfl, l575, rfl⟩
        have a576 : Le LL _ _ := l575.nil
        have o577 := o109.up l575 rfl
        have o578 := o110.up l575 rfl
        have o579 := o111.up l575 rfl
        have o580 := o112.up l575 rfl
        have o581 := o113.up l575 rfl
        have o582 := o114.up l575 rfl
        have o583 := o115.up l575 rfl
        have o584 := o116.up l575 rfl
        have o585 := o117.up l575 rfl
        have o586 := o118.up l575 rfl
        have o587 := o119.up l575 rfl
        have o588 := f107_0.up l575 rfl
        have b589 := b120.up l575 rfl
        have b590 := b121.up l575 rfl
        refine Lw.r rfl (R.not rfl) (Lw.r rfl (R.mv (v := vB (!z573)) rfl) ?_)
        refine bsplit (!z573) (fun hc591 => ?_) (fun hc591 => ?_)
        · replace hm := bt hm hc591
          refine Lw.pass' hc591 rfl rfl rfl rfl rfl rfl rfl ?_
          refine Lw.pass' hc591 rfl rfl rfl rfl rfl rfl rfl ?_
          refine Lw.pass' hc591 rfl rfl rfl rfl rfl rfl rfl ?_
          refine Lw.r rfl (R.pk hc591 rfl (v := vB true) rfl) ?_
          refine Lw.nil ?_
          refine ⟨?_, ⟨true, W575, rfl, l575, rfl, hm⟩⟩
          iterate 9 (refine Agree.up rfl ?_)
          exact Agree.refl _
        · replace hm := bf hm hc591
          refine Lw.want' hc591 rfl rfl rfl rfl ?_
          refine Lw.r rfl (R.mv (v := vB z105.2) rfl) ?_
          refine Lw.want' hc591 rfl rfl rfl rfl ?_
          refine Lw.r rfl (R.mv (v := vB z39.2) rfl) ?_
          refine Lw.want' hc591 rfl rfl rfl rfl ?_
          refine Lw.r rfl (R.bne rfl rfl) (Lw.r rfl (R.pk hc591 rfl (v := vB (z105.2 != z39.2)) rfl) ?_)
          refine Lw.nil ?_
          refine ⟨?_, ⟨(z105.2 != z39.2), W575, rfl, l575, rfl, hm⟩⟩
          iterate 9 (refine Agree.up rfl ?_)
          exact Agree.refl _

theorem p5 {W : CW} {K : List Nat} {x0 : List Vm.Memo} {v0_ : Value} {x1 : Vm.Memo} {v1_0_ : Value} {v1_1_ : Value} {v1_2_ : Value} {v1_3_ : Value} {r : Bool} (h0 : Rd W K [v0_] x0) (h1 : Rd W K [v1_0_, v1_1_, v1_2_, v1_3_] x1) (hm : Vm.laws_FnExactMemoPut x0 x1 = some r) : CallR Try.prog 5 [v0_, .agg [v1_0_, v1_1_, v1_2_, v1_3_].toArray].toArray W.w (Res W [] fun W' v => v = vB r) :=
  (c5 (V := W.view K []) (h0.view _) (h1.view _) hm).ad (fk 0) fun _ _ e => e

theorem c104 {V : CW} {x0 : List Str} {v0_ : Value} {x1 : List Str} {v1_ : Value} {r : (List (List Int))} (h0 : Rd V [0] [v0_] x0) (h1 : Rd V [0] [v1_] x1) (hm : Vm.spec_l1Table x0 x1 = some r) : CallR Try.prog 104 [v0_, v1_].toArray V.w (Res V LL fun Wf v => ∃ (u0 : Value), v = u0 ∧ OwS Wf LL [] [u0] r) := by
  unfold Vm.spec_l1Table at hm
  obtain ⟨W0, hW0⟩ : ∃ W, W = V := ⟨V, rfl⟩
  subst hW0
  refine CallR.of Try.func104 rfl rfl rfl rfl ?_
  refine Cw.seq ?_
  refine Cw.region ?_
  refine Lw.r rfl (R.as (v := .slice none 0 0) rfl) ?_
  refine Lw.nil ?_
  refine Cw.seq ?_
  refine Cw.region ?_
  refine Lw.t rfl (T.lit0 (α := List Int) 2 []) ?_
  rintro v1 _ ⟨W1, rfl, l1, o1⟩
  have a2 : Le LL _ _ := l1.nil
  refine Lw.r rfl (R.as (v := v1) rfl) ?_
  refine Lw.nil ?_
  refine Cw.seq ?_
  refine Cw.seq ?_
  refine Cw.region ?_
  refine Lw.r rfl (R.as (v := vI 0) rfl) ?_
  refine Lw.nil ?_
  refine Cw.block ?_
  obtain ⟨K8, hK8, hm⟩ := jn_e hm
  refine Cw.loop 10 22 [5, 6] (fun m l w => ∃ (y3 : List (List Int)) (y6 : Int) (v4 : Value) (W7 : CW), W7.w = w ∧ Le [2, 3] W1 W7 ∧ l = [v4, vI y6] ∧ Ow W7 2 [] [v4] y3 ∧ Vm.spec_l1Table_l1 x0 x1 K8 m y3 y6 = some r) (((x0.length : Int) + 1 - 0).toNat + 1) ⟨([] : List (List Int)), 0, v1, W1, rfl, Le.refl _ _, rfl, o1, hm⟩ ?_
  rintro m9 _ _ σ ⟨y3, y6, v4, W7, rfl, l7, rfl, o5, hm⟩
  obtain _ | m9 := m9
  · cases hm
  unfold Vm.spec_l1Table_l1 at hm
  have a10 : Le LL _ _ := l7.sub rfl
  refine Cw.seq ?_
  refine Cw.seq ?_
  refine Cw.region ?_
  have s11 := h0.ul (a2.trans a10)
  refine Lw.r rfl (R.mv (v := vI y6) rfl) (Lw.r rfl (R.mv (v := v0_) rfl) (Lw.r rfl (lenR (xs := x0) s11 rfl) (Lw.r rfl (R.le rfl rfl) ?_)))
  refine Lw.nil ?_
  refine Cw.cond (b := decide ((y6 : Int) ≤ ((x0.length : Int) : Int))) rfl (fun hc12 => ?_) (fun hc12 => ?_)
  · replace hm := bt hm hc12
    refine Cw.skip ?_
    refine Cw.seq ?_
    refine Cw.block ?_
    refine Cw.region ?_
    have s13 := h1.ul (a2.trans a10)
    refine Lw.r rfl (R.mv (v := v4) rfl) (Lw.r rfl (R.mv (v := v1_) rfl) (Lw.r rfl (lenR (xs := x1) s13 rfl) (Lw.r rfl (R.add rfl rfl) ?_)))
    obtain ⟨q14, e15, hm⟩ := ob hm
    refine Lw.t rfl (T.mk (α := Int) 3 [] (n := w64 ((x1.length : Int) + 1)) rfl rfl e15) ?_
    rintro v16 _ ⟨W16, rfl, l16, o16⟩
    have a17 : Le LL _ _ := l16.nil
    have o18 := o5.up l16 rfl
    refine Lw.t rfl (T.bs 4 [v16] (cs := [v16]) (bsc o16.oc) rfl (bsv o16.oc)) ?_
    rintro _ _ ⟨g19, W19, rfl, rfl, l19, b19⟩
    have a20 : Le LL _ _ := l19.nil
    have o21 := o18.up l19 rfl
    have o22 := o16.up l19 rfl
    obtain ⟨q23, e24, hm⟩ := ob hm
    refine Lw.t rfl (T.app1 (α := List Int) (J := [3]) (K' := []) o21 b19 o22.s rfl rfl e24) ?_
    rintro v25 _ ⟨W25, rfl, l25, o25⟩
    have a26 : Le LL _ _ := l25.sub rfl
    have b27 := b19.up l25 rfl
    refine Lw.r rfl (R.as (v := v25) rfl) ?_
    refine Lw.nil ?_
    refine Cw.region ?_
    refine Lw.r rfl (R.mv (v := vI y6) rfl) (Lw.r rfl (R.add rfl rfl) (Lw.r rfl (R.as (v := vI (w64 (y6 + 1))) rfl) ?_))
    refine Lw.nil ?_
    refine ⟨?_, m9, Nat.lt_succ_self m9, ⟨q23, w64 (y6 + 1), v25, W25, rfl, (l7.trans ((l16.sub rfl).trans ((l19.sub rfl).trans l25))), rfl, o25, hm⟩⟩
    iterate 15 (refine Agree.up rfl ?_)
    iterate 2 (refine Agree.up rfl ?_)
    exact Agree.base
  · replace hm := bf hm hc12
    refine Cw.exit ?_
    rw [hK8] at hm
    refine Cw.seq ?_
    refine Cw.seq ?_
    refine Cw.region ?_
    refine Lw.r rfl (R.mv (v := v0_) rfl) (Lw.r rfl (lenR (xs := x0) s11 rfl) (Lw.r rfl (R.sub rfl rfl) (Lw.r rfl (R.as (v := vI (w64 ((x0.length : Int) - 1))) rfl) ?_)))
    refine Lw.nil ?_
    refine Cw.block ?_
    obtain ⟨K33, hK33, hm⟩ := jn_e hm
    refine Cw.loop 26 108 [7, 8] (fun m l w => ∃ (y28 : Int) (y30 : List (List Int)) (j29 : Value) (W32 : CW), W32.w = w ∧ Le [2, 5, 6, 7] W7 W32 ∧ l = [vI y28, j29] ∧ Ow W32 2 [] [v4] y30 ∧ Vm.spec_l1Table_l2 x0 x1 K33 m y28 y30 = some r) (((w64 ((x0.length : Int) - 1)) + 1 - 0).toNat + 1) ⟨w64 ((x0.length : Int) - 1), y3, undef, W7, rfl, Le.refl _ _, rfl, o5, hm⟩ ?_
    rintro m34 _ _ σ ⟨y28, y30, j29, W32, rfl, l32, rfl, o31, hm⟩
    obtain _ | m34 := m34
    · cases hm
    unfold Vm.spec_l1Table_l2 at hm
    have a35 : Le LL _ _ := l32.sub rfl
    refine Cw.seq ?_
    refine Cw.seq ?_
    refine Cw.region ?_
    refine Lw.r rfl (R.mv (v := vI y28) rfl) (Lw.r rfl (R.ge rfl rfl) ?_)
    refine Lw.nil ?_
    refine Cw.cond (b := decide ((0 : Int) ≤ (y28 : Int))) rfl (fun hc36 => ?_) (fun hc36 => ?_)
    · replace hm := bt hm hc36
      refine Cw.skip ?_
      refine Cw.seq ?_
      refine Cw.block ?_
      refine Cw.seq ?_
      refine Cw.region ?_
      have s37 := h1.ul (a2.trans (a10.trans a35))
      refine Lw.r rfl (R.mv (v := v1_) rfl) (Lw.r rfl (lenR (xs := x1) s37 rfl) (Lw.r rfl (R.sub rfl rfl) (Lw.r rfl (R.as (v := vI (w64 ((x1.length : Int) - 1))) rfl) ?_)))
      refine Lw.nil ?_
      refine Cw.block ?_
      obtain ⟨K42, hK42, hm⟩ := jn_e hm
      refine Cw.loop 33 108 [8] (fun m l w => ∃ (y38 : Int) (y39 : List (List Int)) (W41 : CW), W41.w = w ∧ Le [2, 5, 6, 7] W32 W41 ∧ l = [vI y38] ∧ Ow W41 2 [] [v4] y39 ∧ Vm.spec_l1Table_l3 x0 x1 y28 K42 m y38 y39 = some r) (((w64 ((x1.length : Int) - 1)) + 1 - 0).toNat + 1) ⟨w64 ((x1.length : Int) - 1), y30, W32, rfl, Le.refl _ _, rfl, o31, hm⟩ ?_
      rintro m43 _ _ σ ⟨y38, y39, W41, rfl, l41, rfl, o40, hm⟩
      obtain _ | m43 := m43
      · cases hm
      unfold Vm.spec_l1Table_l3 at hm
      have a44 : Le LL _ _ := l41.sub rfl
      refine Cw.seq ?_
      refine Cw.seq ?_
      refine Cw.region ?_
      refine Lw.r rfl (R.mv (v := vI y38) rfl) (Lw.r rfl (R.ge rfl rfl) ?_)
      refine Lw.nil ?_
      refine Cw.cond (b := decide ((0 : Int) ≤ (y38 : Int))) rfl (fun hc45 => ?_) (fun hc45 => ?_)
      · replace hm := bt hm hc45
        refine Cw.skip ?_
        obtain ⟨K49, hK49, hm⟩ := jn_e hm
        refine Cw.join 37 108 [] (fun l w => ∃ (y46 : List (List Int)) (W48 : CW), W48.w = w ∧ Le [2, 5, 6, 7] W41 W48 ∧ l = [] ∧ Ow W48 2 [] [v4] y46 ∧ K49 y46 = some r) ?_ ?_
        · rintro _ _ σ ⟨y46, W48, rfl, l48, rfl, o47, hm⟩
          rw [hK49] at hm
          have a50 : Le LL _ _ := l48.sub rfl
          refine Cw.region ?_
          refine Lw.r rfl (R.mv (v := vI y38) rfl) (Lw.r rfl (R.sub rfl rfl) (Lw.r rfl (R.as (v := vI (w64 (y38 - 1))) rfl) ?_))
          refine Lw.nil ?_
          refine ⟨?_, m43, Nat.lt_succ_self m43, ⟨w64 (y38 - 1), y46, W48, rfl, (l41.trans l48), rfl, o47, hm⟩⟩
          iterate 3 (refine Agree.up rfl ?_)
          refine Agree.ov0 rfl ?_
          iterate 2 (refine Agree.up rfl ?_)
          iterate 1 (refine Agree.up rfl ?_)
          exact Agree.base
        · refine Cw.block ?_
          refine Cw.block ?_
          refine Cw.seq ?_
          refine Cw.draw [] [(0, 0), (1, 0), (2, 0), (3, 1), (4, 0), (5, 0), (6, 0), (7, 1), (8, 0), (9, 0)] mixed (by kernel_rfl) fun W51 l51 => ?_
          have a52 : Le LL _ _ := l51.nil
          have o53 := o40.up l51 rfl
          refine Mw.p rfl rfl (fun _ => R.mv (v := v0_) rfl) (Mw.p rfl rfl (fun _ => R.mv (v := vI y28) rfl) ?_)
          obtain ⟨u54, e55, hm⟩ := ob hm
          have s56 := h0.ul (a2.trans (a10.trans (a35.trans (a44.trans a52))))
          refine Mw.p rfl rfl (fun _ => R.ix (α := Str) s56 e55 rfl rfl rfl) (Mw.q rfl rfl (fun _ c => R.ld rfl rfl (cl_cell (s56.at_ e55).1 rfl (s56.at_ e55).str c)) (Mw.p rfl rfl (fun _ => R.mv (v := v1_) rfl) (Mw.p rfl rfl (fun _ => R.mv (v := vI y38) rfl) ?_)))
          obtain ⟨u57, e58, hm⟩ := ob hm
          have s59 := h1.ul (a2.trans (a10.trans (a35.trans (a44.trans a52))))
          refine Mw.p rfl rfl (fun _ => R.ix (α := Str) s59 e58 rfl rfl rfl) (Mw.q rfl rfl (fun _ c => R.ld rfl rfl (cl_cell (s59.at_ e58).1 rfl (s59.at_ e58).str c)) (Mw.p rfl rfl (fun _ => R.seq rfl rfl) (Mw.p rfl rfl (fun _ => R.as (v := vB (u54 == u57)) rfl) ?_)))
          refine Mw.nil ?_
          refine Cw.cond (b := (u54 == u57)) rfl (fun hc60 => ?_) (fun hc60 => ?_)
          · replace hm := bt hm hc60
            refine Cw.draw [] [(0, 0), (1, 0), (2, 0), (3, 1), (4, 0), (5, 0), (6, 0), (7, 0), (8, 0), (9, 1), (10, 0), (11, 0), (12, 0), (13, 1), (14, 0), (15, 0), (16, 3)] mixed (by kernel_rfl) fun W61 l61 => ?_
            have a62 : Le LL _ _ := l61.nil
            have o63 := o53.up l61 rfl
            refine Mw.p rfl rfl (fun _ => R.mv (v := v4) rfl) (Mw.p rfl rfl (fun _ => R.mv (v := vI y28) rfl) ?_)
            obtain ⟨u64, e65, hm⟩ := ob hm
            refine Mw.p rfl rfl (fun _ => R.ix (α := List Int) o63.rd e65 rfl rfl rfl) ?_
            obtain ⟨v66, c67, r68⟩ := (o63.rd.at_ e65).cell rfl
            refine Mw.q rfl rfl (fun _ c => R.ld rfl rfl (cl_cell (o63.rd.at_ e65).1 rfl c67 c)) (Mw.p rfl rfl (fun _ => R.mv (v := vI y38) rfl) (Mw.p rfl rfl (fun _ => R.mv (v := v4) rfl) (Mw.p rfl rfl (fun _ => R.mv (v := vI y28) rfl) (Mw.p rfl rfl (fun _ => R.add rfl rfl) ?_))))
            obtain ⟨u69, e70, hm⟩ := ob hm
            refine Mw.p rfl rfl (fun _ => R.ix (α := List Int) o63.rd e70 rfl rfl rfl) ?_
            obtain ⟨v71, c72, r73⟩ := (o63.rd.at_ e70).cell rfl
            refine Mw.q rfl rfl (fun _ c => R.ld rfl rfl (cl_cell (o63.rd.at_ e70).1 rfl c72 c)) (Mw.p rfl rfl (fun _ => R.mv (v := vI y38) rfl) (Mw.p rfl rfl (fun _ => R.add rfl rfl) ?_))
            obtain ⟨u74, e75, hm⟩ := ob hm
            refine Mw.p rfl rfl (fun _ => R.ix (α := Int) r73 e75 rfl rfl rfl) (Mw.q rfl rfl (fun _ c => R.ld rfl rfl (cl_cell (r73.at_ e75).1 rfl (r73.at_ e75).int c)) (Mw.p rfl rfl (fun _ => R.add rfl rfl) ?_))
            obtain ⟨u76, e77, hm⟩ := ob hm
            refine Mw.p rfl rfl (fun _ => R.ix (α := Int) r68 e77 rfl rfl rfl) ?_
            obtain ⟨W78, ew78, l78, o78, gb78⟩ := Ow.lend (α := List Int) (β := List Int) (j := 5) (jf := 0) o63 e65 (by rw [h_add0]; exact c67) rfl
            rw [← ew78]
            have a79 : Le LL _ _ := l78.sub rfl
            obtain ⟨q81, e82, hm⟩ := ob hm
            refine Mw.lu rfl (T.stS (K' := []) o78 (rdI _) e82 rfl rfl rfl) ?_
            rintro _ _ ⟨W80, rfl, l80, o80⟩
            have a83 : Le LL _ _ := l80.sub rfl
            obtain ⟨W85, ew85, l85, q85, eq85, o85⟩ := gb78 _ _ l80 o80
            obtain ⟨q85_, eqm85, hm⟩ := ob hm
            obtain rfl : q85_ = q85 := Option.some.inj (eqm85.symm.trans eq85)
            rw [← ew85]
            have a86 : Le LL _ _ := l85.sub rfl
            refine Mw.nil ?_
            refine ⟨?_, ⟨q85_, W85, rfl, ((l51.sub rfl).trans ((l61.sub rfl).trans ((l78.sub rfl).trans ((l80.sub rfl).trans (l85.sub rfl))))), rfl, o85, hm⟩⟩
            iterate 26 (refine Agree.up rfl ?_)
            exact Agree.refl _
          · replace hm := bf hm hc60
            refine Cw.seq ?_
            refine Cw.draw [] [(0, 0), (1, 0), (2, 0), (3, 0), (4, 1), (5, 0), (6, 0), (7, 1), (8, 0), (9, 0), (10, 0), (11, 1), (12, 0), (13, 0), (14, 0), (15, 1), (16, 0), (17, 0)] mixed (by kernel_rfl) fun W87 l87 => ?_
            have a88 : Le LL _ _ := l87.nil
            have o89 := o53.up l87 rfl
            refine Mw.p rfl rfl (fun _ => R.mv (v := v4) rfl) (Mw.p rfl rfl (fun _ => R.mv (v := vI y28) rfl) (Mw.p rfl rfl (fun _ => R.add rfl rfl) ?_))
            obtain ⟨u90, e91, hm⟩ := ob hm
            refine Mw.p rfl rfl (fun _ => R.ix (α := List Int) o89.rd e91 rfl rfl rfl) ?_
            obtain ⟨v92, c93, r94⟩ := (o89.rd.at_ e91).cell rfl
            refine Mw.q rfl rfl (fun _ c => R.ld rfl rfl (cl_cell (o89.rd.at_ e91).1 rfl c93 c)) (Mw.p rfl rfl (fun _ => R.mv (v := vI y38) rfl) ?_)
            obtain ⟨u95, e96, hm⟩ := ob hm
            refine Mw.p rfl rfl (fun _ => R.ix (α := Int) r94 e96 rfl rfl rfl) (Mw.q rfl rfl (fun _ c => R.ld rfl rfl (cl_cell (r94.at_ e96).1 rfl (r94.at_ e96).int c)) (Mw.p rfl rfl (fun _ => R.mv (v := v4) rfl) (Mw.p rfl rfl (fun _ => R.mv (v := vI y28) rfl) ?_)))
            obtain ⟨u97, e98, hm⟩ := ob hm
            refine Mw.p rfl rfl (fun _ => R.ix (α := List Int) o89.rd e98 rfl rfl rfl) ?_
            obtain ⟨v99, c100, r101⟩ := (o89.rd.at_ e98).cell rfl
            refine Mw.q rfl rfl (fun _ c => R.ld rfl rfl (cl_cell (o89.rd.at_ e98).1 rfl c100 c)) (Mw.p rfl rfl (fun _ => R.mv (v := vI y38) rfl) (Mw.p rfl rfl (fun _ => R.add rfl rfl) ?_))
            obtain ⟨u102, e103, hm⟩ := ob hm
            refine Mw.p rfl rfl (fun _ => R.ix (α := Int) r101 e103 rfl rfl rfl) (Mw.q rfl rfl (fun _ c => R.ld rfl rfl (cl_cell (r101.at_ e103).1 rfl (r101.at_ e103).int c)) (Mw.p rfl rfl (fun _ => R.ge rfl rfl) (Mw.p rfl rfl (fun _ => R.as (v := vB (decide ((u102 : Int) ≤ (u95 : Int)))) rfl) ?_)))
            refine Mw.nil ?_
            refine Cw.cond (b := decide ((u102 : Int) ≤ (u95 : Int))) rfl (fun hc104 => ?_) (fun hc104 => ?_)
            · replace hm := bt hm hc104
              refine Cw.draw [] [(0, 0), (1, 0), (2, 0), (3, 1), (4, 0), (5, 0), (6, 0), (7, 0), (8, 0), (9, 1), (10, 0), (11, 0), (12, 1), (13, 0), (14, 3)] mixed (by kernel_rfl) fun W105 l105 => ?_
              have a106 : Le LL _ _ := l105.nil
              have o107 := o89.up l105 rfl
              refine Mw.p rfl rfl (fun _ => R.mv (v := v4) rfl) (Mw.p rfl rfl (fun _ => R.mv (v := vI y28) rfl) ?_)
              obtain ⟨u108, e109, hm⟩ := ob hm
              refine Mw.p rfl rfl (fun _ => R.ix (α := List Int) o107.rd e109 rfl rfl rfl) ?_
              obtain ⟨v110, c111, r112⟩ := (o107.rd.at_ e109).cell rfl
              refine Mw.q rfl rfl (fun _ c => R.ld rfl rfl (cl_cell (o107.rd.at_ e109).1 rfl c111 c)) (Mw.p rfl rfl (fun _ => R.mv (v := vI y38) rfl) (Mw.p rfl rfl (fun _ => R.mv (v := v4) rfl) (Mw.p rfl rfl (fun _ => R.mv (v := vI y28) rfl) (Mw.p rfl rfl (fun _ => R.add rfl rfl) ?_))))
              obtain ⟨u113, e114, hm⟩ := ob hm
              refine Mw.p rfl rfl (fun _ => R.ix (α := List Int) o107.rd e114 rfl rfl rfl) ?_
              obtain ⟨v115, c116, r117⟩ := (o107.rd.at_ e114).cell rfl
              refine Mw.q rfl rfl (fun _ c => R.ld rfl rfl (cl_cell (o107.rd.at_ e114).1 rfl c116 c)) (Mw.p rfl rfl (fun _ => R.mv (v := vI y38) rfl) ?_)
              obtain ⟨u118, e119, hm⟩ := ob hm
              refine Mw.p rfl rfl (fun _ => R.ix (α := Int) r117 e119 rfl rfl rfl) (Mw.q rfl rfl (fun _ c => R.ld rfl rfl (cl_cell (r117.at_ e119).1 rfl (r117.at_ e119).int c)) ?_)
              obtain ⟨u120, e121, hm⟩ := ob hm
              refine Mw.p rfl rfl (fun _ => R.ix (α := Int) r112 e121 rfl rfl rfl) ?_
              obtain ⟨W122, ew122, l122, o122, gb122⟩ := Ow.lend (α := List Int) (β := List Int) (j := 6) (jf := 0) o107 e109 (by rw [h_add0]; exact c111) rfl
              rw [← ew122]
              have a123 : Le LL _ _ := l122.sub rfl
              obtain ⟨q125, e126, hm⟩ := ob hm
              refine Mw.lu rfl (T.stS (K' := []) o122 (rdI _) e126 rfl rfl rfl) ?_
              rintro _ _ ⟨W124, rfl, l124, o124⟩
              have a127 : Le LL _ _ := l124.sub rfl
              obtain ⟨W129, ew129, l129, q129, eq129, o129⟩ := gb122 _ _ l124 o124
              obtain ⟨q129_, eqm129, hm⟩ := ob hm
              obtain rfl : q129_ = q129 := Option.some.inj (eqm129.symm.trans eq129)
              rw [← ew129]
              have a130 : Le LL _ _ := l129.sub rfl
              refine Mw.nil ?_
              refine ⟨?_, ⟨q129_, W129, rfl, ((l51.sub rfl).trans ((l87.sub rfl).trans ((l105.sub rfl).trans ((l122.sub rfl).trans ((l124.sub rfl).trans (l129.sub rfl)))))), rfl, o129, hm⟩⟩
              iterate 42 (refine Agree.up rfl ?_)
              exact Agree.refl _
            · replace hm := bf hm hc104
              refine Cw.draw [] [(0, 0), (1, 0), (2, 0), (3, 1), (4, 0), (5, 0), (6, 0), (7, 0), (8, 1), (9, 0), (10, 0), (11, 0), (12, 1), (13, 0), (14, 3)] mixed (by kernel_rfl) fun W131 l131 => ?_
              have a132 : Le LL _ _ := l131.nil
              have o133 := o89.up l131 rfl
              refine Mw.p rfl rfl (fun _ => R.mv (v := v4) rfl) (Mw.p rfl rfl (fun _ => R.mv (v := vI y28) rfl) ?_)
              obtain ⟨u134, e135, hm⟩ := ob hm
              refine Mw.p rfl rfl (fun _ => R.ix (α := List Int) o133.rd e135 rfl rfl rfl) ?_
              obtain ⟨v136, c137, r138⟩ := (o133.rd.at_ e135).cell rfl
              refine Mw.q rfl rfl (fun _ c => R.ld rfl rfl (cl_cell (o133.rd.at_ e135).1 rfl c137 c)) (Mw.p rfl rfl (fun _ => R.mv (v := vI y38) rfl) (Mw.p rfl rfl (fun _ => R.mv (v := v4) rfl) (Mw.p rfl rfl (fun _ => R.mv (v := vI y28) rfl) ?_)))
              obtain ⟨u139, e140, hm⟩ := ob hm
              refine Mw.p rfl rfl (fun _ => R.ix (α := List Int) o133.rd e140 rfl rfl rfl) ?_
              obtain ⟨v141, c142, r143⟩ := (o133.rd.at_ e140).cell rfl
              refine Mw.q rfl rfl (fun _ c => R.ld rfl rfl (cl_cell (o133.rd.at_ e140).1 rfl c142 c)) (Mw.p rfl rfl (fun _ => R.mv (v := vI y38) rfl) (Mw.p rfl rfl (fun _ => R.add rfl rfl) ?_))
              obtain ⟨u144, e145, hm⟩ := ob hm
              refine Mw.p rfl rfl (fun _ => R.ix (α := Int) r143 e145 rfl rfl rfl) (Mw.q rfl rfl (fun _ c => R.ld rfl rfl (cl_cell (r143.at_ e145).1 rfl (r143.at_ e145).int c)) ?_)
              obtain ⟨u146, e147, hm⟩ := ob hm
              refine Mw.p rfl rfl (fun _ => R.ix (α := Int) r138 e147 rfl rfl rfl) ?_
              obtain ⟨W148, ew148, l148, o148, gb148⟩ := Ow.lend (α := List Int) (β := List Int) (j := 7) (jf := 0) o133 e135 (by rw [h_add0]; exact c137) rfl
              rw [← ew148]
              have a149 : Le LL _ _ := l148.sub rfl
              obtain ⟨q151, e152, hm⟩ := ob hm
              refine Mw.lu rfl (T.stS (K' := []) o148 (rdI _) e152 rfl rfl rfl) ?_
              rintro _ _ ⟨W150, rfl, l150, o150⟩
              have a153 : Le LL _ _ := l150.sub rfl
              obtain ⟨W155, ew155, l155, q155, eq155, o155⟩ := gb148 _ _ l150 o150
              obtain ⟨q155_, eqm155, hm⟩ := ob hm
              obtain rfl : q155_ = q155 := Option.some.inj (eqm155.symm.trans eq155)
              rw [← ew155]
              have a156 : Le LL _ _ := l155.sub rfl
              refine Mw.nil ?_
              refine ⟨?_, ⟨q155_, W155, rfl, ((l51.sub rfl).trans ((l87.sub rfl).trans ((l131.sub rfl).trans ((l148.sub rfl).trans ((l150.sub rfl).trans (l155.sub rfl)))))), rfl, o155, hm⟩⟩
              iterate 42 (refine Agree.up rfl ?_)
              exact Agree.refl _
      · replace hm := bf hm hc45
        refine Cw.exit ?_
        rw [hK42] at hm
        refine Cw.region ?_
        refine Lw.r rfl (R.mv (v := vI y28) rfl) (Lw.r rfl (R.sub rfl rfl) (Lw.r rfl (R.as (v := vI (w64 (y28 - 1))) rfl) ?_))
        refine Lw.nil ?_
        refine ⟨?_, m34, Nat.lt_succ_self m34, ⟨w64 (y28 - 1), y39, vI y38, W41, rfl, (l32.trans l41), rfl, o40, hm⟩⟩
        iterate 5 (refine Agree.up rfl ?_)
        iterate 1 (refine Agree.up rfl ?_)
        refine Agree.ov0 rfl ?_
        iterate 6 (refine Agree.up rfl ?_)
        iterate 2 (refine Agree.up rfl ?_)
        exact Agree.base
    · replace hm := bf hm hc36
      refine Cw.exit ?_
      rw [hK33] at hm
      refine Cw.seq ?_
      refine Cw.region ?_
      refine Lw.r rfl (R.mv (v := v4) rfl) (Lw.r rfl (R.as (v := v4) rfl) ?_)
      refine Lw.nil ?_
      cases hm
      exact Cw.ret (ret1 rfl (Res.mk (a2.trans (a10.trans a35)) ⟨v4, rfl, o31.s.sub rfl rfl⟩))

theorem p104 {W : CW} {K : List Nat} {x0 : List Str} {v0_ : Value} {x1 : List Str} {v1_ : Value} {k0 : Nat} {r : (List (List Int))} (h0 : Rd W K [v0_] x0) (h1 : Rd W K [v1_] x1) (hm : Vm.spec_l1Table x0 x1 = some r) : CallR Try.prog 104 [v0_, v1_].toArray W.w (Res W [] fun W' v => ∃ (u0 : Value), v = u0 ∧ Ow W' k0 [] [u0] r) :=
  (c104 (V := W.view K []) (h0.view _) (h1.view _) hm).ad (fk k0) fun _ _ ⟨u0, e, f0⟩ => ⟨u0, e, f0.back (fk_LL _)⟩

theorem c93 {V : CW} {x0 : List Str} {v0_ : Value} {x1 : List Str} {v1_ : Value} {r : (List Int)} (h0 : Rd V [0] [v0_] x0) (h1 : Rd V [0] [v1_] x1) (hm : Vm.spec_l1Match x0 x1 = some r) : CallR Try.prog 93 [v0_, v1_].toArray V.w (Res V LL fun Wf v => ∃ (u0 : Value), v = u0 ∧ OwS Wf LL [] [u0] r) := by
  unfold Vm.spec_l1Match at hm
  obtain ⟨W0, hW0⟩ : ∃ W, W = V := ⟨V, rfl⟩
  subst hW0
  refine CallR.of Try.func93 rfl rfl rfl rfl ?_
  refine Cw.seq ?_
  refine Cw.region ?_
  refine Lw.r rfl (R.as (v := .slice none 0 0) rfl) ?_
  refine Lw.nil ?_
  refine Cw.seq ?_
  refine Cw.region ?_
  refine Lw.r rfl (R.mv (v := v0_) rfl) (Lw.r rfl (R.mv (v := v1_) rfl) ?_)
  obtain ⟨z1, e2, hm⟩ := ob hm
  refine Lw.t rfl (T.call rfl (p104 (K := [0]) (k0 := 2) h0 h1 e2)) ?_
  rintro v0_3 _ ⟨W3, rfl, l3, ⟨_, rfl, f3_0⟩⟩
  have a4 : Le LL _ _ := l3.nil
  refine Lw.r rfl (R.as (v := v0_3) rfl) ?_
  refine Lw.nil ?_
  refine Cw.seq ?_
  refine Cw.region ?_
  refine Lw.t rfl (T.lit0 (α := Int) 3 []) ?_
  rintro v5 _ ⟨W5, rfl, l5, o5⟩
  have a6 : Le LL _ _ := l5.nil
  have o7 := f3_0.up l5 rfl
  refine Lw.r rfl (R.as (v := v5) rfl) ?_
  refine Lw.nil ?_
  refine Cw.seq ?_
  refine Cw.region ?_
  refine Lw.r rfl (R.as (v := vI 0) rfl) ?_
  refine Lw.nil ?_
  refine Cw.seq ?_
  refine Cw.seq ?_
  refine Cw.region ?_
  refine Lw.r rfl (R.as (v := vI 0) rfl) ?_
  refine Lw.nil ?_
  refine Cw.block ?_
  obtain ⟨K14, hK14, hm⟩ := jn_e hm
  refine Cw.loop 13 71 [6, 7, 8] (fun m l w => ∃ (y8 : List Int) (y11 : Int) (y12 : Int) (v9 : Value) (W13 : CW), W13.w = w ∧ Le [3] W5 W13 ∧ l = [v9, vI y11, vI y12] ∧ Ow W13 3 [] [v9] y8 ∧ Vm.spec_l1Match_l1 x0 x1 z1 K14 m y8 y11 y12 = some r) (x0.length + x1.length + 1) ⟨([] : List Int), 0, 0, v5, W5, rfl, Le.refl _ _, rfl, o5, hm⟩ ?_
  rintro m15 _ _ σ ⟨y8, y11, y12, v9, W13, rfl, l13, rfl, o10, hm⟩
  obtain _ | m15 := m15
  · cases hm
  unfold Vm.spec_l1Match_l1 at hm
  have a16 : Le LL _ _ := l13.sub rfl
  have o17 := o7.up l13 rfl
  refine Cw.seq ?_
  refine Cw.seq ?_
  refine Cw.region ?_
  have s18 := h0.ul (a4.trans (a6.trans a16))
  refine Lw.r rfl (R.mv (v := vI y12) rfl) (Lw.r rfl (R.mv (v := v0_) rfl) (Lw.r rfl (lenR (xs := x0) s18 rfl) (Lw.r rfl (R.lt rfl rfl) ?_)))
  refine Lw.nil ?_
  refine Cw.cond (b := decide ((y12 : Int) < ((x0.length : Int) : Int))) rfl (fun hc19 => ?_) (fun hc19 => ?_)
  · replace hm := bt hm hc19
    refine Cw.skip ?_
    refine Cw.block ?_
    refine Cw.block ?_
    obtain ⟨K22, hK22, hm⟩ := jn_e hm
    refine Cw.join 19 34 [19] (fun l w => ∃ (y20 : Bool) (W21 : CW), W21.w = w ∧ Le [] W13 W21 ∧ l = [vB y20] ∧ K22 y20 = some r) ?_ ?_
    · rintro _ _ σ ⟨y20, W21, rfl, l21, rfl, hm⟩
      rw [hK22] at hm
      have a23 : Le LL _ _ := l21.nil
      have o24 := o17.up l21 rfl
      have o25 := o10.up l21 rfl
      refine Cw.cond (b := y20) rfl (fun hc26 => ?_) (fun hc26 => ?_)
      · replace hm := bt hm hc26
        refine Cw.seq ?_
        refine Cw.region ?_
        refine Lw.r rfl (R.mv (v := v9) rfl) (Lw.r rfl (R.mv (v := vI y11) rfl) ?_)
        refine Lw.t rfl (T.bs 4 [vI y11] (cs := [vI y11]) rfl rfl (bsv rfl)) ?_
        rintro _ _ ⟨g27, W27, rfl, rfl, l27, b27⟩
        have a28 : Le LL _ _ := l27.nil
        have o29 := o24.up l27 rfl
        have o30 := o25.up l27 rfl
        obtain ⟨q31, e32, hm⟩ := ob hm
        refine Lw.t rfl (T.app1S (α := Int) (K' := []) o30 b27 (rdI _) rfl rfl e32) ?_
        rintro v33 _ ⟨W33, rfl, l33, o33⟩
        have a34 : Le LL _ _ := l33.sub rfl
        have o35 := o29.up l33 rfl
        have b36 := b27.up l33 rfl
        refine Lw.r rfl (R.as (v := v33) rfl) ?_
        refine Lw.nil ?_
        refine Cw.seq ?_
        refine Cw.region ?_
        refine Lw.r rfl (R.mv (v := vI y12) rfl) (Lw.r rfl (R.add rfl rfl) (Lw.r rfl (R.as (v := vI (w64 (y12 + 1))) rfl) ?_))
        refine Lw.nil ?_
        refine Cw.region ?_
        refine Lw.r rfl (R.mv (v := vI y11) rfl) (Lw.r rfl (R.add rfl rfl) (Lw.r rfl (R.as (v := vI (w64 (y11 + 1))) rfl) ?_))
        refine Lw.nil ?_
        refine ⟨?_, m15, Nat.lt_succ_self m15, ⟨q31, w64 (y11 + 1), w64 (y12 + 1), v33, W33, rfl, (l13.trans ((l21.sub rfl).trans ((l27.sub rfl).trans l33))), rfl, o33, hm⟩⟩
        iterate 11 (refine Agree.up rfl ?_)
        iterate 1 (refine Agree.up rfl ?_)
        refine Agree.ov0 rfl ?_
        iterate 4 (refine Agree.up rfl ?_)
        iterate 3 (refine Agree.up rfl ?_)
        exact Agree.base
      · replace hm := bf hm hc26
        obtain ⟨K39, hK39, hm⟩ := jn_e hm
        refine Cw.join 43 66 [43] (fun l w => ∃ (y37 : Bool) (W38 : CW), W38.w = w ∧ Le [] W21 W38 ∧ l = [vB y37] ∧ K39 y37 = some r) ?_ ?_
        · rintro _ _ σ ⟨y37, W38, rfl, l38, rfl, hm⟩
          rw [hK39] at hm
          have a40 : Le LL _ _ := l38.nil
          have o41 := o24.up l38 rfl
          have o42 := o25.up l38 rfl
          refine Cw.cond (b := y37) rfl (fun hc43 => ?_) (fun hc43 => ?_)
          · replace hm := bt hm hc43
            refine Cw.seq ?_
            refine Cw.region ?_
            refine Lw.r rfl (R.mv (v := v9) rfl) ?_
            refine Lw.t rfl (T.bs 5 [vI (-1)] (cs := [vI (-1)]) rfl rfl (bsv rfl)) ?_
            rintro _ _ ⟨g44, W44, rfl, rfl, l44, b44⟩
            have a45 : Le LL _ _ := l44.nil
            have o46 := o41.up l44 rfl
            have o47 := o42.up l44 rfl
            obtain ⟨q48, e49, hm⟩ := ob hm
            refine Lw.t rfl (T.app1S (α := Int) (K' := []) o47 b44 (rdI _) rfl rfl e49) ?_
            rintro v50 _ ⟨W50, rfl, l50, o50⟩
            have a51 : Le LL _ _ := l50.sub rfl
            have o52 := o46.up l50 rfl
            have b53 := b44.up l50 rfl
            refine Lw.r rfl (R.as (v := v50) rfl) ?_
            refine Lw.nil ?_
            refine Cw.region ?_
            refine Lw.r rfl (R.mv (v := vI y12) rfl) (Lw.r rfl (R.add rfl rfl) (Lw.r rfl (R.as (v := vI (w64 (y12 + 1))) rfl) ?_))
            refine Lw.nil ?_
            refine ⟨?_, m15, Nat.lt_succ_self m15, ⟨q48, y11, w64 (y12 + 1), v50, W50, rfl, (l13.trans ((l21.sub rfl).trans ((l38.sub rfl).trans ((l44.sub rfl).trans l50)))), rfl, o50, hm⟩⟩
            iterate 7 (refine Agree.up rfl ?_)
            iterate 1 (refine Agree.up rfl ?_)
            refine Agree.ov0 rfl ?_
            iterate 1 (refine Agree.up rfl ?_)
            refine Agree.ov0 rfl ?_
            iterate 4 (refine Agree.up rfl ?_)
            iterate 3 (refine Agree.up rfl ?_)
            exact Agree.base
          · replace hm := bf hm hc43
            refine Cw.region ?_
            refine Lw.r rfl (R.mv (v := vI y11) rfl) (Lw.r rfl (R.add rfl rfl) (Lw.r rfl (R.as (v := vI (w64 (y11 + 1))) rfl) ?_))
            refine Lw.nil ?_
            refine ⟨?_, m15, Nat.lt_succ_self m15, ⟨y8, w64 (y11 + 1), y12, v9, W38, rfl, (l13.trans ((l21.sub rfl).trans (l38.sub rfl))), rfl, o42, hm⟩⟩
            iterate 3 (refine Agree.up rfl ?_)
            iterate 1 (refine Agree.up rfl ?_)
            refine Agree.ov0 rfl ?_
            iterate 1 (refine Agree.up rfl ?_)
            refine Agree.ov0 rfl ?_
            iterate 4 (refine Agree.up rfl ?_)
            iterate 3 (refine Agree.up rfl ?_)
            exact Agree.base
        · refine Cw.draw [] [(0, 0), (1, 0), (2, 0), (3, 0), (4, 0), (5, 0), (6, 0), (7, 0), (8, 0), (9, 1), (10, 0), (11, 0), (12, 1), (13, 0), (14, 0), (15, 0), (16, 1), (17, 0), (18, 0), (19, 0), (20, 1), (21, 0), (22, 0), (23, 0)] mixed (by kernel_rfl) fun W54 l54 => ?_
          have a55 : Le LL _ _ := l54.nil
          have o56 := o24.up l54 rfl
          have o57 := o25.up l54 rfl
          have s58 := h1.ul (a4.trans (a6.trans (a16.trans (a23.trans a55))))
          refine Mw.p rfl rfl (fun _ => R.mv (v := vI y11) rfl) (Mw.p rfl rfl (fun _ => R.mv (v := v1_) rfl) (Mw.p rfl rfl (fun _ => lenR (xs := x1) s58 rfl) (Mw.p rfl rfl (fun _ => R.ge rfl rfl) (Mw.p rfl rfl (fun _ => R.mv (v := vB (decide (((x1.length : Int) : Int) ≤ (y11 : Int)))) rfl) ?_))))
          refine bsplit (decide (((x1.length : Int) : Int) ≤ (y11 : Int))) (fun hc59 => ?_) (fun hc59 => ?_)
          · replace hm := bt hm hc59
            refine Mw.pass' hc59 rfl rfl rfl rfl rfl rfl ?_
            refine Mw.pass' hc59 rfl rfl rfl rfl rfl rfl ?_
            refine Mw.pass' hc59 rfl rfl rfl rfl rfl rfl ?_
            refine Mw.pass' hc59 rfl rfl rfl rfl rfl rfl ?_
            refine Mw.pass' hc59 rfl rfl rfl rfl rfl rfl ?_
            refine Mw.pass' hc59 rfl rfl rfl rfl rfl rfl ?_
            refine Mw.pass' hc59 rfl rfl rfl rfl rfl rfl ?_
            refine Mw.pass' hc59 rfl rfl rfl rfl rfl rfl ?_
            refine Mw.pass' hc59 rfl rfl rfl rfl rfl rfl ?_
            refine Mw.pass' hc59 rfl rfl rfl rfl rfl rfl ?_
            refine Mw.pass' hc59 rfl rfl rfl rfl rfl rfl ?_
            refine Mw.pass' hc59 rfl rfl rfl rfl rfl rfl ?_
            refine Mw.pass' hc59 rfl rfl rfl rfl rfl rfl ?_
            refine Mw.pass' hc59 rfl rfl rfl rfl rfl rfl ?_
            refine Mw.pass' hc59 rfl rfl rfl rfl rfl rfl ?_
            refine Mw.pass' hc59 rfl rfl rfl rfl rfl rfl ?_
            refine Mw.pass' hc59 rfl rfl rfl rfl rfl rfl ?_
            refine Mw.p rfl rfl (fun _ => R.pk hc59 rfl (v := vB true) rfl) (Mw.p rfl rfl (fun _ => R.as (v := vB true) rfl) ?_)
            refine Mw.nil ?_
            refine ⟨?_, ⟨true, W54, rfl, l54, rfl, hm⟩⟩
            iterate 24 (refine Agree.up rfl ?_)
            exact Agree.refl _
          · replace hm := bf hm hc59
            refine Mw.gp hc59 rfl rfl rfl rfl rfl (fun _ => R.mv (v := v0_3) rfl) (Mw.gp hc59 rfl rfl rfl rfl rfl (fun _ => R.mv (v := vI y12) rfl) (Mw.gp hc59 rfl rfl rfl rfl rfl (fun _ => R.add rfl rfl) ?_))
            obtain ⟨u60, e61, hm⟩ := ob hm
            refine Mw.gp hc59 rfl rfl rfl rfl rfl (fun _ => R.ix (α := List Int) o56.rd e61 rfl rfl rfl) ?_
            obtain ⟨v62, c63, r64⟩ := (o56.rd.at_ e61).cell rfl
            refine Mw.gq hc59 rfl rfl rfl rfl rfl (fun _ c => R.ld rfl rfl (cl_cell (o56.rd.at_ e61).1 rfl c63 c)) (Mw.gp hc59 rfl rfl rfl rfl rfl (fun _ => R.mv (v := vI y11) rfl) ?_)
            obtain ⟨u65, e66, hm⟩ := ob hm
            refine Mw.gp hc59 rfl rfl rfl rfl rfl (fun _ => R.ix (α := Int) r64 e66 rfl rfl rfl) (Mw.gq hc59 rfl rfl rfl rfl rfl (fun _ c => R.ld rfl rfl (cl_cell (r64.at_ e66).1 rfl (r64.at_ e66).int c)) (Mw.gp hc59 rfl rfl rfl rfl rfl (fun _ => R.mv (v := v0_3) rfl) (Mw.gp hc59 rfl rfl rfl rfl rfl (fun _ => R.mv (v := vI y12) rfl) ?_)))
            obtain ⟨u67, e68, hm⟩ := ob hm
            refine Mw.gp hc59 rfl rfl rfl rfl rfl (fun _ => R.ix (α := List Int) o56.rd e68 rfl rfl rfl) ?_
            obtain ⟨v69, c70, r71⟩ := (o56.rd.at_ e68).cell rfl
            refine Mw.gq hc59 rfl rfl rfl rfl rfl (fun _ c => R.ld rfl rfl (cl_cell (o56.rd.at_ e68).1 rfl c70 c)) (Mw.gp hc59 rfl rfl rfl rfl rfl (fun _ => R.mv (v := vI y11) rfl) (Mw.gp hc59 rfl rfl rfl rfl rfl (fun _ => R.add rfl rfl) ?_))
            obtain ⟨u72, e73, hm⟩ := ob hm
            refine Mw.gp hc59 rfl rfl rfl rfl rfl (fun _ => R.ix (α := Int) r71 e73 rfl rfl rfl) (Mw.gq hc59 rfl rfl rfl rfl rfl (fun _ c => R.ld rfl rfl (cl_cell (r71.at_ e73).1 rfl (r71.at_ e73).int c)) (Mw.gp hc59 rfl rfl rfl rfl rfl (fun _ => R.ge rfl rfl) (Mw.p rfl rfl (fun _ => R.pk hc59 rfl (v := vB (decide ((u72 : Int) ≤ (u65 : Int)))) rfl) (Mw.p rfl rfl (fun _ => R.as (v := vB (decide ((u72 : Int) ≤ (u65 : Int)))) rfl) ?_))))
            refine Mw.nil ?_
            refine ⟨?_, ⟨decide ((u72 : Int) ≤ (u65 : Int)), W54, rfl, l54, rfl, hm⟩⟩
            iterate 24 (refine Agree.up rfl ?_)
            exact Agree.refl _
    · refine Cw.draw [] [(0, 0), (1, 0), (2, 0), (3, 0), (4, 0), (5, 0), (6, 0), (7, 0), (8, 1), (9, 0), (10, 0), (11, 0), (12, 1), (13, 0), (14, 0), (15, 0)] mixed (by kernel_rfl) fun W74 l74 => ?_
      have a75 : Le LL _ _ := l74.nil
      have o76 := o17.up l74 rfl
      have o77 := o10.up l74 rfl
      have s78 := h1.ul (a4.trans (a6.trans (a16.trans a75)))
      refine Mw.p rfl rfl (fun _ => R.mv (v := vI y11) rfl) (Mw.p rfl rfl (fun _ => R.mv (v := v1_) rfl) (Mw.p rfl rfl (fun _ => lenR (xs := x1) s78 rfl) (Mw.p rfl rfl (fun _ => R.lt rfl rfl) (Mw.p rfl rfl (fun _ => R.mv (v := vB (decide ((y11 : Int) < ((x1.length : Int) : Int)))) rfl) ?_))))
      refine bsplit (decide ((y11 : Int) < ((x1.length : Int) : Int))) (fun hc79 => ?_) (fun hc79 => ?_)
      · replace hm := bt hm hc79
        refine Mw.gp hc79 rfl rfl rfl rfl rfl (fun _ => R.mv (v := v0_) rfl) (Mw.gp hc79 rfl rfl rfl rfl rfl (fun _ => R.mv (v := vI y12) rfl) ?_)
        obtain ⟨u80, e81, hm⟩ := ob hm
        have s82 := h0.ul (a4.trans (a6.trans (a16.trans a75)))
        refine Mw.gp hc79 rfl rfl rfl rfl rfl (fun _ => R.ix (α := Str) s82 e81 rfl rfl rfl) (Mw.gq hc79 rfl rfl rfl rfl rfl (fun _ c => R.ld rfl rfl (cl_cell (s82.at_ e81).1 rfl (s82.at_ e81).str c)) (Mw.gp hc79 rfl rfl rfl rfl rfl (fun _ => R.mv (v := v1_) rfl) (Mw.gp hc79 rfl rfl rfl rfl rfl (fun _ => R.mv (v := vI y11) rfl) ?_)))
        obtain ⟨u83, e84, hm⟩ := ob hm
        refine Mw.gp hc79 rfl rfl rfl rfl rfl (fun _ => R.ix (α := Str) s78 e84 rfl rfl rfl) (Mw.gq hc79 rfl rfl rfl rfl rfl (fun _ c => R.ld rfl rfl (cl_cell (s78.at_ e84).1 rfl (s78.at_ e84).str c)) (Mw.gp hc79 rfl rfl rfl rfl rfl (fun _ => R.seq rfl rfl) (Mw.p rfl rfl (fun _ => R.pk hc79 rfl (v := vB (u80 == u83)) rfl) (Mw.p rfl rfl (fun _ => R.as (v := vB (u80 == u83)) rfl) ?_))))
        refine Mw.nil ?_
        refine ⟨?_, ⟨(u80 == u83), W74, rfl, l74, rfl, hm⟩⟩
        iterate 16 (refine Agree.up rfl ?_)
        exact Agree.refl _
      · replace hm := bf hm hc79
        refine Mw.pass' hc79 rfl rfl rfl rfl rfl rfl ?_
        refine Mw.pass' hc79 rfl rfl rfl rfl rfl rfl ?_
        refine Mw.pass' hc79 rfl rfl rfl rfl rfl rfl ?_
        refine Mw.pass' hc79 rfl rfl rfl rfl rfl rfl ?_
        refine Mw.pass' hc79 rfl rfl rfl rfl rfl rfl ?_
        refine Mw.pass' hc79 rfl rfl rfl rfl rfl rfl ?_
        refine Mw.pass' hc79 rfl rfl rfl rfl rfl rfl ?_
        refine Mw.pass' hc79 rfl rfl rfl rfl rfl rfl ?_
        refine Mw.pass' hc79 rfl rfl rfl rfl rfl rfl ?_
        refine Mw.p rfl rfl (fun _ => R.pk hc79 rfl (v := vB false) rfl) (Mw.p rfl rfl (fun _ => R.as (v := vB false) rfl) ?_)
        refine Mw.nil ?_
        refine ⟨?_, ⟨false, W74, rfl, l74, rfl, hm⟩⟩
        iterate 16 (refine Agree.up rfl ?_)
        exact Agree.refl _
  · replace hm := bf hm hc19
    refine Cw.exit ?_
    rw [hK14] at hm
    refine Cw.seq ?_
    refine Cw.region ?_
    refine Lw.r rfl (R.mv (v := v9) rfl) (Lw.r rfl (R.as (v := v9) rfl) ?_)
    refine Lw.nil ?_
    cases hm
    exact Cw.ret (ret1 rfl (Res.mk (a4.trans (a6.trans a16)) ⟨v9, rfl, o10.s.sub rfl rfl⟩))

theorem p93 {W : CW} {K : List Nat} {x0 : List Str} {v0_ : Value} {x1 : List Str} {v1_ : Value} {k0 : Nat} {r : (List Int)} (h0 : Rd W K [v0_] x0) (h1 : Rd W K [v1_] x1) (hm : Vm.spec_l1Match x0 x1 = some r) : CallR Try.prog 93 [v0_, v1_].toArray W.w (Res W [] fun W' v => ∃ (u0 : Value), v = u0 ∧ Ow W' k0 [] [u0] r) :=
  (c93 (V := W.view K []) (h0.view _) (h1.view _) hm).ad (fk k0) fun _ _ ⟨u0, e, f0⟩ => ⟨u0, e, f0.back (fk_LL _)⟩

end Go.Sx
