/- Walks: each function answers as its model, printed by a program of ours. Conditions: the arguments read as they are given. -/
import Derived.Test.YtjdljoplpcakpaaXTs
import Derived.Test.YtjdljoplpcakpaaXMd
namespace Go.Sx
open Go Go.Proofs Go.Vm Rp
set_option linter.unusedVariables false
set_option linter.unusedSimpArgs false

theorem c27 {V : CW} {x0 : List Str} {v0_ : Value} {x1 : Int} {r : Int} (h0 : Rd V [0] [v0_] x0) (hm : Vm.laws_szStringS x0 x1 = some r) : CallR Try.prog 27 [v0_, vI x1].toArray V.w (Res V LL fun Wf v => v = vI r) := by
 unfold Vm.laws_szStringS at hm
 obtain ⟨W0, hW0⟩ : ∃ W, W = V := ⟨V, rfl⟩
 subst hW0
 refine CallR.of Try.func27 rfl rfl rfl rfl (Cw.seq (Cw.region (Lw.g (vI 0) rfl (Lw.nil (Cw.seq (Cw.region (Lw.m (vI x1) rfl (Lw.m v0_ rfl (Lw.ln x0 h0 rfl (Lw.sub rfl (Lw.g (vI (w64 (x1 - (x0.length : Int)))) rfl (Lw.nil (Cw.seq (Cw.seq (Cw.region (Lw.m (vI (w64 (x1 - (x0.length : Int)))) rfl (Lw.lt rfl (Lw.nil (Cw.cond (b := decide ((w64 (x1 - (x0.length : Int)) : Int) < (0 : Int))) rfl (fun hc1 => ?_) (fun hc1 => ?_))))))))))))))))))))
 ·replace hm := bt hm hc1
  refine Cw.seq (Cw.region (Lw.g (vI (-1)) rfl (Lw.nil ?_)))
  cases hm
  exact Cw.ret (ret1 rfl (Res.mk (Le.refl _ _) rfl))
 ·replace hm := bf hm hc1
  refine Cw.skip (Cw.seq (Cw.seq (Cw.region (Lw.g (vI 0) rfl (Lw.nil (Cw.block ?_))))))
  obtain ⟨K6, hK6, hm⟩ := jn_e hm
  refine Cw.loop 12 26 [1, 4, 5] (fun m l w => ∃ (y2 : Int) (y3 : Int) (y4 : Int) (W5 : CW), W5.w = w ∧ Le [] W0 W5 ∧ l = [vI y2, vI y3, vI y4] ∧ Vm.laws_szStringS_l1 x0 K6 m y2 y3 y4 = some r) (((x0.length : Int) - 0).toNat + 1) ⟨w64 (x1 - (x0.length : Int)), 0, 0, W0, rfl, Le.refl _ _, rfl, hm⟩ ?_
  rintro m7 _ _ σ ⟨y2, y3, y4, W5, rfl, l5, rfl, hm⟩
  obtain _ | m7 := m7
  ·cases hm
  unfold Vm.laws_szStringS_l1 at hm
  have a8 := l5.o
  refine Cw.seq (Cw.seq (Cw.region ?_))
  have s9 := h0.ul a8
  refine Lw.m (vI y4) rfl (Lw.m v0_ rfl (Lw.ln x0 s9 rfl (Lw.lt rfl (Lw.nil (Cw.cond (b := decide ((y4 : Int) < ((x0.length : Int) : Int))) rfl (fun hc10 => ?_) (fun hc10 => ?_))))))
  ·replace hm := bt hm hc10
   refine Cw.skip (Cw.seq (Cw.block (Cw.seq (Cw.region (Lw.m (vI y2) rfl (Lw.m v0_ rfl (Lw.m (vI y4) rfl ?_)))))))
   obtain ⟨u11, e12, hm⟩ := ob hm
   refine Lw.r rfl (R.ix (α := Str) s9 e12 rfl rfl rfl) (Lw.r rfl (R.ld rfl rfl (s9.at_ e12).str) (Lw.r rfl (R.lenS rfl) (Lw.sub rfl (Lw.g (vI (w64 (y2 - (u11.length : Int)))) rfl (Lw.nil (Cw.seq (Cw.region (Lw.m (vI (w64 (y2 - (u11.length : Int)))) rfl (Lw.lt rfl (Lw.nil (Cw.cond (b := decide ((w64 (y2 - (u11.length : Int)) : Int) < (0 : Int))) rfl (fun hc13 => ?_) (fun hc13 => ?_))))))))))))
   ·replace hm := bt hm hc13
    refine Cw.seq (Cw.region (Lw.g (vI (-1)) rfl (Lw.nil ?_)))
    cases hm
    exact Cw.ret (ret1 rfl (Res.mk a8 rfl))
   ·replace hm := bf hm hc13
    refine Cw.skip (Cw.region (Lw.m (vI y4) rfl (Lw.add rfl (Lw.g (vI (w64 (y4 + 1))) rfl (Lw.nil (⟨?_, m7, Nat.lt_succ_self m7, ⟨w64 (y2 - (u11.length : Int)), y3, w64 (y4 + 1), W5, rfl, l5, rfl, hm⟩⟩))))))
    iterate 17 (refine Agree.up rfl ?_)
    iterate 3 (refine Agree.up rfl ?_)
    exact Agree.base
  ·replace hm := bf hm hc10
   refine Cw.exit ?_
   rw [hK6] at hm
   refine Cw.seq (Cw.region (Lw.m (vI y2) rfl (Lw.g (vI y2) rfl (Lw.nil ?_))))
   cases hm
   exact Cw.ret (ret1 rfl (Res.mk a8 rfl))

theorem p27 {W : CW} {K : List Nat} {x0 : List Str} {v0_ : Value} {x1 : Int} {r : Int} (h0 : Rd W K [v0_] x0) (hm : Vm.laws_szStringS x0 x1 = some r) : CallR Try.prog 27 [v0_, vI x1].toArray W.w (Res W [] fun W' v => v = vI r) :=
 (c27 (V := W.view K []) (h0.view _) hm).ad (fk 0) fun _ _ e => e

theorem c21 {V : CW} {x0 : Vm.Memo} {v0_0_ : Value} {v0_1_ : Value} {v0_2_ : Value} {v0_3_ : Value} {x1 : Int} {r : Int} (h0 : Rd V [0] [v0_0_, v0_1_, v0_2_, v0_3_] x0) (hm : Vm.laws_szMemo x0 x1 = some r) : CallR Try.prog 21 [.agg [v0_0_, v0_1_, v0_2_, v0_3_].toArray, vI x1].toArray V.w (Res V LL fun Wf v => v = vI r) := by
 unfold Vm.laws_szMemo at hm
 obtain ⟨w0_0, w0_1, w0_2, w0_3, he0, h0_0, h0_1, h0_2, h0_3⟩ := Memo.split h0
 simp only [List.cons.injEq, and_true, true_and] at he0
 obtain ⟨rfl, rfl, rfl, rfl⟩ := he0
 obtain ⟨W0, hW0⟩ : ∃ W, W = V := ⟨V, rfl⟩
 subst hW0
 refine CallR.of Try.func21 rfl rfl rfl rfl (Cw.seq (Cw.region (Lw.t rfl (T.box 2 (v := .agg [v0_0_, v0_1_, v0_2_, v0_3_].toArray) (cs := [v0_0_, v0_1_, v0_2_, v0_3_]) rfl rfl) ?_)))
 rintro _ _ ⟨g1, W1, rfl, rfl, l1, b1⟩
 have a2 := l1.o
 refine Lw.g (vI 0) rfl (Lw.nil (Cw.seq (Cw.region (Lw.fa rfl (Lw.r rfl (R.ld (v := v0_0_) rfl rfl (b1.cell rfl)) (Lw.m (vI x1) rfl ?_))))))
 obtain ⟨z4, e5, hm⟩ := ob hm
 refine Lw.t rfl (T.call rfl (p27 (K := [0])  (h0_0.ul a2) e5)) ?_
 rintro _ _ ⟨W6, rfl, l6, rfl⟩
 have a7 := a2.n l6
 refine Lw.g (vI z4) rfl (Lw.nil (Cw.seq (Cw.seq (Cw.region (Lw.m (vI z4) rfl (Lw.lt rfl (Lw.nil (Cw.cond (b := decide ((z4 : Int) < (0 : Int))) rfl (fun hc9 => ?_) (fun hc9 => ?_)))))))))
 ·replace hm := bt hm hc9
  refine Cw.seq (Cw.region (Lw.g (vI (-1)) rfl (Lw.nil ?_)))
  cases hm
  exact Cw.ret (ret1 rfl (Res.mk a7 rfl))
 ·replace hm := bf hm hc9
  refine Cw.skip (Cw.seq (Cw.region (Lw.fa rfl (Lw.r rfl (R.ld (v := v0_1_) rfl rfl ((b1.up l6 rfl).cell rfl)) (Lw.m (vI z4) rfl ?_)))))
  obtain ⟨z11, e12, hm⟩ := ob hm
  refine Lw.t rfl (T.call rfl (p27 (K := [0])  (h0_1.ul a7) e12)) ?_
  rintro _ _ ⟨W13, rfl, l13, rfl⟩
  have a14 := a7.n l13
  have b15 := (b1.up l6 rfl).up l13 rfl
  refine Lw.g (vI z11) rfl (Lw.nil (Cw.seq (Cw.seq (Cw.region (Lw.m (vI z11) rfl (Lw.lt rfl (Lw.nil (Cw.cond (b := decide ((z11 : Int) < (0 : Int))) rfl (fun hc16 => ?_) (fun hc16 => ?_)))))))))
  ·replace hm := bt hm hc16
   refine Cw.seq (Cw.region (Lw.g (vI (-1)) rfl (Lw.nil ?_)))
   cases hm
   exact Cw.ret (ret1 rfl (Res.mk a14 rfl))
  ·replace hm := bf hm hc16
   refine Cw.skip (Cw.seq (Cw.region (Lw.fa rfl (Lw.r rfl (R.ld (v := v0_2_) rfl rfl (b15.cell rfl)) (Lw.m (vI z11) rfl ?_)))))
   obtain ⟨z18, e19, hm⟩ := ob hm
   refine Lw.t rfl (T.call rfl (p27 (K := [0])  (h0_2.ul a14) e19)) ?_
   rintro _ _ ⟨W20, rfl, l20, rfl⟩
   have a21 := a14.n l20
   refine Lw.g (vI z18) rfl (Lw.nil (Cw.seq (Cw.seq (Cw.region (Lw.m (vI z18) rfl (Lw.lt rfl (Lw.nil (Cw.cond (b := decide ((z18 : Int) < (0 : Int))) rfl (fun hc23 => ?_) (fun hc23 => ?_)))))))))
   ·replace hm := bt hm hc23
    refine Cw.seq (Cw.region (Lw.g (vI (-1)) rfl (Lw.nil ?_)))
    cases hm
    exact Cw.ret (ret1 rfl (Res.mk a21 rfl))
   ·replace hm := bf hm hc23
    refine Cw.skip (Cw.seq (Cw.region (Lw.fa rfl (Lw.r rfl (R.ld (v := v0_3_) rfl rfl ((b15.up l20 rfl).cell rfl)) (Lw.m (vI z18) rfl ?_)))))
    obtain ⟨z25, e26, hm⟩ := ob hm
    refine Lw.t rfl (T.call rfl (p27 (K := [0])  (h0_3.ul a21) e26)) ?_
    rintro _ _ ⟨W27, rfl, l27, rfl⟩
    have a28 := a21.n l27
    refine Lw.g (vI z25) rfl (Lw.nil (Cw.seq (Cw.seq (Cw.region (Lw.m (vI z25) rfl (Lw.lt rfl (Lw.nil (Cw.cond (b := decide ((z25 : Int) < (0 : Int))) rfl (fun hc30 => ?_) (fun hc30 => ?_)))))))))
    ·replace hm := bt hm hc30
     refine Cw.seq (Cw.region (Lw.g (vI (-1)) rfl (Lw.nil ?_)))
     cases hm
     exact Cw.ret (ret1 rfl (Res.mk a28 rfl))
    ·replace hm := bf hm hc30
     refine Cw.skip (Cw.seq (Cw.region (Lw.m (vI z25) rfl (Lw.g (vI z25) rfl (Lw.nil ?_)))))
     cases hm
     exact Cw.ret (ret1 rfl (Res.mk a28 rfl))

theorem p21 {W : CW} {K : List Nat} {x0 : Vm.Memo} {v0_0_ : Value} {v0_1_ : Value} {v0_2_ : Value} {v0_3_ : Value} {x1 : Int} {r : Int} (h0 : Rd W K [v0_0_, v0_1_, v0_2_, v0_3_] x0) (hm : Vm.laws_szMemo x0 x1 = some r) : CallR Try.prog 21 [.agg [v0_0_, v0_1_, v0_2_, v0_3_].toArray, vI x1].toArray W.w (Res W [] fun W' v => v = vI r) :=
 (c21 (V := W.view K []) (h0.view _) hm).ad (fk 0) fun _ _ e => e

theorem c12 {V : CW} {x0 : List Vm.Memo} {v0_ : Value} {x1 : Int} {r : Int} (h0 : Rd V [0] [v0_] x0) (hm : Vm.laws_szMemoS x0 x1 = some r) : CallR Try.prog 12 [v0_, vI x1].toArray V.w (Res V LL fun Wf v => v = vI r) := by
 unfold Vm.laws_szMemoS at hm
 obtain ⟨W0, hW0⟩ : ∃ W, W = V := ⟨V, rfl⟩
 subst hW0
 refine CallR.of Try.func12 rfl rfl rfl rfl (Cw.seq (Cw.region (Lw.g (vI 0) rfl (Lw.nil (Cw.seq (Cw.region (Lw.m (vI x1) rfl (Lw.m v0_ rfl (Lw.ln x0 h0 rfl (Lw.sub rfl (Lw.g (vI (w64 (x1 - (x0.length : Int)))) rfl (Lw.nil (Cw.seq (Cw.seq (Cw.region (Lw.m (vI (w64 (x1 - (x0.length : Int)))) rfl (Lw.lt rfl (Lw.nil (Cw.cond (b := decide ((w64 (x1 - (x0.length : Int)) : Int) < (0 : Int))) rfl (fun hc1 => ?_) (fun hc1 => ?_))))))))))))))))))))
 ·replace hm := bt hm hc1
  refine Cw.seq (Cw.region (Lw.g (vI (-1)) rfl (Lw.nil ?_)))
  cases hm
  exact Cw.ret (ret1 rfl (Res.mk (Le.refl _ _) rfl))
 ·replace hm := bf hm hc1
  refine Cw.skip (Cw.seq (Cw.seq (Cw.region (Lw.g (vI 0) rfl (Lw.nil (Cw.block ?_))))))
  obtain ⟨K6, hK6, hm⟩ := jn_e hm
  refine Cw.loop 12 25 [1, 4, 5] (fun m l w => ∃ (y2 : Int) (y3 : Int) (y4 : Int) (W5 : CW), W5.w = w ∧ Le [] W0 W5 ∧ l = [vI y2, vI y3, vI y4] ∧ Vm.laws_szMemoS_l1 x0 K6 m y2 y3 y4 = some r) (((x0.length : Int) - 0).toNat + 1) ⟨w64 (x1 - (x0.length : Int)), 0, 0, W0, rfl, Le.refl _ _, rfl, hm⟩ ?_
  rintro m7 _ _ σ ⟨y2, y3, y4, W5, rfl, l5, rfl, hm⟩
  obtain _ | m7 := m7
  ·cases hm
  unfold Vm.laws_szMemoS_l1 at hm
  have a8 := l5.o
  refine Cw.seq (Cw.seq (Cw.region ?_))
  have s9 := h0.ul a8
  refine Lw.m (vI y4) rfl (Lw.m v0_ rfl (Lw.ln x0 s9 rfl (Lw.lt rfl (Lw.nil (Cw.cond (b := decide ((y4 : Int) < ((x0.length : Int) : Int))) rfl (fun hc10 => ?_) (fun hc10 => ?_))))))
  ·replace hm := bt hm hc10
   refine Cw.skip (Cw.seq (Cw.block (Cw.seq (Cw.region (Lw.m v0_ rfl (Lw.m (vI y4) rfl ?_))))))
   obtain ⟨u11, e12, hm⟩ := ob hm
   refine Lw.r rfl (R.ix (α := Memo) s9 e12 rfl rfl rfl) ?_
   obtain ⟨x13, c14, _, r15⟩ := (s9.at_ e12).cells
   obtain ⟨v16, v18, v20, v22, rfl, r17, r19, r21, r23⟩ := Memo.split r15
   refine Lw.r rfl (R.lda c14 rfl rfl) (Lw.m (vI y2) rfl ?_)
   obtain ⟨z24, e25, hm⟩ := ob hm
   refine Lw.t rfl (T.call rfl (p21 (K := [0])  (Memo.rd (K := [0]) u11.Old u11.One u11.Two u11.Done r17 r19 r21 r23) e25)) ?_
   rintro _ _ ⟨W26, rfl, l26, rfl⟩
   have a27 := a8.n l26
   refine Lw.g (vI z24) rfl (Lw.nil (Cw.seq (Cw.region (Lw.m (vI z24) rfl (Lw.lt rfl (Lw.nil (Cw.cond (b := decide ((z24 : Int) < (0 : Int))) rfl (fun hc28 => ?_) (fun hc28 => ?_))))))))
   ·replace hm := bt hm hc28
    refine Cw.seq (Cw.region (Lw.g (vI (-1)) rfl (Lw.nil ?_)))
    cases hm
    exact Cw.ret (ret1 rfl (Res.mk a27 rfl))
   ·replace hm := bf hm hc28
    refine Cw.skip (Cw.region (Lw.m (vI y4) rfl (Lw.add rfl (Lw.g (vI (w64 (y4 + 1))) rfl (Lw.nil (⟨?_, m7, Nat.lt_succ_self m7, ⟨z24, y3, w64 (y4 + 1), W26, rfl, (l5.trans l26), rfl, hm⟩⟩))))))
    iterate 16 (refine Agree.up rfl ?_)
    iterate 3 (refine Agree.up rfl ?_)
    exact Agree.base
  ·replace hm := bf hm hc10
   refine Cw.exit ?_
   rw [hK6] at hm
   refine Cw.seq (Cw.region (Lw.m (vI y2) rfl (Lw.g (vI y2) rfl (Lw.nil ?_))))
   cases hm
   exact Cw.ret (ret1 rfl (Res.mk a8 rfl))

theorem p12 {W : CW} {K : List Nat} {x0 : List Vm.Memo} {v0_ : Value} {x1 : Int} {r : Int} (h0 : Rd W K [v0_] x0) (hm : Vm.laws_szMemoS x0 x1 = some r) : CallR Try.prog 12 [v0_, vI x1].toArray W.w (Res W [] fun W' v => v = vI r) :=
 (c12 (V := W.view K []) (h0.view _) hm).ad (fk 0) fun _ _ e => e

theorem c29 {V : CW} {x0 : List Str} {v0_ : Value} {r : (List Str)} (h0 : Rd V [0] [v0_] x0) (hm : Vm.laws_toStringS x0 = some r) : CallR Try.prog 29 [v0_].toArray V.w (Res V LL fun Wf v => ∃ (u0 : Value), v = u0 ∧ OwS Wf LL [] [u0] r) := by
 unfold Vm.laws_toStringS at hm
 obtain ⟨W0, hW0⟩ : ∃ W, W = V := ⟨V, rfl⟩
 subst hW0
 refine CallR.of Try.func29 rfl rfl rfl rfl (Cw.seq (Cw.region (Lw.g (.slice none 0 0) rfl (Lw.nil (Cw.seq (Cw.region (Lw.m v0_ rfl (Lw.ln x0 h0 rfl ?_))))))))
 obtain ⟨q1, e2, hm⟩ := ob hm
 refine Lw.t rfl (T.mk (α := Str) 2 [] (n := (x0.length : Int)) rfl rfl e2) ?_
 rintro v3 _ ⟨W3, rfl, l3, o3⟩
 have a4 := l3.o
 refine Lw.g v3 rfl (Lw.nil (Cw.seq (Cw.seq (Cw.region (Lw.g (vI 0) rfl (Lw.nil (Cw.block ?_)))))))
 obtain ⟨K9, hK9, hm⟩ := jn_e hm
 refine Cw.loop 8 20 [4] (fun m l w => ∃ (y5 : Int) (y6 : List Str) (W8 : CW), W8.w = w ∧ Le [2] W3 W8 ∧ l = [vI y5] ∧ Ow W8 2 [] [v3] y6 ∧ Vm.laws_toStringS_l1 x0 K9 m y5 y6 = some r) (((x0.length : Int) - 0).toNat + 1) ⟨0, q1, W3, rfl, Le.refl _ _, rfl, o3, hm⟩ ?_
 rintro m10 _ _ σ ⟨y5, y6, W8, rfl, l8, rfl, o7, hm⟩
 obtain _ | m10 := m10
 ·cases hm
 unfold Vm.laws_toStringS_l1 at hm
 have a11 := a4.t l8 rfl
 refine Cw.seq (Cw.seq (Cw.region (Lw.m (vI y5) rfl (Lw.m v0_ rfl (Lw.ln x0 (h0.ul a11) rfl (Lw.lt rfl (Lw.nil (Cw.cond (b := decide ((y5 : Int) < ((x0.length : Int) : Int))) rfl (fun hc13 => ?_) (fun hc13 => ?_)))))))))
 ·replace hm := bt hm hc13
  refine Cw.skip (Cw.seq (Cw.block (Cw.region (Lw.m v3 rfl (Lw.m (vI y5) rfl (Lw.m v0_ rfl (Lw.m (vI y5) rfl ?_)))))))
  obtain ⟨u14, e15, hm⟩ := ob hm
  refine Lw.r rfl (R.ix (α := Str) (h0.ul a11) e15 rfl rfl rfl) (Lw.r rfl (R.ld rfl rfl ((h0.ul a11).at_ e15).str) ?_)
  obtain ⟨u16, e17, hm⟩ := ob hm
  refine Lw.r rfl (R.ix (α := Str) o7.rd e17 rfl rfl rfl) ?_
  obtain ⟨q19, e20, hm⟩ := ob hm
  refine Lw.u (T.stS (K' := []) o7 (rdS _) e20 rfl rfl rfl) ?_
  rintro _ _ ⟨W18, rfl, l18, o18⟩
  refine Lw.nil (Cw.region (Lw.m (vI y5) rfl (Lw.add rfl (Lw.g (vI (w64 (y5 + 1))) rfl (Lw.nil (⟨?_, m10, Nat.lt_succ_self m10, ⟨w64 (y5 + 1), q19, W18, rfl, (l8.trans l18), rfl, o18, hm⟩⟩))))))
  iterate 14 (refine Agree.up rfl ?_)
  iterate 1 (refine Agree.up rfl ?_)
  exact Agree.base
 ·replace hm := bf hm hc13
  refine Cw.exit ?_
  rw [hK9] at hm
  refine Cw.seq (Cw.region (Lw.m v3 rfl (Lw.g v3 rfl (Lw.nil ?_))))
  cases hm
  exact Cw.ret (ret1 rfl (Res.mk a11 ⟨v3, rfl, o7.s.sub rfl rfl⟩))

theorem p29 {W : CW} {K : List Nat} {x0 : List Str} {v0_ : Value} {k0 : Nat} {r : (List Str)} (h0 : Rd W K [v0_] x0) (hm : Vm.laws_toStringS x0 = some r) : CallR Try.prog 29 [v0_].toArray W.w (Res W [] fun W' v => ∃ (u0 : Value), v = u0 ∧ Ow W' k0 [] [u0] r) :=
 (c29 (V := W.view K []) (h0.view _) hm).ad (fk k0) fun _ _ ⟨u0, e, f0⟩ => ⟨u0, e, f0.back (fk_LL _)⟩

theorem c22 {V : CW} {x0 : Vm.Memo} {v0_0_ : Value} {v0_1_ : Value} {v0_2_ : Value} {v0_3_ : Value} {r : Vm.Memo} (h0 : Rd V [0] [v0_0_, v0_1_, v0_2_, v0_3_] x0) (hm : Vm.laws_toMemo x0 = some r) : CallR Try.prog 22 [.agg [v0_0_, v0_1_, v0_2_, v0_3_].toArray].toArray V.w (Res V LL fun Wf v => ∃ (u0_0 : Value) (u0_1 : Value) (u0_2 : Value) (u0_3 : Value), v = .agg [u0_0, u0_1, u0_2, u0_3].toArray ∧ OwS Wf [31] [] [u0_0] r.Old ∧ OwS Wf [32] [] [u0_1] r.One ∧ OwS Wf [33] [] [u0_2] r.Two ∧ OwS Wf [34] [] [u0_3] r.Done) := by
 unfold Vm.laws_toMemo at hm
 obtain ⟨w0_0, w0_1, w0_2, w0_3, he0, h0_0, h0_1, h0_2, h0_3⟩ := Memo.split h0
 simp only [List.cons.injEq, and_true, true_and] at he0
 obtain ⟨rfl, rfl, rfl, rfl⟩ := he0
 obtain ⟨W0, hW0⟩ : ∃ W, W = V := ⟨V, rfl⟩
 subst hW0
 refine CallR.of Try.func22 rfl rfl rfl rfl (Cw.seq (Cw.region (Lw.t rfl (T.box 2 (v := .agg [v0_0_, v0_1_, v0_2_, v0_3_].toArray) (cs := [v0_0_, v0_1_, v0_2_, v0_3_]) rfl rfl) ?_)))
 rintro _ _ ⟨g1, W1, rfl, rfl, l1, b1⟩
 have a2 := l1.o
 refine Lw.t rfl (T.alloc 3 (cs := [.slice none 0 0, .slice none 0 0, .slice none 0 0, .slice none 0 0]) rfl) ?_
 rintro _ _ ⟨g3, W3, rfl, rfl, l3, b3⟩
 have a4 := a2.n l3
 refine Lw.nil (Cw.seq (Cw.region (Lw.t rfl (T.alloc 4 (cs := [.slice none 0 0, .slice none 0 0, .slice none 0 0, .slice none 0 0]) rfl) ?_)))
 rintro _ _ ⟨g6, W6, rfl, rfl, l6, b6⟩
 have a7 := a4.n l6
 have b8 := (b1.up l3 rfl).up l6 rfl
 refine Lw.nil (Cw.seq (Cw.region (Lw.fa rfl (Lw.r rfl (R.ld (v := v0_0_) rfl rfl (b8.cell rfl)) ?_))))
 obtain ⟨z11, e12, hm⟩ := ob hm
 refine Lw.t rfl (T.call rfl (p29 (K := [0]) (k0 := 5) (h0_0.ul a7) e12)) ?_
 rintro v0_13 _ ⟨W13, rfl, l13, ⟨_, rfl, f13_0⟩⟩
 have a14 := a7.n l13
 refine Lw.fa rfl (Lw.u (T.st (j := 0) (v := v0_13) (b6.up l13 rfl) rfl rfl f13_0.oc rfl rfl) ?_)
 rintro _ _ ⟨W18, rfl, l18, b18⟩
 have a19 := a14.t l18 rfl
 have b21 := (b8.up l13 rfl).up l18 rfl
 refine Lw.nil (Cw.seq (Cw.region (Lw.fa rfl (Lw.r rfl (R.ld (v := v0_1_) rfl rfl (b21.cell rfl)) ?_))))
 obtain ⟨z24, e25, hm⟩ := ob hm
 refine Lw.t rfl (T.call rfl (p29 (K := [0]) (k0 := 6) (h0_1.ul a19) e25)) ?_
 rintro v0_26 _ ⟨W26, rfl, l26, ⟨_, rfl, f26_0⟩⟩
 have a27 := a19.n l26
 refine Lw.fa rfl (Lw.u (T.st (j := 1) (v := v0_26) (b18.up l26 rfl) rfl rfl f26_0.oc rfl rfl) ?_)
 rintro _ _ ⟨W32, rfl, l32, b32⟩
 have a33 := a27.t l32 rfl
 have b36 := (b21.up l26 rfl).up l32 rfl
 refine Lw.nil (Cw.seq (Cw.region (Lw.fa rfl (Lw.r rfl (R.ld (v := v0_2_) rfl rfl (b36.cell rfl)) ?_))))
 obtain ⟨z39, e40, hm⟩ := ob hm
 refine Lw.t rfl (T.call rfl (p29 (K := [0]) (k0 := 7) (h0_2.ul a33) e40)) ?_
 rintro v0_41 _ ⟨W41, rfl, l41, ⟨_, rfl, f41_0⟩⟩
 have a42 := a33.n l41
 refine Lw.fa rfl (Lw.u (T.st (j := 2) (v := v0_41) (b32.up l41 rfl) rfl rfl f41_0.oc rfl rfl) ?_)
 rintro _ _ ⟨W48, rfl, l48, b48⟩
 have a49 := a42.t l48 rfl
 refine Lw.nil (Cw.seq (Cw.region (Lw.fa rfl (Lw.r rfl (R.ld (v := v0_3_) rfl rfl (((b36.up l41 rfl).up l48 rfl).cell rfl)) ?_))))
 obtain ⟨z56, e57, hm⟩ := ob hm
 refine Lw.t rfl (T.call rfl (p29 (K := [0]) (k0 := 8) (h0_3.ul a49) e57)) ?_
 rintro v0_58 _ ⟨W58, rfl, l58, ⟨_, rfl, f58_0⟩⟩
 have a59 := a49.n l58
 refine Lw.fa rfl (Lw.u (T.st (j := 3) (v := v0_58) (b48.up l58 rfl) rfl rfl f58_0.oc rfl rfl) ?_)
 rintro _ _ ⟨W66, rfl, l66, b66⟩
 have a67 := a59.t l66 rfl
 have o68 := ((((((f13_0.up l18 rfl).up l26 rfl).up l32 rfl).up l41 rfl).up l48 rfl).up l58 rfl).up l66 rfl
 have o69 := ((((f26_0.up l32 rfl).up l41 rfl).up l48 rfl).up l58 rfl).up l66 rfl
 have o70 := ((f41_0.up l48 rfl).up l58 rfl).up l66 rfl
 refine Lw.nil (Cw.seq (Cw.region (Lw.r rfl (R.lda (cs := [v0_13, v0_26, v0_41, v0_58]) b66.cells rfl rfl) (Lw.u (T.sta (vs := [v0_13, v0_26, v0_41, v0_58]) (((((((((b3.up l6 rfl).up l13 rfl).up l18 rfl).up l26 rfl).up l32 rfl).up l41 rfl).up l48 rfl).up l58 rfl).up l66 rfl) rfl rfl (oc_cons o68.oc (oc_cons o69.oc (oc_cons o70.oc (oc_cons (f58_0.up l66 rfl).oc oc_nil)))) rfl rfl) ?_))))
 rintro _ _ ⟨W74, rfl, l74, b74⟩
 have a75 := a67.t l74 rfl
 refine Lw.nil ?_
 obtain ⟨W82, ew82, l82, o82⟩ := (o68.up l74 rfl).dyeO 31
 have a83 := a75.t l82 rfl
 obtain ⟨W90, ew90, l90, o90⟩ := ((o69.up l74 rfl).up l82 rfl).dyeO 32
 have a91 := a83.t l90 rfl
 obtain ⟨W98, ew98, l98, o98⟩ := (((o70.up l74 rfl).up l82 rfl).up l90 rfl).dyeO 33
 have a99 := a91.t l98 rfl
 obtain ⟨W106, ew106, l106, o106⟩ := (((((f58_0.up l66 rfl).up l74 rfl).up l82 rfl).up l90 rfl).up l98 rfl).dyeO 34
 have a107 := a99.t l106 rfl
 cases hm
 rw [← ew106.trans (ew98.trans (ew90.trans (ew82)))]
 exact Cw.ret (retA1 rfl ((((b74.up l82 rfl).up l90 rfl).up l98 rfl).up l106 rfl) (Res.mk a107 ⟨v0_13, v0_26, v0_41, v0_58, rfl, (((o82.up l90 rfl).up l98 rfl).up l106 rfl).s, ((o90.up l98 rfl).up l106 rfl).s, (o98.up l106 rfl).s, o106.s⟩))

theorem p22 {W : CW} {K : List Nat} {x0 : Vm.Memo} {v0_0_ : Value} {v0_1_ : Value} {v0_2_ : Value} {v0_3_ : Value} {k0 : Nat} {k1 : Nat} {k2 : Nat} {k3 : Nat} {r : Vm.Memo} (h0 : Rd W K [v0_0_, v0_1_, v0_2_, v0_3_] x0) (hm : Vm.laws_toMemo x0 = some r) : CallR Try.prog 22 [.agg [v0_0_, v0_1_, v0_2_, v0_3_].toArray].toArray W.w (Res W [] fun W' v => ∃ (u0_0 : Value) (u0_1 : Value) (u0_2 : Value) (u0_3 : Value), v = .agg [u0_0, u0_1, u0_2, u0_3].toArray ∧ Ow W' k0 [] [u0_0] r.Old ∧ Ow W' k1 [] [u0_1] r.One ∧ Ow W' k2 [] [u0_2] r.Two ∧ Ow W' k3 [] [u0_3] r.Done) :=
 CallR.adJ (J := []) (fun c => bif Nat.beq c 0 then 0 else bif Nat.beq c 31 then k0 else bif Nat.beq c 32 then k1 else bif Nat.beq c 33 then k2 else bif Nat.beq c 34 then k3 else 0) (c22 (V := W.view K []) (h0.view _) hm) fun _ _ ⟨u0_0, u0_1, u0_2, u0_3, e, f0, f1, f2, f3⟩ => ⟨u0_0, u0_1, u0_2, u0_3, e, f0.one1.backN rfl, f1.one1.backN rfl, f2.one1.backN rfl, f3.one1.backN rfl⟩

theorem c14 {V : CW} {x0 : List Vm.Memo} {v0_ : Value} {r : (List Vm.Memo)} (h0 : Rd V [0] [v0_] x0) (hm : Vm.laws_toMemoS x0 = some r) : CallR Try.prog 14 [v0_].toArray V.w (Res V LL fun Wf v => ∃ (u0 : Value), v = u0 ∧ OwS Wf LL [] [u0] r) := by
 unfold Vm.laws_toMemoS at hm
 obtain ⟨W0, hW0⟩ : ∃ W, W = V := ⟨V, rfl⟩
 subst hW0
 refine CallR.of Try.func14 rfl rfl rfl rfl (Cw.seq (Cw.region (Lw.g (.slice none 0 0) rfl (Lw.nil (Cw.seq (Cw.region (Lw.m v0_ rfl (Lw.ln x0 h0 rfl ?_))))))))
 obtain ⟨q1, e2, hm⟩ := ob hm
 refine Lw.t rfl (T.mk (α := Memo) 2 [] (n := (x0.length : Int)) rfl rfl e2) ?_
 rintro v3 _ ⟨W3, rfl, l3, o3⟩
 have a4 := l3.o
 refine Lw.g v3 rfl (Lw.nil (Cw.seq (Cw.seq (Cw.region (Lw.g (vI 0) rfl (Lw.nil (Cw.block ?_)))))))
 obtain ⟨K9, hK9, hm⟩ := jn_e hm
 refine Cw.loop 8 21 [4] (fun m l w => ∃ (y5 : Int) (y6 : List Vm.Memo) (W8 : CW), W8.w = w ∧ Le [2, 3, 4, 5, 6] W3 W8 ∧ l = [vI y5] ∧ Ow W8 2 [] [v3] y6 ∧ Vm.laws_toMemoS_l1 x0 K9 m y5 y6 = some r) (((x0.length : Int) - 0).toNat + 1) ⟨0, q1, W3, rfl, Le.refl _ _, rfl, o3, hm⟩ ?_
 rintro m10 _ _ σ ⟨y5, y6, W8, rfl, l8, rfl, o7, hm⟩
 obtain _ | m10 := m10
 ·cases hm
 unfold Vm.laws_toMemoS_l1 at hm
 have a11 := a4.t l8 rfl
 refine Cw.seq (Cw.seq (Cw.region (Lw.m (vI y5) rfl (Lw.m v0_ rfl (Lw.ln x0 (h0.ul a11) rfl (Lw.lt rfl (Lw.nil (Cw.cond (b := decide ((y5 : Int) < ((x0.length : Int) : Int))) rfl (fun hc13 => ?_) (fun hc13 => ?_)))))))))
 ·replace hm := bt hm hc13
  refine Cw.skip (Cw.seq (Cw.block (Cw.region (Lw.m v3 rfl (Lw.m (vI y5) rfl (Lw.m v0_ rfl (Lw.m (vI y5) rfl ?_)))))))
  obtain ⟨u14, e15, hm⟩ := ob hm
  refine Lw.r rfl (R.ix (α := Memo) (h0.ul a11) e15 rfl rfl rfl) ?_
  obtain ⟨x16, c17, _, r18⟩ := ((h0.ul a11).at_ e15).cells
  obtain ⟨v19, v21, v23, v25, rfl, r20, r22, r24, r26⟩ := Memo.split r18
  refine Lw.r rfl (R.lda c17 rfl rfl) ?_
  obtain ⟨z27, e28, hm⟩ := ob hm
  refine Lw.t rfl (T.call rfl (p22 (K := [0]) (k0 := 3) (k1 := 4) (k2 := 5) (k3 := 6) (Memo.rd (K := [0]) u14.Old u14.One u14.Two u14.Done r20 r22 r24 r26) e28)) ?_
  rintro _ _ ⟨W29, rfl, l29, ⟨v0_0_29, v0_1_29, v0_2_29, v0_3_29, rfl, f29_0, f29_1, f29_2, f29_3⟩⟩
  obtain ⟨u32, e33, hm⟩ := ob hm
  refine Lw.r rfl (R.ix (α := Memo) (o7.up l29 rfl).rd e33 rfl rfl rfl) ?_
  obtain ⟨q35, e36, hm⟩ := ob hm
  refine Lw.u (T.stO (J := [3, 4, 5, 6]) (o7.up l29 rfl) (Memo.own z27.Old z27.One z27.Two z27.Done f29_0.s f29_1.s f29_2.s f29_3.s) e36 rfl rfl rfl) ?_
  rintro _ _ ⟨W34, rfl, l34, o34⟩
  refine Lw.nil (Cw.region (Lw.m (vI y5) rfl (Lw.add rfl (Lw.g (vI (w64 (y5 + 1))) rfl (Lw.nil (⟨?_, m10, Nat.lt_succ_self m10, ⟨w64 (y5 + 1), q35, W34, rfl, (l8.trans ((l29.sub rfl).trans l34)), rfl, o34, hm⟩⟩))))))
  iterate 15 (refine Agree.up rfl ?_)
  iterate 1 (refine Agree.up rfl ?_)
  exact Agree.base
 ·replace hm := bf hm hc13
  refine Cw.exit ?_
  rw [hK9] at hm
  refine Cw.seq (Cw.region (Lw.m v3 rfl (Lw.g v3 rfl (Lw.nil ?_))))
  cases hm
  exact Cw.ret (ret1 rfl (Res.mk a11 ⟨v3, rfl, o7.s.sub rfl rfl⟩))

theorem p14 {W : CW} {K : List Nat} {x0 : List Vm.Memo} {v0_ : Value} {k0 : Nat} {r : (List Vm.Memo)} (h0 : Rd W K [v0_] x0) (hm : Vm.laws_toMemoS x0 = some r) : CallR Try.prog 14 [v0_].toArray W.w (Res W [] fun W' v => ∃ (u0 : Value), v = u0 ∧ Ow W' k0 [] [u0] r) :=
 (c14 (V := W.view K []) (h0.view _) hm).ad (fk k0) fun _ _ ⟨u0, e, f0⟩ => ⟨u0, e, f0.back (fk_LL _)⟩

theorem c92 {V : CW} {x0 : Str} {r : Bool}  (hm : Vm.spec_l1Line x0 = some r) : CallR Try.prog 92 [vS x0].toArray V.w (Res V LL fun Wf v => v = vB r) := by
 unfold Vm.spec_l1Line at hm
 obtain ⟨W0, hW0⟩ : ∃ W, W = V := ⟨V, rfl⟩
 subst hW0
 refine CallR.of Try.func92 rfl rfl rfl rfl (Cw.seq (Cw.region (Lw.g (vB false) rfl (Lw.nil (Cw.seq (Cw.seq (Cw.region (Lw.g (vI 0) rfl (Lw.nil (Cw.block ?_))))))))))
 obtain ⟨K4, hK4, hm⟩ := jn_e hm
 refine Cw.loop 4 19 [2, 3] (fun m l w => ∃ (y1 : Bool) (y2 : Int) (W3 : CW), W3.w = w ∧ Le [] W0 W3 ∧ l = [vB y1, vI y2] ∧ Vm.spec_l1Line_l1 x0 K4 m y1 y2 = some r) (((x0.length : Int) - 0).toNat + 1) ⟨false, 0, W0, rfl, Le.refl _ _, rfl, hm⟩ ?_
 rintro m5 _ _ σ ⟨y1, y2, W3, rfl, l3, rfl, hm⟩
 obtain _ | m5 := m5
 ·cases hm
 unfold Vm.spec_l1Line_l1 at hm
 have a6 := l3.o
 refine Cw.seq (Cw.seq (Cw.region (Lw.m (vI y2) rfl (Lw.m (vS x0) rfl (Lw.r rfl (R.lenS rfl) (Lw.lt rfl (Lw.nil (Cw.cond (b := decide ((y2 : Int) < ((x0.length : Int) : Int))) rfl (fun hc7 => ?_) (fun hc7 => ?_)))))))))
 ·replace hm := bt hm hc7
  refine Cw.skip (Cw.seq (Cw.block ?_))
  obtain ⟨K10, hK10, hm⟩ := jn_e hm
  refine Cw.join 10 19 [19] (fun l w => ∃ (y8 : Bool) (W9 : CW), W9.w = w ∧ Le [] W3 W9 ∧ l = [vB y8] ∧ K10 y8 = some r) ?_ ?_
  ·rintro _ _ σ ⟨y8, W9, rfl, l9, rfl, hm⟩
   rw [hK10] at hm
   have a11 := a6.n l9
   refine Cw.cond (b := y8) rfl (fun hc12 => ?_) (fun hc12 => ?_)
   ·replace hm := bt hm hc12
    refine Cw.seq (Cw.region (Lw.g (vB false) rfl (Lw.nil ?_)))
    cases hm
    exact Cw.ret (ret1 rfl (Res.mk a11 rfl))
   ·replace hm := bf hm hc12
    refine Cw.skip (Cw.region (Lw.m (vI y2) rfl (Lw.add rfl (Lw.g (vI (w64 (y2 + 1))) rfl (Lw.nil (⟨?_, m5, Nat.lt_succ_self m5, ⟨y1, w64 (y2 + 1), W9, rfl, (l3.trans l9), rfl, hm⟩⟩))))))
    iterate 3 (refine Agree.up rfl ?_)
    iterate 1 (refine Agree.up rfl ?_)
    refine Agree.ov0 rfl ?_
    iterate 4 (refine Agree.up rfl ?_)
    iterate 2 (refine Agree.up rfl ?_)
    exact Agree.base
  ·refine Cw.region (Lw.m (vS x0) rfl (Lw.m (vI y2) rfl ?_))
   obtain ⟨u13, e14, hm⟩ := ob hm
   refine Lw.r rfl (R.chm e14 rfl rfl) (Lw.lt rfl (Lw.m (vB (decide (((UInt8.toNat u13 : Int) : Int) < (32 : Int)))) rfl (bsplit (decide (((UInt8.toNat u13 : Int) : Int) < (32 : Int))) (fun hc15 => ?_) (fun hc15 => ?_))))
   ·replace hm := bt hm hc15
    refine Lw.pass' hc15 rfl rfl rfl rfl rfl rfl rfl (Lw.pass' hc15 rfl rfl rfl rfl rfl rfl rfl (Lw.pass' hc15 rfl rfl rfl rfl rfl rfl rfl (Lw.pass' hc15 rfl rfl rfl rfl rfl rfl rfl (Lw.p hc15 (vB true) rfl (Lw.nil (⟨?_, ⟨true, W3, rfl, Le.refl _ _, rfl, hm⟩⟩))))))
    iterate 10 (refine Agree.up rfl ?_)
    exact Agree.refl _
   ·replace hm := bf hm hc15
    refine Lw.want' hc15 rfl rfl rfl rfl (Lw.m (vS x0) rfl (Lw.want' hc15 rfl rfl rfl rfl (Lw.m (vI y2) rfl (Lw.want' hc15 rfl rfl rfl rfl ?_))))
    obtain ⟨u16, e17, hm⟩ := ob hm
    refine Lw.r rfl (R.chm e17 rfl rfl) (Lw.want' hc15 rfl rfl rfl rfl (Lw.gt rfl (Lw.p hc15 (vB (decide ((126 : Int) < ((UInt8.toNat u16 : Int) : Int)))) rfl (Lw.nil (⟨?_, ⟨decide ((126 : Int) < ((UInt8.toNat u16 : Int) : Int)), W3, rfl, Le.refl _ _, rfl, hm⟩⟩)))))
    iterate 10 (refine Agree.up rfl ?_)
    exact Agree.refl _
 ·replace hm := bf hm hc7
  refine Cw.exit ?_
  rw [hK4] at hm
  refine Cw.seq (Cw.region (Lw.m (vS x0) rfl (Lw.r rfl (R.lenS rfl) (Lw.le rfl (Lw.g (vB (decide (((x0.length : Int) : Int) ≤ (12 : Int)))) rfl (Lw.nil ?_))))))
  cases hm
  exact Cw.ret (ret1 rfl (Res.mk a6 rfl))

theorem p92 {W : CW} {K : List Nat} {x0 : Str} {r : Bool}  (hm : Vm.spec_l1Line x0 = some r) : CallR Try.prog 92 [vS x0].toArray W.w (Res W [] fun W' v => v = vB r) :=
 (c92 (V := W.view K [])  hm).ad (fk 0) fun _ _ e => e

theorem c66 {V : CW} {x0 : List Str} {v0_ : Value} {r : Bool} (h0 : Rd V [0] [v0_] x0) (hm : Vm.spec_l1Ok x0 = some r) : CallR Try.prog 66 [v0_].toArray V.w (Res V LL fun Wf v => v = vB r) := by
 unfold Vm.spec_l1Ok at hm
 obtain ⟨W0, hW0⟩ : ∃ W, W = V := ⟨V, rfl⟩
 subst hW0
 refine CallR.of Try.func66 rfl rfl rfl rfl (Cw.seq (Cw.region (Lw.g (vB false) rfl (Lw.nil (Cw.seq (Cw.seq (Cw.region (Lw.g (vI 0) rfl (Lw.nil (Cw.block ?_))))))))))
 obtain ⟨K4, hK4, hm⟩ := jn_e hm
 refine Cw.loop 4 15 [2, 3] (fun m l w => ∃ (y1 : Bool) (y2 : Int) (W3 : CW), W3.w = w ∧ Le [] W0 W3 ∧ l = [vB y1, vI y2] ∧ Vm.spec_l1Ok_l1 x0 K4 m y1 y2 = some r) (((x0.length : Int) - 0).toNat + 1) ⟨false, 0, W0, rfl, Le.refl _ _, rfl, hm⟩ ?_
 rintro m5 _ _ σ ⟨y1, y2, W3, rfl, l3, rfl, hm⟩
 obtain _ | m5 := m5
 ·cases hm
 unfold Vm.spec_l1Ok_l1 at hm
 have a6 := l3.o
 refine Cw.seq (Cw.seq (Cw.region ?_))
 have s7 := h0.ul a6
 refine Lw.m (vI y2) rfl (Lw.m v0_ rfl (Lw.ln x0 s7 rfl (Lw.lt rfl (Lw.nil (Cw.cond (b := decide ((y2 : Int) < ((x0.length : Int) : Int))) rfl (fun hc8 => ?_) (fun hc8 => ?_))))))
 ·replace hm := bt hm hc8
  refine Cw.skip (Cw.seq (Cw.block (Cw.seq (Cw.region (Lw.m v0_ rfl (Lw.m (vI y2) rfl ?_))))))
  obtain ⟨u9, e10, hm⟩ := ob hm
  refine Lw.r rfl (R.ix (α := Str) s7 e10 rfl rfl rfl) (Lw.r rfl (R.ld rfl rfl (s7.at_ e10).str) ?_)
  obtain ⟨z11, e12, hm⟩ := ob hm
  refine Lw.t rfl (T.call rfl (p92 (K := [0])   e12)) ?_
  rintro _ _ ⟨W13, rfl, l13, rfl⟩
  have a14 := a6.n l13
  refine Lw.r rfl (R.not rfl) (Lw.nil (Cw.cond (b := (!z11)) rfl (fun hc15 => ?_) (fun hc15 => ?_)))
  ·replace hm := bt hm hc15
   refine Cw.seq (Cw.region (Lw.g (vB false) rfl (Lw.nil ?_)))
   cases hm
   exact Cw.ret (ret1 rfl (Res.mk a14 rfl))
  ·replace hm := bf hm hc15
   refine Cw.skip (Cw.region (Lw.m (vI y2) rfl (Lw.add rfl (Lw.g (vI (w64 (y2 + 1))) rfl (Lw.nil (⟨?_, m5, Nat.lt_succ_self m5, ⟨y1, w64 (y2 + 1), W13, rfl, (l3.trans l13), rfl, hm⟩⟩))))))
   iterate 13 (refine Agree.up rfl ?_)
   iterate 2 (refine Agree.up rfl ?_)
   exact Agree.base
 ·replace hm := bf hm hc8
  refine Cw.exit ?_
  rw [hK4] at hm
  refine Cw.seq (Cw.region (Lw.m v0_ rfl (Lw.ln x0 s7 rfl (Lw.le rfl (Lw.g (vB (decide (((x0.length : Int) : Int) ≤ (10 : Int)))) rfl (Lw.nil ?_))))))
  cases hm
  exact Cw.ret (ret1 rfl (Res.mk a6 rfl))

theorem p66 {W : CW} {K : List Nat} {x0 : List Str} {v0_ : Value} {r : Bool} (h0 : Rd W K [v0_] x0) (hm : Vm.spec_l1Ok x0 = some r) : CallR Try.prog 66 [v0_].toArray W.w (Res W [] fun W' v => v = vB r) :=
 (c66 (V := W.view K []) (h0.view _) hm).ad (fk 0) fun _ _ e => e

theorem c89 {V : CW} {x0 : List Str} {v0_ : Value} {x1 : List Str} {v1_ : Value} {r : Bool} (h0 : Rd V [0] [v0_] x0) (h1 : Rd V [0] [v1_] x1) (hm : Vm.spec_l1Same x0 x1 = some r) : CallR Try.prog 89 [v0_, v1_].toArray V.w (Res V LL fun Wf v => v = vB r) := by
 unfold Vm.spec_l1Same at hm
 obtain ⟨W0, hW0⟩ : ∃ W, W = V := ⟨V, rfl⟩
 subst hW0
 refine CallR.of Try.func89 rfl rfl rfl rfl (Cw.seq (Cw.region (Lw.g (vB false) rfl (Lw.nil (Cw.seq (Cw.seq (Cw.region (Lw.m v0_ rfl (Lw.ln x0 h0 rfl (Lw.m v1_ rfl (Lw.ln x1 h1 rfl (Lw.ne rfl (Lw.nil (Cw.cond (b := (((x0.length : Int) : Int) != ((x1.length : Int) : Int))) rfl (fun hc1 => ?_) (fun hc1 => ?_)))))))))))))))
 ·replace hm := bt hm hc1
  refine Cw.seq (Cw.region (Lw.g (vB false) rfl (Lw.nil ?_)))
  cases hm
  exact Cw.ret (ret1 rfl (Res.mk (Le.refl _ _) rfl))
 ·replace hm := bf hm hc1
  refine Cw.skip (Cw.seq (Cw.seq (Cw.region (Lw.g (vI 0) rfl (Lw.nil (Cw.block ?_))))))
  obtain ⟨K5, hK5, hm⟩ := jn_e hm
  refine Cw.loop 11 25 [4, 5] (fun m l w => ∃ (y2 : Bool) (y3 : Int) (W4 : CW), W4.w = w ∧ Le [] W0 W4 ∧ l = [vB y2, vI y3] ∧ Vm.spec_l1Same_l1 x0 x1 K5 m y2 y3 = some r) (((x0.length : Int) - 0).toNat + 1) ⟨false, 0, W0, rfl, Le.refl _ _, rfl, hm⟩ ?_
  rintro m6 _ _ σ ⟨y2, y3, W4, rfl, l4, rfl, hm⟩
  obtain _ | m6 := m6
  ·cases hm
  unfold Vm.spec_l1Same_l1 at hm
  have a7 := l4.o
  refine Cw.seq (Cw.seq (Cw.region (Lw.m (vI y3) rfl (Lw.m v0_ rfl (Lw.ln x0 (h0.ul a7) rfl (Lw.lt rfl (Lw.nil (Cw.cond (b := decide ((y3 : Int) < ((x0.length : Int) : Int))) rfl (fun hc9 => ?_) (fun hc9 => ?_)))))))))
  ·replace hm := bt hm hc9
   refine Cw.skip (Cw.seq (Cw.block (Cw.seq (Cw.draw [] [(0, 0), (1, 0), (2, 0), (3, 1), (4, 0), (5, 0), (6, 0), (7, 1), (8, 0)] mixed (by kernel_rfl) fun W10 l10 => ?_))))
   have a11 := a7.n l10
   refine Mw.p rfl rfl (fun _ => R.mv (v := v0_) rfl) (Mw.p rfl rfl (fun _ => R.mv (v := vI y3) rfl) ?_)
   obtain ⟨u12, e13, hm⟩ := ob hm
   refine Mw.p rfl rfl (fun _ => R.ix (α := Str) (h0.ul a11) e13 rfl rfl rfl) (Mw.q rfl rfl (fun _ c => R.ld rfl rfl (cl_cell ((h0.ul a11).at_ e13).1 rfl ((h0.ul a11).at_ e13).str c)) (Mw.p rfl rfl (fun _ => R.mv (v := v1_) rfl) (Mw.p rfl rfl (fun _ => R.mv (v := vI y3) rfl) ?_)))
   obtain ⟨u15, e16, hm⟩ := ob hm
   refine Mw.p rfl rfl (fun _ => R.ix (α := Str) (h1.ul a11) e16 rfl rfl rfl) (Mw.q rfl rfl (fun _ c => R.ld rfl rfl (cl_cell ((h1.ul a11).at_ e16).1 rfl ((h1.ul a11).at_ e16).str c)) (Mw.p rfl rfl (fun _ => R.sne rfl rfl) (Mw.nil (Cw.cond (b := (u12 != u15)) rfl (fun hc18 => ?_) (fun hc18 => ?_)))))
   ·replace hm := bt hm hc18
    refine Cw.seq (Cw.region (Lw.g (vB false) rfl (Lw.nil ?_)))
    cases hm
    exact Cw.ret (ret1 rfl (Res.mk a11 rfl))
   ·replace hm := bf hm hc18
    refine Cw.skip (Cw.region (Lw.m (vI y3) rfl (Lw.add rfl (Lw.g (vI (w64 (y3 + 1))) rfl (Lw.nil (⟨?_, m6, Nat.lt_succ_self m6, ⟨y2, w64 (y3 + 1), W10, rfl, (l4.trans l10), rfl, hm⟩⟩))))))
    iterate 16 (refine Agree.up rfl ?_)
    iterate 2 (refine Agree.up rfl ?_)
    exact Agree.base
  ·replace hm := bf hm hc9
   refine Cw.exit ?_
   rw [hK5] at hm
   refine Cw.seq (Cw.region (Lw.g (vB true) rfl (Lw.nil ?_)))
   cases hm
   exact Cw.ret (ret1 rfl (Res.mk a7 rfl))

theorem p89 {W : CW} {K : List Nat} {x0 : List Str} {v0_ : Value} {x1 : List Str} {v1_ : Value} {r : Bool} (h0 : Rd W K [v0_] x0) (h1 : Rd W K [v1_] x1) (hm : Vm.spec_l1Same x0 x1 = some r) : CallR Try.prog 89 [v0_, v1_].toArray W.w (Res W [] fun W' v => v = vB r) :=
 (c89 (V := W.view K []) (h0.view _) (h1.view _) hm).ad (fk 0) fun _ _ e => e

theorem c63 {V : CW} {x0 : Vm.Memo} {v0_0_ : Value} {v0_1_ : Value} {v0_2_ : Value} {v0_3_ : Value} {x1 : List Str} {v1_ : Value} {x2 : List Str} {v2_ : Value} {x3 : List Str} {v3_ : Value} {r : Bool} (h0 : Rd V [0] [v0_0_, v0_1_, v0_2_, v0_3_] x0) (h1 : Rd V [0] [v1_] x1) (h2 : Rd V [0] [v2_] x2) (h3 : Rd V [0] [v3_] x3) (hm : Vm.spec_l18Same x0 x1 x2 x3 = some r) : CallR Try.prog 63 [.agg [v0_0_, v0_1_, v0_2_, v0_3_].toArray, v1_, v2_, v3_].toArray V.w (Res V LL fun Wf v => v = vB r) := by
 unfold Vm.spec_l18Same at hm
 obtain ⟨w0_0, w0_1, w0_2, w0_3, he0, h0_0, h0_1, h0_2, h0_3⟩ := Memo.split h0
 simp only [List.cons.injEq, and_true, true_and] at he0
 obtain ⟨rfl, rfl, rfl, rfl⟩ := he0
 obtain ⟨W0, hW0⟩ : ∃ W, W = V := ⟨V, rfl⟩
 subst hW0
 refine CallR.of Try.func63 rfl rfl rfl rfl (Cw.seq (Cw.region (Lw.t rfl (T.box 2 (v := .agg [v0_0_, v0_1_, v0_2_, v0_3_].toArray) (cs := [v0_0_, v0_1_, v0_2_, v0_3_]) rfl rfl) ?_)))
 rintro _ _ ⟨g1, W1, rfl, rfl, l1, b1⟩
 have a2 := l1.o
 refine Lw.g (vB false) rfl (Lw.nil ?_)
 obtain ⟨K5, hK5, hm⟩ := jn_e hm
 refine Cw.join 9 36 [8] (fun l w => ∃ (y3 : Bool) (W4 : CW), W4.w = w ∧ Le [] W1 W4 ∧ l = [vB y3] ∧ K5 y3 = some r) ?_ ?_
 ·rintro _ _ σ ⟨y3, W4, rfl, l4, rfl, hm⟩
  rw [hK5] at hm
  have a6 := a2.n l4
  cases hm
  exact Cw.ret (ret1 rfl (Res.mk a6 rfl))
 ·refine Cw.region (Lw.fa rfl (Lw.r rfl (R.ld (v := v0_0_) rfl rfl (b1.cell rfl)) (Lw.m v1_ rfl ?_)))
  obtain ⟨z10, e11, hm⟩ := ob hm
  refine Lw.t rfl (T.call rfl (p89 (K := [0])  (h0_0.ul a2) (h1.ul a2) e11)) ?_
  rintro _ _ ⟨W12, rfl, l12, rfl⟩
  have a13 := a2.n l12
  refine Lw.m (vB z10) rfl (bsplit z10 (fun hc15 => ?_) (fun hc15 => ?_))
  ·replace hm := bt hm hc15
   refine Lw.want' hc15 rfl rfl rfl rfl (Lw.fa rfl (Lw.want' hc15 rfl rfl rfl rfl (Lw.r rfl (R.ld (v := v0_1_) rfl rfl ((b1.up l12 rfl).cell rfl)) (Lw.want' hc15 rfl rfl rfl rfl (Lw.m v2_ rfl (Lw.want' hc15 rfl rfl rfl rfl ?_))))))
   obtain ⟨z18, e19, hm⟩ := ob hm
   refine Lw.t rfl (T.call rfl (p89 (K := [0])  (h0_1.ul a13) (h2.ul a13) e19)) ?_
   rintro _ _ ⟨W20, rfl, l20, rfl⟩
   have a21 := a13.n l20
   have b22 := (b1.up l12 rfl).up l20 rfl
   refine Lw.want' hc15 rfl rfl rfl rfl (Lw.m (vB z18) rfl (bsplit z18 (fun hc23 => ?_) (fun hc23 => ?_)))
   ·replace hm := bt hm hc23
    refine Lw.want' hc23 rfl rfl rfl rfl (Lw.fa rfl (Lw.want' hc23 rfl rfl rfl rfl (Lw.r rfl (R.ld (v := v0_2_) rfl rfl (b22.cell rfl)) (Lw.want' hc23 rfl rfl rfl rfl (Lw.m v3_ rfl (Lw.want' hc23 rfl rfl rfl rfl ?_))))))
    obtain ⟨z26, e27, hm⟩ := ob hm
    refine Lw.t rfl (T.call rfl (p89 (K := [0])  (h0_2.ul a21) (h3.ul a21) e27)) ?_
    rintro _ _ ⟨W28, rfl, l28, rfl⟩
    have a29 := a21.n l28
    refine Lw.want' hc15 rfl rfl rfl rfl (Lw.p hc23 (vB z26) rfl (Lw.want' hc15 rfl rfl rfl rfl (Lw.m (vB z26) rfl (bsplit z26 (fun hc31 => ?_) (fun hc31 => ?_)))))
    ·replace hm := bt hm hc31
     refine Lw.pass' hc31 rfl rfl rfl rfl rfl rfl rfl (Lw.pass' hc31 rfl rfl rfl rfl rfl rfl rfl (Lw.pass' hc31 rfl rfl rfl rfl rfl rfl rfl (Lw.pass' hc31 rfl rfl rfl rfl rfl rfl rfl (Lw.pass' hc31 rfl rfl rfl rfl rfl rfl rfl (Lw.passU rfl rfl rfl rfl rfl rfl (Lw.passU rfl rfl rfl rfl rfl rfl (Lw.passU rfl rfl rfl rfl rfl rfl (Lw.passU rfl rfl rfl rfl rfl rfl (Lw.pass' hc31 rfl rfl rfl rfl rfl rfl rfl (Lw.want' hc15 rfl rfl rfl rfl (Lw.p hc31 (vB true) rfl (Lw.p hc15 (vB true) rfl (Lw.g (vB true) rfl (Lw.nil (⟨?_, ⟨true, W28, rfl, (l12.trans (l20.trans l28)), rfl, hm⟩⟩)))))))))))))))
     iterate 29 (refine Agree.up rfl ?_)
     exact Agree.refl _
    ·replace hm := bf hm hc31
     refine Lw.want' hc31 rfl rfl rfl rfl (Lw.fa rfl (Lw.want' hc31 rfl rfl rfl rfl (Lw.r rfl (R.ld (v := v0_1_) rfl rfl ((b22.up l28 rfl).cell rfl)) (Lw.want' hc31 rfl rfl rfl rfl (Lw.m v3_ rfl (Lw.want' hc31 rfl rfl rfl rfl ?_))))))
     obtain ⟨z34, e35, hm⟩ := ob hm
     refine Lw.t rfl (T.call rfl (p89 (K := [0])  (h0_1.ul a29) (h3.ul a29) e35)) ?_
     rintro _ _ ⟨W36, rfl, l36, rfl⟩
     have a37 := a29.n l36
     refine Lw.want' hc31 rfl rfl rfl rfl (Lw.m (vB z34) rfl (bsplit z34 (fun hc39 => ?_) (fun hc39 => ?_)))
     ·replace hm := bt hm hc39
      refine Lw.want' hc39 rfl rfl rfl rfl (Lw.fa rfl (Lw.want' hc39 rfl rfl rfl rfl (Lw.r rfl (R.ld (v := v0_2_) rfl rfl (((b22.up l28 rfl).up l36 rfl).cell rfl)) (Lw.want' hc39 rfl rfl rfl rfl (Lw.m v2_ rfl (Lw.want' hc39 rfl rfl rfl rfl ?_))))))
      obtain ⟨z42, e43, hm⟩ := ob hm
      refine Lw.t rfl (T.call rfl (p89 (K := [0])  (h0_2.ul a37) (h2.ul a37) e43)) ?_
      rintro _ _ ⟨W44, rfl, l44, rfl⟩
      refine Lw.want' hc31 rfl rfl rfl rfl (Lw.p hc39 (vB z42) rfl (Lw.want' hc15 rfl rfl rfl rfl (Lw.p hc31 (vB z42) rfl (Lw.p hc15 (vB z42) rfl (Lw.g (vB z42) rfl (Lw.nil (⟨?_, ⟨z42, W44, rfl, (l12.trans (l20.trans (l28.trans (l36.trans l44)))), rfl, hm⟩⟩)))))))
      iterate 29 (refine Agree.up rfl ?_)
      exact Agree.refl _
     ·replace hm := bf hm hc39
      refine Lw.pass' hc39 rfl rfl rfl rfl rfl rfl rfl (Lw.pass' hc39 rfl rfl rfl rfl rfl rfl rfl (Lw.pass' hc39 rfl rfl rfl rfl rfl rfl rfl (Lw.pass' hc39 rfl rfl rfl rfl rfl rfl rfl (Lw.want' hc31 rfl rfl rfl rfl (Lw.p hc39 (vB false) rfl (Lw.want' hc15 rfl rfl rfl rfl (Lw.p hc31 (vB false) rfl (Lw.p hc15 (vB false) rfl (Lw.g (vB false) rfl (Lw.nil (⟨?_, ⟨false, W36, rfl, (l12.trans (l20.trans (l28.trans l36))), rfl, hm⟩⟩)))))))))))
      iterate 29 (refine Agree.up rfl ?_)
      exact Agree.refl _
   ·replace hm := bf hm hc23
    refine Lw.pass' hc23 rfl rfl rfl rfl rfl rfl rfl (Lw.pass' hc23 rfl rfl rfl rfl rfl rfl rfl (Lw.pass' hc23 rfl rfl rfl rfl rfl rfl rfl (Lw.pass' hc23 rfl rfl rfl rfl rfl rfl rfl (Lw.want' hc15 rfl rfl rfl rfl (Lw.p hc23 (vB false) rfl (Lw.want' hc15 rfl rfl rfl rfl (Lw.m (vB false) rfl (Lw.want' rfl rfl rfl rfl rfl (Lw.fa rfl (Lw.want' rfl rfl rfl rfl rfl (Lw.r rfl (R.ld (v := v0_1_) rfl rfl (b22.cell rfl)) (Lw.want' rfl rfl rfl rfl rfl (Lw.m v3_ rfl (Lw.want' rfl rfl rfl rfl rfl ?_))))))))))))))
    obtain ⟨z49, e50, hm⟩ := ob hm
    refine Lw.t rfl (T.call rfl (p89 (K := [0])  (h0_1.ul a21) (h3.ul a21) e50)) ?_
    rintro _ _ ⟨W51, rfl, l51, rfl⟩
    have a52 := a21.n l51
    refine Lw.want' rfl rfl rfl rfl rfl (Lw.m (vB z49) rfl (bsplit z49 (fun hc54 => ?_) (fun hc54 => ?_)))
    ·replace hm := bt hm hc54
     refine Lw.want' hc54 rfl rfl rfl rfl (Lw.fa rfl (Lw.want' hc54 rfl rfl rfl rfl (Lw.r rfl (R.ld (v := v0_2_) rfl rfl ((b22.up l51 rfl).cell rfl)) (Lw.want' hc54 rfl rfl rfl rfl (Lw.m v2_ rfl (Lw.want' hc54 rfl rfl rfl rfl ?_))))))
     obtain ⟨z57, e58, hm⟩ := ob hm
     refine Lw.t rfl (T.call rfl (p89 (K := [0])  (h0_2.ul a52) (h2.ul a52) e58)) ?_
     rintro _ _ ⟨W59, rfl, l59, rfl⟩
     refine Lw.want' rfl rfl rfl rfl rfl (Lw.p hc54 (vB z57) rfl (Lw.want' hc15 rfl rfl rfl rfl (Lw.p rfl (vB z57) rfl (Lw.p hc15 (vB z57) rfl (Lw.g (vB z57) rfl (Lw.nil (⟨?_, ⟨z57, W59, rfl, (l12.trans (l20.trans (l51.trans l59))), rfl, hm⟩⟩)))))))
     iterate 29 (refine Agree.up rfl ?_)
     exact Agree.refl _
    ·replace hm := bf hm hc54
     refine Lw.pass' hc54 rfl rfl rfl rfl rfl rfl rfl (Lw.pass' hc54 rfl rfl rfl rfl rfl rfl rfl (Lw.pass' hc54 rfl rfl rfl rfl rfl rfl rfl (Lw.pass' hc54 rfl rfl rfl rfl rfl rfl rfl (Lw.want' rfl rfl rfl rfl rfl (Lw.p hc54 (vB false) rfl (Lw.want' hc15 rfl rfl rfl rfl (Lw.p rfl (vB false) rfl (Lw.p hc15 (vB false) rfl (Lw.g (vB false) rfl (Lw.nil (⟨?_, ⟨false, W51, rfl, (l12.trans (l20.trans l51)), rfl, hm⟩⟩)))))))))))
     iterate 29 (refine Agree.up rfl ?_)
     exact Agree.refl _
  ·replace hm := bf hm hc15
   refine Lw.pass' hc15 rfl rfl rfl rfl rfl rfl rfl (Lw.pass' hc15 rfl rfl rfl rfl rfl rfl rfl (Lw.pass' hc15 rfl rfl rfl rfl rfl rfl rfl (Lw.pass' hc15 rfl rfl rfl rfl rfl rfl rfl (Lw.pass' hc15 rfl rfl rfl rfl rfl rfl rfl (Lw.passU rfl rfl rfl rfl rfl rfl (Lw.passU rfl rfl rfl rfl rfl rfl (Lw.passU rfl rfl rfl rfl rfl rfl (Lw.passU rfl rfl rfl rfl rfl rfl (Lw.pass' hc15 rfl rfl rfl rfl rfl rfl rfl (Lw.pass' hc15 rfl rfl rfl rfl rfl rfl rfl (Lw.passU rfl rfl rfl rfl rfl rfl (Lw.passU rfl rfl rfl rfl rfl rfl (Lw.passU rfl rfl rfl rfl rfl rfl (Lw.passU rfl rfl rfl rfl rfl rfl (Lw.passU rfl rfl rfl rfl rfl rfl (Lw.passU rfl rfl rfl rfl rfl rfl (Lw.passU rfl rfl rfl rfl rfl rfl (Lw.passU rfl rfl rfl rfl rfl rfl (Lw.passU rfl rfl rfl rfl rfl rfl (Lw.passU rfl rfl rfl rfl rfl rfl (Lw.pass' hc15 rfl rfl rfl rfl rfl rfl rfl (Lw.p hc15 (vB false) rfl (Lw.g (vB false) rfl (Lw.nil (⟨?_, ⟨false, W12, rfl, l12, rfl, hm⟩⟩)))))))))))))))))))))))))
   iterate 29 (refine Agree.up rfl ?_)
   exact Agree.refl _

theorem p63 {W : CW} {K : List Nat} {x0 : Vm.Memo} {v0_0_ : Value} {v0_1_ : Value} {v0_2_ : Value} {v0_3_ : Value} {x1 : List Str} {v1_ : Value} {x2 : List Str} {v2_ : Value} {x3 : List Str} {v3_ : Value} {r : Bool} (h0 : Rd W K [v0_0_, v0_1_, v0_2_, v0_3_] x0) (h1 : Rd W K [v1_] x1) (h2 : Rd W K [v2_] x2) (h3 : Rd W K [v3_] x3) (hm : Vm.spec_l18Same x0 x1 x2 x3 = some r) : CallR Try.prog 63 [.agg [v0_0_, v0_1_, v0_2_, v0_3_].toArray, v1_, v2_, v3_].toArray W.w (Res W [] fun W' v => v = vB r) :=
 (c63 (V := W.view K []) (h0.view _) (h1.view _) (h2.view _) (h3.view _) hm).ad (fk 0) fun _ _ e => e

theorem c53 {V : CW} {x0 : List Vm.Memo} {v0_ : Value} {r : Bool} (h0 : Rd V [0] [v0_] x0) (hm : Vm.spec_l18Ok x0 = some r) : CallR Try.prog 53 [v0_].toArray V.w (Res V LL fun Wf v => v = vB r) := by
 unfold Vm.spec_l18Ok at hm
 obtain ⟨W0, hW0⟩ : ∃ W, W = V := ⟨V, rfl⟩
 subst hW0
 refine CallR.of Try.func53 rfl rfl rfl rfl (Cw.seq (Cw.region (Lw.g (vB false) rfl (Lw.nil (Cw.seq (Cw.seq (Cw.region (Lw.g (vI 0) rfl (Lw.nil (Cw.block ?_))))))))))
 obtain ⟨K6, hK6, hm⟩ := jn_e hm
 refine Cw.loop 6 60 [2, 3, 4, 5] (fun m l w => ∃ (y1 : Bool) (y2 : Int) (j3 j4 : Value) (W5 : CW), W5.w = w ∧ Le [2] W0 W5 ∧ l = [vB y1, vI y2, j3, j4] ∧ Vm.spec_l18Ok_l1 x0 K6 m y1 y2 = some r) (((x0.length : Int) - 0).toNat + 1) ⟨false, 0, undef, undef, W0, rfl, Le.refl _ _, rfl, hm⟩ ?_
 rintro m7 _ _ σ ⟨y1, y2, j3, j4, W5, rfl, l5, rfl, hm⟩
 obtain _ | m7 := m7
 ·cases hm
 unfold Vm.spec_l18Ok_l1 at hm
 have a8 := l5.s rfl
 refine Cw.seq (Cw.seq (Cw.region ?_))
 have s9 := h0.ul a8
 refine Lw.m (vI y2) rfl (Lw.m v0_ rfl (Lw.ln x0 s9 rfl (Lw.lt rfl (Lw.nil (Cw.cond (b := decide ((y2 : Int) < ((x0.length : Int) : Int))) rfl (fun hc10 => ?_) (fun hc10 => ?_))))))
 ·replace hm := bt hm hc10
  refine Cw.skip (Cw.seq (Cw.block (Cw.seq (Cw.region (Lw.m v0_ rfl (Lw.m (vI y2) rfl ?_))))))
  obtain ⟨u11, e12, hm⟩ := ob hm
  refine Lw.r rfl (R.ix (α := Memo) s9 e12 rfl rfl rfl) ?_
  obtain ⟨x13, c14, _, r15⟩ := (s9.at_ e12).cells
  obtain ⟨v16, v18, v20, v22, rfl, r17, r19, r21, r23⟩ := Memo.split r15
  refine Lw.r rfl (R.lda c14 rfl rfl) (Lw.t rfl (T.alloc 2 (cs := [.slice none 0 0, .slice none 0 0, .slice none 0 0, .slice none 0 0]) rfl) ?_)
  rintro _ _ ⟨g24, W24, rfl, rfl, l24, b24⟩
  have a25 := l24.o
  refine Lw.u (T.sta (vs := [v16, v18, v20, v22]) b24 rfl rfl (oc_cons r17.oc (oc_cons r19.oc (oc_cons r21.oc (oc_cons r23.oc oc_nil)))) rfl rfl) ?_
  rintro _ _ ⟨W26, rfl, l26, b26⟩
  have a27 := l26.s rfl
  refine Lw.nil (Cw.seq ?_)
  obtain ⟨K30, hK30, hm⟩ := jn_e hm
  refine Cw.join 16 44 [44] (fun l w => ∃ (y28 : Bool) (W29 : CW), W29.w = w ∧ Le [] W26 W29 ∧ l = [vB y28] ∧ K30 y28 = some r) ?_ ?_
  ·rintro _ _ σ ⟨y28, W29, rfl, l29, rfl, hm⟩
   rw [hK30] at hm
   have a31 := l29.o
   refine Cw.cond (b := y28) rfl (fun hc33 => ?_) (fun hc33 => ?_)
   ·replace hm := bt hm hc33
    refine Cw.seq (Cw.region (Lw.g (vB false) rfl (Lw.nil ?_)))
    cases hm
    exact Cw.ret (ret1 rfl (Res.mk (((a8.trans a25).trans a27).trans a31) rfl))
   ·replace hm := bf hm hc33
    refine Cw.skip (Cw.seq (Cw.region (Lw.g (vI 0) rfl (Lw.nil (Cw.block ?_)))))
    obtain ⟨K37, hK37, hm⟩ := jn_e hm
    refine Cw.loop 45 60 [2, 5] (fun m l w => ∃ (y34 : Bool) (y35 : Int) (W36 : CW), W36.w = w ∧ Le [] W29 W36 ∧ l = [vB y34, vI y35] ∧ Vm.spec_l18Ok_l2 x0 y2 u11 K37 m y34 y35 = some r) ((y2 - 0).toNat + 1) ⟨y1, 0, W29, rfl, Le.refl _ _, rfl, hm⟩ ?_
    rintro m38 _ _ σ ⟨y34, y35, W36, rfl, l36, rfl, hm⟩
    obtain _ | m38 := m38
    ·cases hm
    unfold Vm.spec_l18Ok_l2 at hm
    have a39 := l36.o
    refine Cw.seq (Cw.seq (Cw.region (Lw.m (vI y35) rfl (Lw.m (vI y2) rfl (Lw.lt rfl (Lw.nil (Cw.cond (b := decide ((y35 : Int) < (y2 : Int))) rfl (fun hc41 => ?_) (fun hc41 => ?_))))))))
    ·replace hm := bt hm hc41
     refine Cw.skip (Cw.seq (Cw.block (Cw.seq (Cw.draw [] [(0, 0), (1, 0), (2, 0), (3, 1), (4, 0), (5, 1), (6, 0), (7, 1), (8, 0), (9, 1), (10, 3)] mixed (by kernel_rfl) fun W42 l42 => ?_))))
     have a43 := l42.o
     have b44 := ((b26.up l29 rfl).up l36 rfl).up l42 rfl
     refine Mw.p rfl rfl (fun _ => R.mv (v := v0_) rfl) (Mw.p rfl rfl (fun _ => R.mv (v := vI y35) rfl) ?_)
     obtain ⟨u45, e46, hm⟩ := ob hm
     have s47 := h0.ul (((((a8.trans a25).trans a27).trans a31).trans a39).trans a43)
     refine Mw.p rfl rfl (fun _ => R.ix (α := Memo) s47 e46 rfl rfl rfl) ?_
     obtain ⟨x48, c49, _, r50⟩ := (s47.at_ e46).cells
     obtain ⟨v51, v53, v55, v57, rfl, r52, r54, r56, r58⟩ := Memo.split r50
     refine Mw.q rfl rfl (fun _ c => R.lda (cl_cells (s47.at_ e46).1 rfl c49 c) rfl rfl) (Mw.p rfl rfl (fun _ => R.fa rfl) (Mw.q rfl rfl (fun _ c => R.ld (v := v16) rfl rfl (b44.clc rfl rfl c)) (Mw.p rfl rfl (fun _ => R.fa rfl) (Mw.q rfl rfl (fun _ c => R.ld (v := v18) rfl rfl (b44.clc rfl rfl c)) (Mw.p rfl rfl (fun _ => R.fa rfl) (Mw.q rfl rfl (fun _ c => R.ld (v := v20) rfl rfl (b44.clc rfl rfl c)) ?_))))))
     obtain ⟨z62, e63, hm⟩ := ob hm
     refine Mw.l rfl rfl (T.call rfl (p63 (K := [0])  (Memo.rd (K := [0]) u45.Old u45.One u45.Two u45.Done r52 r54 r56 r58) (r17.ul ((((a25.trans a27).trans a31).trans a39).trans a43)) (r19.ul ((((a25.trans a27).trans a31).trans a39).trans a43)) (r21.ul ((((a25.trans a27).trans a31).trans a39).trans a43)) e63)) ?_
     rintro _ _ ⟨W64, rfl, l64, rfl⟩
     have a65 := (((((a8.trans a25).trans a27).trans a31).trans a39).trans a43).n l64
     refine Mw.nil (Cw.cond (b := z62) rfl (fun hc67 => ?_) (fun hc67 => ?_))
     ·replace hm := bt hm hc67
      refine Cw.seq (Cw.region (Lw.g (vB false) rfl (Lw.nil ?_)))
      cases hm
      exact Cw.ret (ret1 rfl (Res.mk a65 rfl))
     ·replace hm := bf hm hc67
      refine Cw.skip (Cw.region (Lw.m (vI y35) rfl (Lw.add rfl (Lw.g (vI (w64 (y35 + 1))) rfl (Lw.nil (⟨?_, m38, Nat.lt_succ_self m38, ⟨y34, w64 (y35 + 1), W64, rfl, (l36.trans (l42.trans l64)), rfl, hm⟩⟩))))))
      iterate 17 (refine Agree.up rfl ?_)
      iterate 2 (refine Agree.up rfl ?_)
      exact Agree.base
    ·replace hm := bf hm hc41
     refine Cw.exit ?_
     rw [hK37] at hm
     refine Cw.region (Lw.m (vI y2) rfl (Lw.add rfl (Lw.g (vI (w64 (y2 + 1))) rfl (Lw.nil (⟨?_, m7, Nat.lt_succ_self m7, ⟨y34, w64 (y2 + 1), ptr (bx g24), vI y35, W36, rfl, (l5.trans ((l24.sub rfl).trans (l26.trans ((l29.sub rfl).trans (l36.sub rfl))))), rfl, hm⟩⟩)))))
     iterate 6 (refine Agree.up rfl ?_)
     iterate 2 (refine Agree.up rfl ?_)
     refine Agree.ov0 rfl ?_
     iterate 1 (refine Agree.up rfl ?_)
     iterate 1 (refine Agree.up rfl ?_)
     refine Agree.ov0 rfl ?_
     iterate 9 (refine Agree.up rfl ?_)
     iterate 4 (refine Agree.up rfl ?_)
     exact Agree.base
  ·refine Cw.region (Lw.fa rfl (Lw.r rfl (R.ld (v := v16) rfl rfl (b26.cell rfl)) ?_))
   obtain ⟨z69, e70, hm⟩ := ob hm
   refine Lw.t rfl (T.call rfl (p66 (K := [0])  (r17.ul (a25.trans a27)) e70)) ?_
   rintro _ _ ⟨W71, rfl, l71, rfl⟩
   have a72 := (a25.trans a27).n l71
   refine Lw.r rfl (R.not rfl) (Lw.m (vB (!z69)) rfl (bsplit (!z69) (fun hc74 => ?_) (fun hc74 => ?_)))
   ·replace hm := bt hm hc74
    refine Lw.pass' hc74 rfl rfl rfl rfl rfl rfl rfl (Lw.pass' hc74 rfl rfl rfl rfl rfl rfl rfl (Lw.pass' hc74 rfl rfl rfl rfl rfl rfl rfl (Lw.pass' hc74 rfl rfl rfl rfl rfl rfl rfl (Lw.p hc74 (vB true) rfl (Lw.m (vB true) rfl (Lw.pass' rfl rfl rfl rfl rfl rfl rfl rfl (Lw.pass' rfl rfl rfl rfl rfl rfl rfl rfl (Lw.pass' rfl rfl rfl rfl rfl rfl rfl rfl (Lw.pass' rfl rfl rfl rfl rfl rfl rfl rfl (Lw.p rfl (vB true) rfl (Lw.m (vB true) rfl (Lw.pass' rfl rfl rfl rfl rfl rfl rfl rfl (Lw.pass' rfl rfl rfl rfl rfl rfl rfl rfl (Lw.pass' rfl rfl rfl rfl rfl rfl rfl rfl (Lw.pass' rfl rfl rfl rfl rfl rfl rfl rfl (Lw.p rfl (vB true) rfl (Lw.m (vB true) rfl (Lw.pass' rfl rfl rfl rfl rfl rfl rfl rfl (Lw.pass' rfl rfl rfl rfl rfl rfl rfl rfl (Lw.pass' rfl rfl rfl rfl rfl rfl rfl rfl (Lw.pass' rfl rfl rfl rfl rfl rfl rfl rfl (Lw.pass' rfl rfl rfl rfl rfl rfl rfl rfl (Lw.p rfl (vB true) rfl (Lw.nil (⟨?_, ⟨true, W71, rfl, l71, rfl, hm⟩⟩)))))))))))))))))))))))))
    iterate 29 (refine Agree.up rfl ?_)
    exact Agree.refl _
   ·replace hm := bf hm hc74
    refine Lw.want' hc74 rfl rfl rfl rfl (Lw.fa rfl (Lw.want' hc74 rfl rfl rfl rfl (Lw.r rfl (R.ld (v := v18) rfl rfl ((b26.up l71 rfl).cell rfl)) (Lw.want' hc74 rfl rfl rfl rfl ?_))))
    obtain ⟨z76, e77, hm⟩ := ob hm
    refine Lw.t rfl (T.call rfl (p66 (K := [0])  (r19.ul a72) e77)) ?_
    rintro _ _ ⟨W78, rfl, l78, rfl⟩
    have a79 := a72.n l78
    have b80 := (b26.up l71 rfl).up l78 rfl
    refine Lw.want' hc74 rfl rfl rfl rfl (Lw.r rfl (R.not rfl) (Lw.p hc74 (vB (!z76)) rfl (Lw.m (vB (!z76)) rfl (bsplit (!z76) (fun hc81 => ?_) (fun hc81 => ?_)))))
    ·replace hm := bt hm hc81
     refine Lw.pass' hc81 rfl rfl rfl rfl rfl rfl rfl (Lw.pass' hc81 rfl rfl rfl rfl rfl rfl rfl (Lw.pass' hc81 rfl rfl rfl rfl rfl rfl rfl (Lw.pass' hc81 rfl rfl rfl rfl rfl rfl rfl (Lw.p hc81 (vB true) rfl (Lw.m (vB true) rfl (Lw.pass' rfl rfl rfl rfl rfl rfl rfl rfl (Lw.pass' rfl rfl rfl rfl rfl rfl rfl rfl (Lw.pass' rfl rfl rfl rfl rfl rfl rfl rfl (Lw.pass' rfl rfl rfl rfl rfl rfl rfl rfl (Lw.p rfl (vB true) rfl (Lw.m (vB true) rfl (Lw.pass' rfl rfl rfl rfl rfl rfl rfl rfl (Lw.pass' rfl rfl rfl rfl rfl rfl rfl rfl (Lw.pass' rfl rfl rfl rfl rfl rfl rfl rfl (Lw.pass' rfl rfl rfl rfl rfl rfl rfl rfl (Lw.pass' rfl rfl rfl rfl rfl rfl rfl rfl (Lw.p rfl (vB true) rfl (Lw.nil (⟨?_, ⟨true, W78, rfl, (l71.trans l78), rfl, hm⟩⟩)))))))))))))))))))
     iterate 29 (refine Agree.up rfl ?_)
     exact Agree.refl _
    ·replace hm := bf hm hc81
     refine Lw.want' hc81 rfl rfl rfl rfl (Lw.fa rfl (Lw.want' hc81 rfl rfl rfl rfl (Lw.r rfl (R.ld (v := v20) rfl rfl (b80.cell rfl)) (Lw.want' hc81 rfl rfl rfl rfl ?_))))
     obtain ⟨z83, e84, hm⟩ := ob hm
     refine Lw.t rfl (T.call rfl (p66 (K := [0])  (r21.ul a79) e84)) ?_
     rintro _ _ ⟨W85, rfl, l85, rfl⟩
     have a86 := a79.n l85
     refine Lw.want' hc81 rfl rfl rfl rfl (Lw.r rfl (R.not rfl) (Lw.p hc81 (vB (!z83)) rfl (Lw.m (vB (!z83)) rfl (bsplit (!z83) (fun hc88 => ?_) (fun hc88 => ?_)))))
     ·replace hm := bt hm hc88
      refine Lw.pass' hc88 rfl rfl rfl rfl rfl rfl rfl (Lw.pass' hc88 rfl rfl rfl rfl rfl rfl rfl (Lw.pass' hc88 rfl rfl rfl rfl rfl rfl rfl (Lw.pass' hc88 rfl rfl rfl rfl rfl rfl rfl (Lw.p hc88 (vB true) rfl (Lw.m (vB true) rfl (Lw.pass' rfl rfl rfl rfl rfl rfl rfl rfl (Lw.pass' rfl rfl rfl rfl rfl rfl rfl rfl (Lw.pass' rfl rfl rfl rfl rfl rfl rfl rfl (Lw.pass' rfl rfl rfl rfl rfl rfl rfl rfl (Lw.pass' rfl rfl rfl rfl rfl rfl rfl rfl (Lw.p rfl (vB true) rfl (Lw.nil (⟨?_, ⟨true, W85, rfl, (l71.trans (l78.trans l85)), rfl, hm⟩⟩)))))))))))))
      iterate 29 (refine Agree.up rfl ?_)
      exact Agree.refl _
     ·replace hm := bf hm hc88
      refine Lw.want' hc88 rfl rfl rfl rfl (Lw.fa rfl (Lw.want' hc88 rfl rfl rfl rfl (Lw.r rfl (R.ld (v := v22) rfl rfl ((b80.up l85 rfl).cell rfl)) (Lw.want' hc88 rfl rfl rfl rfl ?_))))
      obtain ⟨z90, e91, hm⟩ := ob hm
      refine Lw.t rfl (T.call rfl (p66 (K := [0])  (r23.ul a86) e91)) ?_
      rintro _ _ ⟨W92, rfl, l92, rfl⟩
      have a93 := a86.n l92
      have b94 := (b80.up l85 rfl).up l92 rfl
      refine Lw.want' hc88 rfl rfl rfl rfl (Lw.r rfl (R.not rfl) (Lw.p hc88 (vB (!z90)) rfl (Lw.m (vB (!z90)) rfl (bsplit (!z90) (fun hc95 => ?_) (fun hc95 => ?_)))))
      ·replace hm := bt hm hc95
       refine Lw.pass' hc95 rfl rfl rfl rfl rfl rfl rfl (Lw.pass' hc95 rfl rfl rfl rfl rfl rfl rfl (Lw.pass' hc95 rfl rfl rfl rfl rfl rfl rfl (Lw.pass' hc95 rfl rfl rfl rfl rfl rfl rfl (Lw.pass' hc95 rfl rfl rfl rfl rfl rfl rfl (Lw.p hc95 (vB true) rfl (Lw.nil (⟨?_, ⟨true, W92, rfl, (l71.trans (l78.trans (l85.trans l92))), rfl, hm⟩⟩)))))))
       iterate 29 (refine Agree.up rfl ?_)
       exact Agree.refl _
      ·replace hm := bf hm hc95
       refine Lw.want' hc95 rfl rfl rfl rfl (Lw.fa rfl (Lw.want' hc95 rfl rfl rfl rfl (Lw.r rfl (R.ld (v := v18) rfl rfl (b94.cell rfl)) (Lw.want' hc95 rfl rfl rfl rfl (Lw.fa rfl (Lw.want' hc95 rfl rfl rfl rfl (Lw.r rfl (R.ld (v := v20) rfl rfl (b94.cell rfl)) (Lw.want' hc95 rfl rfl rfl rfl ?_))))))))
       obtain ⟨z98, e99, hm⟩ := ob hm
       refine Lw.t rfl (T.call rfl (p89 (K := [0])  (r19.ul a93) (r21.ul a93) e99)) ?_
       rintro _ _ ⟨W100, rfl, l100, rfl⟩
       refine Lw.p hc95 (vB z98) rfl (Lw.nil (⟨?_, ⟨z98, W100, rfl, (l71.trans (l78.trans (l85.trans (l92.trans l100)))), rfl, hm⟩⟩))
       iterate 29 (refine Agree.up rfl ?_)
       exact Agree.refl _
 ·replace hm := bf hm hc10
  refine Cw.exit ?_
  rw [hK6] at hm
  refine Cw.seq (Cw.region (Lw.m v0_ rfl (Lw.ln x0 s9 rfl (Lw.le rfl (Lw.g (vB (decide (((x0.length : Int) : Int) ≤ (5 : Int)))) rfl (Lw.nil ?_))))))
  cases hm
  exact Cw.ret (ret1 rfl (Res.mk a8 rfl))

theorem p53 {W : CW} {K : List Nat} {x0 : List Vm.Memo} {v0_ : Value} {r : Bool} (h0 : Rd W K [v0_] x0) (hm : Vm.spec_l18Ok x0 = some r) : CallR Try.prog 53 [v0_].toArray W.w (Res W [] fun W' v => v = vB r) :=
 (c53 (V := W.view K []) (h0.view _) hm).ad (fk 0) fun _ _ e => e

theorem c13 {V : CW} {x0 : List Vm.Memo} {v0_ : Value} {r : Bool} (h0 : Rd V [0] [v0_] x0) (hm : Vm.spec_MemosOk x0 = some r) : CallR Try.prog 13 [v0_].toArray V.w (Res V LL fun Wf v => v = vB r) := by
 unfold Vm.spec_MemosOk at hm
 obtain ⟨W0, hW0⟩ : ∃ W, W = V := ⟨V, rfl⟩
 subst hW0
 refine CallR.of Try.func13 rfl rfl rfl rfl (Cw.seq (Cw.region (Lw.g (vB false) rfl (Lw.nil (Cw.seq (Cw.region (Lw.m v0_ rfl ?_)))))))
 obtain ⟨z1, e2, hm⟩ := ob hm
 refine Lw.t rfl (T.call rfl (p53 (K := [0])  h0 e2)) ?_
 rintro _ _ ⟨W3, rfl, l3, rfl⟩
 have a4 := l3.o
 refine Lw.g (vB z1) rfl (Lw.nil ?_)
 cases hm
 exact Cw.ret (ret1 rfl (Res.mk a4 rfl))

theorem p13 {W : CW} {K : List Nat} {x0 : List Vm.Memo} {v0_ : Value} {r : Bool} (h0 : Rd W K [v0_] x0) (hm : Vm.spec_MemosOk x0 = some r) : CallR Try.prog 13 [v0_].toArray W.w (Res W [] fun W' v => v = vB r) :=
 (c13 (V := W.view K []) (h0.view _) hm).ad (fk 0) fun _ _ e => e

theorem c90 {V : CW} {x0 : Str} {r : Bool}  (hm : Vm.impl_lineOk x0 = some r) : CallR Try.prog 90 [vS x0].toArray V.w (Res V LL fun Wf v => v = vB r) := by
 unfold Vm.impl_lineOk at hm
 obtain ⟨W0, hW0⟩ : ∃ W, W = V := ⟨V, rfl⟩
 subst hW0
 refine CallR.of Try.func90 rfl rfl rfl rfl (Cw.seq (Cw.region (Lw.g (vB false) rfl (Lw.nil (Cw.seq (Cw.seq (Cw.region (Lw.m (vS x0) rfl (Lw.r rfl (R.lenS rfl) (Lw.gt rfl (Lw.nil (Cw.cond (b := decide ((12 : Int) < ((x0.length : Int) : Int))) rfl (fun hc1 => ?_) (fun hc1 => ?_)))))))))))))
 ·replace hm := bt hm hc1
  refine Cw.seq (Cw.region (Lw.g (vB false) rfl (Lw.nil ?_)))
  cases hm
  exact Cw.ret (ret1 rfl (Res.mk (Le.refl _ _) rfl))
 ·replace hm := bf hm hc1
  refine Cw.skip (Cw.seq (Cw.seq (Cw.region (Lw.g (vI 0) rfl (Lw.nil (Cw.block ?_))))))
  obtain ⟨K5, hK5, hm⟩ := jn_e hm
  refine Cw.loop 7 22 [2, 3] (fun m l w => ∃ (y2 : Bool) (y3 : Int) (W4 : CW), W4.w = w ∧ Le [] W0 W4 ∧ l = [vB y2, vI y3] ∧ Vm.impl_lineOk_l1 x0 K5 m y2 y3 = some r) (((x0.length : Int) - 0).toNat + 1) ⟨false, 0, W0, rfl, Le.refl _ _, rfl, hm⟩ ?_
  rintro m6 _ _ σ ⟨y2, y3, W4, rfl, l4, rfl, hm⟩
  obtain _ | m6 := m6
  ·cases hm
  unfold Vm.impl_lineOk_l1 at hm
  have a7 := l4.o
  refine Cw.seq (Cw.seq (Cw.region (Lw.m (vI y3) rfl (Lw.m (vS x0) rfl (Lw.r rfl (R.lenS rfl) (Lw.lt rfl (Lw.nil (Cw.cond (b := decide ((y3 : Int) < ((x0.length : Int) : Int))) rfl (fun hc8 => ?_) (fun hc8 => ?_)))))))))
  ·replace hm := bt hm hc8
   refine Cw.skip (Cw.seq (Cw.block ?_))
   obtain ⟨K11, hK11, hm⟩ := jn_e hm
   refine Cw.join 13 22 [22] (fun l w => ∃ (y9 : Bool) (W10 : CW), W10.w = w ∧ Le [] W4 W10 ∧ l = [vB y9] ∧ K11 y9 = some r) ?_ ?_
   ·rintro _ _ σ ⟨y9, W10, rfl, l10, rfl, hm⟩
    rw [hK11] at hm
    have a12 := a7.n l10
    refine Cw.cond (b := y9) rfl (fun hc13 => ?_) (fun hc13 => ?_)
    ·replace hm := bt hm hc13
     refine Cw.seq (Cw.region (Lw.g (vB false) rfl (Lw.nil ?_)))
     cases hm
     exact Cw.ret (ret1 rfl (Res.mk a12 rfl))
    ·replace hm := bf hm hc13
     refine Cw.skip (Cw.region (Lw.m (vI y3) rfl (Lw.add rfl (Lw.g (vI (w64 (y3 + 1))) rfl (Lw.nil (⟨?_, m6, Nat.lt_succ_self m6, ⟨y2, w64 (y3 + 1), W10, rfl, (l4.trans l10), rfl, hm⟩⟩))))))
     iterate 3 (refine Agree.up rfl ?_)
     iterate 1 (refine Agree.up rfl ?_)
     refine Agree.ov0 rfl ?_
     iterate 4 (refine Agree.up rfl ?_)
     iterate 2 (refine Agree.up rfl ?_)
     exact Agree.base
   ·refine Cw.region (Lw.m (vS x0) rfl (Lw.m (vI y3) rfl ?_))
    obtain ⟨u14, e15, hm⟩ := ob hm
    refine Lw.r rfl (R.chm e15 rfl rfl) (Lw.lt rfl (Lw.m (vB (decide (((UInt8.toNat u14 : Int) : Int) < (32 : Int)))) rfl (bsplit (decide (((UInt8.toNat u14 : Int) : Int) < (32 : Int))) (fun hc16 => ?_) (fun hc16 => ?_))))
    ·replace hm := bt hm hc16
     refine Lw.pass' hc16 rfl rfl rfl rfl rfl rfl rfl (Lw.pass' hc16 rfl rfl rfl rfl rfl rfl rfl (Lw.pass' hc16 rfl rfl rfl rfl rfl rfl rfl (Lw.pass' hc16 rfl rfl rfl rfl rfl rfl rfl (Lw.p hc16 (vB true) rfl (Lw.nil (⟨?_, ⟨true, W4, rfl, Le.refl _ _, rfl, hm⟩⟩))))))
     iterate 10 (refine Agree.up rfl ?_)
     exact Agree.refl _
    ·replace hm := bf hm hc16
     refine Lw.want' hc16 rfl rfl rfl rfl (Lw.m (vS x0) rfl (Lw.want' hc16 rfl rfl rfl rfl (Lw.m (vI y3) rfl (Lw.want' hc16 rfl rfl rfl rfl ?_))))
     obtain ⟨u17, e18, hm⟩ := ob hm
     refine Lw.r rfl (R.chm e18 rfl rfl) (Lw.want' hc16 rfl rfl rfl rfl (Lw.gt rfl (Lw.p hc16 (vB (decide ((126 : Int) < ((UInt8.toNat u17 : Int) : Int)))) rfl (Lw.nil (⟨?_, ⟨decide ((126 : Int) < ((UInt8.toNat u17 : Int) : Int)), W4, rfl, Le.refl _ _, rfl, hm⟩⟩)))))
     iterate 10 (refine Agree.up rfl ?_)
     exact Agree.refl _
  ·replace hm := bf hm hc8
   refine Cw.exit ?_
   rw [hK5] at hm
   refine Cw.seq (Cw.region (Lw.g (vB true) rfl (Lw.nil ?_)))
   cases hm
   exact Cw.ret (ret1 rfl (Res.mk a7 rfl))

theorem p90 {W : CW} {K : List Nat} {x0 : Str} {r : Bool}  (hm : Vm.impl_lineOk x0 = some r) : CallR Try.prog 90 [vS x0].toArray W.w (Res W [] fun W' v => v = vB r) :=
 (c90 (V := W.view K [])  hm).ad (fk 0) fun _ _ e => e

end Go.Sx
