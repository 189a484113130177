/- Walks: each function answers as its model, printed by a program of ours. Conditions: the arguments read as they are given. -/
import Derived.Test.YtmjjhnahdmlmaaaXTs
import Derived.Test.YtmjjhnahdmlmaaaXMd
import Derived.Test.YtmjjhnahdmlmaaaXW0
import Derived.Test.YtmjjhnahdmlmaaaXW1
namespace Go.Sx
open Go Go.Proofs Go.Vm Rp
set_option linter.unusedVariables false
set_option linter.unusedSimpArgs false

theorem c18 {V : CW} {x0 : List Str} {v0_ : Value} {x1 : Int} {r : Int × (List Str)} (h0 : Ow V 2 [] [v0_] x0) (hm : Vm.laws_markStringS x0 x1 = some r) : CallR Try.prog 18 [v0_, vI x1].toArray V.w (Res V LL fun Wf v => v = vI r.1 ∧ Ow Wf 2 [] [v0_] r.2) := by
 unfold Vm.laws_markStringS at hm
 obtain ⟨W0, hW0⟩ : ∃ W, W = V := ⟨V, rfl⟩
 subst hW0
 refine CallR.of Try.func18 rfl rfl rfl rfl (Cw.seq (Cw.region (Lw.g (vI 0) rfl (Lw.nil (Cw.seq (Cw.seq (Cw.region (Lw.g (vI 0) rfl (Lw.nil (Cw.block ?_))))))))))
 obtain ⟨K6, hK6, hm⟩ := jn_e hm
 refine Cw.loop 6 18 [1, 5] (fun m l w => ∃ (y1 : Int) (y2 : Int) (y3 : List Str) (W5 : CW), W5.w = w ∧ Le [2] W0 W5 ∧ l = [vI y1, vI y2] ∧ Ow W5 2 [] [v0_] y3 ∧ Vm.laws_markStringS_l1 K6 m y1 y2 y3 = some r) (((x0.length : Int) - 0).toNat + 1) ⟨x1, 0, x0, W0, rfl, Le.refl _ _, rfl, h0, hm⟩ ?_
 rintro m7 _ _ σ ⟨y1, y2, y3, W5, rfl, l5, rfl, o4, hm⟩
 obtain _ | m7 := m7
 ·cases hm
 unfold Vm.laws_markStringS_l1 at hm
 have a8 := l5.s rfl
 refine Cw.seq (Cw.seq (Cw.region (Lw.m (vI y2) rfl (Lw.m v0_ rfl (Lw.ln y3 o4.rd rfl (Lw.lt rfl (Lw.nil (Cw.cond (b := decide ((y2 : Int) < ((y3.length : Int) : Int))) rfl (fun hc9 => ?_) (fun hc9 => ?_)))))))))
 ·replace hm := bt hm hc9
  refine Cw.skip (Cw.seq (Cw.block (Cw.seq (Cw.region (Lw.m v0_ rfl (Lw.m (vI y2) rfl (Lw.m (vI y1) rfl ?_)))))))
  obtain ⟨z10, e11, hm⟩ := ob hm
  refine Lw.t rfl (T.call rfl (p25 (K := [0])   e11)) ?_
  rintro _ _ ⟨W12, rfl, l12, rfl⟩
  obtain ⟨u15, e16, hm⟩ := ob hm
  refine Lw.r rfl (R.ix (α := Str) (o4.up l12 rfl).rd e16 rfl rfl rfl) ?_
  obtain ⟨q18, e19, hm⟩ := ob hm
  refine Lw.u (T.stS (K' := []) (o4.up l12 rfl) (rdS _) e19 rfl rfl rfl) ?_
  rintro _ _ ⟨W17, rfl, l17, o17⟩
  refine Lw.nil (Cw.region (Lw.m (vI y1) rfl (Lw.add rfl (Lw.g (vI (w64 (y1 + 1))) rfl (Lw.nil (Cw.region (Lw.m (vI y2) rfl (Lw.add rfl (Lw.g (vI (w64 (y2 + 1))) rfl (Lw.nil (⟨?_, m7, Nat.lt_succ_self m7, ⟨w64 (y1 + 1), w64 (y2 + 1), q18, W17, rfl, (l5.trans ((l12.sub rfl).trans l17)), rfl, o17, hm⟩⟩)))))))))))
  iterate 15 (refine Agree.up rfl ?_)
  iterate 2 (refine Agree.up rfl ?_)
  exact Agree.base
 ·replace hm := bf hm hc9
  refine Cw.exit ?_
  rw [hK6] at hm
  refine Cw.seq (Cw.region (Lw.m (vI y1) rfl (Lw.g (vI y1) rfl (Lw.nil ?_))))
  cases hm
  exact Cw.ret (ret1 rfl (Res.mk a8 ⟨rfl, o4⟩))

theorem p18 {W : CW} {K : List Nat} {x0 : List Str} {v0_ : Value} {x1 : Int} {c0 : Nat} {r : Int × (List Str)} (h0 : Ow W c0 [] [v0_] x0) (hJ : okJ K [c0] = true) (hm : Vm.laws_markStringS x0 x1 = some r) : CallR Try.prog 18 [v0_, vI x1].toArray W.w (Res W [c0] fun W' v => v = vI r.1 ∧ Ow W' c0 [] [v0_] r.2) :=
 CallR.adJ (J := [c0]) (fun c => bif Nat.beq c 0 then 0 else bif Nat.beq c 2 then c0 else 0) (c18 (V := W.view K [c0]) (h0.viewJ 0 hJ) hm) fun _ _ ⟨e, f0⟩ => ⟨e, Ow.backJ 0 f0 rfl⟩

theorem c9 {V : CW} {x0 : Vm.Review} {v0_3_ : Value} {x1 : Int} {r : Int × Vm.Review} (h0_3 : Ow V 2 [] [v0_3_] x0.Yes) (hm : Vm.laws_markReview x0 x1 = some r) : CallR Try.prog 9 [.agg [vS x0.Branch, vS x0.Into, vS x0.By, v0_3_].toArray, vI x1].toArray V.w (Res V LL fun Wf v => v = vI r.1 ∧ Ow Wf 2 [] [v0_3_] r.2.Yes) := by
 unfold Vm.laws_markReview at hm
 obtain ⟨W0, hW0⟩ : ∃ W, W = V := ⟨V, rfl⟩
 subst hW0
 refine CallR.of Try.func9 rfl rfl rfl rfl (Cw.seq (Cw.region (Lw.t rfl (T.box 3 (v := .agg [vS x0.Branch, vS x0.Into, vS x0.By, v0_3_].toArray) (cs := [vS x0.Branch, vS x0.Into, vS x0.By, v0_3_]) rfl rfl) ?_)))
 rintro _ _ ⟨g1, W1, rfl, rfl, l1, b1⟩
 have a2 := l1.o
 refine Lw.g (vI 0) rfl (Lw.nil (Cw.seq (Cw.region (Lw.fa rfl (Lw.r rfl (R.ld (v := v0_3_) rfl rfl (b1.cell rfl)) (Lw.m (vI x1) rfl ?_))))))
 obtain ⟨z4, e5, hm⟩ := ob hm
 refine Lw.t rfl (T.call rfl (p18 (K := [0])  (c0 := 2) (h0_3.up l1 rfl) rfl e5)) ?_
 rintro _ _ ⟨W6, rfl, l6, ⟨rfl, f6_0⟩⟩
 have a7 := a2.t l6 rfl
 refine Lw.g (vI z4.1) rfl (Lw.nil (Cw.seq (Cw.region (Lw.m (vI z4.1) rfl (Lw.g (vI z4.1) rfl (Lw.nil ?_))))))
 cases hm
 exact Cw.ret (ret1 rfl (Res.mk a7 ⟨rfl, f6_0⟩))

theorem p9 {W : CW} {K : List Nat} {x0 : Vm.Review} {v0_3_ : Value} {x1 : Int} {c0 : Nat} {r : Int × Vm.Review} (h0_3 : Ow W c0 [] [v0_3_] x0.Yes) (hJ : okJ K [c0] = true) (hm : Vm.laws_markReview x0 x1 = some r) : CallR Try.prog 9 [.agg [vS x0.Branch, vS x0.Into, vS x0.By, v0_3_].toArray, vI x1].toArray W.w (Res W [c0] fun W' v => v = vI r.1 ∧ Ow W' c0 [] [v0_3_] r.2.Yes) :=
 CallR.adJ (J := [c0]) (fun c => bif Nat.beq c 0 then 0 else bif Nat.beq c 2 then c0 else 0) (c9 (V := W.view K [c0]) (h0_3.viewJ 0 hJ) hm) fun _ _ ⟨e, f0⟩ => ⟨e, Ow.backJ 0 f0 rfl⟩

theorem c19 {V : CW} {x0 : List Str} {v0_ : Value} {x1 : Int} {r : Int} (h0 : Rd V [0] [v0_] x0) (hm : Vm.laws_heldStringS x0 x1 = some r) : CallR Try.prog 19 [v0_, vI x1].toArray V.w (Res V LL fun Wf v => v = vI r) := by
 unfold Vm.laws_heldStringS at hm
 obtain ⟨W0, hW0⟩ : ∃ W, W = V := ⟨V, rfl⟩
 subst hW0
 refine CallR.of Try.func19 rfl rfl rfl rfl (Cw.seq (Cw.region (Lw.g (vI 0) rfl (Lw.nil (Cw.seq (Cw.seq (Cw.region (Lw.g (vI 0) rfl (Lw.nil (Cw.block ?_))))))))))
 obtain ⟨K5, hK5, hm⟩ := jn_e hm
 refine Cw.loop 6 20 [1, 4, 5] (fun m l w => ∃ (y1 : Int) (y2 : Int) (y3 : Int) (W4 : CW), W4.w = w ∧ Le [] W0 W4 ∧ l = [vI y1, vI y2, vI y3] ∧ Vm.laws_heldStringS_l1 x0 K5 m y1 y2 y3 = some r) (((x0.length : Int) - 0).toNat + 1) ⟨x1, 0, 0, W0, rfl, Le.refl _ _, rfl, hm⟩ ?_
 rintro m6 _ _ σ ⟨y1, y2, y3, W4, rfl, l4, rfl, hm⟩
 obtain _ | m6 := m6
 ·cases hm
 unfold Vm.laws_heldStringS_l1 at hm
 have a7 := l4.o
 refine Cw.seq (Cw.seq (Cw.region (Lw.m (vI y3) rfl (Lw.m v0_ rfl (Lw.ln x0 (h0.ul a7) rfl (Lw.lt rfl (Lw.nil (Cw.cond (b := decide ((y3 : Int) < ((x0.length : Int) : Int))) rfl (fun hc9 => ?_) (fun hc9 => ?_)))))))))
 ·replace hm := bt hm hc9
  refine Cw.skip (Cw.seq (Cw.block (Cw.seq (Cw.seq (Cw.draw [] [(0, 0), (1, 0), (2, 0), (3, 1), (4, 0), (5, 2), (6, 0)] mixed (by kernel_rfl) fun W10 l10 => ?_)))))
  have a11 := a7.n l10
  refine Mw.p rfl rfl (fun _ => R.mv (v := v0_) rfl) (Mw.p rfl rfl (fun _ => R.mv (v := vI y3) rfl) ?_)
  obtain ⟨u12, e13, hm⟩ := ob hm
  refine Mw.p rfl rfl (fun _ => R.ix (α := Str) (h0.ul a11) e13 rfl rfl rfl) (Mw.q rfl rfl (fun _ c => R.ld rfl rfl (cl_cell ((h0.ul a11).at_ e13).1 rfl ((h0.ul a11).at_ e13).str c)) (Mw.p rfl rfl (fun _ => R.mv (v := vI y1) rfl) ?_))
  obtain ⟨z15, e16, hm⟩ := ob hm
  refine Mw.t rfl rfl (T.call rfl (p25 (K := [0])   e16)) ?_
  rintro _ _ ⟨W17, rfl, l17, rfl⟩
  have a18 := a11.n l17
  refine ⟨⟨_, rfl, (l17.sub (M := []) rfl)⟩, ?_⟩
  refine Mw.p rfl rfl (fun _ => R.sne rfl rfl) (Mw.nil (Cw.cond (b := (u12 != z15)) rfl (fun hc19 => ?_) (fun hc19 => ?_)))
  ·replace hm := bt hm hc19
   refine Cw.seq (Cw.region (Lw.g (vI (-1)) rfl (Lw.nil ?_)))
   cases hm
   exact Cw.ret (ret1 rfl (Res.mk a18 rfl))
  ·replace hm := bf hm hc19
   refine Cw.skip (Cw.region (Lw.m (vI y1) rfl (Lw.add rfl (Lw.g (vI (w64 (y1 + 1))) rfl (Lw.nil (Cw.region (Lw.m (vI y3) rfl (Lw.add rfl (Lw.g (vI (w64 (y3 + 1))) rfl (Lw.nil (⟨?_, m6, Nat.lt_succ_self m6, ⟨w64 (y1 + 1), y2, w64 (y3 + 1), W17, rfl, (l4.trans (l10.trans l17)), rfl, hm⟩⟩)))))))))))
   iterate 17 (refine Agree.up rfl ?_)
   iterate 3 (refine Agree.up rfl ?_)
   exact Agree.base
 ·replace hm := bf hm hc9
  refine Cw.exit ?_
  rw [hK5] at hm
  refine Cw.seq (Cw.region (Lw.m (vI y1) rfl (Lw.g (vI y1) rfl (Lw.nil ?_))))
  cases hm
  exact Cw.ret (ret1 rfl (Res.mk a7 rfl))

theorem p19 {W : CW} {K : List Nat} {x0 : List Str} {v0_ : Value} {x1 : Int} {r : Int} (h0 : Rd W K [v0_] x0) (hm : Vm.laws_heldStringS x0 x1 = some r) : CallR Try.prog 19 [v0_, vI x1].toArray W.w (Res W [] fun W' v => v = vI r) :=
 (c19 (V := W.view K []) (h0.view _) hm).ad (fk 0) fun _ _ e => e

theorem c10 {V : CW} {x0 : Vm.Review} {v0_3_ : Value} {x1 : Int} {r : Int} (h0 : Rd V [0] [vS x0.Branch, vS x0.Into, vS x0.By, v0_3_] x0) (hm : Vm.laws_heldReview x0 x1 = some r) : CallR Try.prog 10 [.agg [vS x0.Branch, vS x0.Into, vS x0.By, v0_3_].toArray, vI x1].toArray V.w (Res V LL fun Wf v => v = vI r) := by
 unfold Vm.laws_heldReview at hm
 obtain ⟨w0_0, he0, h0_3⟩ := Review.split h0
 simp only [List.cons.injEq, and_true, true_and] at he0
 obtain rfl := he0
 obtain ⟨W0, hW0⟩ : ∃ W, W = V := ⟨V, rfl⟩
 subst hW0
 refine CallR.of Try.func10 rfl rfl rfl rfl (Cw.seq (Cw.region (Lw.t rfl (T.box 2 (v := .agg [vS x0.Branch, vS x0.Into, vS x0.By, v0_3_].toArray) (cs := [vS x0.Branch, vS x0.Into, vS x0.By, v0_3_]) rfl rfl) ?_)))
 rintro _ _ ⟨g1, W1, rfl, rfl, l1, b1⟩
 have a2 := l1.o
 refine Lw.g (vI 0) rfl (Lw.nil (Cw.seq (Cw.region (Lw.fa rfl (Lw.r rfl (R.ld (v := v0_3_) rfl rfl (b1.cell rfl)) (Lw.m (vI x1) rfl ?_))))))
 obtain ⟨z4, e5, hm⟩ := ob hm
 refine Lw.t rfl (T.call rfl (p19 (K := [0])  (h0_3.ul a2) e5)) ?_
 rintro _ _ ⟨W6, rfl, l6, rfl⟩
 have a7 := a2.n l6
 refine Lw.g (vI z4) rfl (Lw.nil (Cw.seq (Cw.seq (Cw.region (Lw.m (vI z4) rfl (Lw.lt rfl (Lw.nil (Cw.cond (b := decide ((z4 : Int) < (0 : Int))) rfl (fun hc9 => ?_) (fun hc9 => ?_)))))))))
 ·replace hm := bt hm hc9
  refine Cw.seq (Cw.region (Lw.g (vI (-1)) rfl (Lw.nil ?_)))
  cases hm
  exact Cw.ret (ret1 rfl (Res.mk a7 rfl))
 ·replace hm := bf hm hc9
  refine Cw.skip (Cw.seq (Cw.region (Lw.m (vI z4) rfl (Lw.g (vI z4) rfl (Lw.nil ?_)))))
  cases hm
  exact Cw.ret (ret1 rfl (Res.mk a7 rfl))

theorem p10 {W : CW} {K : List Nat} {x0 : Vm.Review} {v0_3_ : Value} {x1 : Int} {r : Int} (h0 : Rd W K [vS x0.Branch, vS x0.Into, vS x0.By, v0_3_] x0) (hm : Vm.laws_heldReview x0 x1 = some r) : CallR Try.prog 10 [.agg [vS x0.Branch, vS x0.Into, vS x0.By, v0_3_].toArray, vI x1].toArray W.w (Res W [] fun W' v => v = vI r) :=
 (c10 (V := W.view K []) (h0.view _) hm).ad (fk 0) fun _ _ e => e

theorem c3 {V : CW} {x0 : Vm.Review} {v0_3_ : Value} {x1 : Str} {r : Bool} (h0 : Rd V [0] [vS x0.Branch, vS x0.Into, vS x0.By, v0_3_] x0) (hm : Vm.laws_FnExactReviewYes x0 x1 = some r) : CallR Try.prog 3 [.agg [vS x0.Branch, vS x0.Into, vS x0.By, v0_3_].toArray, vS x1].toArray V.w (Res V LL fun Wf v => v = vB r) := by
 unfold Vm.laws_FnExactReviewYes at hm
 obtain ⟨w0_0, he0, h0_3⟩ := Review.split h0
 simp only [List.cons.injEq, and_true, true_and] at he0
 obtain rfl := he0
 obtain ⟨W0, hW0⟩ : ∃ W, W = V := ⟨V, rfl⟩
 subst hW0
 refine CallR.of Try.func3 rfl rfl rfl rfl (Cw.seq (Cw.region (Lw.t rfl (T.box 2 (v := .agg [vS x0.Branch, vS x0.Into, vS x0.By, v0_3_].toArray) (cs := [vS x0.Branch, vS x0.Into, vS x0.By, v0_3_]) rfl rfl) ?_)))
 rintro _ _ ⟨g1, W1, rfl, rfl, l1, b1⟩
 have a2 := l1.o
 refine Lw.g (vB false) rfl (Lw.nil (Cw.seq (Cw.seq (Cw.region (Lw.m (vS x1) rfl (Lw.r rfl (R.lenS rfl) (Lw.gt rfl (Lw.nil (Cw.cond (b := decide ((1048576 : Int) < ((x1.length : Int) : Int))) rfl (fun hc3 => ?_) (fun hc3 => ?_))))))))))
 ·replace hm := bt hm hc3
  refine Cw.seq (Cw.region (Lw.g (vB true) rfl (Lw.nil ?_)))
  cases hm
  exact Cw.ret (ret1 rfl (Res.mk a2 rfl))
 ·replace hm := bf hm hc3
  refine Cw.skip (Cw.seq (Cw.region (Lw.g (vI 1048576) rfl (Lw.nil (Cw.seq (Cw.region (Lw.r rfl (R.lda (cs := [vS x0.Branch, vS x0.Into, vS x0.By, v0_3_]) b1.cells rfl rfl) (Lw.m (vI 1048576) rfl ?_))))))))
  obtain ⟨z5, e6, hm⟩ := ob hm
  refine Lw.t rfl (T.call rfl (p4 (K := [0])  (Review.rd (K := [0]) x0.Branch x0.Into x0.By x0.Yes (h0_3.ul a2)) e6)) ?_
  rintro _ _ ⟨W7, rfl, l7, rfl⟩
  have a8 := a2.n l7
  refine Lw.g (vI z5) rfl (Lw.nil (Cw.seq (Cw.seq (Cw.region (Lw.m (vI z5) rfl (Lw.lt rfl (Lw.nil (Cw.cond (b := decide ((z5 : Int) < (0 : Int))) rfl (fun hc10 => ?_) (fun hc10 => ?_)))))))))
  ·replace hm := bt hm hc10
   refine Cw.seq (Cw.region (Lw.g (vB true) rfl (Lw.nil ?_)))
   cases hm
   exact Cw.ret (ret1 rfl (Res.mk a8 rfl))
  ·replace hm := bf hm hc10
   refine Cw.skip (Cw.seq (Cw.region (Lw.r rfl (R.lda (cs := [vS x0.Branch, vS x0.Into, vS x0.By, v0_3_]) (b1.up l7 rfl).cells rfl rfl) ?_)))
   obtain ⟨z12, e13, hm⟩ := ob hm
   refine Lw.t rfl (T.call rfl (p6 (K := [0]) (k0 := 3) (Review.rd (K := [0]) x0.Branch x0.Into x0.By x0.Yes (h0_3.ul a8)) e13)) ?_
   rintro _ _ ⟨W14, rfl, l14, ⟨v0_3_14, rfl, f14_0⟩⟩
   have a15 := a8.n l14
   refine Lw.m (vS x1) rfl ?_
   obtain ⟨z17, e18, hm⟩ := ob hm
   refine Lw.t rfl (T.call rfl (p5 (K := [3])  (x0 := (Vm.Review.mk z12.Branch z12.Into z12.By z12.Yes)) (Review.rd (K := [3]) z12.Branch z12.Into z12.By z12.Yes f14_0.rd) e18)) ?_
   rintro _ _ ⟨W19, rfl, l19, ⟨v0_3_19, rfl, f19_0⟩⟩
   have s20 := f19_0.sub (M := [0, 3]) rfl
   have a21 := a15.n l19
   refine Lw.m (.tuple [.agg [vS z17.1.Branch, vS z17.1.Into, vS z17.1.By, v0_3_19].toArray, vB z17.2].toArray) rfl (Lw.r rfl (R.ext (vs := [.agg [vS z17.1.Branch, vS z17.1.Into, vS z17.1.By, v0_3_19].toArray, vB z17.2]) (v := .agg [vS z17.1.Branch, vS z17.1.Into, vS z17.1.By, v0_3_19].toArray) rfl rfl) (Lw.r rfl (R.ext (vs := [.agg [vS z17.1.Branch, vS z17.1.Into, vS z17.1.By, v0_3_19].toArray, vB z17.2]) (v := vB z17.2) rfl rfl) (Lw.t rfl (T.alloc 4 (cs := [vS ([] : Str), vS ([] : Str), vS ([] : Str), .slice none 0 0]) rfl) ?_)))
   rintro _ _ ⟨g24, W24, rfl, rfl, l24, b24⟩
   have a25 := a21.n l24
   refine Lw.u (T.sta (vs := [vS z17.1.Branch, vS z17.1.Into, vS z17.1.By, v0_3_19]) b24 rfl rfl (oc_cons rfl (oc_cons rfl (oc_cons rfl (oc_cons s20.oc oc_nil)))) rfl rfl) ?_
   rintro _ _ ⟨W28, rfl, l28, b28⟩
   have a29 := a25.t l28 rfl
   have b31 := ((((b1.up l7 rfl).up l14 rfl).up l19 rfl).up l24 rfl).up l28 rfl
   refine Lw.g (vB z17.2) rfl (Lw.nil (Cw.seq (Cw.region (Lw.r rfl (R.lda (cs := [vS x0.Branch, vS x0.Into, vS x0.By, v0_3_]) b31.cells rfl rfl) ?_))))
   obtain ⟨z33, e34, hm⟩ := ob hm
   refine Lw.t rfl (T.call rfl (p6 (K := [0]) (k0 := 5) (Review.rd (K := [0]) x0.Branch x0.Into x0.By x0.Yes (h0_3.ul a29)) e34)) ?_
   rintro _ _ ⟨W35, rfl, l35, ⟨v0_3_35, rfl, f35_0⟩⟩
   have a36 := a29.n l35
   refine Lw.t rfl (T.alloc 6 (cs := [vS ([] : Str), vS ([] : Str), vS ([] : Str), .slice none 0 0]) rfl) ?_
   rintro _ _ ⟨g40, W40, rfl, rfl, l40, b40⟩
   have a41 := a36.n l40
   refine Lw.u (T.sta (vs := [vS z33.Branch, vS z33.Into, vS z33.By, v0_3_35]) b40 rfl rfl (oc_cons rfl (oc_cons rfl (oc_cons rfl (oc_cons (f35_0.up l40 rfl).oc oc_nil)))) rfl rfl) ?_
   rintro _ _ ⟨W46, rfl, l46, b46⟩
   have a47 := a41.t l46 rfl
   have o49 := (f35_0.up l40 rfl).up l46 rfl
   refine Lw.nil (Cw.seq (Cw.region (Lw.r rfl (R.lda (cs := [vS z33.Branch, vS z33.Into, vS z33.By, v0_3_35]) b46.cells rfl rfl) (Lw.m (vS x1) rfl ?_))))
   obtain ⟨z52, e53, hm⟩ := ob hm
   refine Lw.t rfl (T.call rfl (p7 (K := [5]) (k0 := 7) (x0 := (Vm.Review.mk z33.Branch z33.Into z33.By z33.Yes)) (Review.rd (K := [5]) z33.Branch z33.Into z33.By z33.Yes o49.rd) e53)) ?_
   rintro _ _ ⟨W54, rfl, l54, ⟨v0_3_54, rfl, f54_0⟩⟩
   have a55 := a47.n l54
   refine Lw.m (.tuple [.agg [vS z52.1.Branch, vS z52.1.Into, vS z52.1.By, v0_3_54].toArray, vB z52.2].toArray) rfl (Lw.r rfl (R.ext (vs := [.agg [vS z52.1.Branch, vS z52.1.Into, vS z52.1.By, v0_3_54].toArray, vB z52.2]) (v := .agg [vS z52.1.Branch, vS z52.1.Into, vS z52.1.By, v0_3_54].toArray) rfl rfl) (Lw.r rfl (R.ext (vs := [.agg [vS z52.1.Branch, vS z52.1.Into, vS z52.1.By, v0_3_54].toArray, vB z52.2]) (v := vB z52.2) rfl rfl) (Lw.t rfl (T.alloc 8 (cs := [vS ([] : Str), vS ([] : Str), vS ([] : Str), .slice none 0 0]) rfl) ?_)))
   rintro _ _ ⟨g61, W61, rfl, rfl, l61, b61⟩
   have a62 := a55.n l61
   refine Lw.u (T.sta (vs := [vS z52.1.Branch, vS z52.1.Into, vS z52.1.By, v0_3_54]) b61 rfl rfl (oc_cons rfl (oc_cons rfl (oc_cons rfl (oc_cons (f54_0.up l61 rfl).oc oc_nil)))) rfl rfl) ?_
   rintro _ _ ⟨W69, rfl, l69, b69⟩
   have a70 := a62.t l69 rfl
   have o73 := (f54_0.up l61 rfl).up l69 rfl
   have b75 := (((((b28.up l35 rfl).up l40 rfl).up l46 rfl).up l54 rfl).up l61 rfl).up l69 rfl
   refine Lw.g (vB z52.2) rfl (Lw.nil (Cw.seq ?_))
   obtain ⟨K79, hK79, hm⟩ := jn_e hm
   refine Cw.join 39 47 [47] (fun l w => ∃ (y77 : Bool) (W78 : CW), W78.w = w ∧ Le [] W69 W78 ∧ l = [vB y77] ∧ K79 y77 = some r) ?_ ?_
   ·rintro _ _ σ ⟨y77, W78, rfl, l78, rfl, hm⟩
    rw [hK79] at hm
    have a80 := a70.n l78
    refine Cw.cond (b := y77) rfl (fun hc88 => ?_) (fun hc88 => ?_)
    ·replace hm := bt hm hc88
     refine Cw.seq (Cw.region (Lw.g (vB false) rfl (Lw.nil ?_)))
     cases hm
     exact Cw.ret (ret1 rfl (Res.mk a80 rfl))
    ·replace hm := bf hm hc88
     refine Cw.skip (Cw.seq (Cw.seq (Cw.draw [] [(0, 1), (1, 1), (2, 2), (3, 2), (4, 0)] mixed (by kernel_rfl) fun W89 l89 => ?_)))
     have a90 := a80.n l89
     have b94 := (((((((b31.up l35 rfl).up l40 rfl).up l46 rfl).up l54 rfl).up l61 rfl).up l69 rfl).up l78 rfl).up l89 rfl
     have b96 := ((((b46.up l54 rfl).up l61 rfl).up l69 rfl).up l78 rfl).up l89 rfl
     refine Mw.q rfl rfl (fun _ c => R.lda (cs := [vS z33.Branch, vS z33.Into, vS z33.By, v0_3_35]) (b96.clcs rfl c) rfl rfl) (Mw.q rfl rfl (fun _ c => R.lda (cs := [vS x0.Branch, vS x0.Into, vS x0.By, v0_3_]) (b94.clcs rfl c) rfl rfl) ?_)
     obtain ⟨z99, e100, hm⟩ := ob hm
     refine Mw.t rfl rfl (T.call rfl (p6 (K := [0]) (k0 := 9) (Review.rd (K := [0]) x0.Branch x0.Into x0.By x0.Yes (h0_3.ul a90)) e100)) ?_
     rintro _ _ ⟨W101, rfl, l101, ⟨v0_3_101, rfl, f101_0⟩⟩
     have a102 := a90.n l101
     have o104 := (((((o49.up l54 rfl).up l61 rfl).up l69 rfl).up l78 rfl).up l89 rfl).up l101 rfl
     refine ⟨⟨_, rfl, (l101.sub (M := []) rfl)⟩, ?_⟩
     obtain ⟨z110, e111, hm⟩ := ob hm
     refine Mw.t rfl rfl (T.call rfl (p8 (K := [5, 9])  (x0 := (Vm.Review.mk z33.Branch z33.Into z33.By z33.Yes)) (x1 := (Vm.Review.mk z99.Branch z99.Into z99.By z99.Yes)) ((Review.rd (K := [5]) z33.Branch z33.Into z33.By z33.Yes o104.rd).sub (M := [5, 9]) rfl) ((Review.rd (K := [9]) z99.Branch z99.Into z99.By z99.Yes f101_0.rd).sub (M := [5, 9]) rfl) e111)) ?_
     rintro _ _ ⟨W112, rfl, l112, rfl⟩
     have a113 := a102.n l112
     refine ⟨⟨_, rfl, ((l101.sub (M := []) rfl).trans (l112.sub (M := []) rfl))⟩, ?_⟩
     refine Mw.p rfl rfl (fun _ => R.not rfl) (Mw.nil (Cw.cond (b := (!z110)) rfl (fun hc122 => ?_) (fun hc122 => ?_)))
     ·replace hm := bt hm hc122
      refine Cw.seq (Cw.region (Lw.g (vB false) rfl (Lw.nil ?_)))
      cases hm
      exact Cw.ret (ret1 rfl (Res.mk a113 rfl))
     ·replace hm := bf hm hc122
      refine Cw.skip (Cw.seq (Cw.region (Lw.g (vI 1) rfl (Lw.nil (Cw.seq (Cw.region (Lw.r rfl (R.lda (cs := [vS z33.Branch, vS z33.Into, vS z33.By, v0_3_35]) ((b96.up l101 rfl).up l112 rfl).cells rfl rfl) (Lw.m (vI 1) rfl ?_))))))))
      obtain ⟨z123, e124, hm⟩ := ob hm
      refine Lw.t rfl (T.call rfl (p9 (K := [0])  (c0 := 5) (x0 := (Vm.Review.mk z33.Branch z33.Into z33.By z33.Yes)) (o104.up l112 rfl) rfl e124)) ?_
      rintro _ _ ⟨W125, rfl, l125, ⟨rfl, f125_0⟩⟩
      have a126 := a113.t l125 rfl
      have o128 := ((((o73.up l78 rfl).up l89 rfl).up l101 rfl).up l112 rfl).up l125 rfl
      have b131 := ((((b75.up l78 rfl).up l89 rfl).up l101 rfl).up l112 rfl).up l125 rfl
      have b133 := ((((b69.up l78 rfl).up l89 rfl).up l101 rfl).up l112 rfl).up l125 rfl
      refine Lw.g (vI z123.1) rfl (Lw.nil (Cw.seq ?_))
      obtain ⟨K136, hK136, hm⟩ := jn_e hm
      refine Cw.join 56 68 [68] (fun l w => ∃ (y134 : Bool) (W135 : CW), W135.w = w ∧ Le [] W125 W135 ∧ l = [vB y134] ∧ K136 y134 = some r) ?_ ?_
      ·rintro _ _ σ ⟨y134, W135, rfl, l135, rfl, hm⟩
       rw [hK136] at hm
       have a137 := a126.n l135
       refine Cw.cond (b := y134) rfl (fun hc146 => ?_) (fun hc146 => ?_)
       ·replace hm := bt hm hc146
        refine Cw.seq (Cw.region (Lw.g (vB false) rfl (Lw.nil ?_)))
        cases hm
        exact Cw.ret (ret1 rfl (Res.mk a137 rfl))
       ·replace hm := bf hm hc146
        refine Cw.skip (Cw.seq (Cw.region (Lw.g (vI 1) rfl (Lw.nil (Cw.seq (Cw.region (Lw.r rfl (R.lda (cs := [vS z52.1.Branch, vS z52.1.Into, vS z52.1.By, v0_3_54]) (b133.up l135 rfl).cells rfl rfl) (Lw.m (vI 1) rfl ?_))))))))
        obtain ⟨z147, e148, hm⟩ := ob hm
        refine Lw.t rfl (T.call rfl (p9 (K := [0])  (c0 := 7) (x0 := (Vm.Review.mk z52.1.Branch z52.1.Into z52.1.By z52.1.Yes)) (o128.up l135 rfl) rfl e148)) ?_
        rintro _ _ ⟨W149, rfl, l149, ⟨rfl, f149_0⟩⟩
        have a150 := a137.t l149 rfl
        have b157 := (b133.up l135 rfl).up l149 rfl
        refine Lw.g (vI z147.1) rfl (Lw.nil (Cw.seq (Cw.region (Lw.g (vI 1) rfl (Lw.nil (Cw.seq (Cw.region (Lw.r rfl (R.lda (cs := [vS z52.1.Branch, vS z52.1.Into, vS z52.1.By, v0_3_54]) b157.cells rfl rfl) (Lw.m (vI 1) rfl ?_)))))))))
        obtain ⟨z158, e159, hm⟩ := ob hm
        refine Lw.t rfl (T.call rfl (p10 (K := [7])  (x0 := (Vm.Review.mk z52.1.Branch z52.1.Into z52.1.By z147.2.Yes)) (Review.rd (K := [7]) z52.1.Branch z52.1.Into z52.1.By z147.2.Yes f149_0.rd) e159)) ?_
        rintro _ _ ⟨W160, rfl, l160, rfl⟩
        have a161 := a150.n l160
        refine Lw.g (vI z158) rfl (Lw.nil (Cw.seq (Cw.seq (Cw.region (Lw.m (vI z158) rfl (Lw.lt rfl (Lw.nil (Cw.cond (b := decide ((z158 : Int) < (0 : Int))) rfl (fun hc170 => ?_) (fun hc170 => ?_)))))))))
        ·replace hm := bt hm hc170
         refine Cw.seq (Cw.region (Lw.g (vB false) rfl (Lw.nil ?_)))
         cases hm
         exact Cw.ret (ret1 rfl (Res.mk a161 rfl))
        ·replace hm := bf hm hc170
         refine Cw.skip (Cw.seq (Cw.seq (Cw.region (Lw.m (vI z158) rfl (Lw.m (vI z147.1) rfl (Lw.ne rfl (Lw.nil (Cw.cond (b := ((z158 : Int) != (z147.1 : Int))) rfl (fun hc171 => ?_) (fun hc171 => ?_)))))))))
         ·replace hm := bt hm hc171
          refine Cw.seq (Cw.region (Lw.g (vB false) rfl (Lw.nil ?_)))
          cases hm
          exact Cw.ret (ret1 rfl (Res.mk a161 rfl))
         ·replace hm := bf hm hc171
          refine Cw.skip (Cw.seq (Cw.region (Lw.r rfl (R.lda (cs := [vS x0.Branch, vS x0.Into, vS x0.By, v0_3_]) ((((((b94.up l101 rfl).up l112 rfl).up l125 rfl).up l135 rfl).up l149 rfl).up l160 rfl).cells rfl rfl) ?_)))
          obtain ⟨z173, e174, hm⟩ := ob hm
          refine Lw.t rfl (T.call rfl (p6 (K := [0]) (k0 := 10) (Review.rd (K := [0]) x0.Branch x0.Into x0.By x0.Yes (h0_3.ul a161)) e174)) ?_
          rintro _ _ ⟨W175, rfl, l175, ⟨v0_3_175, rfl, f175_0⟩⟩
          have a176 := a161.n l175
          refine Lw.m (vS x1) rfl ?_
          obtain ⟨z185, e186, hm⟩ := ob hm
          refine Lw.t rfl (T.call rfl (p7 (K := [10]) (k0 := 11) (x0 := (Vm.Review.mk z173.Branch z173.Into z173.By z173.Yes)) (Review.rd (K := [10]) z173.Branch z173.Into z173.By z173.Yes f175_0.rd) e186)) ?_
          rintro _ _ ⟨W187, rfl, l187, ⟨v0_3_187, rfl, f187_0⟩⟩
          have a188 := a176.n l187
          refine Lw.m (.tuple [.agg [vS z185.1.Branch, vS z185.1.Into, vS z185.1.By, v0_3_187].toArray, vB z185.2].toArray) rfl (Lw.r rfl (R.ext (vs := [.agg [vS z185.1.Branch, vS z185.1.Into, vS z185.1.By, v0_3_187].toArray, vB z185.2]) (v := .agg [vS z185.1.Branch, vS z185.1.Into, vS z185.1.By, v0_3_187].toArray) rfl rfl) (Lw.r rfl (R.ext (vs := [.agg [vS z185.1.Branch, vS z185.1.Into, vS z185.1.By, v0_3_187].toArray, vB z185.2]) (v := vB z185.2) rfl rfl) (Lw.t rfl (T.alloc 12 (cs := [vS ([] : Str), vS ([] : Str), vS ([] : Str), .slice none 0 0]) rfl) ?_)))
          rintro _ _ ⟨g198, W198, rfl, rfl, l198, b198⟩
          have a199 := a188.n l198
          refine Lw.u (T.sta (vs := [vS z185.1.Branch, vS z185.1.Into, vS z185.1.By, v0_3_187]) b198 rfl rfl (oc_cons rfl (oc_cons rfl (oc_cons rfl (oc_cons (f187_0.up l198 rfl).oc oc_nil)))) rfl rfl) ?_
          rintro _ _ ⟨W210, rfl, l210, b210⟩
          have a211 := a199.t l210 rfl
          refine Lw.g (vB z185.2) rfl (Lw.nil (Cw.seq ?_))
          obtain ⟨K224, hK224, hm⟩ := jn_e hm
          refine Cw.join 87 95 [95] (fun l w => ∃ (y222 : Bool) (W223 : CW), W223.w = w ∧ Le [] W210 W223 ∧ l = [vB y222] ∧ K224 y222 = some r) ?_ ?_
          ·rintro _ _ σ ⟨y222, W223, rfl, l223, rfl, hm⟩
           rw [hK224] at hm
           have a225 := a211.n l223
           refine Cw.cond (b := y222) rfl (fun hc237 => ?_) (fun hc237 => ?_)
           ·replace hm := bt hm hc237
            refine Cw.seq (Cw.region (Lw.g (vB false) rfl (Lw.nil ?_)))
            cases hm
            exact Cw.ret (ret1 rfl (Res.mk a225 rfl))
           ·replace hm := bf hm hc237
            refine Cw.skip (Cw.seq (Cw.region (Lw.g (vI 1) rfl (Lw.nil (Cw.seq (Cw.region (Lw.r rfl (R.lda (cs := [vS z52.1.Branch, vS z52.1.Into, vS z52.1.By, v0_3_54]) ((((((b157.up l160 rfl).up l175 rfl).up l187 rfl).up l198 rfl).up l210 rfl).up l223 rfl).cells rfl rfl) (Lw.m (vI 1) rfl ?_))))))))
            obtain ⟨z238, e239, hm⟩ := ob hm
            refine Lw.t rfl (T.call rfl (p10 (K := [7])  (x0 := (Vm.Review.mk z52.1.Branch z52.1.Into z52.1.By z147.2.Yes)) (Review.rd (K := [7]) z52.1.Branch z52.1.Into z52.1.By z147.2.Yes ((((((f149_0.up l160 rfl).up l175 rfl).up l187 rfl).up l198 rfl).up l210 rfl).up l223 rfl).rd) e239)) ?_
            rintro _ _ ⟨W240, rfl, l240, rfl⟩
            have a241 := a225.n l240
            refine Lw.g (vI z238) rfl (Lw.nil (Cw.seq (Cw.seq (Cw.region (Lw.m (vI z238) rfl (Lw.lt rfl (Lw.nil (Cw.cond (b := decide ((z238 : Int) < (0 : Int))) rfl (fun hc253 => ?_) (fun hc253 => ?_)))))))))
            ·replace hm := bt hm hc253
             refine Cw.seq (Cw.region (Lw.g (vB false) rfl (Lw.nil ?_)))
             cases hm
             exact Cw.ret (ret1 rfl (Res.mk a241 rfl))
            ·replace hm := bf hm hc253
             refine Cw.skip (Cw.seq (Cw.seq (Cw.region (Lw.m (vI z238) rfl (Lw.m (vI z147.1) rfl (Lw.ne rfl (Lw.nil (Cw.cond (b := ((z238 : Int) != (z147.1 : Int))) rfl (fun hc254 => ?_) (fun hc254 => ?_)))))))))
             ·replace hm := bt hm hc254
              refine Cw.seq (Cw.region (Lw.g (vB false) rfl (Lw.nil ?_)))
              cases hm
              exact Cw.ret (ret1 rfl (Res.mk a241 rfl))
             ·replace hm := bf hm hc254
              refine Cw.skip (Cw.seq (Cw.region (Lw.g (vB true) rfl (Lw.nil ?_))))
              cases hm
              exact Cw.ret (ret1 rfl (Res.mk a241 rfl))
          ·refine Cw.region (Lw.r rfl (R.lda (cs := [vS z185.1.Branch, vS z185.1.Into, vS z185.1.By, v0_3_187]) b210.cells rfl rfl) (Lw.r rfl (R.lda (cs := [vS z17.1.Branch, vS z17.1.Into, vS z17.1.By, v0_3_19]) (((((((b131.up l135 rfl).up l149 rfl).up l160 rfl).up l175 rfl).up l187 rfl).up l198 rfl).up l210 rfl).cells rfl rfl) ?_))
           have s255 := s20.up ((l24.sub (M := [4, 5, 6, 7, 8, 12]) rfl).trans ((l28.sub (M := [4, 5, 6, 7, 8, 12]) rfl).trans ((l35.sub (M := [4, 5, 6, 7, 8, 12]) rfl).trans ((l40.sub (M := [4, 5, 6, 7, 8, 12]) rfl).trans ((l46.sub (M := [4, 5, 6, 7, 8, 12]) rfl).trans ((l54.sub (M := [4, 5, 6, 7, 8, 12]) rfl).trans ((l61.sub (M := [4, 5, 6, 7, 8, 12]) rfl).trans ((l69.sub (M := [4, 5, 6, 7, 8, 12]) rfl).trans ((l78.sub (M := [4, 5, 6, 7, 8, 12]) rfl).trans ((l89.sub (M := [4, 5, 6, 7, 8, 12]) rfl).trans ((l101.sub (M := [4, 5, 6, 7, 8, 12]) rfl).trans ((l112.sub (M := [4, 5, 6, 7, 8, 12]) rfl).trans ((l125.sub (M := [4, 5, 6, 7, 8, 12]) rfl).trans ((l135.sub (M := [4, 5, 6, 7, 8, 12]) rfl).trans ((l149.sub (M := [4, 5, 6, 7, 8, 12]) rfl).trans ((l160.sub (M := [4, 5, 6, 7, 8, 12]) rfl).trans ((l175.sub (M := [4, 5, 6, 7, 8, 12]) rfl).trans ((l187.sub (M := [4, 5, 6, 7, 8, 12]) rfl).trans ((l198.sub (M := [4, 5, 6, 7, 8, 12]) rfl).trans (l210.sub (M := [4, 5, 6, 7, 8, 12]) rfl)))))))))))))))))))) rfl
           obtain ⟨z256, e257, hm⟩ := ob hm
           refine Lw.t rfl (T.call rfl (p8 (K := [0, 3, 11])  (x0 := (Vm.Review.mk z185.1.Branch z185.1.Into z185.1.By z185.1.Yes)) ((Review.rd (K := [11]) z185.1.Branch z185.1.Into z185.1.By z185.1.Yes ((f187_0.up l198 rfl).up l210 rfl).rd).sub (M := [0, 3, 11]) rfl) ((Review.rd (K := [0, 3]) z17.1.Branch z17.1.Into z17.1.By z17.1.Yes s255).sub (M := [0, 3, 11]) rfl) e257)) ?_
           rintro _ _ ⟨W258, rfl, l258, rfl⟩
           refine Lw.r rfl (R.not rfl) (Lw.m (vB (!z256)) rfl (bsplit (!z256) (fun hc271 => ?_) (fun hc271 => ?_)))
           ·replace hm := bt hm hc271
            refine Lw.pass' hc271 rfl rfl rfl rfl rfl rfl rfl (Lw.pass' hc271 rfl rfl rfl rfl rfl rfl rfl (Lw.pass' hc271 rfl rfl rfl rfl rfl rfl rfl (Lw.p hc271 (vB true) rfl (Lw.nil (⟨?_, ⟨true, W258, rfl, l258, rfl, hm⟩⟩)))))
            iterate 9 (refine Agree.up rfl ?_)
            exact Agree.refl _
           ·replace hm := bf hm hc271
            refine Lw.want' hc271 rfl rfl rfl rfl (Lw.m (vB z185.2) rfl (Lw.want' hc271 rfl rfl rfl rfl (Lw.m (vB z17.2) rfl (Lw.want' hc271 rfl rfl rfl rfl (Lw.r rfl (R.bne rfl rfl) (Lw.p hc271 (vB (z185.2 != z17.2)) rfl (Lw.nil (⟨?_, ⟨(z185.2 != z17.2), W258, rfl, l258, rfl, hm⟩⟩))))))))
            iterate 9 (refine Agree.up rfl ?_)
            exact Agree.refl _
      ·refine Cw.region (Lw.m (vI z123.1) rfl (Lw.lt rfl (Lw.m (vB (decide ((z123.1 : Int) < (0 : Int)))) rfl (bsplit (decide ((z123.1 : Int) < (0 : Int))) (fun hc272 => ?_) (fun hc272 => ?_)))))
       ·replace hm := bt hm hc272
        refine Lw.pass' hc272 rfl rfl rfl rfl rfl rfl rfl (Lw.pass' hc272 rfl rfl rfl rfl rfl rfl rfl (Lw.pass' hc272 rfl rfl rfl rfl rfl rfl rfl (Lw.pass' hc272 rfl rfl rfl rfl rfl rfl rfl (Lw.p hc272 (vB true) rfl (Lw.m (vB true) rfl (Lw.pass' rfl rfl rfl rfl rfl rfl rfl rfl (Lw.pass' rfl rfl rfl rfl rfl rfl rfl rfl (Lw.pass' rfl rfl rfl rfl rfl rfl rfl rfl (Lw.p rfl (vB true) rfl (Lw.nil (⟨?_, ⟨true, W125, rfl, Le.refl _ _, rfl, hm⟩⟩)))))))))))
        iterate 13 (refine Agree.up rfl ?_)
        exact Agree.refl _
       ·replace hm := bf hm hc272
        refine Lw.want' hc272 rfl rfl rfl rfl (Lw.r rfl (R.lda (cs := [vS z52.1.Branch, vS z52.1.Into, vS z52.1.By, v0_3_54]) b133.cells rfl rfl) (Lw.want' hc272 rfl rfl rfl rfl (Lw.r rfl (R.lda (cs := [vS z17.1.Branch, vS z17.1.Into, vS z17.1.By, v0_3_19]) b131.cells rfl rfl) (Lw.want' hc272 rfl rfl rfl rfl ?_))))
        have s273 := s20.up ((l24.sub (M := [4, 5, 6, 8]) rfl).trans ((l28.sub (M := [4, 5, 6, 8]) rfl).trans ((l35.sub (M := [4, 5, 6, 8]) rfl).trans ((l40.sub (M := [4, 5, 6, 8]) rfl).trans ((l46.sub (M := [4, 5, 6, 8]) rfl).trans ((l54.sub (M := [4, 5, 6, 8]) rfl).trans ((l61.sub (M := [4, 5, 6, 8]) rfl).trans ((l69.sub (M := [4, 5, 6, 8]) rfl).trans ((l78.sub (M := [4, 5, 6, 8]) rfl).trans ((l89.sub (M := [4, 5, 6, 8]) rfl).trans ((l101.sub (M := [4, 5, 6, 8]) rfl).trans ((l112.sub (M := [4, 5, 6, 8]) rfl).trans (l125.sub (M := [4, 5, 6, 8]) rfl))))))))))))) rfl
        obtain ⟨z274, e275, hm⟩ := ob hm
        refine Lw.t rfl (T.call rfl (p8 (K := [0, 3, 7])  (x0 := (Vm.Review.mk z52.1.Branch z52.1.Into z52.1.By z52.1.Yes)) ((Review.rd (K := [7]) z52.1.Branch z52.1.Into z52.1.By z52.1.Yes o128.rd).sub (M := [0, 3, 7]) rfl) ((Review.rd (K := [0, 3]) z17.1.Branch z17.1.Into z17.1.By z17.1.Yes s273).sub (M := [0, 3, 7]) rfl) e275)) ?_
        rintro _ _ ⟨W276, rfl, l276, rfl⟩
        refine Lw.want' hc272 rfl rfl rfl rfl (Lw.r rfl (R.not rfl) (Lw.p hc272 (vB (!z274)) rfl (Lw.m (vB (!z274)) rfl (bsplit (!z274) (fun hc286 => ?_) (fun hc286 => ?_)))))
        ·replace hm := bt hm hc286
         refine Lw.pass' hc286 rfl rfl rfl rfl rfl rfl rfl (Lw.pass' hc286 rfl rfl rfl rfl rfl rfl rfl (Lw.pass' hc286 rfl rfl rfl rfl rfl rfl rfl (Lw.p hc286 (vB true) rfl (Lw.nil (⟨?_, ⟨true, W276, rfl, l276, rfl, hm⟩⟩)))))
         iterate 13 (refine Agree.up rfl ?_)
         exact Agree.refl _
        ·replace hm := bf hm hc286
         refine Lw.want' hc286 rfl rfl rfl rfl (Lw.m (vB z52.2) rfl (Lw.want' hc286 rfl rfl rfl rfl (Lw.m (vB z17.2) rfl (Lw.want' hc286 rfl rfl rfl rfl (Lw.r rfl (R.bne rfl rfl) (Lw.p hc286 (vB (z52.2 != z17.2)) rfl (Lw.nil (⟨?_, ⟨(z52.2 != z17.2), W276, rfl, l276, rfl, hm⟩⟩))))))))
         iterate 13 (refine Agree.up rfl ?_)
         exact Agree.refl _
   ·refine Cw.region (Lw.r rfl (R.lda (cs := [vS z52.1.Branch, vS z52.1.Into, vS z52.1.By, v0_3_54]) b69.cells rfl rfl) (Lw.r rfl (R.lda (cs := [vS z17.1.Branch, vS z17.1.Into, vS z17.1.By, v0_3_19]) b75.cells rfl rfl) ?_))
    have s287 := s20.up ((l24.sub (M := [4, 6, 8]) rfl).trans ((l28.sub (M := [4, 6, 8]) rfl).trans ((l35.sub (M := [4, 6, 8]) rfl).trans ((l40.sub (M := [4, 6, 8]) rfl).trans ((l46.sub (M := [4, 6, 8]) rfl).trans ((l54.sub (M := [4, 6, 8]) rfl).trans ((l61.sub (M := [4, 6, 8]) rfl).trans (l69.sub (M := [4, 6, 8]) rfl)))))))) rfl
    obtain ⟨z288, e289, hm⟩ := ob hm
    refine Lw.t rfl (T.call rfl (p8 (K := [0, 3, 7])  (x0 := (Vm.Review.mk z52.1.Branch z52.1.Into z52.1.By z52.1.Yes)) ((Review.rd (K := [7]) z52.1.Branch z52.1.Into z52.1.By z52.1.Yes o73.rd).sub (M := [0, 3, 7]) rfl) ((Review.rd (K := [0, 3]) z17.1.Branch z17.1.Into z17.1.By z17.1.Yes s287).sub (M := [0, 3, 7]) rfl) e289)) ?_
    rintro _ _ ⟨W290, rfl, l290, rfl⟩
    refine Lw.r rfl (R.not rfl) (Lw.m (vB (!z288)) rfl (bsplit (!z288) (fun hc299 => ?_) (fun hc299 => ?_)))
    ·replace hm := bt hm hc299
     refine Lw.pass' hc299 rfl rfl rfl rfl rfl rfl rfl (Lw.pass' hc299 rfl rfl rfl rfl rfl rfl rfl (Lw.pass' hc299 rfl rfl rfl rfl rfl rfl rfl (Lw.p hc299 (vB true) rfl (Lw.nil (⟨?_, ⟨true, W290, rfl, l290, rfl, hm⟩⟩)))))
     iterate 9 (refine Agree.up rfl ?_)
     exact Agree.refl _
    ·replace hm := bf hm hc299
     refine Lw.want' hc299 rfl rfl rfl rfl (Lw.m (vB z52.2) rfl (Lw.want' hc299 rfl rfl rfl rfl (Lw.m (vB z17.2) rfl (Lw.want' hc299 rfl rfl rfl rfl (Lw.r rfl (R.bne rfl rfl) (Lw.p hc299 (vB (z52.2 != z17.2)) rfl (Lw.nil (⟨?_, ⟨(z52.2 != z17.2), W290, rfl, l290, rfl, hm⟩⟩))))))))
     iterate 9 (refine Agree.up rfl ?_)
     exact Agree.refl _

theorem p3 {W : CW} {K : List Nat} {x0 : Vm.Review} {v0_3_ : Value} {x1 : Str} {r : Bool} (h0 : Rd W K [vS x0.Branch, vS x0.Into, vS x0.By, v0_3_] x0) (hm : Vm.laws_FnExactReviewYes x0 x1 = some r) : CallR Try.prog 3 [.agg [vS x0.Branch, vS x0.Into, vS x0.By, v0_3_].toArray, vS x1].toArray W.w (Res W [] fun W' v => v = vB r) :=
 (c3 (V := W.view K []) (h0.view _) hm).ad (fk 0) fun _ _ e => e

end Go.Sx
