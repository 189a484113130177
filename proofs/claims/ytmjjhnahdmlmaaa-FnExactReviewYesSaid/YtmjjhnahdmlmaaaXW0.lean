/- Walks: each function answers as its model, printed by a program of ours. Conditions: the arguments read as they are given. -/
import Derived.Test.YtmjjhnahdmlmaaaXTs
import Derived.Test.YtmjjhnahdmlmaaaXMd
namespace Go.Sx
open Go Go.Proofs Go.Vm Rp
set_option linter.unusedVariables false
set_option linter.unusedSimpArgs false

theorem c11 {V : CW} {x0 : List Str} {v0_ : Value} {x1 : Int} {r : Int} (h0 : Rd V [0] [v0_] x0) (hm : Vm.laws_szStringS x0 x1 = some r) : CallR Try.prog 11 [v0_, vI x1].toArray V.w (Res V LL fun Wf v => v = vI r) := by
 unfold Vm.laws_szStringS at hm
 obtain ⟨W0, hW0⟩ : ∃ W, W = V := ⟨V, rfl⟩
 subst hW0
 refine CallR.of Try.func11 rfl rfl rfl rfl (Cw.seq (Cw.region (Lw.g (vI 0) rfl (Lw.nil (Cw.seq (Cw.region (Lw.m (vI x1) rfl (Lw.m v0_ rfl (Lw.ln x0 h0 rfl (Lw.sub rfl (Lw.g (vI (w64 (x1 - (x0.length : Int)))) rfl (Lw.nil (Cw.seq (Cw.seq (Cw.region (Lw.m (vI (w64 (x1 - (x0.length : Int)))) rfl (Lw.lt rfl (Lw.nil (Cw.cond (b := decide ((w64 (x1 - (x0.length : Int)) : Int) < (0 : Int))) rfl (fun hc1 => ?_) (fun hc1 => ?_))))))))))))))))))))
 ·replace hm := bt hm hc1
  refine Cw.seq (Cw.region (Lw.g (vI (-1)) rfl (Lw.nil ?_)))
  cases hm
  exact Cw.ret (ret1 rfl (Res.mk (Le.refl _ _) rfl))
 ·replace hm := bf hm hc1
  refine Cw.skip (Cw.seq (Cw.seq (Cw.region (Lw.g (vI 0) rfl (Lw.nil (Cw.block ?_))))))
  obtain ⟨K6, hK6, hm⟩ := jn_e hm
  refine Cw.loop 12 26 [1, 4, 5] (fun m l w => ∃ (y2 : Int) (y3 : Int) (y4 : Int) (W5 : CW), W5.w = w ∧ Le [] W0 W5 ∧ l = [vI y2, vI y3, vI y4] ∧ Vm.laws_szStringS_l1 x0 K6 m y2 y3 y4 = some r) (((x0.length : Int) - 0).toNat + 1) ⟨w64 (x1 - (x0.length : Int)), 0, 0, W0, rfl, Le.refl _ _, rfl, hm⟩ ?_
  rintro m7 _ _ σ ⟨y2, y3, y4, W5, rfl, l5, rfl, hm⟩
  obtain _ | m7 := m7
  ·cases hm
  unfold Vm.laws_szStringS_l1 at hm
  have a8 := l5.o
  refine Cw.seq (Cw.seq (Cw.region ?_))
  have s9 := h0.ul a8
  refine Lw.m (vI y4) rfl (Lw.m v0_ rfl (Lw.ln x0 s9 rfl (Lw.lt rfl (Lw.nil (Cw.cond (b := decide ((y4 : Int) < ((x0.length : Int) : Int))) rfl (fun hc10 => ?_) (fun hc10 => ?_))))))
  ·replace hm := bt hm hc10
   refine Cw.skip (Cw.seq (Cw.block (Cw.seq (Cw.region (Lw.m (vI y2) rfl (Lw.m v0_ rfl (Lw.m (vI y4) rfl ?_)))))))
   obtain ⟨u11, e12, hm⟩ := ob hm
   refine Lw.r rfl (R.ix (α := Str) s9 e12 rfl rfl rfl) (Lw.r rfl (R.ld rfl rfl (s9.at_ e12).str) (Lw.r rfl (R.lenS rfl) (Lw.sub rfl (Lw.g (vI (w64 (y2 - (u11.length : Int)))) rfl (Lw.nil (Cw.seq (Cw.region (Lw.m (vI (w64 (y2 - (u11.length : Int)))) rfl (Lw.lt rfl (Lw.nil (Cw.cond (b := decide ((w64 (y2 - (u11.length : Int)) : Int) < (0 : Int))) rfl (fun hc13 => ?_) (fun hc13 => ?_))))))))))))
   ·replace hm := bt hm hc13
    refine Cw.seq (Cw.region (Lw.g (vI (-1)) rfl (Lw.nil ?_)))
    cases hm
    exact Cw.ret (ret1 rfl (Res.mk a8 rfl))
   ·replace hm := bf hm hc13
    refine Cw.skip (Cw.region (Lw.m (vI y4) rfl (Lw.add rfl (Lw.g (vI (w64 (y4 + 1))) rfl (Lw.nil (⟨?_, m7, Nat.lt_succ_self m7, ⟨w64 (y2 - (u11.length : Int)), y3, w64 (y4 + 1), W5, rfl, l5, rfl, hm⟩⟩))))))
    iterate 17 (refine Agree.up rfl ?_)
    iterate 3 (refine Agree.up rfl ?_)
    exact Agree.base
  ·replace hm := bf hm hc10
   refine Cw.exit ?_
   rw [hK6] at hm
   refine Cw.seq (Cw.region (Lw.m (vI y2) rfl (Lw.g (vI y2) rfl (Lw.nil ?_))))
   cases hm
   exact Cw.ret (ret1 rfl (Res.mk a8 rfl))

theorem p11 {W : CW} {K : List Nat} {x0 : List Str} {v0_ : Value} {x1 : Int} {r : Int} (h0 : Rd W K [v0_] x0) (hm : Vm.laws_szStringS x0 x1 = some r) : CallR Try.prog 11 [v0_, vI x1].toArray W.w (Res W [] fun W' v => v = vI r) :=
 (c11 (V := W.view K []) (h0.view _) hm).ad (fk 0) fun _ _ e => e

theorem c4 {V : CW} {x0 : Vm.Review} {v0_3_ : Value} {x1 : Int} {r : Int} (h0 : Rd V [0] [vS x0.Branch, vS x0.Into, vS x0.By, v0_3_] x0) (hm : Vm.laws_szReview x0 x1 = some r) : CallR Try.prog 4 [.agg [vS x0.Branch, vS x0.Into, vS x0.By, v0_3_].toArray, vI x1].toArray V.w (Res V LL fun Wf v => v = vI r) := by
 unfold Vm.laws_szReview at hm
 obtain ⟨w0_0, he0, h0_3⟩ := Review.split h0
 simp only [List.cons.injEq, and_true, true_and] at he0
 obtain rfl := he0
 obtain ⟨W0, hW0⟩ : ∃ W, W = V := ⟨V, rfl⟩
 subst hW0
 refine CallR.of Try.func4 rfl rfl rfl rfl (Cw.seq (Cw.region (Lw.t rfl (T.box 2 (v := .agg [vS x0.Branch, vS x0.Into, vS x0.By, v0_3_].toArray) (cs := [vS x0.Branch, vS x0.Into, vS x0.By, v0_3_]) rfl rfl) ?_)))
 rintro _ _ ⟨g1, W1, rfl, rfl, l1, b1⟩
 have a2 := l1.o
 refine Lw.g (vI 0) rfl (Lw.nil (Cw.seq (Cw.region (Lw.m (vI x1) rfl (Lw.fa rfl (Lw.r rfl (R.ld (v := vS x0.Branch) rfl rfl (b1.cell rfl)) (Lw.r rfl (R.lenS rfl) (Lw.sub rfl (Lw.g (vI (w64 (x1 - (x0.Branch.length : Int)))) rfl (Lw.nil (Cw.seq (Cw.seq (Cw.region (Lw.m (vI (w64 (x1 - (x0.Branch.length : Int)))) rfl (Lw.lt rfl (Lw.nil (Cw.cond (b := decide ((w64 (x1 - (x0.Branch.length : Int)) : Int) < (0 : Int))) rfl (fun hc3 => ?_) (fun hc3 => ?_))))))))))))))))))
 ·replace hm := bt hm hc3
  refine Cw.seq (Cw.region (Lw.g (vI (-1)) rfl (Lw.nil ?_)))
  cases hm
  exact Cw.ret (ret1 rfl (Res.mk a2 rfl))
 ·replace hm := bf hm hc3
  refine Cw.skip (Cw.seq (Cw.region (Lw.m (vI (w64 (x1 - (x0.Branch.length : Int)))) rfl (Lw.fa rfl (Lw.r rfl (R.ld (v := vS x0.Into) rfl rfl (b1.cell rfl)) (Lw.r rfl (R.lenS rfl) (Lw.sub rfl (Lw.g (vI (w64 ((w64 (x1 - (x0.Branch.length : Int))) - (x0.Into.length : Int)))) rfl (Lw.nil (Cw.seq (Cw.seq (Cw.region (Lw.m (vI (w64 ((w64 (x1 - (x0.Branch.length : Int))) - (x0.Into.length : Int)))) rfl (Lw.lt rfl (Lw.nil (Cw.cond (b := decide ((w64 ((w64 (x1 - (x0.Branch.length : Int))) - (x0.Into.length : Int)) : Int) < (0 : Int))) rfl (fun hc4 => ?_) (fun hc4 => ?_)))))))))))))))))
  ·replace hm := bt hm hc4
   refine Cw.seq (Cw.region (Lw.g (vI (-1)) rfl (Lw.nil ?_)))
   cases hm
   exact Cw.ret (ret1 rfl (Res.mk a2 rfl))
  ·replace hm := bf hm hc4
   refine Cw.skip (Cw.seq (Cw.region (Lw.m (vI (w64 ((w64 (x1 - (x0.Branch.length : Int))) - (x0.Into.length : Int)))) rfl (Lw.fa rfl (Lw.r rfl (R.ld (v := vS x0.By) rfl rfl (b1.cell rfl)) (Lw.r rfl (R.lenS rfl) (Lw.sub rfl (Lw.g (vI (w64 ((w64 ((w64 (x1 - (x0.Branch.length : Int))) - (x0.Into.length : Int))) - (x0.By.length : Int)))) rfl (Lw.nil (Cw.seq (Cw.seq (Cw.region (Lw.m (vI (w64 ((w64 ((w64 (x1 - (x0.Branch.length : Int))) - (x0.Into.length : Int))) - (x0.By.length : Int)))) rfl (Lw.lt rfl (Lw.nil (Cw.cond (b := decide ((w64 ((w64 ((w64 (x1 - (x0.Branch.length : Int))) - (x0.Into.length : Int))) - (x0.By.length : Int)) : Int) < (0 : Int))) rfl (fun hc5 => ?_) (fun hc5 => ?_)))))))))))))))))
   ·replace hm := bt hm hc5
    refine Cw.seq (Cw.region (Lw.g (vI (-1)) rfl (Lw.nil ?_)))
    cases hm
    exact Cw.ret (ret1 rfl (Res.mk a2 rfl))
   ·replace hm := bf hm hc5
    refine Cw.skip (Cw.seq (Cw.region (Lw.fa rfl (Lw.r rfl (R.ld (v := v0_3_) rfl rfl (b1.cell rfl)) (Lw.m (vI (w64 ((w64 ((w64 (x1 - (x0.Branch.length : Int))) - (x0.Into.length : Int))) - (x0.By.length : Int)))) rfl ?_)))))
    obtain ⟨z7, e8, hm⟩ := ob hm
    refine Lw.t rfl (T.call rfl (p11 (K := [0])  (h0_3.ul a2) e8)) ?_
    rintro _ _ ⟨W9, rfl, l9, rfl⟩
    have a10 := a2.n l9
    refine Lw.g (vI z7) rfl (Lw.nil (Cw.seq (Cw.seq (Cw.region (Lw.m (vI z7) rfl (Lw.lt rfl (Lw.nil (Cw.cond (b := decide ((z7 : Int) < (0 : Int))) rfl (fun hc12 => ?_) (fun hc12 => ?_)))))))))
    ·replace hm := bt hm hc12
     refine Cw.seq (Cw.region (Lw.g (vI (-1)) rfl (Lw.nil ?_)))
     cases hm
     exact Cw.ret (ret1 rfl (Res.mk a10 rfl))
    ·replace hm := bf hm hc12
     refine Cw.skip (Cw.seq (Cw.region (Lw.m (vI z7) rfl (Lw.g (vI z7) rfl (Lw.nil ?_)))))
     cases hm
     exact Cw.ret (ret1 rfl (Res.mk a10 rfl))

theorem p4 {W : CW} {K : List Nat} {x0 : Vm.Review} {v0_3_ : Value} {x1 : Int} {r : Int} (h0 : Rd W K [vS x0.Branch, vS x0.Into, vS x0.By, v0_3_] x0) (hm : Vm.laws_szReview x0 x1 = some r) : CallR Try.prog 4 [.agg [vS x0.Branch, vS x0.Into, vS x0.By, v0_3_].toArray, vI x1].toArray W.w (Res W [] fun W' v => v = vI r) :=
 (c4 (V := W.view K []) (h0.view _) hm).ad (fk 0) fun _ _ e => e

theorem c14 {V : CW} {x0 : List Str} {v0_ : Value} {r : (List Str)} (h0 : Rd V [0] [v0_] x0) (hm : Vm.laws_toStringS x0 = some r) : CallR Try.prog 14 [v0_].toArray V.w (Res V LL fun Wf v => ∃ (u0 : Value), v = u0 ∧ OwS Wf LL [] [u0] r) := by
 unfold Vm.laws_toStringS at hm
 obtain ⟨W0, hW0⟩ : ∃ W, W = V := ⟨V, rfl⟩
 subst hW0
 refine CallR.of Try.func14 rfl rfl rfl rfl (Cw.seq (Cw.region (Lw.g (.slice none 0 0) rfl (Lw.nil (Cw.seq (Cw.region (Lw.m v0_ rfl (Lw.ln x0 h0 rfl ?_))))))))
 obtain ⟨q1, e2, hm⟩ := ob hm
 refine Lw.t rfl (T.mk (α := Str) 2 [] (n := (x0.length : Int)) rfl rfl e2) ?_
 rintro v3 _ ⟨W3, rfl, l3, o3⟩
 have a4 := l3.o
 refine Lw.g v3 rfl (Lw.nil (Cw.seq (Cw.seq (Cw.region (Lw.g (vI 0) rfl (Lw.nil (Cw.block ?_)))))))
 obtain ⟨K9, hK9, hm⟩ := jn_e hm
 refine Cw.loop 8 20 [4] (fun m l w => ∃ (y5 : Int) (y6 : List Str) (W8 : CW), W8.w = w ∧ Le [2] W3 W8 ∧ l = [vI y5] ∧ Ow W8 2 [] [v3] y6 ∧ Vm.laws_toStringS_l1 x0 K9 m y5 y6 = some r) (((x0.length : Int) - 0).toNat + 1) ⟨0, q1, W3, rfl, Le.refl _ _, rfl, o3, hm⟩ ?_
 rintro m10 _ _ σ ⟨y5, y6, W8, rfl, l8, rfl, o7, hm⟩
 obtain _ | m10 := m10
 ·cases hm
 unfold Vm.laws_toStringS_l1 at hm
 have a11 := a4.t l8 rfl
 refine Cw.seq (Cw.seq (Cw.region (Lw.m (vI y5) rfl (Lw.m v0_ rfl (Lw.ln x0 (h0.ul a11) rfl (Lw.lt rfl (Lw.nil (Cw.cond (b := decide ((y5 : Int) < ((x0.length : Int) : Int))) rfl (fun hc13 => ?_) (fun hc13 => ?_)))))))))
 ·replace hm := bt hm hc13
  refine Cw.skip (Cw.seq (Cw.block (Cw.region (Lw.m v3 rfl (Lw.m (vI y5) rfl (Lw.m v0_ rfl (Lw.m (vI y5) rfl ?_)))))))
  obtain ⟨u14, e15, hm⟩ := ob hm
  refine Lw.r rfl (R.ix (α := Str) (h0.ul a11) e15 rfl rfl rfl) (Lw.r rfl (R.ld rfl rfl ((h0.ul a11).at_ e15).str) ?_)
  obtain ⟨u16, e17, hm⟩ := ob hm
  refine Lw.r rfl (R.ix (α := Str) o7.rd e17 rfl rfl rfl) ?_
  obtain ⟨q19, e20, hm⟩ := ob hm
  refine Lw.u (T.stS (K' := []) o7 (rdS _) e20 rfl rfl rfl) ?_
  rintro _ _ ⟨W18, rfl, l18, o18⟩
  refine Lw.nil (Cw.region (Lw.m (vI y5) rfl (Lw.add rfl (Lw.g (vI (w64 (y5 + 1))) rfl (Lw.nil (⟨?_, m10, Nat.lt_succ_self m10, ⟨w64 (y5 + 1), q19, W18, rfl, (l8.trans l18), rfl, o18, hm⟩⟩))))))
  iterate 14 (refine Agree.up rfl ?_)
  iterate 1 (refine Agree.up rfl ?_)
  exact Agree.base
 ·replace hm := bf hm hc13
  refine Cw.exit ?_
  rw [hK9] at hm
  refine Cw.seq (Cw.region (Lw.m v3 rfl (Lw.g v3 rfl (Lw.nil ?_))))
  cases hm
  exact Cw.ret (ret1 rfl (Res.mk a11 ⟨v3, rfl, o7.s.sub rfl rfl⟩))

theorem p14 {W : CW} {K : List Nat} {x0 : List Str} {v0_ : Value} {k0 : Nat} {r : (List Str)} (h0 : Rd W K [v0_] x0) (hm : Vm.laws_toStringS x0 = some r) : CallR Try.prog 14 [v0_].toArray W.w (Res W [] fun W' v => ∃ (u0 : Value), v = u0 ∧ Ow W' k0 [] [u0] r) :=
 (c14 (V := W.view K []) (h0.view _) hm).ad (fk k0) fun _ _ ⟨u0, e, f0⟩ => ⟨u0, e, f0.back (fk_LL _)⟩

theorem c6 {V : CW} {x0 : Vm.Review} {v0_3_ : Value} {r : Vm.Review} (h0 : Rd V [0] [vS x0.Branch, vS x0.Into, vS x0.By, v0_3_] x0) (hm : Vm.laws_toReview x0 = some r) : CallR Try.prog 6 [.agg [vS x0.Branch, vS x0.Into, vS x0.By, v0_3_].toArray].toArray V.w (Res V LL fun Wf v => ∃ (u0_3 : Value), v = .agg [vS r.Branch, vS r.Into, vS r.By, u0_3].toArray ∧ OwS Wf LL [] [u0_3] r.Yes) := by
 unfold Vm.laws_toReview at hm
 obtain ⟨w0_0, he0, h0_3⟩ := Review.split h0
 simp only [List.cons.injEq, and_true, true_and] at he0
 obtain rfl := he0
 obtain ⟨W0, hW0⟩ : ∃ W, W = V := ⟨V, rfl⟩
 subst hW0
 refine CallR.of Try.func6 rfl rfl rfl rfl (Cw.seq (Cw.region (Lw.t rfl (T.box 2 (v := .agg [vS x0.Branch, vS x0.Into, vS x0.By, v0_3_].toArray) (cs := [vS x0.Branch, vS x0.Into, vS x0.By, v0_3_]) rfl rfl) ?_)))
 rintro _ _ ⟨g1, W1, rfl, rfl, l1, b1⟩
 have a2 := l1.o
 refine Lw.t rfl (T.alloc 3 (cs := [vS ([] : Str), vS ([] : Str), vS ([] : Str), .slice none 0 0]) rfl) ?_
 rintro _ _ ⟨g3, W3, rfl, rfl, l3, b3⟩
 have a4 := a2.n l3
 refine Lw.nil (Cw.seq (Cw.region (Lw.t rfl (T.alloc 4 (cs := [vS ([] : Str), vS ([] : Str), vS ([] : Str), .slice none 0 0]) rfl) ?_)))
 rintro _ _ ⟨g6, W6, rfl, rfl, l6, b6⟩
 have a7 := a4.n l6
 have b8 := (b1.up l3 rfl).up l6 rfl
 refine Lw.nil (Cw.seq (Cw.region (Lw.fa rfl (Lw.r rfl (R.ld (v := vS x0.Branch) rfl rfl (b8.cell rfl)) (Lw.fa rfl (Lw.u (T.st (j := 0) (v := vS x0.Branch) b6 rfl rfl rfl rfl rfl) ?_))))))
 rintro _ _ ⟨W10, rfl, l10, b10⟩
 have a11 := a7.t l10 rfl
 refine Lw.nil (Cw.seq (Cw.region (Lw.fa rfl (Lw.r rfl (R.ld (v := vS x0.Into) rfl rfl ((b8.up l10 rfl).cell rfl)) (Lw.fa rfl (Lw.u (T.st (j := 1) (v := vS x0.Into) b10 rfl rfl rfl rfl rfl) ?_))))))
 rintro _ _ ⟨W14, rfl, l14, b14⟩
 have a15 := a11.t l14 rfl
 have b16 := (b8.up l10 rfl).up l14 rfl
 refine Lw.nil (Cw.seq (Cw.region (Lw.fa rfl (Lw.r rfl (R.ld (v := vS x0.By) rfl rfl (b16.cell rfl)) (Lw.fa rfl (Lw.u (T.st (j := 2) (v := vS x0.By) b14 rfl rfl rfl rfl rfl) ?_))))))
 rintro _ _ ⟨W18, rfl, l18, b18⟩
 have a19 := a15.t l18 rfl
 refine Lw.nil (Cw.seq (Cw.region (Lw.fa rfl (Lw.r rfl (R.ld (v := v0_3_) rfl rfl ((b16.up l18 rfl).cell rfl)) ?_))))
 obtain ⟨z23, e24, hm⟩ := ob hm
 refine Lw.t rfl (T.call rfl (p14 (K := [0]) (k0 := 5) (h0_3.ul a19) e24)) ?_
 rintro v0_25 _ ⟨W25, rfl, l25, ⟨_, rfl, f25_0⟩⟩
 have a26 := a19.n l25
 refine Lw.fa rfl (Lw.u (T.st (j := 3) (v := v0_25) (b18.up l25 rfl) rfl rfl f25_0.oc rfl rfl) ?_)
 rintro _ _ ⟨W30, rfl, l30, b30⟩
 have a31 := a26.t l30 rfl
 refine Lw.nil (Cw.seq (Cw.region (Lw.r rfl (R.lda (cs := [vS x0.Branch, vS x0.Into, vS x0.By, v0_25]) b30.cells rfl rfl) (Lw.u (T.sta (vs := [vS x0.Branch, vS x0.Into, vS x0.By, v0_25]) ((((((b3.up l6 rfl).up l10 rfl).up l14 rfl).up l18 rfl).up l25 rfl).up l30 rfl) rfl rfl (oc_cons rfl (oc_cons rfl (oc_cons rfl (oc_cons (f25_0.up l30 rfl).oc oc_nil)))) rfl rfl) ?_))))
 rintro _ _ ⟨W35, rfl, l35, b35⟩
 have a36 := a31.t l35 rfl
 refine Lw.nil ?_
 cases hm
 exact Cw.ret (retA1 rfl b35 (Res.mk a36 ⟨v0_25, rfl, ((f25_0.up l30 rfl).up l35 rfl).s.sub rfl rfl⟩))

theorem p6 {W : CW} {K : List Nat} {x0 : Vm.Review} {v0_3_ : Value} {k0 : Nat} {r : Vm.Review} (h0 : Rd W K [vS x0.Branch, vS x0.Into, vS x0.By, v0_3_] x0) (hm : Vm.laws_toReview x0 = some r) : CallR Try.prog 6 [.agg [vS x0.Branch, vS x0.Into, vS x0.By, v0_3_].toArray].toArray W.w (Res W [] fun W' v => ∃ (u0_3 : Value), v = .agg [vS r.Branch, vS r.Into, vS r.By, u0_3].toArray ∧ Ow W' k0 [] [u0_3] r.Yes) :=
 (c6 (V := W.view K []) (h0.view _) hm).ad (fk k0) fun _ _ ⟨u0_3, e, f0⟩ => ⟨u0_3, e, f0.back (fk_LL _)⟩

theorem c26 {V : CW} {x0 : Int} {x1 : Int} {x2 : Int} {r : Bool}  (hm : Vm.spec_l1In x0 x1 x2 = some r) : CallR Try.prog 26 [vI x0, vI x1, vI x2].toArray V.w (Res V LL fun Wf v => v = vB r) := by
 unfold Vm.spec_l1In at hm
 obtain ⟨W0, hW0⟩ : ∃ W, W = V := ⟨V, rfl⟩
 subst hW0
 refine CallR.of Try.func26 rfl rfl rfl rfl (Cw.seq (Cw.region (Lw.g (vB false) rfl (Lw.nil ?_))))
 obtain ⟨K3, hK3, hm⟩ := jn_e hm
 refine Cw.join 7 14 [6] (fun l w => ∃ (y1 : Bool) (W2 : CW), W2.w = w ∧ Le [] W0 W2 ∧ l = [vB y1] ∧ K3 y1 = some r) ?_ ?_
 ·rintro _ _ σ ⟨y1, W2, rfl, l2, rfl, hm⟩
  rw [hK3] at hm
  have a4 := l2.o
  cases hm
  exact Cw.ret (ret1 rfl (Res.mk a4 rfl))
 ·refine Cw.region (Lw.m (vI x0) rfl (Lw.m (vI x1) rfl (Lw.ge rfl (Lw.m (vB (decide ((x1 : Int) ≤ (x0 : Int)))) rfl (bsplit (decide ((x1 : Int) ≤ (x0 : Int))) (fun hc5 => ?_) (fun hc5 => ?_))))))
  ·replace hm := bt hm hc5
   refine Lw.want' hc5 rfl rfl rfl rfl (Lw.m (vI x0) rfl (Lw.want' hc5 rfl rfl rfl rfl (Lw.m (vI x2) rfl (Lw.want' hc5 rfl rfl rfl rfl (Lw.le rfl (Lw.p hc5 (vB (decide ((x0 : Int) ≤ (x2 : Int)))) rfl (Lw.g (vB (decide ((x0 : Int) ≤ (x2 : Int)))) rfl (Lw.nil (⟨?_, ⟨decide ((x0 : Int) ≤ (x2 : Int)), W0, rfl, Le.refl _ _, rfl, hm⟩⟩)))))))))
   iterate 9 (refine Agree.up rfl ?_)
   exact Agree.refl _
  ·replace hm := bf hm hc5
   refine Lw.pass' hc5 rfl rfl rfl rfl rfl rfl rfl (Lw.pass' hc5 rfl rfl rfl rfl rfl rfl rfl (Lw.pass' hc5 rfl rfl rfl rfl rfl rfl rfl (Lw.p hc5 (vB false) rfl (Lw.g (vB false) rfl (Lw.nil (⟨?_, ⟨false, W0, rfl, Le.refl _ _, rfl, hm⟩⟩))))))
   iterate 9 (refine Agree.up rfl ?_)
   exact Agree.refl _

theorem p26 {W : CW} {K : List Nat} {x0 : Int} {x1 : Int} {x2 : Int} {r : Bool}  (hm : Vm.spec_l1In x0 x1 x2 = some r) : CallR Try.prog 26 [vI x0, vI x1, vI x2].toArray W.w (Res W [] fun W' v => v = vB r) :=
 (c26 (V := W.view K [])  hm).ad (fk 0) fun _ _ e => e

theorem c20 {V : CW} {x0 : Str} {r : Bool}  (hm : Vm.spec_l4Name x0 = some r) : CallR Try.prog 20 [vS x0].toArray V.w (Res V LL fun Wf v => v = vB r) := by
 unfold Vm.spec_l4Name at hm
 obtain ⟨W0, hW0⟩ : ∃ W, W = V := ⟨V, rfl⟩
 subst hW0
 refine CallR.of Try.func20 rfl rfl rfl rfl (Cw.seq (Cw.region (Lw.g (vB false) rfl (Lw.nil (Cw.seq (Cw.seq (Cw.region (Lw.g (vI 0) rfl (Lw.nil (Cw.block ?_))))))))))
 obtain ⟨K4, hK4, hm⟩ := jn_e hm
 refine Cw.loop 4 31 [2, 3] (fun m l w => ∃ (y1 : Bool) (y2 : Int) (W3 : CW), W3.w = w ∧ Le [] W0 W3 ∧ l = [vB y1, vI y2] ∧ Vm.spec_l4Name_l1 x0 K4 m y1 y2 = some r) (((x0.length : Int) - 0).toNat + 1) ⟨false, 0, W0, rfl, Le.refl _ _, rfl, hm⟩ ?_
 rintro m5 _ _ σ ⟨y1, y2, W3, rfl, l3, rfl, hm⟩
 obtain _ | m5 := m5
 ·cases hm
 unfold Vm.spec_l4Name_l1 at hm
 have a6 := l3.o
 refine Cw.seq (Cw.seq (Cw.region (Lw.m (vI y2) rfl (Lw.m (vS x0) rfl (Lw.r rfl (R.lenS rfl) (Lw.lt rfl (Lw.nil (Cw.cond (b := decide ((y2 : Int) < ((x0.length : Int) : Int))) rfl (fun hc7 => ?_) (fun hc7 => ?_)))))))))
 ·replace hm := bt hm hc7
  refine Cw.skip (Cw.seq (Cw.block ?_))
  obtain ⟨K10, hK10, hm⟩ := jn_e hm
  refine Cw.join 10 31 [31] (fun l w => ∃ (y8 : Bool) (W9 : CW), W9.w = w ∧ Le [] W3 W9 ∧ l = [vB y8] ∧ K10 y8 = some r) ?_ ?_
  ·rintro _ _ σ ⟨y8, W9, rfl, l9, rfl, hm⟩
   rw [hK10] at hm
   have a11 := a6.n l9
   refine Cw.cond (b := y8) rfl (fun hc12 => ?_) (fun hc12 => ?_)
   ·replace hm := bt hm hc12
    refine Cw.seq (Cw.region (Lw.g (vB false) rfl (Lw.nil ?_)))
    cases hm
    exact Cw.ret (ret1 rfl (Res.mk a11 rfl))
   ·replace hm := bf hm hc12
    refine Cw.skip (Cw.region (Lw.m (vI y2) rfl (Lw.add rfl (Lw.g (vI (w64 (y2 + 1))) rfl (Lw.nil (⟨?_, m5, Nat.lt_succ_self m5, ⟨y1, w64 (y2 + 1), W9, rfl, (l3.trans l9), rfl, hm⟩⟩))))))
    iterate 3 (refine Agree.up rfl ?_)
    iterate 1 (refine Agree.up rfl ?_)
    refine Agree.ov0 rfl ?_
    iterate 4 (refine Agree.up rfl ?_)
    iterate 2 (refine Agree.up rfl ?_)
    exact Agree.base
  ·refine Cw.region (Lw.m (vS x0) rfl (Lw.m (vI y2) rfl ?_))
   obtain ⟨u13, e14, hm⟩ := ob hm
   refine Lw.r rfl (R.chm e14 rfl rfl) (Lw.lt rfl (Lw.m (vB (decide (((UInt8.toNat u13 : Int) : Int) < (97 : Int)))) rfl (bsplit (decide (((UInt8.toNat u13 : Int) : Int) < (97 : Int))) (fun hc15 => ?_) (fun hc15 => ?_))))
   ·replace hm := bt hm hc15
    refine Lw.pass' hc15 rfl rfl rfl rfl rfl rfl rfl (Lw.pass' hc15 rfl rfl rfl rfl rfl rfl rfl (Lw.pass' hc15 rfl rfl rfl rfl rfl rfl rfl (Lw.pass' hc15 rfl rfl rfl rfl rfl rfl rfl (Lw.p hc15 (vB true) rfl (Lw.m (vB true) rfl (Lw.want' rfl rfl rfl rfl rfl (Lw.m (vS x0) rfl (Lw.want' rfl rfl rfl rfl rfl (Lw.m (vI y2) rfl (Lw.want' rfl rfl rfl rfl rfl ?_))))))))))
    obtain ⟨u16, e17, hm⟩ := ob hm
    refine Lw.r rfl (R.chm e17 rfl rfl) (Lw.want' rfl rfl rfl rfl rfl (Lw.lt rfl (Lw.want' rfl rfl rfl rfl rfl (Lw.m (vB (decide (((UInt8.toNat u16 : Int) : Int) < (48 : Int)))) rfl (bsplit (decide (((UInt8.toNat u16 : Int) : Int) < (48 : Int))) (fun hc18 => ?_) (fun hc18 => ?_))))))
    ·replace hm := bt hm hc18
     refine Lw.pass' hc18 rfl rfl rfl rfl rfl rfl rfl (Lw.pass' hc18 rfl rfl rfl rfl rfl rfl rfl (Lw.pass' hc18 rfl rfl rfl rfl rfl rfl rfl (Lw.pass' hc18 rfl rfl rfl rfl rfl rfl rfl (Lw.want' rfl rfl rfl rfl rfl (Lw.p hc18 (vB true) rfl (Lw.p rfl (vB true) rfl (Lw.nil (⟨?_, ⟨true, W3, rfl, Le.refl _ _, rfl, hm⟩⟩))))))))
     iterate 22 (refine Agree.up rfl ?_)
     exact Agree.refl _
    ·replace hm := bf hm hc18
     refine Lw.want' hc18 rfl rfl rfl rfl (Lw.m (vS x0) rfl (Lw.want' hc18 rfl rfl rfl rfl (Lw.m (vI y2) rfl (Lw.want' hc18 rfl rfl rfl rfl ?_))))
     obtain ⟨u19, e20, hm⟩ := ob hm
     refine Lw.r rfl (R.chm e20 rfl rfl) (Lw.want' hc18 rfl rfl rfl rfl (Lw.gt rfl (Lw.want' rfl rfl rfl rfl rfl (Lw.p hc18 (vB (decide ((57 : Int) < ((UInt8.toNat u19 : Int) : Int)))) rfl (Lw.p rfl (vB (decide ((57 : Int) < ((UInt8.toNat u19 : Int) : Int)))) rfl (Lw.nil (⟨?_, ⟨decide ((57 : Int) < ((UInt8.toNat u19 : Int) : Int)), W3, rfl, Le.refl _ _, rfl, hm⟩⟩)))))))
     iterate 22 (refine Agree.up rfl ?_)
     exact Agree.refl _
   ·replace hm := bf hm hc15
    refine Lw.want' hc15 rfl rfl rfl rfl (Lw.m (vS x0) rfl (Lw.want' hc15 rfl rfl rfl rfl (Lw.m (vI y2) rfl (Lw.want' hc15 rfl rfl rfl rfl ?_))))
    obtain ⟨u21, e22, hm⟩ := ob hm
    refine Lw.r rfl (R.chm e22 rfl rfl) (Lw.want' hc15 rfl rfl rfl rfl (Lw.gt rfl (Lw.p hc15 (vB (decide ((122 : Int) < ((UInt8.toNat u21 : Int) : Int)))) rfl (Lw.m (vB (decide ((122 : Int) < ((UInt8.toNat u21 : Int) : Int)))) rfl (bsplit (decide ((122 : Int) < ((UInt8.toNat u21 : Int) : Int))) (fun hc23 => ?_) (fun hc23 => ?_))))))
    ·replace hm := bt hm hc23
     refine Lw.want' hc23 rfl rfl rfl rfl (Lw.m (vS x0) rfl (Lw.want' hc23 rfl rfl rfl rfl (Lw.m (vI y2) rfl (Lw.want' hc23 rfl rfl rfl rfl ?_))))
     obtain ⟨u24, e25, hm⟩ := ob hm
     refine Lw.r rfl (R.chm e25 rfl rfl) (Lw.want' hc23 rfl rfl rfl rfl (Lw.lt rfl (Lw.want' hc23 rfl rfl rfl rfl (Lw.m (vB (decide (((UInt8.toNat u24 : Int) : Int) < (48 : Int)))) rfl (bsplit (decide (((UInt8.toNat u24 : Int) : Int) < (48 : Int))) (fun hc26 => ?_) (fun hc26 => ?_))))))
     ·replace hm := bt hm hc26
      refine Lw.pass' hc26 rfl rfl rfl rfl rfl rfl rfl (Lw.pass' hc26 rfl rfl rfl rfl rfl rfl rfl (Lw.pass' hc26 rfl rfl rfl rfl rfl rfl rfl (Lw.pass' hc26 rfl rfl rfl rfl rfl rfl rfl (Lw.want' hc23 rfl rfl rfl rfl (Lw.p hc26 (vB true) rfl (Lw.p hc23 (vB true) rfl (Lw.nil (⟨?_, ⟨true, W3, rfl, Le.refl _ _, rfl, hm⟩⟩))))))))
      iterate 22 (refine Agree.up rfl ?_)
      exact Agree.refl _
     ·replace hm := bf hm hc26
      refine Lw.want' hc26 rfl rfl rfl rfl (Lw.m (vS x0) rfl (Lw.want' hc26 rfl rfl rfl rfl (Lw.m (vI y2) rfl (Lw.want' hc26 rfl rfl rfl rfl ?_))))
      obtain ⟨u27, e28, hm⟩ := ob hm
      refine Lw.r rfl (R.chm e28 rfl rfl) (Lw.want' hc26 rfl rfl rfl rfl (Lw.gt rfl (Lw.want' hc23 rfl rfl rfl rfl (Lw.p hc26 (vB (decide ((57 : Int) < ((UInt8.toNat u27 : Int) : Int)))) rfl (Lw.p hc23 (vB (decide ((57 : Int) < ((UInt8.toNat u27 : Int) : Int)))) rfl (Lw.nil (⟨?_, ⟨decide ((57 : Int) < ((UInt8.toNat u27 : Int) : Int)), W3, rfl, Le.refl _ _, rfl, hm⟩⟩)))))))
      iterate 22 (refine Agree.up rfl ?_)
      exact Agree.refl _
    ·replace hm := bf hm hc23
     refine Lw.pass' hc23 rfl rfl rfl rfl rfl rfl rfl (Lw.pass' hc23 rfl rfl rfl rfl rfl rfl rfl (Lw.pass' hc23 rfl rfl rfl rfl rfl rfl rfl (Lw.pass' hc23 rfl rfl rfl rfl rfl rfl rfl (Lw.pass' hc23 rfl rfl rfl rfl rfl rfl rfl (Lw.passU rfl rfl rfl rfl rfl rfl (Lw.passU rfl rfl rfl rfl rfl rfl (Lw.passU rfl rfl rfl rfl rfl rfl (Lw.passU rfl rfl rfl rfl rfl rfl (Lw.pass' hc23 rfl rfl rfl rfl rfl rfl rfl (Lw.p hc23 (vB false) rfl (Lw.nil (⟨?_, ⟨false, W3, rfl, Le.refl _ _, rfl, hm⟩⟩))))))))))))
     iterate 22 (refine Agree.up rfl ?_)
     exact Agree.refl _
 ·replace hm := bf hm hc7
  refine Cw.exit ?_
  rw [hK4] at hm
  refine Cw.seq (Cw.region (Lw.m (vS x0) rfl (Lw.r rfl (R.lenS rfl) ?_)))
  obtain ⟨z29, e30, hm⟩ := ob hm
  refine Lw.t rfl (T.call rfl (p26 (K := [0])   e30)) ?_
  rintro _ _ ⟨W31, rfl, l31, rfl⟩
  have a32 := a6.n l31
  refine Lw.g (vB z29) rfl (Lw.nil ?_)
  cases hm
  exact Cw.ret (ret1 rfl (Res.mk a32 rfl))

theorem p20 {W : CW} {K : List Nat} {x0 : Str} {r : Bool}  (hm : Vm.spec_l4Name x0 = some r) : CallR Try.prog 20 [vS x0].toArray W.w (Res W [] fun W' v => v = vB r) :=
 (c20 (V := W.view K [])  hm).ad (fk 0) fun _ _ e => e

theorem c12 {V : CW} {x0 : Vm.Review} {v0_3_ : Value} {r : Bool} (h0 : Rd V [0] [vS x0.Branch, vS x0.Into, vS x0.By, v0_3_] x0) (hm : Vm.spec_l17Ok x0 = some r) : CallR Try.prog 12 [.agg [vS x0.Branch, vS x0.Into, vS x0.By, v0_3_].toArray].toArray V.w (Res V LL fun Wf v => v = vB r) := by
 unfold Vm.spec_l17Ok at hm
 obtain ⟨w0_0, he0, h0_3⟩ := Review.split h0
 simp only [List.cons.injEq, and_true, true_and] at he0
 obtain rfl := he0
 obtain ⟨W0, hW0⟩ : ∃ W, W = V := ⟨V, rfl⟩
 subst hW0
 refine CallR.of Try.func12 rfl rfl rfl rfl (Cw.seq (Cw.region (Lw.t rfl (T.box 2 (v := .agg [vS x0.Branch, vS x0.Into, vS x0.By, v0_3_].toArray) (cs := [vS x0.Branch, vS x0.Into, vS x0.By, v0_3_]) rfl rfl) ?_)))
 rintro _ _ ⟨g1, W1, rfl, rfl, l1, b1⟩
 have a2 := l1.o
 refine Lw.g (vB false) rfl (Lw.nil (Cw.seq (Cw.seq (Cw.region (Lw.g (vI 0) rfl (Lw.nil (Cw.block ?_)))))))
 obtain ⟨K6, hK6, hm⟩ := jn_e hm
 refine Cw.loop 4 35 [2, 3] (fun m l w => ∃ (y3 : Bool) (y4 : Int) (W5 : CW), W5.w = w ∧ Le [] W1 W5 ∧ l = [vB y3, vI y4] ∧ Vm.spec_l17Ok_l1 x0 K6 m y3 y4 = some r) (((x0.Yes.length : Int) - 0).toNat + 1) ⟨false, 0, W1, rfl, Le.refl _ _, rfl, hm⟩ ?_
 rintro m7 _ _ σ ⟨y3, y4, W5, rfl, l5, rfl, hm⟩
 obtain _ | m7 := m7
 ·cases hm
 unfold Vm.spec_l17Ok_l1 at hm
 have a8 := a2.n l5
 have b9 := b1.up l5 rfl
 refine Cw.seq (Cw.seq (Cw.region (Lw.m (vI y4) rfl (Lw.fa rfl (Lw.r rfl (R.ld (v := v0_3_) rfl rfl (b9.cell rfl)) (Lw.ln x0.Yes (h0_3.ul a8) rfl (Lw.lt rfl (Lw.nil (Cw.cond (b := decide ((y4 : Int) < ((x0.Yes.length : Int) : Int))) rfl (fun hc11 => ?_) (fun hc11 => ?_))))))))))
 ·replace hm := bt hm hc11
  refine Cw.skip (Cw.seq (Cw.block ?_))
  obtain ⟨K14, hK14, hm⟩ := jn_e hm
  refine Cw.join 11 35 [35] (fun l w => ∃ (y12 : Bool) (W13 : CW), W13.w = w ∧ Le [] W5 W13 ∧ l = [vB y12] ∧ K14 y12 = some r) ?_ ?_
  ·rintro _ _ σ ⟨y12, W13, rfl, l13, rfl, hm⟩
   rw [hK14] at hm
   have a15 := a8.n l13
   refine Cw.cond (b := y12) rfl (fun hc17 => ?_) (fun hc17 => ?_)
   ·replace hm := bt hm hc17
    refine Cw.seq (Cw.region (Lw.g (vB false) rfl (Lw.nil ?_)))
    cases hm
    exact Cw.ret (ret1 rfl (Res.mk a15 rfl))
   ·replace hm := bf hm hc17
    refine Cw.skip (Cw.region (Lw.m (vI y4) rfl (Lw.add rfl (Lw.g (vI (w64 (y4 + 1))) rfl (Lw.nil (⟨?_, m7, Nat.lt_succ_self m7, ⟨y3, w64 (y4 + 1), W13, rfl, (l5.trans l13), rfl, hm⟩⟩))))))
    iterate 3 (refine Agree.up rfl ?_)
    iterate 1 (refine Agree.up rfl ?_)
    refine Agree.ov0 rfl ?_
    iterate 5 (refine Agree.up rfl ?_)
    iterate 2 (refine Agree.up rfl ?_)
    exact Agree.base
  ·refine Cw.draw [] [(0, 0), (1, 1), (2, 0), (3, 0), (4, 1), (5, 2), (6, 0), (7, 0), (8, 0), (9, 0), (10, 0), (11, 0), (12, 1), (13, 0), (14, 0), (15, 1), (16, 0), (17, 1), (18, 0), (19, 0), (20, 0), (21, 1), (22, 0), (23, 0), (24, 0)] mixed (by kernel_rfl) fun W18 l18 => ?_
   have a19 := a8.n l18
   have b20 := b9.up l18 rfl
   refine Mw.p rfl rfl (fun _ => R.fa rfl) (Mw.q rfl rfl (fun _ c => R.ld (v := v0_3_) rfl rfl (b20.clc rfl rfl c)) (Mw.p rfl rfl (fun _ => R.mv (v := vI y4) rfl) ?_))
   obtain ⟨u21, e22, hm⟩ := ob hm
   have s23 := h0_3.ul a19
   refine Mw.p rfl rfl (fun _ => R.ix (α := Str) s23 e22 rfl rfl rfl) (Mw.q rfl rfl (fun _ c => R.ld rfl rfl (cl_cell (s23.at_ e22).1 rfl (s23.at_ e22).str c)) ?_)
   obtain ⟨z24, e25, hm⟩ := ob hm
   refine Mw.t rfl rfl (T.call rfl (p20 (K := [0])   e25)) ?_
   rintro _ _ ⟨W26, rfl, l26, rfl⟩
   refine ⟨⟨_, rfl, (l26.sub (M := []) rfl)⟩, ?_⟩
   refine Mw.p rfl rfl (fun _ => R.not rfl) (Mw.p rfl rfl (fun _ => R.mv (v := vB (!z24)) rfl) (bsplit (!z24) (fun hc29 => ?_) (fun hc29 => ?_)))
   ·replace hm := bt hm hc29
    refine Mw.pass' hc29 rfl rfl rfl rfl rfl rfl (Mw.pass' hc29 rfl rfl rfl rfl rfl rfl (Mw.pass' hc29 rfl rfl rfl rfl rfl rfl (Mw.passU rfl rfl rfl rfl rfl (Mw.passU rfl rfl rfl rfl rfl (Mw.passU rfl rfl rfl rfl rfl (Mw.passU rfl rfl rfl rfl rfl (Mw.passU rfl rfl rfl rfl rfl (Mw.passU rfl rfl rfl rfl rfl (Mw.passU rfl rfl rfl rfl rfl (Mw.passU rfl rfl rfl rfl rfl (Mw.passU rfl rfl rfl rfl rfl (Mw.passU rfl rfl rfl rfl rfl (Mw.passU rfl rfl rfl rfl rfl (Mw.passU rfl rfl rfl rfl rfl (Mw.pass' hc29 rfl rfl rfl rfl rfl rfl (Mw.p rfl rfl (fun _ => R.pk hc29 rfl (v := vB true) rfl) (Mw.nil (⟨?_, ⟨true, W26, rfl, (l18.trans l26), rfl, hm⟩⟩))))))))))))))))))
    iterate 25 (refine Agree.up rfl ?_)
    exact Agree.refl _
   ·replace hm := bf hm hc29
    refine Mw.gp hc29 rfl rfl rfl rfl rfl (fun _ => R.mv (v := vI y4) rfl) (Mw.gp hc29 rfl rfl rfl rfl rfl (fun _ => R.gt rfl rfl) (Mw.gp hc29 rfl rfl rfl rfl rfl (fun _ => R.mv (v := vB (decide ((0 : Int) < (y4 : Int)))) rfl) (bsplit (decide ((0 : Int) < (y4 : Int))) (fun hc30 => ?_) (fun hc30 => ?_))))
    ·replace hm := bt hm hc30
     refine Mw.gp hc30 rfl rfl rfl rfl rfl (fun _ => R.fa rfl) (Mw.gq hc30 rfl rfl rfl rfl rfl (fun _ c => R.ld (v := v0_3_) rfl rfl (b20.clc rfl rfl c)) (Mw.gp hc30 rfl rfl rfl rfl rfl (fun _ => R.mv (v := vI y4) rfl) ?_))
     obtain ⟨u31, e32, hm⟩ := ob hm
     refine Mw.gp hc30 rfl rfl rfl rfl rfl (fun _ => R.ix (α := Str) s23 e32 rfl rfl rfl) (Mw.gq hc30 rfl rfl rfl rfl rfl (fun _ c => R.ld rfl rfl (cl_cell (s23.at_ e32).1 rfl (s23.at_ e32).str c)) (Mw.gp hc30 rfl rfl rfl rfl rfl (fun _ => R.fa rfl) (Mw.gq hc30 rfl rfl rfl rfl rfl (fun _ c => R.ld (v := v0_3_) rfl rfl (b20.clc rfl rfl c)) (Mw.gp hc30 rfl rfl rfl rfl rfl (fun _ => R.mv (v := vI y4) rfl) (Mw.gp hc30 rfl rfl rfl rfl rfl (fun _ => R.sub rfl rfl) ?_)))))
     obtain ⟨u33, e34, hm⟩ := ob hm
     refine Mw.gp hc30 rfl rfl rfl rfl rfl (fun _ => R.ix (α := Str) s23 e34 rfl rfl rfl) (Mw.gq hc30 rfl rfl rfl rfl rfl (fun _ c => R.ld rfl rfl (cl_cell (s23.at_ e34).1 rfl (s23.at_ e34).str c)) (Mw.gp hc30 rfl rfl rfl rfl rfl (fun _ => R.sle rfl rfl) (Mw.gp hc29 rfl rfl rfl rfl rfl (fun _ => R.pk hc30 rfl (v := vB (Op.bytesLess u31 u33 || u31 == u33)) rfl) (Mw.p rfl rfl (fun _ => R.pk hc29 rfl (v := vB (Op.bytesLess u31 u33 || u31 == u33)) rfl) (Mw.nil (⟨?_, ⟨(Op.bytesLess u31 u33 || u31 == u33), W26, rfl, (l18.trans l26), rfl, hm⟩⟩))))))
     iterate 25 (refine Agree.up rfl ?_)
     exact Agree.refl _
    ·replace hm := bf hm hc30
     refine Mw.pass' hc30 rfl rfl rfl rfl rfl rfl (Mw.pass' hc30 rfl rfl rfl rfl rfl rfl (Mw.pass' hc30 rfl rfl rfl rfl rfl rfl (Mw.pass' hc30 rfl rfl rfl rfl rfl rfl (Mw.pass' hc30 rfl rfl rfl rfl rfl rfl (Mw.pass' hc30 rfl rfl rfl rfl rfl rfl (Mw.pass' hc30 rfl rfl rfl rfl rfl rfl (Mw.pass' hc30 rfl rfl rfl rfl rfl rfl (Mw.pass' hc30 rfl rfl rfl rfl rfl rfl (Mw.pass' hc30 rfl rfl rfl rfl rfl rfl (Mw.pass' hc30 rfl rfl rfl rfl rfl rfl (Mw.pass' hc30 rfl rfl rfl rfl rfl rfl (Mw.gp hc29 rfl rfl rfl rfl rfl (fun _ => R.pk hc30 rfl (v := vB false) rfl) (Mw.p rfl rfl (fun _ => R.pk hc29 rfl (v := vB false) rfl) (Mw.nil (⟨?_, ⟨false, W26, rfl, (l18.trans l26), rfl, hm⟩⟩)))))))))))))))
     iterate 25 (refine Agree.up rfl ?_)
     exact Agree.refl _
 ·replace hm := bf hm hc11
  refine Cw.exit ?_
  rw [hK6] at hm
  obtain ⟨K37, hK37, hm⟩ := jn_e hm
  refine Cw.join 36 61 [2] (fun l w => ∃ (y35 : Bool) (W36 : CW), W36.w = w ∧ Le [] W5 W36 ∧ l = [vB y35] ∧ K37 y35 = some r) ?_ ?_
  ·rintro _ _ σ ⟨y35, W36, rfl, l36, rfl, hm⟩
   rw [hK37] at hm
   have a38 := a8.n l36
   cases hm
   exact Cw.ret (ret1 rfl (Res.mk a38 rfl))
  ·refine Cw.region (Lw.fa rfl (Lw.r rfl (R.ld (v := vS x0.Branch) rfl rfl (b9.cell rfl)) ?_))
   obtain ⟨z40, e41, hm⟩ := ob hm
   refine Lw.t rfl (T.call rfl (p20 (K := [0])   e41)) ?_
   rintro _ _ ⟨W42, rfl, l42, rfl⟩
   have a43 := a8.n l42
   refine Lw.m (vB z40) rfl (bsplit z40 (fun hc45 => ?_) (fun hc45 => ?_))
   ·replace hm := bt hm hc45
    refine Lw.want' hc45 rfl rfl rfl rfl (Lw.fa rfl (Lw.want' hc45 rfl rfl rfl rfl (Lw.r rfl (R.ld (v := vS x0.Into) rfl rfl ((b9.up l42 rfl).cell rfl)) (Lw.want' hc45 rfl rfl rfl rfl ?_))))
    obtain ⟨z46, e47, hm⟩ := ob hm
    refine Lw.t rfl (T.call rfl (p20 (K := [0])   e47)) ?_
    rintro _ _ ⟨W48, rfl, l48, rfl⟩
    have a49 := a43.n l48
    have b50 := (b9.up l42 rfl).up l48 rfl
    refine Lw.p hc45 (vB z46) rfl (Lw.m (vB z46) rfl (bsplit z46 (fun hc51 => ?_) (fun hc51 => ?_)))
    ·replace hm := bt hm hc51
     refine Lw.want' hc51 rfl rfl rfl rfl (Lw.fa rfl (Lw.want' hc51 rfl rfl rfl rfl (Lw.r rfl (R.ld (v := vS x0.By) rfl rfl (b50.cell rfl)) (Lw.want' hc51 rfl rfl rfl rfl ?_))))
     obtain ⟨z52, e53, hm⟩ := ob hm
     refine Lw.t rfl (T.call rfl (p20 (K := [0])   e53)) ?_
     rintro _ _ ⟨W54, rfl, l54, rfl⟩
     have a55 := a49.n l54
     have b56 := b50.up l54 rfl
     refine Lw.p hc51 (vB z52) rfl (Lw.m (vB z52) rfl (bsplit z52 (fun hc57 => ?_) (fun hc57 => ?_)))
     ·replace hm := bt hm hc57
      refine Lw.want' hc57 rfl rfl rfl rfl (Lw.fa rfl (Lw.want' hc57 rfl rfl rfl rfl (Lw.r rfl (R.ld (v := vS x0.Branch) rfl rfl (b56.cell rfl)) (Lw.want' hc57 rfl rfl rfl rfl (Lw.fa rfl (Lw.want' hc57 rfl rfl rfl rfl (Lw.r rfl (R.ld (v := vS x0.Into) rfl rfl (b56.cell rfl)) (Lw.want' hc57 rfl rfl rfl rfl (Lw.sne rfl (Lw.p hc57 (vB (x0.Branch != x0.Into)) rfl (Lw.m (vB (x0.Branch != x0.Into)) rfl (bsplit (x0.Branch != x0.Into) (fun hc58 => ?_) (fun hc58 => ?_)))))))))))))
      ·replace hm := bt hm hc58
       refine Lw.want' hc58 rfl rfl rfl rfl (Lw.fa rfl (Lw.want' hc58 rfl rfl rfl rfl (Lw.r rfl (R.ld (v := v0_3_) rfl rfl (b56.cell rfl)) (Lw.want' hc58 rfl rfl rfl rfl (Lw.ln x0.Yes (h0_3.ul a55) rfl (Lw.want' hc58 rfl rfl rfl rfl (Lw.le rfl (Lw.p hc58 (vB (decide (((x0.Yes.length : Int) : Int) ≤ (5 : Int)))) rfl (Lw.g (vB (decide (((x0.Yes.length : Int) : Int) ≤ (5 : Int)))) rfl (Lw.nil (⟨?_, ⟨decide (((x0.Yes.length : Int) : Int) ≤ (5 : Int)), W54, rfl, (l42.trans (l48.trans l54)), rfl, hm⟩⟩)))))))))))
       iterate 27 (refine Agree.up rfl ?_)
       exact Agree.refl _
      ·replace hm := bf hm hc58
       refine Lw.pass' hc58 rfl rfl rfl rfl rfl rfl rfl (Lw.pass' hc58 rfl rfl rfl rfl rfl rfl rfl (Lw.pass' hc58 rfl rfl rfl rfl rfl rfl rfl (Lw.pass' hc58 rfl rfl rfl rfl rfl rfl rfl (Lw.p hc58 (vB false) rfl (Lw.g (vB false) rfl (Lw.nil (⟨?_, ⟨false, W54, rfl, (l42.trans (l48.trans l54)), rfl, hm⟩⟩)))))))
       iterate 27 (refine Agree.up rfl ?_)
       exact Agree.refl _
     ·replace hm := bf hm hc57
      refine Lw.pass' hc57 rfl rfl rfl rfl rfl rfl rfl (Lw.pass' hc57 rfl rfl rfl rfl rfl rfl rfl (Lw.pass' hc57 rfl rfl rfl rfl rfl rfl rfl (Lw.pass' hc57 rfl rfl rfl rfl rfl rfl rfl (Lw.pass' hc57 rfl rfl rfl rfl rfl rfl rfl (Lw.p hc57 (vB false) rfl (Lw.m (vB false) rfl (Lw.pass' rfl rfl rfl rfl rfl rfl rfl rfl (Lw.pass' rfl rfl rfl rfl rfl rfl rfl rfl (Lw.pass' rfl rfl rfl rfl rfl rfl rfl rfl (Lw.pass' rfl rfl rfl rfl rfl rfl rfl rfl (Lw.p rfl (vB false) rfl (Lw.g (vB false) rfl (Lw.nil (⟨?_, ⟨false, W54, rfl, (l42.trans (l48.trans l54)), rfl, hm⟩⟩))))))))))))))
      iterate 27 (refine Agree.up rfl ?_)
      exact Agree.refl _
    ·replace hm := bf hm hc51
     refine Lw.pass' hc51 rfl rfl rfl rfl rfl rfl rfl (Lw.pass' hc51 rfl rfl rfl rfl rfl rfl rfl (Lw.pass' hc51 rfl rfl rfl rfl rfl rfl rfl (Lw.p hc51 (vB false) rfl (Lw.m (vB false) rfl (Lw.pass' rfl rfl rfl rfl rfl rfl rfl rfl (Lw.pass' rfl rfl rfl rfl rfl rfl rfl rfl (Lw.pass' rfl rfl rfl rfl rfl rfl rfl rfl (Lw.pass' rfl rfl rfl rfl rfl rfl rfl rfl (Lw.pass' rfl rfl rfl rfl rfl rfl rfl rfl (Lw.p rfl (vB false) rfl (Lw.m (vB false) rfl (Lw.pass' rfl rfl rfl rfl rfl rfl rfl rfl (Lw.pass' rfl rfl rfl rfl rfl rfl rfl rfl (Lw.pass' rfl rfl rfl rfl rfl rfl rfl rfl (Lw.pass' rfl rfl rfl rfl rfl rfl rfl rfl (Lw.p rfl (vB false) rfl (Lw.g (vB false) rfl (Lw.nil (⟨?_, ⟨false, W48, rfl, (l42.trans l48), rfl, hm⟩⟩)))))))))))))))))))
     iterate 27 (refine Agree.up rfl ?_)
     exact Agree.refl _
   ·replace hm := bf hm hc45
    refine Lw.pass' hc45 rfl rfl rfl rfl rfl rfl rfl (Lw.pass' hc45 rfl rfl rfl rfl rfl rfl rfl (Lw.pass' hc45 rfl rfl rfl rfl rfl rfl rfl (Lw.p hc45 (vB false) rfl (Lw.m (vB false) rfl (Lw.pass' rfl rfl rfl rfl rfl rfl rfl rfl (Lw.pass' rfl rfl rfl rfl rfl rfl rfl rfl (Lw.pass' rfl rfl rfl rfl rfl rfl rfl rfl (Lw.p rfl (vB false) rfl (Lw.m (vB false) rfl (Lw.pass' rfl rfl rfl rfl rfl rfl rfl rfl (Lw.pass' rfl rfl rfl rfl rfl rfl rfl rfl (Lw.pass' rfl rfl rfl rfl rfl rfl rfl rfl (Lw.pass' rfl rfl rfl rfl rfl rfl rfl rfl (Lw.pass' rfl rfl rfl rfl rfl rfl rfl rfl (Lw.p rfl (vB false) rfl (Lw.m (vB false) rfl (Lw.pass' rfl rfl rfl rfl rfl rfl rfl rfl (Lw.pass' rfl rfl rfl rfl rfl rfl rfl rfl (Lw.pass' rfl rfl rfl rfl rfl rfl rfl rfl (Lw.pass' rfl rfl rfl rfl rfl rfl rfl rfl (Lw.p rfl (vB false) rfl (Lw.g (vB false) rfl (Lw.nil (⟨?_, ⟨false, W42, rfl, l42, rfl, hm⟩⟩))))))))))))))))))))))))
    iterate 27 (refine Agree.up rfl ?_)
    exact Agree.refl _

theorem p12 {W : CW} {K : List Nat} {x0 : Vm.Review} {v0_3_ : Value} {r : Bool} (h0 : Rd W K [vS x0.Branch, vS x0.Into, vS x0.By, v0_3_] x0) (hm : Vm.spec_l17Ok x0 = some r) : CallR Try.prog 12 [.agg [vS x0.Branch, vS x0.Into, vS x0.By, v0_3_].toArray].toArray W.w (Res W [] fun W' v => v = vB r) :=
 (c12 (V := W.view K []) (h0.view _) hm).ad (fk 0) fun _ _ e => e

theorem c13 {V : CW} {x0 : List Str} {v0_ : Value} {x1 : Str} {r : (List Str)} (h0 : Rd V [0] [v0_] x0) (hm : Vm.spec_l5Put x0 x1 = some r) : CallR Try.prog 13 [v0_, vS x1].toArray V.w (Res V LL fun Wf v => ∃ (u0 : Value), v = u0 ∧ Rd Wf [0] [u0] r) := by
 unfold Vm.spec_l5Put at hm
 obtain ⟨W0, hW0⟩ : ∃ W, W = V := ⟨V, rfl⟩
 subst hW0
 refine CallR.of Try.func13 rfl rfl rfl rfl (Cw.seq (Cw.region (Lw.g (.slice none 0 0) rfl (Lw.nil (Cw.seq (Cw.region (Lw.g (vI 0) rfl (Lw.nil (Cw.seq (Cw.block ?_))))))))))
 obtain ⟨K3, hK3, hm⟩ := jn_e hm
 refine Cw.loop 7 20 [5] (fun m l w => ∃ (y1 : Int) (W2 : CW), W2.w = w ∧ Le [] W0 W2 ∧ l = [vI y1] ∧ Vm.spec_l5Put_l1 x0 x1 K3 m y1 = some r) (x0.length + 1) ⟨0, W0, rfl, Le.refl _ _, rfl, hm⟩ ?_
 rintro m4 _ _ σ ⟨y1, W2, rfl, l2, rfl, hm⟩
 obtain _ | m4 := m4
 ·cases hm
 unfold Vm.spec_l5Put_l1 at hm
 have a5 := l2.o
 refine Cw.seq ?_
 obtain ⟨K8, hK8, hm⟩ := jn_e hm
 refine Cw.join 7 18 [18] (fun l w => ∃ (y6 : Bool) (W7 : CW), W7.w = w ∧ Le [] W2 W7 ∧ l = [vB y6] ∧ K8 y6 = some r) ?_ ?_
 ·rintro _ _ σ ⟨y6, W7, rfl, l7, rfl, hm⟩
  rw [hK8] at hm
  have a9 := a5.n l7
  refine Cw.cond (b := y6) rfl (fun hc10 => ?_) (fun hc10 => ?_)
  ·replace hm := bt hm hc10
   refine Cw.skip (Cw.block (Cw.region (Lw.m (vI y1) rfl (Lw.add rfl (Lw.g (vI (w64 (y1 + 1))) rfl (Lw.nil (⟨?_, m4, Nat.lt_succ_self m4, ⟨w64 (y1 + 1), W7, rfl, (l2.trans l7), rfl, hm⟩⟩)))))))
   iterate 3 (refine Agree.up rfl ?_)
   iterate 1 (refine Agree.up rfl ?_)
   refine Agree.ov0 rfl ?_
   iterate 1 (refine Agree.up rfl ?_)
   exact Agree.base
  ·replace hm := bf hm hc10
   refine Cw.exit ?_
   rw [hK3] at hm
   refine Cw.seq ?_
   obtain ⟨K13, hK13, hm⟩ := jn_e hm
   refine Cw.join 21 32 [32] (fun l w => ∃ (y11 : Bool) (W12 : CW), W12.w = w ∧ Le [] W7 W12 ∧ l = [vB y11] ∧ K13 y11 = some r) ?_ ?_
   ·rintro _ _ σ ⟨y11, W12, rfl, l12, rfl, hm⟩
    rw [hK13] at hm
    have a14 := a9.n l12
    refine Cw.cond (b := y11) rfl (fun hc15 => ?_) (fun hc15 => ?_)
    ·replace hm := bt hm hc15
     refine Cw.seq (Cw.region (Lw.m v0_ rfl (Lw.g v0_ rfl (Lw.nil ?_))))
     cases hm
     exact Cw.ret (ret1 rfl (Res.mk a14 ⟨v0_, rfl, (h0.ul a14)⟩))
    ·replace hm := bf hm hc15
     refine Cw.skip (Cw.seq (Cw.region (Lw.t rfl (T.lit0 (α := Str) 2 []) ?_)))
     rintro v17 _ ⟨W17, rfl, l17, o17⟩
     have a18 := a14.n l17
     refine Lw.m v0_ rfl (Lw.m (vI y1) rfl ?_)
     obtain ⟨q19, e20, hm⟩ := ob hm
     have r23 := (h0.ul a18).cutV e20
     refine Lw.r rfl (R.sl (h0.ul a18) e20 rfl (.inl ⟨rfl, rfl⟩) (.inr rfl)) ?_
     obtain ⟨q24, e25, hm⟩ := ob hm
     refine Lw.t rfl (T.appP (α := Str) o17 r23 rfl rfl e25) ?_
     rintro v26 _ ⟨W26, rfl, l26, o26⟩
     have a27 := a18.t l26 rfl
     refine Lw.g v26 rfl (Lw.nil (Cw.seq (Cw.region (Lw.m v26 rfl (Lw.m (vS x1) rfl (Lw.t rfl (T.bs 3 [vS x1] (cs := [vS x1]) rfl rfl (bsv rfl)) ?_))))))
     rintro _ _ ⟨g28, W28, rfl, rfl, l28, b28⟩
     have a29 := a27.n l28
     obtain ⟨q31, e32, hm⟩ := ob hm
     refine Lw.t rfl (T.app1S (α := Str) (K' := []) (o26.up l28 rfl) b28 (rdS _) rfl rfl e32) ?_
     rintro v33 _ ⟨W33, rfl, l33, o33⟩
     have a34 := a29.t l33 rfl
     refine Lw.g v33 rfl (Lw.nil (Cw.seq (Cw.region (Lw.m v33 rfl (Lw.m v0_ rfl (Lw.m (vI y1) rfl ?_))))))
     obtain ⟨q36, e37, hm⟩ := ob hm
     have r40 := (h0.ul a34).cutV e37
     refine Lw.r rfl (R.sl (h0.ul a34) e37 rfl (.inr rfl) (.inl ⟨rfl, rfl⟩)) ?_
     obtain ⟨q41, e42, hm⟩ := ob hm
     refine Lw.t rfl (T.appP (α := Str) o33 r40 rfl rfl e42) ?_
     rintro v43 _ ⟨W43, rfl, l43, o43⟩
     have a44 := a34.t l43 rfl
     refine Lw.g v43 rfl (Lw.nil ?_)
     obtain ⟨W46, ew46, l46, dj46⟩ := dyeE _ 2
     have s47 : Rd (α := List Str) W46 [0] [v43] q41 := by rw [dj46]; exact (o43.rd.dye 2).sub (M := [0]) rfl
     have a48 := a44.t l46 rfl
     cases hm
     rw [← ew46]
     exact Cw.ret (ret1 rfl (Res.mk a48 ⟨v43, rfl, s47⟩))
   ·refine Cw.region (Lw.m (vI y1) rfl (Lw.m v0_ rfl (Lw.ln x0 (h0.ul a9) rfl (Lw.lt rfl (Lw.m (vB (decide ((y1 : Int) < ((x0.length : Int) : Int)))) rfl (bsplit (decide ((y1 : Int) < ((x0.length : Int) : Int))) (fun hc51 => ?_) (fun hc51 => ?_)))))))
    ·replace hm := bt hm hc51
     refine Lw.want' hc51 rfl rfl rfl rfl (Lw.m v0_ rfl (Lw.want' hc51 rfl rfl rfl rfl (Lw.m (vI y1) rfl (Lw.want' hc51 rfl rfl rfl rfl ?_))))
     obtain ⟨u52, e53, hm⟩ := ob hm
     refine Lw.r rfl (R.ix (α := Str) (h0.ul a9) e53 rfl rfl rfl) (Lw.want' hc51 rfl rfl rfl rfl (Lw.r rfl (R.ld rfl rfl ((h0.ul a9).at_ e53).str) (Lw.want' hc51 rfl rfl rfl rfl (Lw.m (vS x1) rfl (Lw.want' hc51 rfl rfl rfl rfl (Lw.seq rfl (Lw.p hc51 (vB (u52 == x1)) rfl (Lw.nil (⟨?_, ⟨(u52 == x1), W7, rfl, Le.refl _ _, rfl, hm⟩⟩)))))))))
     iterate 12 (refine Agree.up rfl ?_)
     exact Agree.refl _
    ·replace hm := bf hm hc51
     refine Lw.pass' hc51 rfl rfl rfl rfl rfl rfl rfl (Lw.pass' hc51 rfl rfl rfl rfl rfl rfl rfl (Lw.pass' hc51 rfl rfl rfl rfl rfl rfl rfl (Lw.pass' hc51 rfl rfl rfl rfl rfl rfl rfl (Lw.pass' hc51 rfl rfl rfl rfl rfl rfl rfl (Lw.pass' hc51 rfl rfl rfl rfl rfl rfl rfl (Lw.p hc51 (vB false) rfl (Lw.nil (⟨?_, ⟨false, W7, rfl, Le.refl _ _, rfl, hm⟩⟩))))))))
     iterate 12 (refine Agree.up rfl ?_)
     exact Agree.refl _
 ·refine Cw.region (Lw.m (vI y1) rfl (Lw.m v0_ rfl (Lw.ln x0 (h0.ul a5) rfl (Lw.lt rfl (Lw.m (vB (decide ((y1 : Int) < ((x0.length : Int) : Int)))) rfl (bsplit (decide ((y1 : Int) < ((x0.length : Int) : Int))) (fun hc55 => ?_) (fun hc55 => ?_)))))))
  ·replace hm := bt hm hc55
   refine Lw.want' hc55 rfl rfl rfl rfl (Lw.m v0_ rfl (Lw.want' hc55 rfl rfl rfl rfl (Lw.m (vI y1) rfl (Lw.want' hc55 rfl rfl rfl rfl ?_))))
   obtain ⟨u56, e57, hm⟩ := ob hm
   refine Lw.r rfl (R.ix (α := Str) (h0.ul a5) e57 rfl rfl rfl) (Lw.want' hc55 rfl rfl rfl rfl (Lw.r rfl (R.ld rfl rfl ((h0.ul a5).at_ e57).str) (Lw.want' hc55 rfl rfl rfl rfl (Lw.m (vS x1) rfl (Lw.want' hc55 rfl rfl rfl rfl (Lw.r rfl (R.slt rfl rfl) (Lw.p hc55 (vB (Op.bytesLess u56 x1)) rfl (Lw.nil (⟨?_, ⟨Op.bytesLess u56 x1, W2, rfl, Le.refl _ _, rfl, hm⟩⟩)))))))))
   iterate 12 (refine Agree.up rfl ?_)
   exact Agree.refl _
  ·replace hm := bf hm hc55
   refine Lw.pass' hc55 rfl rfl rfl rfl rfl rfl rfl (Lw.pass' hc55 rfl rfl rfl rfl rfl rfl rfl (Lw.pass' hc55 rfl rfl rfl rfl rfl rfl rfl (Lw.pass' hc55 rfl rfl rfl rfl rfl rfl rfl (Lw.pass' hc55 rfl rfl rfl rfl rfl rfl rfl (Lw.pass' hc55 rfl rfl rfl rfl rfl rfl rfl (Lw.p hc55 (vB false) rfl (Lw.nil (⟨?_, ⟨false, W2, rfl, Le.refl _ _, rfl, hm⟩⟩))))))))
   iterate 12 (refine Agree.up rfl ?_)
   exact Agree.refl _

theorem p13 {W : CW} {K : List Nat} {x0 : List Str} {v0_ : Value} {x1 : Str} {r : (List Str)} (h0 : Rd W K [v0_] x0) (hm : Vm.spec_l5Put x0 x1 = some r) : CallR Try.prog 13 [v0_, vS x1].toArray W.w (Res W [] fun W' v => ∃ (u0 : Value), v = u0 ∧ Rd W' (0 :: K) [u0] r) :=
 (c13 (V := W.view K []) (h0.view _) hm).ad (fk 0) fun _ _ ⟨u0, e, f0⟩ => ⟨u0, e, f0.back rfl⟩

end Go.Sx
