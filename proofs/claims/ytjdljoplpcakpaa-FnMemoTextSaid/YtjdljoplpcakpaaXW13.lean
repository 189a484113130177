/- Walks: each function answers as its model, printed by a program of ours. Conditions: the arguments read as they are given. -/
import Derived.Test.YtjdljoplpcakpaaXTs
import Derived.Test.YtjdljoplpcakpaaXMd
import Derived.Test.YtjdljoplpcakpaaXW1
import Derived.Test.YtjdljoplpcakpaaXW10
import Derived.Test.YtjdljoplpcakpaaXW11
import Derived.Test.YtjdljoplpcakpaaXW12
import Derived.Test.YtjdljoplpcakpaaXW3
import Derived.Test.YtjdljoplpcakpaaXW8
namespace Go.Sx
open Go Go.Proofs Go.Vm Rp
set_option linter.unusedVariables false
set_option linter.unusedSimpArgs false

theorem c81 {V : CW} {x0 : Vm.Part} {v0_1_ : Value} {v0_2_ : Value} {v0_3_ : Value} {v0_4_ : Value} {r : (List Str) × Bool} (h0 : Rd V [0] [vB x0.Clash, v0_1_, v0_2_, v0_3_, v0_4_] x0) (hm : Vm.impl_MergeText_c1 x0 = some r) : CallR Try.prog 81 [.agg [vB x0.Clash, v0_1_, v0_2_, v0_3_, v0_4_].toArray].toArray V.w (Res V LL fun Wf v => ∃ (u0 : Value), v = .tuple [u0, vB r.2].toArray ∧ OwS Wf LL [] [u0] r.1) := by
 unfold Vm.impl_MergeText_c1 at hm
 obtain ⟨w0_0, w0_1, w0_2, w0_3, he0, h0_1, h0_2, h0_3, h0_4⟩ := Part.split h0
 simp only [List.cons.injEq, and_true, true_and] at he0
 obtain ⟨rfl, rfl, rfl, rfl⟩ := he0
 obtain ⟨W0, hW0⟩ : ∃ W, W = V := ⟨V, rfl⟩
 subst hW0
 refine CallR.of Try.func81 rfl rfl rfl rfl (Cw.seq (Cw.region (Lw.t rfl (T.box 2 (v := .agg [vB x0.Clash, v0_1_, v0_2_, v0_3_, v0_4_].toArray) (cs := [vB x0.Clash, v0_1_, v0_2_, v0_3_, v0_4_]) rfl rfl) ?_)))
 rintro _ _ ⟨g1, W1, rfl, rfl, l1, b1⟩
 have a2 := l1.o
 refine Lw.g (.slice none 0 0) rfl (Lw.g (vB false) rfl (Lw.nil (Cw.seq (Cw.region (Lw.g (.slice none 0 0) rfl (Lw.g (vB false) rfl (Lw.nil ?_)))))))
 cases hm
 exact Cw.ret (ret2 rfl rfl (Res.mk a2 ⟨.slice none 0 0, rfl, (owsN []).sub rfl rfl⟩))

theorem p81 {W : CW} {K : List Nat} {x0 : Vm.Part} {v0_1_ : Value} {v0_2_ : Value} {v0_3_ : Value} {v0_4_ : Value} {k0 : Nat} {r : (List Str) × Bool} (h0 : Rd W K [vB x0.Clash, v0_1_, v0_2_, v0_3_, v0_4_] x0) (hm : Vm.impl_MergeText_c1 x0 = some r) : CallR Try.prog 81 [.agg [vB x0.Clash, v0_1_, v0_2_, v0_3_, v0_4_].toArray].toArray W.w (Res W [] fun W' v => ∃ (u0 : Value), v = .tuple [u0, vB r.2].toArray ∧ Ow W' k0 [] [u0] r.1) :=
 (c81 (V := W.view K []) (h0.view _) hm).ad (fk k0) fun _ _ ⟨u0, e, f0⟩ => ⟨u0, e, f0.back (fk_LL _)⟩

theorem c72_81 {V : CW} {x0 : List Str} {v0_ : Value} {x1 : List Str} {v1_ : Value} {x2 : List Str} {v2_ : Value} {r : (List Str) × Bool} (h0 : Rd V [0] [v0_] x0) (h1 : Rd V [0] [v1_] x1) (h2 : Rd V [0] [v2_] x2) (hm : Vm.impl_merged_at81 x0 x1 x2 = some r) : CallR Try.prog 72 [v0_, v1_, v2_, .func (.func 81) #[] [].toArray].toArray V.w (Res V LL fun Wf v => ∃ (u0 : Value), v = .tuple [u0, vB r.2].toArray ∧ OwS Wf LL [] [u0] r.1) := by
 unfold Vm.impl_merged_at81 at hm
 obtain ⟨W0, hW0⟩ : ∃ W, W = V := ⟨V, rfl⟩
 subst hW0
 refine CallR.of Try.func72 rfl rfl rfl rfl (Cw.seq (Cw.region (Lw.g (.slice none 0 0) rfl (Lw.g (vB false) rfl (Lw.nil (Cw.seq (Cw.seq (Cw.region (Lw.m v0_ rfl (Lw.m v1_ rfl (Lw.m v2_ rfl ?_)))))))))))
 obtain ⟨z1, e2, hm⟩ := ob hm
 refine Lw.t rfl (T.call rfl (p54 (K := [0])  h0 h1 h2 e2)) ?_
 rintro _ _ ⟨W3, rfl, l3, rfl⟩
 have a4 := l3.o
 refine Lw.r rfl (R.not rfl) (Lw.nil (Cw.cond (b := (!z1)) rfl (fun hc5 => ?_) (fun hc5 => ?_)))
 ·replace hm := bt hm hc5
  refine Cw.seq (Cw.region (Lw.g (.slice none 0 0) rfl (Lw.g (vB false) rfl (Lw.nil ?_))))
  cases hm
  exact Cw.ret (ret2 rfl rfl (Res.mk a4 ⟨.slice none 0 0, rfl, (owsN []).sub rfl rfl⟩))
 ·replace hm := bf hm hc5
  refine Cw.skip (Cw.seq (Cw.region (Lw.g (.slice none 0 0) rfl (Lw.nil (Cw.seq (Cw.seq (Cw.region (Lw.m v0_ rfl (Lw.m v1_ rfl (Lw.m v2_ rfl ?_))))))))))
  obtain ⟨z9, e10, hm⟩ := ob hm
  refine Lw.t rfl (T.call rfl (p69 (K := [0]) (k0 := 2) (h0.ul a4) (h1.ul a4) (h2.ul a4) e10)) ?_
  rintro v0_11 _ ⟨W11, rfl, l11, ⟨_, rfl, f11_0⟩⟩
  have a12 := a4.n l11
  refine Lw.ln z9 f11_0.rd rfl (Lw.m (vI 0) rfl (Lw.nil (Cw.block ?_)))
  obtain ⟨W13, ew13, l13, dj13⟩ := dyeE _ 2
  rw [← ew13]
  have s14 : Rd (α := List Vm.Part) W13 [0] [v0_11] z9 := by rw [dj13]; exact (f11_0.rd.dye 2).sub (M := [0]) rfl
  have a15 := a12.t l13 rfl
  obtain ⟨K29, hK29, hm⟩ := jn_e hm
  refine Cw.loop 26 46 [8, 9, 10, 12, 13, 14, 15, 26] (fun m l w => ∃ (y16 : List Str) (y19 : Bool) (y20 : List Str) (y27 : Int) (v17 v21 j23 j24 j25 j26 : Value) (W28 : CW), W28.w = w ∧ Le [6, 7, 8] W13 W28 ∧ l = [v17, vB y19, v21, j23, j24, j25, j26, vI y27] ∧ Ow W28 5 [] [v17] y16 ∧ Ow W28 6 [] [v21] y20 ∧ Vm.impl_merged_at81_l1 z9 K29 m y16 y19 y20 y27 = some r) (((z9.length : Int) - 0).toNat + 1) ⟨([] : List Str), false, ([] : List Str), 0, .slice none 0 0, .slice none 0 0, undef, undef, undef, undef, W13, rfl, Le.refl _ _, rfl, owN 5 [], owN 6 [], hm⟩ ?_
  rintro m30 _ _ σ ⟨y16, y19, y20, y27, v17, v21, j23, j24, j25, j26, W28, rfl, l28, rfl, o18, o22, hm⟩
  obtain _ | m30 := m30
  ·cases hm
  unfold Vm.impl_merged_at81_l1 at hm
  have a31 := l28.s rfl
  refine Cw.seq (Cw.region (Lw.lt rfl (Lw.nil (Cw.seq (Cw.cond (b := decide ((y27 : Int) < ((z9.length : Int) : Int))) rfl (fun hc32 => ?_) (fun hc32 => ?_))))))
  ·replace hm := bt hm hc32
   refine Cw.skip (Cw.seq (Cw.block (Cw.seq (Cw.region ?_))))
   obtain ⟨u33, e34, hm⟩ := ob hm
   refine Lw.r rfl (R.ix (α := Part) (s14.ul a31) e34 rfl rfl rfl) ?_
   obtain ⟨x36, c37, _, r38⟩ := ((s14.ul a31).at_ e34).cells
   obtain ⟨v39, v41, v43, v45, rfl, r40, r42, r44, r46⟩ := Part.split r38
   refine Lw.r rfl (R.lda c37 rfl rfl) (Lw.t rfl (T.alloc 7 (cs := [vB false, .slice none 0 0, .slice none 0 0, .slice none 0 0, .slice none 0 0]) rfl) ?_)
   rintro _ _ ⟨g47, W47, rfl, rfl, l47, b47⟩
   have a48 := l47.o
   refine Lw.u (T.sta (vs := [vB u33.Clash, v39, v41, v43, v45]) b47 rfl rfl (oc_cons rfl (oc_cons r40.oc (oc_cons r42.oc (oc_cons r44.oc (oc_cons r46.oc oc_nil))))) rfl rfl) ?_
   rintro _ _ ⟨W51, rfl, l51, b51⟩
   have a52 := l51.s rfl
   have o53 := (o18.up l47 rfl).up l51 rfl
   refine Lw.nil (Cw.seq (Cw.region (Lw.fa rfl (Lw.r rfl (R.ld (v := v39) rfl rfl (b51.cell rfl)) (Lw.g v39 rfl (Lw.nil ?_))))))
   obtain ⟨K65, hK65, hm⟩ := jn_e hm
   refine Cw.join 32 42 [8, 9, 13, 14, 15] (fun l w => ∃ (y55 : List Str) (y58 : Bool) (y59 : List Str) (v56 v60 j62 j63 : Value) (W64 : CW), W64.w = w ∧ Le [8] W51 W64 ∧ l = [v56, vB y58, v60, j62, j63] ∧ Ow W64 5 [] [v56] y55 ∧ Rd W64 [0] [v60] y59 ∧ K65 y55 y58 y59 = some r) ?_ ?_
   ·rintro _ _ σ ⟨y55, y58, y59, v56, v60, j62, j63, W64, rfl, l64, rfl, o57, r61, hm⟩
    rw [hK65] at hm
    refine Cw.region (Lw.m v21 rfl (Lw.m v60 rfl ?_))
    obtain ⟨q69, e70, hm⟩ := ob hm
    refine Lw.t rfl (T.appP (α := Str) (((o22.up l47 rfl).up l51 rfl).up l64 rfl) r61 rfl rfl e70) ?_
    rintro v71 _ ⟨W71, rfl, l71, o71⟩
    refine Lw.g v71 rfl (Lw.nil (Cw.region (Lw.add rfl (Lw.m (vI (w64 (y27 + 1))) rfl (Lw.nil (⟨?_, m30, Nat.lt_succ_self m30, ⟨y55, y58, q69, w64 (y27 + 1), v56, v71, ptr (bx g47), v60, j62, j63, W71, rfl, (l28.trans ((l47.sub rfl).trans ((l51.sub rfl).trans ((l64.sub rfl).trans (l71.sub rfl))))), rfl, (o57.up l71 rfl), o71, hm⟩⟩))))))
    iterate 6 (refine Agree.up rfl ?_)
    iterate 5 (refine Agree.up rfl ?_)
    refine Agree.ov0 rfl ?_
    iterate 7 (refine Agree.up rfl ?_)
    iterate 8 (refine Agree.up rfl ?_)
    exact Agree.base
   ·refine Cw.seq (Cw.region (Lw.fa rfl (Lw.r rfl (R.ld (v := vB u33.Clash) rfl rfl (b51.cell rfl)) (Lw.nil (Cw.cond (b := u33.Clash) rfl (fun hc75 => ?_) (fun hc75 => ?_))))))
    ·replace hm := bt hm hc75
     refine Cw.seq (Cw.region (Lw.m (.func (.func 81) #[] [].toArray) rfl (Lw.r rfl (R.lda (cs := [vB u33.Clash, v39, v41, v43, v45]) b51.cells rfl rfl) ?_)))
     obtain ⟨z80, e81, hm⟩ := ob hm
     refine Lw.t rfl (T.callV (vals := [.agg [vB u33.Clash, v39, v41, v43, v45].toArray]) (caps := []) rfl rfl (p81 (K := [0]) (k0 := 8) (Part.rd (K := [0]) u33.Clash u33.Lines u33.Old u33.One u33.Two (r40.ul (a48.trans a52)) (r42.ul (a48.trans a52)) (r44.ul (a48.trans a52)) (r46.ul (a48.trans a52))) e81)) ?_
     rintro _ _ ⟨W82, rfl, l82, ⟨v0_82, rfl, f82_0⟩⟩
     have a83 := (((a15.trans a31).trans a48).trans a52).n l82
     refine Lw.m (.tuple [v0_82, vB z80.2].toArray) rfl (Lw.r rfl (R.ext (vs := [v0_82, vB z80.2]) (v := v0_82) rfl rfl) (Lw.r rfl (R.ext (vs := [v0_82, vB z80.2]) (v := vB z80.2) rfl rfl) (Lw.g v0_82 rfl (Lw.g (vB z80.2) rfl (Lw.nil (Cw.seq (Cw.seq (Cw.region (Lw.m (vB z80.2) rfl (Lw.r rfl (R.not rfl) (Lw.nil (Cw.cond (b := (!z80.2)) rfl (fun hc87 => ?_) (fun hc87 => ?_)))))))))))))
     ·replace hm := bt hm hc87
      refine Cw.seq (Cw.region (Lw.g (.slice none 0 0) rfl (Lw.g (vB false) rfl (Lw.nil ?_))))
      cases hm
      exact Cw.ret (ret2 rfl rfl (Res.mk a83 ⟨.slice none 0 0, rfl, (owsN []).sub rfl rfl⟩))
     ·replace hm := bf hm hc87
      refine Cw.skip (Cw.region (Lw.m v0_82 rfl (Lw.g v0_82 rfl (Lw.nil ?_))))
      obtain ⟨W88, ew88, l88, dj88⟩ := dyeE _ 8
      have s89 : Rd (α := List Str) W88 [0] [v0_82] z80.1 := by rw [dj88]; exact (f82_0.rd.dye 8).sub (M := [0]) rfl
      refine ⟨?_, ⟨y16, y19, z80.1, v17, v0_82, v0_82, vB z80.2, W88, ew88, ((l82.sub rfl).trans l88), rfl, ((o53.up l82 rfl).up l88 rfl), s89, hm⟩⟩
      iterate 14 (refine Agree.up rfl ?_)
      exact Agree.refl _
    ·replace hm := bf hm hc75
     refine Cw.skip (⟨?_, ⟨y16, y19, u33.Lines, v17, v39, j25, j26, W51, rfl, Le.refl _ _, rfl, o53, (r40.ul (a48.trans a52)), hm⟩⟩)
     iterate 2 (refine Agree.up rfl ?_)
     exact Agree.refl _
  ·replace hm := bf hm hc32
   refine Cw.exit ?_
   rw [hK29] at hm
   refine Cw.seq (Cw.seq (Cw.region (Lw.m v21 rfl ?_)))
   obtain ⟨z95, e96, hm⟩ := ob hm
   refine Lw.t rfl (T.call rfl (p55 (K := [6])  o22.rd e96)) ?_
   rintro _ _ ⟨W97, rfl, l97, rfl⟩
   have a98 := (a15.trans a31).n l97
   refine Lw.r rfl (R.not rfl) (Lw.nil (Cw.cond (b := (!z95)) rfl (fun hc101 => ?_) (fun hc101 => ?_)))
   ·replace hm := bt hm hc101
    refine Cw.seq (Cw.region (Lw.g (.slice none 0 0) rfl (Lw.g (vB false) rfl (Lw.nil ?_))))
    cases hm
    exact Cw.ret (ret2 rfl rfl (Res.mk a98 ⟨.slice none 0 0, rfl, (owsN []).sub rfl rfl⟩))
   ·replace hm := bf hm hc101
    refine Cw.skip (Cw.seq (Cw.region (Lw.m v21 rfl (Lw.g v21 rfl (Lw.g (vB true) rfl (Lw.nil ?_))))))
    cases hm
    exact Cw.ret (ret2 rfl rfl (Res.mk a98 ⟨v21, rfl, (o22.up l97 rfl).s.sub rfl rfl⟩))

theorem p72_81 {W : CW} {K : List Nat} {x0 : List Str} {v0_ : Value} {x1 : List Str} {v1_ : Value} {x2 : List Str} {v2_ : Value} {k0 : Nat} {r : (List Str) × Bool} (h0 : Rd W K [v0_] x0) (h1 : Rd W K [v1_] x1) (h2 : Rd W K [v2_] x2) (hm : Vm.impl_merged_at81 x0 x1 x2 = some r) : CallR Try.prog 72 [v0_, v1_, v2_, .func (.func 81) #[] [].toArray].toArray W.w (Res W [] fun W' v => ∃ (u0 : Value), v = .tuple [u0, vB r.2].toArray ∧ Ow W' k0 [] [u0] r.1) :=
 (c72_81 (V := W.view K []) (h0.view _) (h1.view _) (h2.view _) hm).ad (fk k0) fun _ _ ⟨u0, e, f0⟩ => ⟨u0, e, f0.back (fk_LL _)⟩

theorem c45 {V : CW} {x0 : List Str} {v0_ : Value} {x1 : List Str} {v1_ : Value} {x2 : List Str} {v2_ : Value} {r : (List Str) × Bool} (h0 : Rd V [0] [v0_] x0) (h1 : Rd V [0] [v1_] x1) (h2 : Rd V [0] [v2_] x2) (hm : Vm.impl_MergeText x0 x1 x2 = some r) : CallR Try.prog 45 [v0_, v1_, v2_].toArray V.w (Res V LL fun Wf v => ∃ (u0 : Value), v = .tuple [u0, vB r.2].toArray ∧ OwS Wf LL [] [u0] r.1) := by
 unfold Vm.impl_MergeText at hm
 obtain ⟨W0, hW0⟩ : ∃ W, W = V := ⟨V, rfl⟩
 subst hW0
 refine CallR.of Try.func45 rfl rfl rfl rfl (Cw.seq (Cw.region (Lw.g (.slice none 0 0) rfl (Lw.g (vB false) rfl (Lw.nil (Cw.seq (Cw.region (Lw.m v0_ rfl (Lw.m v1_ rfl (Lw.m v2_ rfl ?_))))))))))
 obtain ⟨z1, e2, hm⟩ := ob hm
 refine Lw.t rfl (T.call rfl (p72_81 (K := [0]) (k0 := 2) h0 h1 h2 e2)) ?_
 rintro _ _ ⟨W3, rfl, l3, ⟨v0_3, rfl, f3_0⟩⟩
 have a4 := l3.o
 refine Lw.r rfl (R.ext (vs := [v0_3, vB z1.2]) (v := v0_3) rfl rfl) (Lw.r rfl (R.ext (vs := [v0_3, vB z1.2]) (v := vB z1.2) rfl rfl) (Lw.g v0_3 rfl (Lw.g (vB z1.2) rfl (Lw.nil ?_))))
 cases hm
 exact Cw.ret (ret2 rfl rfl (Res.mk a4 ⟨v0_3, rfl, f3_0.s.sub rfl rfl⟩))

theorem p45 {W : CW} {K : List Nat} {x0 : List Str} {v0_ : Value} {x1 : List Str} {v1_ : Value} {x2 : List Str} {v2_ : Value} {k0 : Nat} {r : (List Str) × Bool} (h0 : Rd W K [v0_] x0) (h1 : Rd W K [v1_] x1) (h2 : Rd W K [v2_] x2) (hm : Vm.impl_MergeText x0 x1 x2 = some r) : CallR Try.prog 45 [v0_, v1_, v2_].toArray W.w (Res W [] fun W' v => ∃ (u0 : Value), v = .tuple [u0, vB r.2].toArray ∧ Ow W' k0 [] [u0] r.1) :=
 (c45 (V := W.view K []) (h0.view _) (h1.view _) (h2.view _) hm).ad (fk k0) fun _ _ ⟨u0, e, f0⟩ => ⟨u0, e, f0.back (fk_LL _)⟩

theorem c10 {V : CW} {x0 : List Byte} {v0_ : Value} {r : Bool} (h0 : Rd V [0] [v0_] x0) (hm : Vm.laws_FnMemoText x0 = some r) : CallR Try.prog 10 [v0_].toArray V.w (Res V LL fun Wf v => v = vB r) := by
 unfold Vm.laws_FnMemoText at hm
 obtain ⟨W0, hW0⟩ : ∃ W, W = V := ⟨V, rfl⟩
 subst hW0
 refine CallR.of Try.func10 rfl rfl rfl rfl (Cw.seq (Cw.region (Lw.g (vB false) rfl (Lw.nil (Cw.seq (Cw.seq (Cw.region (Lw.m v0_ rfl (Lw.ln x0 h0 rfl (Lw.gt rfl (Lw.nil (Cw.cond (b := decide ((1048576 : Int) < ((x0.length : Int) : Int))) rfl (fun hc1 => ?_) (fun hc1 => ?_)))))))))))))
 ·replace hm := bt hm hc1
  refine Cw.seq (Cw.region (Lw.g (vB true) rfl (Lw.nil ?_)))
  cases hm
  exact Cw.ret (ret1 rfl (Res.mk (Le.refl _ _) rfl))
 ·replace hm := bf hm hc1
  refine Cw.skip (Cw.seq (Cw.region (Lw.m v0_ rfl ?_)))
  obtain ⟨z2, e3, hm⟩ := ob hm
  refine Lw.t rfl (T.call rfl (p44 (K := [0]) (k0 := 2) (k1 := 3) (k2 := 4) (k3 := 5) h0 e3)) ?_
  rintro _ _ ⟨W4, rfl, l4, ⟨v0_4, v1_4, v2_4, v3_4, rfl, f4_0, f4_1, f4_2, f4_3⟩⟩
  have a5 := l4.o
  refine Lw.m (.tuple [v0_4, v1_4, v2_4, v3_4].toArray) rfl (Lw.r rfl (R.ext (vs := [v0_4, v1_4, v2_4, v3_4]) (v := v0_4) rfl rfl) (Lw.r rfl (R.ext (vs := [v0_4, v1_4, v2_4, v3_4]) (v := v1_4) rfl rfl) (Lw.r rfl (R.ext (vs := [v0_4, v1_4, v2_4, v3_4]) (v := v2_4) rfl rfl) (Lw.r rfl (R.ext (vs := [v0_4, v1_4, v2_4, v3_4]) (v := v3_4) rfl rfl) (Lw.g v0_4 rfl (Lw.g v1_4 rfl (Lw.g v2_4 rfl (Lw.g v3_4 rfl (Lw.nil (Cw.seq (Cw.region (Lw.m v0_4 rfl (Lw.m v1_4 rfl (Lw.m v2_4 rfl (Lw.m v3_4 rfl ?_)))))))))))))))
  obtain ⟨z6, e7, hm⟩ := ob hm
  refine Lw.t rfl (T.call rfl (p37 (K := [2, 3, 4, 5]) (k0 := 6) (f4_0.rd.sub (M := [2, 3, 4, 5]) rfl) (f4_1.rd.sub (M := [2, 3, 4, 5]) rfl) (f4_2.rd.sub (M := [2, 3, 4, 5]) rfl) (f4_3.rd.sub (M := [2, 3, 4, 5]) rfl) e7)) ?_
  rintro _ _ ⟨W8, rfl, l8, ⟨v0_8, rfl, f8_0⟩⟩
  have a9 := a5.n l8
  refine Lw.m (.tuple [v0_8, vB z6.2].toArray) rfl (Lw.r rfl (R.ext (vs := [v0_8, vB z6.2]) (v := v0_8) rfl rfl) (Lw.r rfl (R.ext (vs := [v0_8, vB z6.2]) (v := vB z6.2) rfl rfl) (Lw.g v0_8 rfl (Lw.g (vB z6.2) rfl (Lw.nil (Cw.seq (Cw.region (Lw.m v0_4 rfl (Lw.m v1_4 rfl (Lw.m v2_4 rfl (Lw.m v3_4 rfl ?_)))))))))))
  obtain ⟨z14, e15, hm⟩ := ob hm
  refine Lw.t rfl (T.call rfl (p40 (K := [2, 3, 4, 5]) (k0 := 7) ((f4_0.up l8 rfl).rd.sub (M := [2, 3, 4, 5]) rfl) ((f4_1.up l8 rfl).rd.sub (M := [2, 3, 4, 5]) rfl) ((f4_2.up l8 rfl).rd.sub (M := [2, 3, 4, 5]) rfl) ((f4_3.up l8 rfl).rd.sub (M := [2, 3, 4, 5]) rfl) e15)) ?_
  rintro _ _ ⟨W16, rfl, l16, ⟨v0_16, rfl, f16_0⟩⟩
  have a17 := a9.n l16
  have o18 := (f4_0.up l8 rfl).up l16 rfl
  have o19 := (f4_1.up l8 rfl).up l16 rfl
  have o20 := (f4_2.up l8 rfl).up l16 rfl
  have o21 := (f4_3.up l8 rfl).up l16 rfl
  refine Lw.m (.tuple [v0_16, vB z14.2].toArray) rfl (Lw.r rfl (R.ext (vs := [v0_16, vB z14.2]) (v := v0_16) rfl rfl) (Lw.r rfl (R.ext (vs := [v0_16, vB z14.2]) (v := vB z14.2) rfl rfl) (Lw.g v0_16 rfl (Lw.g (vB z14.2) rfl (Lw.nil (Cw.seq ?_))))))
  obtain ⟨K25, hK25, hm⟩ := jn_e hm
  refine Cw.join 44 64 [64] (fun l w => ∃ (y23 : Bool) (W24 : CW), W24.w = w ∧ Le [] W16 W24 ∧ l = [vB y23] ∧ K25 y23 = some r) ?_ ?_
  ·rintro _ _ σ ⟨y23, W24, rfl, l24, rfl, hm⟩
   rw [hK25] at hm
   have a26 := a17.n l24
   have o31 := (f8_0.up l16 rfl).up l24 rfl
   refine Cw.cond (b := y23) rfl (fun hc33 => ?_) (fun hc33 => ?_)
   ·replace hm := bt hm hc33
    obtain ⟨K36, hK36, hm⟩ := jn_e hm
    refine Cw.join 65 72 [2] (fun l w => ∃ (y34 : Bool) (W35 : CW), W35.w = w ∧ Le [] W24 W35 ∧ l = [vB y34] ∧ K36 y34 = some r) ?_ ?_
    ·rintro _ _ σ ⟨y34, W35, rfl, l35, rfl, hm⟩
     rw [hK36] at hm
     have a37 := a26.n l35
     cases hm
     exact Cw.ret (ret1 rfl (Res.mk a37 rfl))
    ·refine Cw.region (Lw.m (vB z6.2) rfl (Lw.m (vB z14.2) rfl (Lw.r rfl (R.beq rfl rfl) (Lw.m (vB (z6.2 == z14.2)) rfl (bsplit (z6.2 == z14.2) (fun hc44 => ?_) (fun hc44 => ?_))))))
     ·replace hm := bt hm hc44
      refine Lw.want' hc44 rfl rfl rfl rfl (Lw.m v0_8 rfl (Lw.want' hc44 rfl rfl rfl rfl (Lw.m v0_16 rfl (Lw.want' hc44 rfl rfl rfl rfl ?_))))
      obtain ⟨z45, e46, hm⟩ := ob hm
      refine Lw.t rfl (T.call rfl (p39 (K := [6, 7])  (o31.rd.sub (M := [6, 7]) rfl) ((f16_0.up l24 rfl).rd.sub (M := [6, 7]) rfl) e46)) ?_
      rintro _ _ ⟨W47, rfl, l47, rfl⟩
      refine Lw.p hc44 (vB z45) rfl (Lw.g (vB z45) rfl (Lw.nil (⟨?_, ⟨z45, W47, rfl, l47, rfl, hm⟩⟩)))
      iterate 9 (refine Agree.up rfl ?_)
      exact Agree.refl _
     ·replace hm := bf hm hc44
      refine Lw.pass' hc44 rfl rfl rfl rfl rfl rfl rfl (Lw.pass' hc44 rfl rfl rfl rfl rfl rfl rfl (Lw.pass' hc44 rfl rfl rfl rfl rfl rfl rfl (Lw.p hc44 (vB false) rfl (Lw.g (vB false) rfl (Lw.nil (⟨?_, ⟨false, W24, rfl, Le.refl _ _, rfl, hm⟩⟩))))))
      iterate 9 (refine Agree.up rfl ?_)
      exact Agree.refl _
   ·replace hm := bf hm hc33
    refine Cw.skip (Cw.seq (Cw.region (Lw.m v0_4 rfl (Lw.m v1_4 rfl (Lw.m v3_4 rfl (Lw.m v2_4 rfl ?_))))))
    obtain ⟨z55, e56, hm⟩ := ob hm
    refine Lw.t rfl (T.call rfl (p37 (K := [2, 3, 4, 5]) (k0 := 8) ((o18.up l24 rfl).rd.sub (M := [2, 3, 4, 5]) rfl) ((o19.up l24 rfl).rd.sub (M := [2, 3, 4, 5]) rfl) ((o21.up l24 rfl).rd.sub (M := [2, 3, 4, 5]) rfl) ((o20.up l24 rfl).rd.sub (M := [2, 3, 4, 5]) rfl) e56)) ?_
    rintro _ _ ⟨W57, rfl, l57, ⟨v0_57, rfl, f57_0⟩⟩
    have a58 := a26.n l57
    have o60 := (o19.up l24 rfl).up l57 rfl
    have o61 := (o20.up l24 rfl).up l57 rfl
    have o62 := (o21.up l24 rfl).up l57 rfl
    refine Lw.m (.tuple [v0_57, vB z55.2].toArray) rfl (Lw.r rfl (R.ext (vs := [v0_57, vB z55.2]) (v := v0_57) rfl rfl) (Lw.r rfl (R.ext (vs := [v0_57, vB z55.2]) (v := vB z55.2) rfl rfl) (Lw.g v0_57 rfl (Lw.g (vB z55.2) rfl (Lw.nil (Cw.seq (Cw.region (Lw.m v1_4 rfl (Lw.m v2_4 rfl (Lw.m v3_4 rfl ?_))))))))))
    obtain ⟨z65, e66, hm⟩ := ob hm
    refine Lw.t rfl (T.call rfl (p45 (K := [3, 4, 5]) (k0 := 9) (o60.rd.sub (M := [3, 4, 5]) rfl) (o61.rd.sub (M := [3, 4, 5]) rfl) (o62.rd.sub (M := [3, 4, 5]) rfl) e66)) ?_
    rintro _ _ ⟨W67, rfl, l67, ⟨v0_67, rfl, f67_0⟩⟩
    have a68 := a58.n l67
    refine Lw.m (.tuple [v0_67, vB z65.2].toArray) rfl (Lw.r rfl (R.ext (vs := [v0_67, vB z65.2]) (v := v0_67) rfl rfl) (Lw.r rfl (R.ext (vs := [v0_67, vB z65.2]) (v := vB z65.2) rfl rfl) (Lw.g v0_67 rfl (Lw.g (vB z65.2) rfl (Lw.nil (Cw.seq (Cw.region (Lw.m v1_4 rfl (Lw.m v2_4 rfl (Lw.m v3_4 rfl ?_))))))))))
    obtain ⟨z76, e77, hm⟩ := ob hm
    refine Lw.t rfl (T.call rfl (p37 (K := [0, 3, 4, 5]) (k0 := 10) (rdN (K := [0, 3, 4, 5])) ((o60.up l67 rfl).rd.sub (M := [0, 3, 4, 5]) rfl) ((o61.up l67 rfl).rd.sub (M := [0, 3, 4, 5]) rfl) ((o62.up l67 rfl).rd.sub (M := [0, 3, 4, 5]) rfl) e77)) ?_
    rintro _ _ ⟨W78, rfl, l78, ⟨v0_78, rfl, f78_0⟩⟩
    have a79 := a68.n l78
    have o81 := (o60.up l67 rfl).up l78 rfl
    have o82 := (o61.up l67 rfl).up l78 rfl
    have o83 := (o62.up l67 rfl).up l78 rfl
    refine Lw.m (.tuple [v0_78, vB z76.2].toArray) rfl (Lw.r rfl (R.ext (vs := [v0_78, vB z76.2]) (v := v0_78) rfl rfl) (Lw.r rfl (R.ext (vs := [v0_78, vB z76.2]) (v := vB z76.2) rfl rfl) (Lw.g v0_78 rfl (Lw.g (vB z76.2) rfl (Lw.nil (Cw.seq (Cw.region (Lw.m v0_4 rfl (Lw.m v1_4 rfl (Lw.m v2_4 rfl (Lw.m v3_4 rfl ?_)))))))))))
    obtain ⟨z88, e89, hm⟩ := ob hm
    refine Lw.t rfl (T.call rfl (p30 (K := [2, 3, 4, 5])  (((((o18.up l24 rfl).up l57 rfl).up l67 rfl).up l78 rfl).rd.sub (M := [2, 3, 4, 5]) rfl) (o81.rd.sub (M := [2, 3, 4, 5]) rfl) (o82.rd.sub (M := [2, 3, 4, 5]) rfl) (o83.rd.sub (M := [2, 3, 4, 5]) rfl) e89)) ?_
    rintro _ _ ⟨W90, rfl, l90, rfl⟩
    have a91 := a79.n l90
    have o96 := (((o31.up l57 rfl).up l67 rfl).up l78 rfl).up l90 rfl
    refine Lw.g (vI z88) rfl (Lw.nil ?_)
    obtain ⟨K103, hK103, hm⟩ := jn_e hm
    refine Cw.join 100 145 [2] (fun l w => ∃ (y101 : Bool) (W102 : CW), W102.w = w ∧ Le [] W90 W102 ∧ l = [vB y101] ∧ K103 y101 = some r) ?_ ?_
    ·rintro _ _ σ ⟨y101, W102, rfl, l102, rfl, hm⟩
     rw [hK103] at hm
     have a104 := a91.n l102
     cases hm
     exact Cw.ret (ret1 rfl (Res.mk a104 rfl))
    ·refine Cw.region (Lw.m (vB z55.2) rfl (Lw.m (vB z6.2) rfl (Lw.r rfl (R.beq rfl rfl) (Lw.m (vB (z55.2 == z6.2)) rfl (bsplit (z55.2 == z6.2) (fun hc114 => ?_) (fun hc114 => ?_))))))
     ·replace hm := bt hm hc114
      refine Lw.want' hc114 rfl rfl rfl rfl (Lw.m v0_57 rfl (Lw.want' hc114 rfl rfl rfl rfl (Lw.m v0_8 rfl (Lw.want' hc114 rfl rfl rfl rfl ?_))))
      obtain ⟨z115, e116, hm⟩ := ob hm
      refine Lw.t rfl (T.call rfl (p39 (K := [6, 8])  ((((f57_0.up l67 rfl).up l78 rfl).up l90 rfl).rd.sub (M := [6, 8]) rfl) (o96.rd.sub (M := [6, 8]) rfl) e116)) ?_
      rintro _ _ ⟨W117, rfl, l117, rfl⟩
      have o126 := ((f67_0.up l78 rfl).up l90 rfl).up l117 rfl
      refine Lw.p hc114 (vB z115) rfl (Lw.m (vB z115) rfl (bsplit z115 (fun hc128 => ?_) (fun hc128 => ?_)))
      ·replace hm := bt hm hc128
       refine Lw.want' hc128 rfl rfl rfl rfl (Lw.m (vB z76.2) rfl (Lw.want' hc128 rfl rfl rfl rfl (Lw.m (vB z65.2) rfl (Lw.want' hc128 rfl rfl rfl rfl (Lw.r rfl (R.beq rfl rfl) (Lw.p hc128 (vB (z76.2 == z65.2)) rfl (Lw.m (vB (z76.2 == z65.2)) rfl (bsplit (z76.2 == z65.2) (fun hc129 => ?_) (fun hc129 => ?_)))))))))
       ·replace hm := bt hm hc129
        refine Lw.want' hc129 rfl rfl rfl rfl (Lw.m v0_78 rfl (Lw.want' hc129 rfl rfl rfl rfl (Lw.m v0_67 rfl (Lw.want' hc129 rfl rfl rfl rfl ?_))))
        obtain ⟨z130, e131, hm⟩ := ob hm
        refine Lw.t rfl (T.call rfl (p39 (K := [9, 10])  (((f78_0.up l90 rfl).up l117 rfl).rd.sub (M := [9, 10]) rfl) (o126.rd.sub (M := [9, 10]) rfl) e131)) ?_
        rintro _ _ ⟨W132, rfl, l132, rfl⟩
        have o135 := ((o81.up l90 rfl).up l117 rfl).up l132 rfl
        have o136 := ((o82.up l90 rfl).up l117 rfl).up l132 rfl
        have o137 := ((o83.up l90 rfl).up l117 rfl).up l132 rfl
        have o138 := (o96.up l117 rfl).up l132 rfl
        refine Lw.p hc129 (vB z130) rfl (Lw.m (vB z130) rfl (bsplit z130 (fun hc143 => ?_) (fun hc143 => ?_)))
        ·replace hm := bt hm hc143
         refine Lw.want' hc143 rfl rfl rfl rfl (Lw.m (vB z6.2) rfl (Lw.want' hc143 rfl rfl rfl rfl (Lw.r rfl (R.not rfl) (Lw.want' hc143 rfl rfl rfl rfl (Lw.m (vB (!z6.2)) rfl (bsplit (!z6.2) (fun hc144 => ?_) (fun hc144 => ?_)))))))
         ·replace hm := bt hm hc144
          refine Lw.pass' hc144 rfl rfl rfl rfl rfl rfl rfl (Lw.pass' hc144 rfl rfl rfl rfl rfl rfl rfl (Lw.want' hc143 rfl rfl rfl rfl (Lw.p hc144 (vB true) rfl (Lw.p hc143 (vB true) rfl (Lw.m (vB true) rfl (Lw.want' rfl rfl rfl rfl rfl (Lw.m (vI z88) rfl (Lw.want' rfl rfl rfl rfl rfl (Lw.m v1_4 rfl (Lw.want' rfl rfl rfl rfl rfl (Lw.m v2_4 rfl (Lw.want' rfl rfl rfl rfl rfl (Lw.m v3_4 rfl (Lw.want' rfl rfl rfl rfl rfl ?_))))))))))))))
          obtain ⟨z145, e146, hm⟩ := ob hm
          refine Lw.t rfl (T.call rfl (p36 (K := [3, 4, 5])  (o135.rd.sub (M := [3, 4, 5]) rfl) (o136.rd.sub (M := [3, 4, 5]) rfl) (o137.rd.sub (M := [3, 4, 5]) rfl) e146)) ?_
          rintro _ _ ⟨W147, rfl, l147, rfl⟩
          refine Lw.want' rfl rfl rfl rfl rfl (Lw.le rfl (Lw.p rfl (vB (decide ((z88 : Int) ≤ (z145 : Int)))) rfl (Lw.m (vB (decide ((z88 : Int) ≤ (z145 : Int)))) rfl (bsplit (decide ((z88 : Int) ≤ (z145 : Int))) (fun hc158 => ?_) (fun hc158 => ?_)))))
          ·replace hm := bt hm hc158
           refine Lw.want' hc158 rfl rfl rfl rfl (Lw.m (vB z65.2) rfl (Lw.want' hc158 rfl rfl rfl rfl (Lw.r rfl (R.not rfl) (Lw.want' hc158 rfl rfl rfl rfl (Lw.m (vB (!z65.2)) rfl (bsplit (!z65.2) (fun hc159 => ?_) (fun hc159 => ?_)))))))
           ·replace hm := bt hm hc159
            refine Lw.pass' hc159 rfl rfl rfl rfl rfl rfl rfl (Lw.pass' hc159 rfl rfl rfl rfl rfl rfl rfl (Lw.passU rfl rfl rfl rfl rfl rfl (Lw.passU rfl rfl rfl rfl rfl rfl (Lw.passU rfl rfl rfl rfl rfl rfl (Lw.pass' hc159 rfl rfl rfl rfl rfl rfl rfl (Lw.want' hc158 rfl rfl rfl rfl (Lw.p hc159 (vB true) rfl (Lw.p hc158 (vB true) rfl (Lw.g (vB true) rfl (Lw.nil (⟨?_, ⟨true, W147, rfl, (l117.trans (l132.trans l147)), rfl, hm⟩⟩)))))))))))
            iterate 47 (refine Agree.up rfl ?_)
            exact Agree.refl _
           ·replace hm := bf hm hc159
            refine Lw.want' hc159 rfl rfl rfl rfl (Lw.m (vB z6.2) rfl (Lw.want' hc159 rfl rfl rfl rfl (Lw.m (vB z6.2) rfl (bsplit z6.2 (fun hc160 => ?_) (fun hc160 => ?_)))))
            ·replace hm := bt hm hc160
             refine Lw.want' hc160 rfl rfl rfl rfl (Lw.m v0_8 rfl (Lw.want' hc160 rfl rfl rfl rfl (Lw.m v0_67 rfl (Lw.want' hc160 rfl rfl rfl rfl ?_))))
             obtain ⟨z161, e162, hm⟩ := ob hm
             refine Lw.t rfl (T.call rfl (p39 (K := [6, 9])  ((o138.up l147 rfl).rd.sub (M := [6, 9]) rfl) (((o126.up l132 rfl).up l147 rfl).rd.sub (M := [6, 9]) rfl) e162)) ?_
             rintro _ _ ⟨W163, rfl, l163, rfl⟩
             refine Lw.want' hc159 rfl rfl rfl rfl (Lw.p hc160 (vB z161) rfl (Lw.want' hc158 rfl rfl rfl rfl (Lw.p hc159 (vB z161) rfl (Lw.p hc158 (vB z161) rfl (Lw.g (vB z161) rfl (Lw.nil (⟨?_, ⟨z161, W163, rfl, (l117.trans (l132.trans (l147.trans l163))), rfl, hm⟩⟩)))))))
             iterate 47 (refine Agree.up rfl ?_)
             exact Agree.refl _
            ·replace hm := bf hm hc160
             refine Lw.pass' hc160 rfl rfl rfl rfl rfl rfl rfl (Lw.pass' hc160 rfl rfl rfl rfl rfl rfl rfl (Lw.pass' hc160 rfl rfl rfl rfl rfl rfl rfl (Lw.want' hc159 rfl rfl rfl rfl (Lw.p hc160 (vB false) rfl (Lw.want' hc158 rfl rfl rfl rfl (Lw.p hc159 (vB false) rfl (Lw.p hc158 (vB false) rfl (Lw.g (vB false) rfl (Lw.nil (⟨?_, ⟨false, W147, rfl, (l117.trans (l132.trans l147)), rfl, hm⟩⟩))))))))))
             iterate 47 (refine Agree.up rfl ?_)
             exact Agree.refl _
          ·replace hm := bf hm hc158
           refine Lw.pass' hc158 rfl rfl rfl rfl rfl rfl rfl (Lw.pass' hc158 rfl rfl rfl rfl rfl rfl rfl (Lw.pass' hc158 rfl rfl rfl rfl rfl rfl rfl (Lw.passU rfl rfl rfl rfl rfl rfl (Lw.passU rfl rfl rfl rfl rfl rfl (Lw.passU rfl rfl rfl rfl rfl rfl (Lw.passU rfl rfl rfl rfl rfl rfl (Lw.passU rfl rfl rfl rfl rfl rfl (Lw.passU rfl rfl rfl rfl rfl rfl (Lw.pass' hc158 rfl rfl rfl rfl rfl rfl rfl (Lw.p hc158 (vB false) rfl (Lw.g (vB false) rfl (Lw.nil (⟨?_, ⟨false, W147, rfl, (l117.trans (l132.trans l147)), rfl, hm⟩⟩)))))))))))))
           iterate 47 (refine Agree.up rfl ?_)
           exact Agree.refl _
         ·replace hm := bf hm hc144
          refine Lw.want' hc144 rfl rfl rfl rfl (Lw.m (vI z88) rfl (Lw.want' hc144 rfl rfl rfl rfl (Lw.eq rfl (Lw.want' hc143 rfl rfl rfl rfl (Lw.p hc144 (vB ((z88 : Int) == (0 : Int))) rfl (Lw.p hc143 (vB ((z88 : Int) == (0 : Int))) rfl (Lw.m (vB ((z88 : Int) == (0 : Int))) rfl (bsplit ((z88 : Int) == (0 : Int)) (fun hc174 => ?_) (fun hc174 => ?_)))))))))
          ·replace hm := bt hm hc174
           refine Lw.want' hc174 rfl rfl rfl rfl (Lw.m (vI z88) rfl (Lw.want' hc174 rfl rfl rfl rfl (Lw.m v1_4 rfl (Lw.want' hc174 rfl rfl rfl rfl (Lw.m v2_4 rfl (Lw.want' hc174 rfl rfl rfl rfl (Lw.m v3_4 rfl (Lw.want' hc174 rfl rfl rfl rfl ?_))))))))
           obtain ⟨z175, e176, hm⟩ := ob hm
           refine Lw.t rfl (T.call rfl (p36 (K := [3, 4, 5])  (o135.rd.sub (M := [3, 4, 5]) rfl) (o136.rd.sub (M := [3, 4, 5]) rfl) (o137.rd.sub (M := [3, 4, 5]) rfl) e176)) ?_
           rintro _ _ ⟨W177, rfl, l177, rfl⟩
           refine Lw.want' hc174 rfl rfl rfl rfl (Lw.le rfl (Lw.p hc174 (vB (decide ((z88 : Int) ≤ (z175 : Int)))) rfl (Lw.m (vB (decide ((z88 : Int) ≤ (z175 : Int)))) rfl (bsplit (decide ((z88 : Int) ≤ (z175 : Int))) (fun hc188 => ?_) (fun hc188 => ?_)))))
           ·replace hm := bt hm hc188
            refine Lw.want' hc188 rfl rfl rfl rfl (Lw.m (vB z65.2) rfl (Lw.want' hc188 rfl rfl rfl rfl (Lw.r rfl (R.not rfl) (Lw.want' hc188 rfl rfl rfl rfl (Lw.m (vB (!z65.2)) rfl (bsplit (!z65.2) (fun hc189 => ?_) (fun hc189 => ?_)))))))
            ·replace hm := bt hm hc189
             refine Lw.pass' hc189 rfl rfl rfl rfl rfl rfl rfl (Lw.pass' hc189 rfl rfl rfl rfl rfl rfl rfl (Lw.passU rfl rfl rfl rfl rfl rfl (Lw.passU rfl rfl rfl rfl rfl rfl (Lw.passU rfl rfl rfl rfl rfl rfl (Lw.pass' hc189 rfl rfl rfl rfl rfl rfl rfl (Lw.want' hc188 rfl rfl rfl rfl (Lw.p hc189 (vB true) rfl (Lw.p hc188 (vB true) rfl (Lw.g (vB true) rfl (Lw.nil (⟨?_, ⟨true, W177, rfl, (l117.trans (l132.trans l177)), rfl, hm⟩⟩)))))))))))
             iterate 47 (refine Agree.up rfl ?_)
             exact Agree.refl _
            ·replace hm := bf hm hc189
             refine Lw.want' hc189 rfl rfl rfl rfl (Lw.m (vB z6.2) rfl (Lw.want' hc189 rfl rfl rfl rfl (Lw.m (vB z6.2) rfl (bsplit z6.2 (fun hc190 => ?_) (fun hc190 => ?_)))))
             ·replace hm := bt hm hc190
              refine Lw.want' hc190 rfl rfl rfl rfl (Lw.m v0_8 rfl (Lw.want' hc190 rfl rfl rfl rfl (Lw.m v0_67 rfl (Lw.want' hc190 rfl rfl rfl rfl ?_))))
              obtain ⟨z191, e192, hm⟩ := ob hm
              refine Lw.t rfl (T.call rfl (p39 (K := [6, 9])  ((o138.up l177 rfl).rd.sub (M := [6, 9]) rfl) (((o126.up l132 rfl).up l177 rfl).rd.sub (M := [6, 9]) rfl) e192)) ?_
              rintro _ _ ⟨W193, rfl, l193, rfl⟩
              refine Lw.want' hc189 rfl rfl rfl rfl (Lw.p hc190 (vB z191) rfl (Lw.want' hc188 rfl rfl rfl rfl (Lw.p hc189 (vB z191) rfl (Lw.p hc188 (vB z191) rfl (Lw.g (vB z191) rfl (Lw.nil (⟨?_, ⟨z191, W193, rfl, (l117.trans (l132.trans (l177.trans l193))), rfl, hm⟩⟩)))))))
              iterate 47 (refine Agree.up rfl ?_)
              exact Agree.refl _
             ·replace hm := bf hm hc190
              refine Lw.pass' hc190 rfl rfl rfl rfl rfl rfl rfl (Lw.pass' hc190 rfl rfl rfl rfl rfl rfl rfl (Lw.pass' hc190 rfl rfl rfl rfl rfl rfl rfl (Lw.want' hc189 rfl rfl rfl rfl (Lw.p hc190 (vB false) rfl (Lw.want' hc188 rfl rfl rfl rfl (Lw.p hc189 (vB false) rfl (Lw.p hc188 (vB false) rfl (Lw.g (vB false) rfl (Lw.nil (⟨?_, ⟨false, W177, rfl, (l117.trans (l132.trans l177)), rfl, hm⟩⟩))))))))))
              iterate 47 (refine Agree.up rfl ?_)
              exact Agree.refl _
           ·replace hm := bf hm hc188
            refine Lw.pass' hc188 rfl rfl rfl rfl rfl rfl rfl (Lw.pass' hc188 rfl rfl rfl rfl rfl rfl rfl (Lw.pass' hc188 rfl rfl rfl rfl rfl rfl rfl (Lw.passU rfl rfl rfl rfl rfl rfl (Lw.passU rfl rfl rfl rfl rfl rfl (Lw.passU rfl rfl rfl rfl rfl rfl (Lw.passU rfl rfl rfl rfl rfl rfl (Lw.passU rfl rfl rfl rfl rfl rfl (Lw.passU rfl rfl rfl rfl rfl rfl (Lw.pass' hc188 rfl rfl rfl rfl rfl rfl rfl (Lw.p hc188 (vB false) rfl (Lw.g (vB false) rfl (Lw.nil (⟨?_, ⟨false, W177, rfl, (l117.trans (l132.trans l177)), rfl, hm⟩⟩)))))))))))))
            iterate 47 (refine Agree.up rfl ?_)
            exact Agree.refl _
          ·replace hm := bf hm hc174
           refine Lw.pass' hc174 rfl rfl rfl rfl rfl rfl rfl (Lw.pass' hc174 rfl rfl rfl rfl rfl rfl rfl (Lw.pass' hc174 rfl rfl rfl rfl rfl rfl rfl (Lw.pass' hc174 rfl rfl rfl rfl rfl rfl rfl (Lw.pass' hc174 rfl rfl rfl rfl rfl rfl rfl (Lw.pass' hc174 rfl rfl rfl rfl rfl rfl rfl (Lw.p hc174 (vB false) rfl (Lw.m (vB false) rfl (Lw.pass' rfl rfl rfl rfl rfl rfl rfl rfl (Lw.pass' rfl rfl rfl rfl rfl rfl rfl rfl (Lw.pass' rfl rfl rfl rfl rfl rfl rfl rfl (Lw.passU rfl rfl rfl rfl rfl rfl (Lw.passU rfl rfl rfl rfl rfl rfl (Lw.passU rfl rfl rfl rfl rfl rfl (Lw.passU rfl rfl rfl rfl rfl rfl (Lw.passU rfl rfl rfl rfl rfl rfl (Lw.passU rfl rfl rfl rfl rfl rfl (Lw.pass' rfl rfl rfl rfl rfl rfl rfl rfl (Lw.p rfl (vB false) rfl (Lw.g (vB false) rfl (Lw.nil (⟨?_, ⟨false, W132, rfl, (l117.trans l132), rfl, hm⟩⟩)))))))))))))))))))))
           iterate 47 (refine Agree.up rfl ?_)
           exact Agree.refl _
        ·replace hm := bf hm hc143
         refine Lw.pass' hc143 rfl rfl rfl rfl rfl rfl rfl (Lw.pass' hc143 rfl rfl rfl rfl rfl rfl rfl (Lw.pass' hc143 rfl rfl rfl rfl rfl rfl rfl (Lw.passU rfl rfl rfl rfl rfl rfl (Lw.passU rfl rfl rfl rfl rfl rfl (Lw.pass' hc143 rfl rfl rfl rfl rfl rfl rfl (Lw.p hc143 (vB false) rfl (Lw.m (vB false) rfl (Lw.pass' rfl rfl rfl rfl rfl rfl rfl rfl (Lw.pass' rfl rfl rfl rfl rfl rfl rfl rfl (Lw.pass' rfl rfl rfl rfl rfl rfl rfl rfl (Lw.pass' rfl rfl rfl rfl rfl rfl rfl rfl (Lw.pass' rfl rfl rfl rfl rfl rfl rfl rfl (Lw.pass' rfl rfl rfl rfl rfl rfl rfl rfl (Lw.p rfl (vB false) rfl (Lw.m (vB false) rfl (Lw.pass' rfl rfl rfl rfl rfl rfl rfl rfl (Lw.pass' rfl rfl rfl rfl rfl rfl rfl rfl (Lw.pass' rfl rfl rfl rfl rfl rfl rfl rfl (Lw.passU rfl rfl rfl rfl rfl rfl (Lw.passU rfl rfl rfl rfl rfl rfl (Lw.passU rfl rfl rfl rfl rfl rfl (Lw.passU rfl rfl rfl rfl rfl rfl (Lw.passU rfl rfl rfl rfl rfl rfl (Lw.passU rfl rfl rfl rfl rfl rfl (Lw.pass' rfl rfl rfl rfl rfl rfl rfl rfl (Lw.p rfl (vB false) rfl (Lw.g (vB false) rfl (Lw.nil (⟨?_, ⟨false, W132, rfl, (l117.trans l132), rfl, hm⟩⟩)))))))))))))))))))))))))))))
         iterate 47 (refine Agree.up rfl ?_)
         exact Agree.refl _
       ·replace hm := bf hm hc129
        refine Lw.pass' hc129 rfl rfl rfl rfl rfl rfl rfl (Lw.pass' hc129 rfl rfl rfl rfl rfl rfl rfl (Lw.pass' hc129 rfl rfl rfl rfl rfl rfl rfl (Lw.p hc129 (vB false) rfl (Lw.m (vB false) rfl (Lw.pass' rfl rfl rfl rfl rfl rfl rfl rfl (Lw.pass' rfl rfl rfl rfl rfl rfl rfl rfl (Lw.pass' rfl rfl rfl rfl rfl rfl rfl rfl (Lw.passU rfl rfl rfl rfl rfl rfl (Lw.passU rfl rfl rfl rfl rfl rfl (Lw.pass' rfl rfl rfl rfl rfl rfl rfl rfl (Lw.p rfl (vB false) rfl (Lw.m (vB false) rfl (Lw.pass' rfl rfl rfl rfl rfl rfl rfl rfl (Lw.pass' rfl rfl rfl rfl rfl rfl rfl rfl (Lw.pass' rfl rfl rfl rfl rfl rfl rfl rfl (Lw.pass' rfl rfl rfl rfl rfl rfl rfl rfl (Lw.pass' rfl rfl rfl rfl rfl rfl rfl rfl (Lw.pass' rfl rfl rfl rfl rfl rfl rfl rfl (Lw.p rfl (vB false) rfl (Lw.m (vB false) rfl (Lw.pass' rfl rfl rfl rfl rfl rfl rfl rfl (Lw.pass' rfl rfl rfl rfl rfl rfl rfl rfl (Lw.pass' rfl rfl rfl rfl rfl rfl rfl rfl (Lw.passU rfl rfl rfl rfl rfl rfl (Lw.passU rfl rfl rfl rfl rfl rfl (Lw.passU rfl rfl rfl rfl rfl rfl (Lw.passU rfl rfl rfl rfl rfl rfl (Lw.passU rfl rfl rfl rfl rfl rfl (Lw.passU rfl rfl rfl rfl rfl rfl (Lw.pass' rfl rfl rfl rfl rfl rfl rfl rfl (Lw.p rfl (vB false) rfl (Lw.g (vB false) rfl (Lw.nil (⟨?_, ⟨false, W117, rfl, l117, rfl, hm⟩⟩))))))))))))))))))))))))))))))))))
        iterate 47 (refine Agree.up rfl ?_)
        exact Agree.refl _
      ·replace hm := bf hm hc128
       refine Lw.pass' hc128 rfl rfl rfl rfl rfl rfl rfl (Lw.pass' hc128 rfl rfl rfl rfl rfl rfl rfl (Lw.pass' hc128 rfl rfl rfl rfl rfl rfl rfl (Lw.p hc128 (vB false) rfl (Lw.m (vB false) rfl (Lw.pass' rfl rfl rfl rfl rfl rfl rfl rfl (Lw.pass' rfl rfl rfl rfl rfl rfl rfl rfl (Lw.pass' rfl rfl rfl rfl rfl rfl rfl rfl (Lw.p rfl (vB false) rfl (Lw.m (vB false) rfl (Lw.pass' rfl rfl rfl rfl rfl rfl rfl rfl (Lw.pass' rfl rfl rfl rfl rfl rfl rfl rfl (Lw.pass' rfl rfl rfl rfl rfl rfl rfl rfl (Lw.passU rfl rfl rfl rfl rfl rfl (Lw.passU rfl rfl rfl rfl rfl rfl (Lw.pass' rfl rfl rfl rfl rfl rfl rfl rfl (Lw.p rfl (vB false) rfl (Lw.m (vB false) rfl (Lw.pass' rfl rfl rfl rfl rfl rfl rfl rfl (Lw.pass' rfl rfl rfl rfl rfl rfl rfl rfl (Lw.pass' rfl rfl rfl rfl rfl rfl rfl rfl (Lw.pass' rfl rfl rfl rfl rfl rfl rfl rfl (Lw.pass' rfl rfl rfl rfl rfl rfl rfl rfl (Lw.pass' rfl rfl rfl rfl rfl rfl rfl rfl (Lw.p rfl (vB false) rfl (Lw.m (vB false) rfl (Lw.pass' rfl rfl rfl rfl rfl rfl rfl rfl (Lw.pass' rfl rfl rfl rfl rfl rfl rfl rfl (Lw.pass' rfl rfl rfl rfl rfl rfl rfl rfl (Lw.passU rfl rfl rfl rfl rfl rfl (Lw.passU rfl rfl rfl rfl rfl rfl (Lw.passU rfl rfl rfl rfl rfl rfl (Lw.passU rfl rfl rfl rfl rfl rfl (Lw.passU rfl rfl rfl rfl rfl rfl (Lw.passU rfl rfl rfl rfl rfl rfl (Lw.pass' rfl rfl rfl rfl rfl rfl rfl rfl (Lw.p rfl (vB false) rfl (Lw.g (vB false) rfl (Lw.nil (⟨?_, ⟨false, W117, rfl, l117, rfl, hm⟩⟩)))))))))))))))))))))))))))))))))))))))
       iterate 47 (refine Agree.up rfl ?_)
       exact Agree.refl _
     ·replace hm := bf hm hc114
      refine Lw.pass' hc114 rfl rfl rfl rfl rfl rfl rfl (Lw.pass' hc114 rfl rfl rfl rfl rfl rfl rfl (Lw.pass' hc114 rfl rfl rfl rfl rfl rfl rfl (Lw.p hc114 (vB false) rfl (Lw.m (vB false) rfl (Lw.pass' rfl rfl rfl rfl rfl rfl rfl rfl (Lw.pass' rfl rfl rfl rfl rfl rfl rfl rfl (Lw.pass' rfl rfl rfl rfl rfl rfl rfl rfl (Lw.p rfl (vB false) rfl (Lw.m (vB false) rfl (Lw.pass' rfl rfl rfl rfl rfl rfl rfl rfl (Lw.pass' rfl rfl rfl rfl rfl rfl rfl rfl (Lw.pass' rfl rfl rfl rfl rfl rfl rfl rfl (Lw.p rfl (vB false) rfl (Lw.m (vB false) rfl (Lw.pass' rfl rfl rfl rfl rfl rfl rfl rfl (Lw.pass' rfl rfl rfl rfl rfl rfl rfl rfl (Lw.pass' rfl rfl rfl rfl rfl rfl rfl rfl (Lw.passU rfl rfl rfl rfl rfl rfl (Lw.passU rfl rfl rfl rfl rfl rfl (Lw.pass' rfl rfl rfl rfl rfl rfl rfl rfl (Lw.p rfl (vB false) rfl (Lw.m (vB false) rfl (Lw.pass' rfl rfl rfl rfl rfl rfl rfl rfl (Lw.pass' rfl rfl rfl rfl rfl rfl rfl rfl (Lw.pass' rfl rfl rfl rfl rfl rfl rfl rfl (Lw.pass' rfl rfl rfl rfl rfl rfl rfl rfl (Lw.pass' rfl rfl rfl rfl rfl rfl rfl rfl (Lw.pass' rfl rfl rfl rfl rfl rfl rfl rfl (Lw.p rfl (vB false) rfl (Lw.m (vB false) rfl (Lw.pass' rfl rfl rfl rfl rfl rfl rfl rfl (Lw.pass' rfl rfl rfl rfl rfl rfl rfl rfl (Lw.pass' rfl rfl rfl rfl rfl rfl rfl rfl (Lw.passU rfl rfl rfl rfl rfl rfl (Lw.passU rfl rfl rfl rfl rfl rfl (Lw.passU rfl rfl rfl rfl rfl rfl (Lw.passU rfl rfl rfl rfl rfl rfl (Lw.passU rfl rfl rfl rfl rfl rfl ?_))))))))))))))))))))))))))))))))))))))
      refine Lw.passU rfl rfl rfl rfl rfl rfl (Lw.pass' rfl rfl rfl rfl rfl rfl rfl rfl (Lw.p rfl (vB false) rfl (Lw.g (vB false) rfl (Lw.nil (⟨?_, ⟨false, W90, rfl, Le.refl _ _, rfl, hm⟩⟩)))))
      iterate 47 (refine Agree.up rfl ?_)
      exact Agree.refl _
  ·refine Cw.region (Lw.m (vB z6.2) rfl (Lw.m (vB z14.2) rfl (Lw.r rfl (R.bne rfl rfl) (Lw.m (vB (z6.2 != z14.2)) rfl (bsplit (z6.2 != z14.2) (fun hc204 => ?_) (fun hc204 => ?_))))))
   ·replace hm := bt hm hc204
    refine Lw.pass' hc204 rfl rfl rfl rfl rfl rfl rfl (Lw.pass' hc204 rfl rfl rfl rfl rfl rfl rfl (Lw.pass' hc204 rfl rfl rfl rfl rfl rfl rfl (Lw.pass' hc204 rfl rfl rfl rfl rfl rfl rfl (Lw.p hc204 (vB true) rfl (Lw.m (vB true) rfl (Lw.pass' rfl rfl rfl rfl rfl rfl rfl rfl (Lw.pass' rfl rfl rfl rfl rfl rfl rfl rfl (Lw.pass' rfl rfl rfl rfl rfl rfl rfl rfl (Lw.pass' rfl rfl rfl rfl rfl rfl rfl rfl (Lw.pass' rfl rfl rfl rfl rfl rfl rfl rfl (Lw.p rfl (vB true) rfl (Lw.m (vB true) rfl (Lw.pass' rfl rfl rfl rfl rfl rfl rfl rfl (Lw.pass' rfl rfl rfl rfl rfl rfl rfl rfl (Lw.pass' rfl rfl rfl rfl rfl rfl rfl rfl (Lw.p rfl (vB true) rfl (Lw.nil (⟨?_, ⟨true, W16, rfl, Le.refl _ _, rfl, hm⟩⟩))))))))))))))))))
    iterate 21 (refine Agree.up rfl ?_)
    exact Agree.refl _
   ·replace hm := bf hm hc204
    refine Lw.want' hc204 rfl rfl rfl rfl (Lw.m v0_8 rfl (Lw.want' hc204 rfl rfl rfl rfl (Lw.m v0_16 rfl (Lw.want' hc204 rfl rfl rfl rfl ?_))))
    obtain ⟨z205, e206, hm⟩ := ob hm
    refine Lw.t rfl (T.call rfl (p39 (K := [6, 7])  ((f8_0.up l16 rfl).rd.sub (M := [6, 7]) rfl) (f16_0.rd.sub (M := [6, 7]) rfl) e206)) ?_
    rintro _ _ ⟨W207, rfl, l207, rfl⟩
    refine Lw.want' hc204 rfl rfl rfl rfl (Lw.r rfl (R.not rfl) (Lw.p hc204 (vB (!z205)) rfl (Lw.m (vB (!z205)) rfl (bsplit (!z205) (fun hc215 => ?_) (fun hc215 => ?_)))))
    ·replace hm := bt hm hc215
     refine Lw.pass' hc215 rfl rfl rfl rfl rfl rfl rfl (Lw.pass' hc215 rfl rfl rfl rfl rfl rfl rfl (Lw.pass' hc215 rfl rfl rfl rfl rfl rfl rfl (Lw.pass' hc215 rfl rfl rfl rfl rfl rfl rfl (Lw.pass' hc215 rfl rfl rfl rfl rfl rfl rfl (Lw.p hc215 (vB true) rfl (Lw.m (vB true) rfl (Lw.pass' rfl rfl rfl rfl rfl rfl rfl rfl (Lw.pass' rfl rfl rfl rfl rfl rfl rfl rfl (Lw.pass' rfl rfl rfl rfl rfl rfl rfl rfl (Lw.p rfl (vB true) rfl (Lw.nil (⟨?_, ⟨true, W207, rfl, l207, rfl, hm⟩⟩))))))))))))
     iterate 21 (refine Agree.up rfl ?_)
     exact Agree.refl _
    ·replace hm := bf hm hc215
     refine Lw.want' hc215 rfl rfl rfl rfl (Lw.m v1_4 rfl (Lw.want' hc215 rfl rfl rfl rfl (Lw.m v2_4 rfl (Lw.want' hc215 rfl rfl rfl rfl (Lw.m v3_4 rfl (Lw.want' hc215 rfl rfl rfl rfl ?_))))))
     obtain ⟨z216, e217, hm⟩ := ob hm
     refine Lw.t rfl (T.call rfl (p36 (K := [3, 4, 5])  ((o19.up l207 rfl).rd.sub (M := [3, 4, 5]) rfl) ((o20.up l207 rfl).rd.sub (M := [3, 4, 5]) rfl) ((o21.up l207 rfl).rd.sub (M := [3, 4, 5]) rfl) e217)) ?_
     rintro _ _ ⟨W218, rfl, l218, rfl⟩
     refine Lw.want' hc215 rfl rfl rfl rfl (Lw.lt rfl (Lw.p hc215 (vB (decide ((z216 : Int) < (0 : Int)))) rfl (Lw.m (vB (decide ((z216 : Int) < (0 : Int)))) rfl (bsplit (decide ((z216 : Int) < (0 : Int))) (fun hc226 => ?_) (fun hc226 => ?_)))))
     ·replace hm := bt hm hc226
      refine Lw.pass' hc226 rfl rfl rfl rfl rfl rfl rfl (Lw.pass' hc226 rfl rfl rfl rfl rfl rfl rfl (Lw.pass' hc226 rfl rfl rfl rfl rfl rfl rfl (Lw.p hc226 (vB true) rfl (Lw.nil (⟨?_, ⟨true, W218, rfl, (l207.trans l218), rfl, hm⟩⟩)))))
      iterate 21 (refine Agree.up rfl ?_)
      exact Agree.refl _
     ·replace hm := bf hm hc226
      refine Lw.want' hc226 rfl rfl rfl rfl (Lw.m v0_4 rfl (Lw.want' hc226 rfl rfl rfl rfl ?_))
      obtain ⟨z227, e228, hm⟩ := ob hm
      refine Lw.t rfl (T.call rfl (p15 (K := [2])  ((o18.up l207 rfl).up l218 rfl).rd e228)) ?_
      rintro _ _ ⟨W229, rfl, l229, rfl⟩
      refine Lw.want' hc226 rfl rfl rfl rfl (Lw.r rfl (R.not rfl) (Lw.p hc226 (vB (!z227)) rfl (Lw.nil (⟨?_, ⟨(!z227), W229, rfl, (l207.trans (l218.trans l229)), rfl, hm⟩⟩))))
      iterate 21 (refine Agree.up rfl ?_)
      exact Agree.refl _

theorem p10 {W : CW} {K : List Nat} {x0 : List Byte} {v0_ : Value} {r : Bool} (h0 : Rd W K [v0_] x0) (hm : Vm.laws_FnMemoText x0 = some r) : CallR Try.prog 10 [v0_].toArray W.w (Res W [] fun W' v => v = vB r) :=
 (c10 (V := W.view K []) (h0.view _) hm).ad (fk 0) fun _ _ e => e

end Go.Sx
