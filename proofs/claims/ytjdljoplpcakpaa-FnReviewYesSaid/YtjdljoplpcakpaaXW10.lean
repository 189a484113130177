/- Walks: each function answers as its model, printed by a program of ours. Conditions: the arguments read as they are given. -/
import Derived.Test.YtjdljoplpcakpaaXTs
import Derived.Test.YtjdljoplpcakpaaXMd
import Derived.Test.YtjdljoplpcakpaaXW1
import Derived.Test.YtjdljoplpcakpaaXW3
import Derived.Test.YtjdljoplpcakpaaXW8
import Derived.Test.YtjdljoplpcakpaaXW9
namespace Go.Sx
open Go Go.Proofs Go.Vm Rp
set_option linter.unusedVariables false
set_option linter.unusedSimpArgs false

theorem c36 {V : CW} {x0 : List Str} {v0_ : Value} {x1 : List Str} {v1_ : Value} {x2 : List Str} {v2_ : Value} {r : Int} (h0 : Rd V [0] [v0_] x0) (h1 : Rd V [0] [v1_] x1) (h2 : Rd V [0] [v2_] x2) (hm : Vm.impl_MergeClash x0 x1 x2 = some r) : CallR Try.prog 36 [v0_, v1_, v2_].toArray V.w (Res V LL fun Wf v => v = vI r) := by
 unfold Vm.impl_MergeClash at hm
 obtain ⟨W0, hW0⟩ : ∃ W, W = V := ⟨V, rfl⟩
 subst hW0
 refine CallR.of Try.func36 rfl rfl rfl rfl (Cw.seq (Cw.region (Lw.g (vI 0) rfl (Lw.nil (Cw.seq (Cw.seq (Cw.region (Lw.m v0_ rfl (Lw.m v1_ rfl (Lw.m v2_ rfl ?_))))))))))
 obtain ⟨z1, e2, hm⟩ := ob hm
 refine Lw.t rfl (T.call rfl (p54 (K := [0])  h0 h1 h2 e2)) ?_
 rintro _ _ ⟨W3, rfl, l3, rfl⟩
 have a4 := l3.o
 refine Lw.r rfl (R.not rfl) (Lw.nil (Cw.cond (b := (!z1)) rfl (fun hc5 => ?_) (fun hc5 => ?_)))
 ·replace hm := bt hm hc5
  refine Cw.seq (Cw.region (Lw.g (vI (-1)) rfl (Lw.nil ?_)))
  cases hm
  exact Cw.ret (ret1 rfl (Res.mk a4 rfl))
 ·replace hm := bf hm hc5
  refine Cw.skip (Cw.seq (Cw.region (Lw.g (vI 0) rfl (Lw.nil (Cw.seq (Cw.seq (Cw.region (Lw.m v0_ rfl (Lw.m v1_ rfl (Lw.m v2_ rfl ?_))))))))))
  obtain ⟨z9, e10, hm⟩ := ob hm
  refine Lw.t rfl (T.call rfl (p69 (K := [0]) (k0 := 2) (h0.ul a4) (h1.ul a4) (h2.ul a4) e10)) ?_
  rintro v0_11 _ ⟨W11, rfl, l11, ⟨_, rfl, f11_0⟩⟩
  have a12 := a4.n l11
  refine Lw.ln z9 f11_0.rd rfl (Lw.m (vI 0) rfl (Lw.nil (Cw.block ?_)))
  obtain ⟨K17, hK17, hm⟩ := jn_e hm
  refine Cw.loop 20 28 [7, 9, 20] (fun m l w => ∃ (y13 : Int) (y15 : Int) (j14 : Value) (W16 : CW), W16.w = w ∧ Le [3] W11 W16 ∧ l = [vI y13, j14, vI y15] ∧ Vm.impl_MergeClash_l1 z9 K17 m y13 y15 = some r) (((z9.length : Int) - 0).toNat + 1) ⟨0, 0, undef, W11, rfl, Le.refl _ _, rfl, hm⟩ ?_
  rintro m18 _ _ σ ⟨y13, y15, j14, W16, rfl, l16, rfl, hm⟩
  obtain _ | m18 := m18
  ·cases hm
  unfold Vm.impl_MergeClash_l1 at hm
  have a19 := a12.t l16 rfl
  refine Cw.seq (Cw.region (Lw.lt rfl (Lw.nil (Cw.seq (Cw.cond (b := decide ((y15 : Int) < ((z9.length : Int) : Int))) rfl (fun hc21 => ?_) (fun hc21 => ?_))))))
  ·replace hm := bt hm hc21
   refine Cw.skip ?_
   obtain ⟨K25, hK25, hm⟩ := jn_e hm
   refine Cw.join 22 27 [7, 9] (fun l w => ∃ (y22 : Int) (j23 : Value) (W24 : CW), W24.w = w ∧ Le [3] W16 W24 ∧ l = [vI y22, j23] ∧ K25 y22 = some r) ?_ ?_
   ·rintro _ _ σ ⟨y22, j23, W24, rfl, l24, rfl, hm⟩
    rw [hK25] at hm
    refine Cw.region (Lw.add rfl (Lw.m (vI (w64 (y15 + 1))) rfl (Lw.nil (⟨?_, m18, Nat.lt_succ_self m18, ⟨y22, w64 (y15 + 1), j23, W24, rfl, (l16.trans l24), rfl, hm⟩⟩))))
    iterate 2 (refine Agree.up rfl ?_)
    iterate 2 (refine Agree.up rfl ?_)
    refine Agree.ov0 rfl ?_
    iterate 1 (refine Agree.up rfl ?_)
    iterate 3 (refine Agree.up rfl ?_)
    exact Agree.base
   ·refine Cw.block (Cw.seq (Cw.region ?_))
    obtain ⟨u28, e29, hm⟩ := ob hm
    refine Lw.r rfl (R.ix (α := Part) (f11_0.up l16 rfl).rd e29 rfl rfl rfl) ?_
    obtain ⟨x30, c31, _, r32⟩ := ((f11_0.up l16 rfl).rd.at_ e29).cells
    obtain ⟨v33, v35, v37, v39, rfl, r34, r36, r38, r40⟩ := Part.split r32
    refine Lw.r rfl (R.lda c31 rfl rfl) (Lw.t rfl (T.alloc 3 (cs := [vB false, .slice none 0 0, .slice none 0 0, .slice none 0 0, .slice none 0 0]) rfl) ?_)
    rintro _ _ ⟨g41, W41, rfl, rfl, l41, b41⟩
    refine Lw.u (T.sta (vs := [vB u28.Clash, v33, v35, v37, v39]) b41 rfl rfl (oc_cons rfl (oc_cons r34.oc (oc_cons r36.oc (oc_cons r38.oc (oc_cons r40.oc oc_nil))))) rfl rfl) ?_
    rintro _ _ ⟨W44, rfl, l44, b44⟩
    refine Lw.nil (Cw.seq (Cw.region (Lw.fa rfl (Lw.r rfl (R.ld (v := vB u28.Clash) rfl rfl (b44.cell rfl)) (Lw.nil (Cw.cond (b := u28.Clash) rfl (fun hc47 => ?_) (fun hc47 => ?_)))))))
    ·replace hm := bt hm hc47
     refine Cw.region (Lw.m (vI y13) rfl (Lw.add rfl (Lw.g (vI (w64 (y13 + 1))) rfl (Lw.nil (⟨?_, ⟨w64 (y13 + 1), ptr (bx g41), W44, rfl, ((l41.sub rfl).trans l44), rfl, hm⟩⟩)))))
     iterate 8 (refine Agree.up rfl ?_)
     exact Agree.refl _
    ·replace hm := bf hm hc47
     refine Cw.skip (⟨?_, ⟨y13, ptr (bx g41), W44, rfl, ((l41.sub rfl).trans l44), rfl, hm⟩⟩)
     iterate 5 (refine Agree.up rfl ?_)
     exact Agree.refl _
  ·replace hm := bf hm hc21
   refine Cw.exit ?_
   rw [hK17] at hm
   refine Cw.seq (Cw.region (Lw.m (vI y13) rfl (Lw.g (vI y13) rfl (Lw.nil ?_))))
   cases hm
   exact Cw.ret (ret1 rfl (Res.mk a19 rfl))

theorem p36 {W : CW} {K : List Nat} {x0 : List Str} {v0_ : Value} {x1 : List Str} {v1_ : Value} {x2 : List Str} {v2_ : Value} {r : Int} (h0 : Rd W K [v0_] x0) (h1 : Rd W K [v1_] x1) (h2 : Rd W K [v2_] x2) (hm : Vm.impl_MergeClash x0 x1 x2 = some r) : CallR Try.prog 36 [v0_, v1_, v2_].toArray W.w (Res W [] fun W' v => v = vI r) :=
 (c36 (V := W.view K []) (h0.view _) (h1.view _) (h2.view _) hm).ad (fk 0) fun _ _ e => e

theorem c73 {V : CW} {x0 : Vm.Part} {v0_1_ : Value} {v0_2_ : Value} {v0_3_ : Value} {v0_4_ : Value} {x1 : List Vm.Memo} {g1_ : Nat} {v1_ : Value} {r : (List Str) × Bool} (h0 : Rd V [0] [vB x0.Clash, v0_1_, v0_2_, v0_3_, v0_4_] x0) (hB1 : Bx V 2 g1_ [v1_]) (h1 : Rd V [0] [v1_] x1) (hm : Vm.impl_MemoText_c1 x0 x1 = some r) : CallR Try.prog 73 [.agg [vB x0.Clash, v0_1_, v0_2_, v0_3_, v0_4_].toArray, ptr (bx g1_)].toArray V.w (Res V LL fun Wf v => ∃ (u0 : Value), v = .tuple [u0, vB r.2].toArray ∧ Rd Wf [0] [u0] r.1 ∧ Bx Wf 2 g1_ [v1_]) := by
 unfold Vm.impl_MemoText_c1 at hm
 obtain ⟨w0_0, w0_1, w0_2, w0_3, he0, h0_1, h0_2, h0_3, h0_4⟩ := Part.split h0
 simp only [List.cons.injEq, and_true, true_and] at he0
 obtain ⟨rfl, rfl, rfl, rfl⟩ := he0
 obtain ⟨W0, hW0⟩ : ∃ W, W = V := ⟨V, rfl⟩
 subst hW0
 refine CallR.of Try.func73 rfl rfl rfl rfl (Cw.seq (Cw.region (Lw.t rfl (T.box 3 (v := .agg [vB x0.Clash, v0_1_, v0_2_, v0_3_, v0_4_].toArray) (cs := [vB x0.Clash, v0_1_, v0_2_, v0_3_, v0_4_]) rfl rfl) ?_)))
 rintro _ _ ⟨g1, W1, rfl, rfl, l1, b1⟩
 have a2 := l1.o
 have b3 := hB1.up l1 rfl
 refine Lw.g (.slice none 0 0) rfl (Lw.g (vB false) rfl (Lw.nil (Cw.seq (Cw.region (Lw.r rfl (R.ld (v := v1_) rfl rfl (b3.cell0 rfl)) (Lw.r rfl (R.lda (cs := [vB x0.Clash, v0_1_, v0_2_, v0_3_, v0_4_]) b1.cells rfl rfl) ?_))))))
 obtain ⟨z9, e10, hm⟩ := ob hm
 refine Lw.t rfl (T.call rfl (p70 (K := [0])  (h1.ul a2) (Part.rd (K := [0]) x0.Clash x0.Lines x0.Old x0.One x0.Two (h0_1.ul a2) (h0_2.ul a2) (h0_3.ul a2) (h0_4.ul a2)) e10)) ?_
 rintro _ _ ⟨W11, rfl, l11, ⟨v0_11, rfl, f11_0⟩⟩
 have s12 := f11_0.sub (M := [0]) rfl
 have a13 := a2.n l11
 refine Lw.r rfl (R.ext (vs := [v0_11, vB z9.2]) (v := v0_11) rfl rfl) (Lw.r rfl (R.ext (vs := [v0_11, vB z9.2]) (v := vB z9.2) rfl rfl) (Lw.g v0_11 rfl (Lw.g (vB z9.2) rfl (Lw.nil ?_))))
 cases hm
 exact Cw.ret (ret2 rfl rfl (Res.mk a13 ⟨v0_11, rfl, s12, (b3.up l11 rfl)⟩))

theorem p73 {W : CW} {K : List Nat} {x0 : Vm.Part} {v0_1_ : Value} {v0_2_ : Value} {v0_3_ : Value} {v0_4_ : Value} {x1 : List Vm.Memo} {g1_ : Nat} {v1_ : Value} {c0 : Nat} {r : (List Str) × Bool} (h0 : Rd W K [vB x0.Clash, v0_1_, v0_2_, v0_3_, v0_4_] x0) (hB1 : Bx W c0 g1_ [v1_]) (h1 : Rd W K [v1_] x1) (hJ : okJ K [c0] = true) (hm : Vm.impl_MemoText_c1 x0 x1 = some r) : CallR Try.prog 73 [.agg [vB x0.Clash, v0_1_, v0_2_, v0_3_, v0_4_].toArray, ptr (bx g1_)].toArray W.w (Res W [c0] fun W' v => ∃ (u0 : Value), v = .tuple [u0, vB r.2].toArray ∧ Rd W' (0 :: K) [u0] r.1 ∧ Bx W' c0 g1_ [v1_]) :=
 CallR.adJ (J := [c0]) (fun c => bif Nat.beq c 0 then 0 else bif Nat.beq c 2 then c0 else 0) (c73 (V := W.view K [c0]) (h0.view _) (hB1.viewJ 0 hJ) (h1.view _) hm) fun _ _ ⟨u0, e, f0, f1⟩ => ⟨u0, e, f0.back rfl, Bx.backJ 0 f1 rfl⟩

theorem c72_73 {V : CW} {x0 : List Str} {v0_ : Value} {x1 : List Str} {v1_ : Value} {x2 : List Str} {v2_ : Value} {x4 : List Vm.Memo} {g4_ : Nat} {v4_ : Value} {r : (List Str) × Bool} (h0 : Rd V [0] [v0_] x0) (h1 : Rd V [0] [v1_] x1) (h2 : Rd V [0] [v2_] x2) (hB4 : Bx V 2 g4_ [v4_]) (h4 : Rd V [0] [v4_] x4) (hm : Vm.impl_merged_at73 x0 x1 x2 x4 = some r) : CallR Try.prog 72 [v0_, v1_, v2_, .func (.func 73) #[] [ptr (bx g4_)].toArray].toArray V.w (Res V LL fun Wf v => ∃ (u0 : Value), v = .tuple [u0, vB r.2].toArray ∧ OwS Wf [31] [] [u0] r.1 ∧ Bx Wf 2 g4_ [v4_]) := by
 unfold Vm.impl_merged_at73 at hm
 obtain ⟨W0, hW0⟩ : ∃ W, W = V := ⟨V, rfl⟩
 subst hW0
 refine CallR.of Try.func72 rfl rfl rfl rfl (Cw.seq (Cw.region (Lw.g (.slice none 0 0) rfl (Lw.g (vB false) rfl (Lw.nil (Cw.seq (Cw.seq (Cw.region (Lw.m v0_ rfl (Lw.m v1_ rfl (Lw.m v2_ rfl ?_)))))))))))
 obtain ⟨z1, e2, hm⟩ := ob hm
 refine Lw.t rfl (T.call rfl (p54 (K := [0])  h0 h1 h2 e2)) ?_
 rintro _ _ ⟨W3, rfl, l3, rfl⟩
 have a4 := l3.o
 have b5 := hB4.up l3 rfl
 refine Lw.r rfl (R.not rfl) (Lw.nil (Cw.cond (b := (!z1)) rfl (fun hc6 => ?_) (fun hc6 => ?_)))
 ·replace hm := bt hm hc6
  refine Cw.seq (Cw.region (Lw.g (.slice none 0 0) rfl (Lw.g (vB false) rfl (Lw.nil ?_))))
  cases hm
  exact Cw.ret (ret2 rfl rfl (Res.mk a4 ⟨.slice none 0 0, rfl, (owsN []).sub rfl rfl, b5⟩))
 ·replace hm := bf hm hc6
  refine Cw.skip (Cw.seq (Cw.region (Lw.g (.slice none 0 0) rfl (Lw.nil (Cw.seq (Cw.seq (Cw.region (Lw.m v0_ rfl (Lw.m v1_ rfl (Lw.m v2_ rfl ?_))))))))))
  obtain ⟨z10, e11, hm⟩ := ob hm
  refine Lw.t rfl (T.call rfl (p69 (K := [0]) (k0 := 3) (h0.ul a4) (h1.ul a4) (h2.ul a4) e11)) ?_
  rintro v0_12 _ ⟨W12, rfl, l12, ⟨_, rfl, f12_0⟩⟩
  have a13 := a4.n l12
  refine Lw.ln z10 f12_0.rd rfl (Lw.m (vI 0) rfl (Lw.nil (Cw.block ?_)))
  obtain ⟨W15, ew15, l15, dj15⟩ := dyeE _ 3
  rw [← ew15]
  have s16 : Rd (α := List Vm.Part) W15 [0] [v0_12] z10 := by rw [dj15]; exact (f12_0.rd.dye 3).sub (M := [0]) rfl
  have a17 := a13.t l15 rfl
  obtain ⟨K33, hK33, hm⟩ := jn_e hm
  refine Cw.loop 26 46 [8, 9, 10, 12, 13, 14, 15, 26] (fun m l w => ∃ (y19 : List Str) (y22 : Bool) (y23 : List Str) (y30 : Int) (v20 v24 j26 j27 j28 j29 : Value) (W32 : CW), W32.w = w ∧ Le [2, 7, 8] W15 W32 ∧ l = [v20, vB y22, v24, j26, j27, j28, j29, vI y30] ∧ Ow W32 6 [] [v20] y19 ∧ Ow W32 7 [] [v24] y23 ∧ Bx W32 2 g4_ [v4_] ∧ Vm.impl_merged_at73_l1 x4 z10 K33 m y19 y22 y23 y30 = some r) (((z10.length : Int) - 0).toNat + 1) ⟨([] : List Str), false, ([] : List Str), 0, .slice none 0 0, .slice none 0 0, undef, undef, undef, undef, W15, rfl, Le.refl _ _, rfl, owN 6 [], owN 7 [], ((b5.up l12 rfl).up l15 rfl), hm⟩ ?_
  rintro m34 _ _ σ ⟨y19, y22, y23, y30, v20, v24, j26, j27, j28, j29, W32, rfl, l32, rfl, o21, o25, b31, hm⟩
  obtain _ | m34 := m34
  ·cases hm
  unfold Vm.impl_merged_at73_l1 at hm
  have a35 := l32.s rfl
  refine Cw.seq (Cw.region (Lw.lt rfl (Lw.nil (Cw.seq (Cw.cond (b := decide ((y30 : Int) < ((z10.length : Int) : Int))) rfl (fun hc36 => ?_) (fun hc36 => ?_))))))
  ·replace hm := bt hm hc36
   refine Cw.skip (Cw.seq (Cw.block (Cw.seq (Cw.region ?_))))
   obtain ⟨u37, e38, hm⟩ := ob hm
   refine Lw.r rfl (R.ix (α := Part) (s16.ul a35) e38 rfl rfl rfl) ?_
   obtain ⟨x40, c41, _, r42⟩ := ((s16.ul a35).at_ e38).cells
   obtain ⟨v43, v45, v47, v49, rfl, r44, r46, r48, r50⟩ := Part.split r42
   refine Lw.r rfl (R.lda c41 rfl rfl) (Lw.t rfl (T.alloc 8 (cs := [vB false, .slice none 0 0, .slice none 0 0, .slice none 0 0, .slice none 0 0]) rfl) ?_)
   rintro _ _ ⟨g51, W51, rfl, rfl, l51, b51⟩
   have a52 := l51.o
   refine Lw.u (T.sta (vs := [vB u37.Clash, v43, v45, v47, v49]) b51 rfl rfl (oc_cons rfl (oc_cons r44.oc (oc_cons r46.oc (oc_cons r48.oc (oc_cons r50.oc oc_nil))))) rfl rfl) ?_
   rintro _ _ ⟨W56, rfl, l56, b56⟩
   have a57 := l56.s rfl
   have o58 := (o21.up l51 rfl).up l56 rfl
   have b60 := (b31.up l51 rfl).up l56 rfl
   refine Lw.nil (Cw.seq (Cw.region (Lw.fa rfl (Lw.r rfl (R.ld (v := v43) rfl rfl (b56.cell rfl)) (Lw.g v43 rfl (Lw.nil ?_))))))
   obtain ⟨K72, hK72, hm⟩ := jn_e hm
   refine Cw.join 32 42 [8, 9, 13, 14, 15] (fun l w => ∃ (y61 : List Str) (y64 : Bool) (y65 : List Str) (v62 v66 j68 j69 : Value) (W71 : CW), W71.w = w ∧ Le [2] W56 W71 ∧ l = [v62, vB y64, v66, j68, j69] ∧ Ow W71 6 [] [v62] y61 ∧ Rd W71 [0] [v66] y65 ∧ Bx W71 2 g4_ [v4_] ∧ K72 y61 y64 y65 = some r) ?_ ?_
   ·rintro _ _ σ ⟨y61, y64, y65, v62, v66, j68, j69, W71, rfl, l71, rfl, o63, r67, b70, hm⟩
    rw [hK72] at hm
    refine Cw.region (Lw.m v24 rfl (Lw.m v66 rfl ?_))
    obtain ⟨q76, e77, hm⟩ := ob hm
    refine Lw.t rfl (T.appP (α := Str) (((o25.up l51 rfl).up l56 rfl).up l71 rfl) r67 rfl rfl e77) ?_
    rintro v78 _ ⟨W78, rfl, l78, o78⟩
    refine Lw.g v78 rfl (Lw.nil (Cw.region (Lw.add rfl (Lw.m (vI (w64 (y30 + 1))) rfl (Lw.nil (⟨?_, m34, Nat.lt_succ_self m34, ⟨y61, y64, q76, w64 (y30 + 1), v62, v78, ptr (bx g51), v66, j68, j69, W78, rfl, (l32.trans ((l51.sub rfl).trans ((l56.sub rfl).trans ((l71.sub rfl).trans (l78.sub rfl))))), rfl, (o63.up l78 rfl), o78, (b70.up l78 rfl), hm⟩⟩))))))
    iterate 6 (refine Agree.up rfl ?_)
    iterate 5 (refine Agree.up rfl ?_)
    refine Agree.ov0 rfl ?_
    iterate 7 (refine Agree.up rfl ?_)
    iterate 8 (refine Agree.up rfl ?_)
    exact Agree.base
   ·refine Cw.seq (Cw.region (Lw.fa rfl (Lw.r rfl (R.ld (v := vB u37.Clash) rfl rfl (b56.cell rfl)) (Lw.nil (Cw.cond (b := u37.Clash) rfl (fun hc83 => ?_) (fun hc83 => ?_))))))
    ·replace hm := bt hm hc83
     refine Cw.seq (Cw.region (Lw.m (.func (.func 73) #[] [ptr (bx g4_)].toArray) rfl (Lw.r rfl (R.lda (cs := [vB u37.Clash, v43, v45, v47, v49]) b56.cells rfl rfl) ?_)))
     obtain ⟨z89, e90, hm⟩ := ob hm
     refine Lw.t rfl (T.callV (vals := [.agg [vB u37.Clash, v43, v45, v47, v49].toArray]) (caps := [ptr (bx g4_)]) rfl rfl (p73 (K := [0])  (c0 := 2) (x1 := x4) (Part.rd (K := [0]) u37.Clash u37.Lines u37.Old u37.One u37.Two (r44.ul (a52.trans a57)) (r46.ul (a52.trans a57)) (r48.ul (a52.trans a57)) (r50.ul (a52.trans a57))) b60 (h4.ul (((a17.trans a35).trans a52).trans a57)) rfl e90)) ?_
     rintro _ _ ⟨W91, rfl, l91, ⟨v0_91, rfl, f91_0, f91_1⟩⟩
     have s92 := f91_0.sub (M := [0]) rfl
     have a93 := (((a17.trans a35).trans a52).trans a57).t l91 rfl
     refine Lw.m (.tuple [v0_91, vB z89.2].toArray) rfl (Lw.r rfl (R.ext (vs := [v0_91, vB z89.2]) (v := v0_91) rfl rfl) (Lw.r rfl (R.ext (vs := [v0_91, vB z89.2]) (v := vB z89.2) rfl rfl) (Lw.g v0_91 rfl (Lw.g (vB z89.2) rfl (Lw.nil (Cw.seq (Cw.seq (Cw.region (Lw.m (vB z89.2) rfl (Lw.r rfl (R.not rfl) (Lw.nil (Cw.cond (b := (!z89.2)) rfl (fun hc97 => ?_) (fun hc97 => ?_)))))))))))))
     ·replace hm := bt hm hc97
      refine Cw.seq (Cw.region (Lw.g (.slice none 0 0) rfl (Lw.g (vB false) rfl (Lw.nil ?_))))
      cases hm
      exact Cw.ret (ret2 rfl rfl (Res.mk a93 ⟨.slice none 0 0, rfl, (owsN []).sub rfl rfl, f91_1⟩))
     ·replace hm := bf hm hc97
      refine Cw.skip (Cw.region (Lw.m v0_91 rfl (Lw.g v0_91 rfl (Lw.nil (⟨?_, ⟨y19, y22, z89.1, v20, v0_91, v0_91, vB z89.2, W91, rfl, l91, rfl, (o58.up l91 rfl), s92, f91_1, hm⟩⟩)))))
      iterate 14 (refine Agree.up rfl ?_)
      exact Agree.refl _
    ·replace hm := bf hm hc83
     refine Cw.skip (⟨?_, ⟨y19, y22, u37.Lines, v20, v43, j28, j29, W56, rfl, Le.refl _ _, rfl, o58, (r44.ul (a52.trans a57)), b60, hm⟩⟩)
     iterate 2 (refine Agree.up rfl ?_)
     exact Agree.refl _
  ·replace hm := bf hm hc36
   refine Cw.exit ?_
   rw [hK33] at hm
   refine Cw.seq (Cw.seq (Cw.region (Lw.m v24 rfl ?_)))
   obtain ⟨z99, e100, hm⟩ := ob hm
   refine Lw.t rfl (T.call rfl (p55 (K := [7])  o25.rd e100)) ?_
   rintro _ _ ⟨W101, rfl, l101, rfl⟩
   have a102 := (a17.trans a35).n l101
   refine Lw.r rfl (R.not rfl) (Lw.nil (Cw.cond (b := (!z99)) rfl (fun hc106 => ?_) (fun hc106 => ?_)))
   ·replace hm := bt hm hc106
    refine Cw.seq (Cw.region (Lw.g (.slice none 0 0) rfl (Lw.g (vB false) rfl (Lw.nil ?_))))
    cases hm
    exact Cw.ret (ret2 rfl rfl (Res.mk a102 ⟨.slice none 0 0, rfl, (owsN []).sub rfl rfl, (b31.up l101 rfl)⟩))
   ·replace hm := bf hm hc106
    refine Cw.skip (Cw.seq (Cw.region (Lw.m v24 rfl (Lw.g v24 rfl (Lw.g (vB true) rfl (Lw.nil ?_))))))
    obtain ⟨W107, ew107, l107, o107⟩ := (o25.up l101 rfl).dyeO 31
    have a108 := a102.t l107 rfl
    cases hm
    rw [← ew107]
    exact Cw.ret (ret2 rfl rfl (Res.mk a108 ⟨v24, rfl, o107.s, ((b31.up l101 rfl).up l107 rfl)⟩))

theorem p72_73 {W : CW} {K : List Nat} {x0 : List Str} {v0_ : Value} {x1 : List Str} {v1_ : Value} {x2 : List Str} {v2_ : Value} {x4 : List Vm.Memo} {g4_ : Nat} {v4_ : Value} {k0 : Nat} {c0 : Nat} {r : (List Str) × Bool} (h0 : Rd W K [v0_] x0) (h1 : Rd W K [v1_] x1) (h2 : Rd W K [v2_] x2) (hB4 : Bx W c0 g4_ [v4_]) (h4 : Rd W K [v4_] x4) (hJ : okJ K [c0] = true) (hm : Vm.impl_merged_at73 x0 x1 x2 x4 = some r) : CallR Try.prog 72 [v0_, v1_, v2_, .func (.func 73) #[] [ptr (bx g4_)].toArray].toArray W.w (Res W [c0] fun W' v => ∃ (u0 : Value), v = .tuple [u0, vB r.2].toArray ∧ Ow W' k0 [] [u0] r.1 ∧ Bx W' c0 g4_ [v4_]) :=
 CallR.adJ (J := [c0]) (fun c => bif Nat.beq c 0 then 0 else bif Nat.beq c 2 then c0 else bif Nat.beq c 31 then k0 else 0) (c72_73 (V := W.view K [c0]) (h0.view _) (h1.view _) (h2.view _) (hB4.viewJ 0 hJ) (h4.view _) hm) fun _ _ ⟨u0, e, f0, f1⟩ => ⟨u0, e, f0.one1.backN rfl, Bx.backJ 0 f1 rfl⟩

theorem c37 {V : CW} {x0 : List Vm.Memo} {v0_ : Value} {x1 : List Str} {v1_ : Value} {x2 : List Str} {v2_ : Value} {x3 : List Str} {v3_ : Value} {r : (List Str) × Bool} (h0 : Rd V [0] [v0_] x0) (h1 : Rd V [0] [v1_] x1) (h2 : Rd V [0] [v2_] x2) (h3 : Rd V [0] [v3_] x3) (hm : Vm.impl_MemoText x0 x1 x2 x3 = some r) : CallR Try.prog 37 [v0_, v1_, v2_, v3_].toArray V.w (Res V LL fun Wf v => ∃ (u0 : Value), v = .tuple [u0, vB r.2].toArray ∧ OwS Wf LL [] [u0] r.1) := by
 unfold Vm.impl_MemoText at hm
 obtain ⟨W0, hW0⟩ : ∃ W, W = V := ⟨V, rfl⟩
 subst hW0
 refine CallR.of Try.func37 rfl rfl rfl rfl (Cw.seq (Cw.region (Lw.t rfl (T.box 2 (v := v0_) (cs := [v0_]) rfl (cells_one h0.oc)) ?_)))
 rintro _ _ ⟨g1, W1, rfl, rfl, l1, b1⟩
 have a2 := l1.o
 refine Lw.g (.slice none 0 0) rfl (Lw.g (vB false) rfl (Lw.nil (Cw.seq (Cw.seq (Cw.region (Lw.r rfl (R.ld (v := v0_) rfl rfl (b1.cell0 rfl)) ?_))))))
 obtain ⟨z4, e5, hm⟩ := ob hm
 refine Lw.t rfl (T.call rfl (p15 (K := [0])  (h0.ul a2) e5)) ?_
 rintro _ _ ⟨W6, rfl, l6, rfl⟩
 have a7 := a2.n l6
 refine Lw.r rfl (R.not rfl) (Lw.nil (Cw.cond (b := (!z4)) rfl (fun hc9 => ?_) (fun hc9 => ?_)))
 ·replace hm := bt hm hc9
  refine Cw.seq (Cw.region (Lw.g (.slice none 0 0) rfl (Lw.g (vB false) rfl (Lw.nil ?_))))
  cases hm
  exact Cw.ret (ret2 rfl rfl (Res.mk a7 ⟨.slice none 0 0, rfl, (owsN []).sub rfl rfl⟩))
 ·replace hm := bf hm hc9
  refine Cw.skip (Cw.seq (Cw.region (Lw.m v1_ rfl (Lw.m v2_ rfl (Lw.m v3_ rfl (Lw.r rfl (R.mkF (vs := [ptr (bx g1)]) rfl) ?_))))))
  obtain ⟨z14, e15, hm⟩ := ob hm
  refine Lw.t rfl (T.call rfl (p72_73 (K := [0]) (k0 := 3) (c0 := 2) (x4 := x0) (h1.ul a7) (h2.ul a7) (h3.ul a7) (b1.up l6 rfl) (h0.ul a7) rfl e15)) ?_
  rintro _ _ ⟨W16, rfl, l16, ⟨v0_16, rfl, f16_0, f16_1⟩⟩
  have a17 := a7.t l16 rfl
  refine Lw.r rfl (R.ext (vs := [v0_16, vB z14.2]) (v := v0_16) rfl rfl) (Lw.r rfl (R.ext (vs := [v0_16, vB z14.2]) (v := vB z14.2) rfl rfl) (Lw.g v0_16 rfl (Lw.g (vB z14.2) rfl (Lw.nil ?_))))
  cases hm
  exact Cw.ret (ret2 rfl rfl (Res.mk a17 ⟨v0_16, rfl, f16_0.s.sub rfl rfl⟩))

theorem p37 {W : CW} {K : List Nat} {x0 : List Vm.Memo} {v0_ : Value} {x1 : List Str} {v1_ : Value} {x2 : List Str} {v2_ : Value} {x3 : List Str} {v3_ : Value} {k0 : Nat} {r : (List Str) × Bool} (h0 : Rd W K [v0_] x0) (h1 : Rd W K [v1_] x1) (h2 : Rd W K [v2_] x2) (h3 : Rd W K [v3_] x3) (hm : Vm.impl_MemoText x0 x1 x2 x3 = some r) : CallR Try.prog 37 [v0_, v1_, v2_, v3_].toArray W.w (Res W [] fun W' v => ∃ (u0 : Value), v = .tuple [u0, vB r.2].toArray ∧ Ow W' k0 [] [u0] r.1) :=
 (c37 (V := W.view K []) (h0.view _) (h1.view _) (h2.view _) (h3.view _) hm).ad (fk k0) fun _ _ ⟨u0, e, f0⟩ => ⟨u0, e, f0.back (fk_LL _)⟩

theorem c74 {V : CW} {x0 : Int} {x1 : Int} {x2 : Int} {r : Bool}  (hm : Vm.impl_within x0 x1 x2 = some r) : CallR Try.prog 74 [vI x0, vI x1, vI x2].toArray V.w (Res V LL fun Wf v => v = vB r) := by
 unfold Vm.impl_within at hm
 obtain ⟨W0, hW0⟩ : ∃ W, W = V := ⟨V, rfl⟩
 subst hW0
 refine CallR.of Try.func74 rfl rfl rfl rfl (Cw.seq (Cw.region (Lw.g (vB false) rfl (Lw.nil ?_))))
 obtain ⟨K3, hK3, hm⟩ := jn_e hm
 refine Cw.join 7 14 [6] (fun l w => ∃ (y1 : Bool) (W2 : CW), W2.w = w ∧ Le [] W0 W2 ∧ l = [vB y1] ∧ K3 y1 = some r) ?_ ?_
 ·rintro _ _ σ ⟨y1, W2, rfl, l2, rfl, hm⟩
  rw [hK3] at hm
  have a4 := l2.o
  cases hm
  exact Cw.ret (ret1 rfl (Res.mk a4 rfl))
 ·refine Cw.region (Lw.m (vI x1) rfl (Lw.m (vI x0) rfl (Lw.le rfl (Lw.m (vB (decide ((x1 : Int) ≤ (x0 : Int)))) rfl (bsplit (decide ((x1 : Int) ≤ (x0 : Int))) (fun hc5 => ?_) (fun hc5 => ?_))))))
  ·replace hm := bt hm hc5
   refine Lw.want' hc5 rfl rfl rfl rfl (Lw.m (vI x0) rfl (Lw.want' hc5 rfl rfl rfl rfl (Lw.m (vI x2) rfl (Lw.want' hc5 rfl rfl rfl rfl (Lw.le rfl (Lw.p hc5 (vB (decide ((x0 : Int) ≤ (x2 : Int)))) rfl (Lw.g (vB (decide ((x0 : Int) ≤ (x2 : Int)))) rfl (Lw.nil (⟨?_, ⟨decide ((x0 : Int) ≤ (x2 : Int)), W0, rfl, Le.refl _ _, rfl, hm⟩⟩)))))))))
   iterate 9 (refine Agree.up rfl ?_)
   exact Agree.refl _
  ·replace hm := bf hm hc5
   refine Lw.pass' hc5 rfl rfl rfl rfl rfl rfl rfl (Lw.pass' hc5 rfl rfl rfl rfl rfl rfl rfl (Lw.pass' hc5 rfl rfl rfl rfl rfl rfl rfl (Lw.p hc5 (vB false) rfl (Lw.g (vB false) rfl (Lw.nil (⟨?_, ⟨false, W0, rfl, Le.refl _ _, rfl, hm⟩⟩))))))
   iterate 9 (refine Agree.up rfl ?_)
   exact Agree.refl _

theorem p74 {W : CW} {K : List Nat} {x0 : Int} {x1 : Int} {x2 : Int} {r : Bool}  (hm : Vm.impl_within x0 x1 x2 = some r) : CallR Try.prog 74 [vI x0, vI x1, vI x2].toArray W.w (Res W [] fun W' v => v = vB r) :=
 (c74 (V := W.view K [])  hm).ad (fk 0) fun _ _ e => e

theorem c75 {V : CW} {x0 : Vm.Part} {v0_1_ : Value} {v0_2_ : Value} {v0_3_ : Value} {v0_4_ : Value} {x1 : Int} {g1_ : Nat} {r : (List Str) × Bool} (h0 : Rd V [0] [vB x0.Clash, v0_1_, v0_2_, v0_3_, v0_4_] x0) (hB1 : Bx V 2 g1_ [vI x1]) (hm : Vm.impl_MergeSide_c1 x0 x1 = some r) : CallR Try.prog 75 [.agg [vB x0.Clash, v0_1_, v0_2_, v0_3_, v0_4_].toArray, ptr (bx g1_)].toArray V.w (Res V LL fun Wf v => ∃ (u0 : Value), v = .tuple [u0, vB r.2].toArray ∧ Rd Wf [0] [u0] r.1 ∧ Bx Wf 2 g1_ [vI x1]) := by
 unfold Vm.impl_MergeSide_c1 at hm
 obtain ⟨w0_0, w0_1, w0_2, w0_3, he0, h0_1, h0_2, h0_3, h0_4⟩ := Part.split h0
 simp only [List.cons.injEq, and_true, true_and] at he0
 obtain ⟨rfl, rfl, rfl, rfl⟩ := he0
 obtain ⟨W0, hW0⟩ : ∃ W, W = V := ⟨V, rfl⟩
 subst hW0
 refine CallR.of Try.func75 rfl rfl rfl rfl (Cw.seq (Cw.region (Lw.t rfl (T.box 3 (v := .agg [vB x0.Clash, v0_1_, v0_2_, v0_3_, v0_4_].toArray) (cs := [vB x0.Clash, v0_1_, v0_2_, v0_3_, v0_4_]) rfl rfl) ?_)))
 rintro _ _ ⟨g1, W1, rfl, rfl, l1, b1⟩
 have a2 := l1.o
 have b3 := hB1.up l1 rfl
 refine Lw.g (.slice none 0 0) rfl (Lw.g (vB false) rfl (Lw.nil (Cw.seq (Cw.region (Lw.fa rfl (Lw.r rfl (R.ld (v := v0_2_) rfl rfl (b1.cell rfl)) (Lw.fa rfl (Lw.r rfl (R.ld (v := v0_3_) rfl rfl (b1.cell rfl)) (Lw.fa rfl (Lw.r rfl (R.ld (v := v0_4_) rfl rfl (b1.cell rfl)) (Lw.t rfl (T.bsS (α := Sh (List Str)) (xs := [x0.Old, x0.One, x0.Two]) 4 [0] (W := W1) [v0_2_, v0_3_, v0_4_] (bsE [[v0_2_], [v0_3_], [v0_4_]] (mapc h0_2.oc (mapc h0_3.oc (mapc h0_4.oc mapn))) (Each.cons ((h0_2.ul a2).sh1) (Each.cons ((h0_3.ul a2).sh1) (Each.cons ((h0_4.ul a2).sh1) Each.nil)))) rfl) ?_)))))))))))
 rintro v7 _ ⟨W7, rfl, l7, o7⟩
 have a8 := a2.n l7
 refine Lw.r rfl (R.ld (v := vI x1) rfl rfl ((b3.up l7 rfl).cell0 rfl)) ?_
 obtain ⟨u11, e12, hm⟩ := ob hm
 have s13 : Rd (α := List (List Str)) W7 [4, 0] [v7] ([x0.Old, x0.One, x0.Two] : List (List Str)) := Ow.rdSh o7
 refine Lw.r rfl (R.ix (α := List Str) s13 e12 rfl rfl rfl) ?_
 obtain ⟨v14, c15, r16⟩ := (s13.at_ e12).cell rfl
 refine Lw.r rfl (R.ld rfl rfl c15) (Lw.g v14 rfl (Lw.g (vB true) rfl (Lw.nil ?_)))
 obtain ⟨W17, ew17, l17, dj17⟩ := dyeE _ 4
 have s18 : Rd W17 [0] [v14] u11 := by rw [dj17]; exact (r16.dye 4).sub (M := [0]) rfl
 have s19 : Rd (α := List (List Str)) W17 [0] [v7] ([x0.Old, x0.One, x0.Two] : List (List Str)) := by rw [dj17]; exact (o7.rd.dye 4).sub (M := [0]) rfl
 have a20 := a8.t l17 rfl
 cases hm
 rw [← ew17]
 exact Cw.ret (ret2 rfl rfl (Res.mk a20 ⟨v14, rfl, s18, ((b3.up l7 rfl).up l17 rfl)⟩))

theorem p75 {W : CW} {K : List Nat} {x0 : Vm.Part} {v0_1_ : Value} {v0_2_ : Value} {v0_3_ : Value} {v0_4_ : Value} {x1 : Int} {g1_ : Nat} {c0 : Nat} {r : (List Str) × Bool} (h0 : Rd W K [vB x0.Clash, v0_1_, v0_2_, v0_3_, v0_4_] x0) (hB1 : Bx W c0 g1_ [vI x1]) (hJ : okJ K [c0] = true) (hm : Vm.impl_MergeSide_c1 x0 x1 = some r) : CallR Try.prog 75 [.agg [vB x0.Clash, v0_1_, v0_2_, v0_3_, v0_4_].toArray, ptr (bx g1_)].toArray W.w (Res W [c0] fun W' v => ∃ (u0 : Value), v = .tuple [u0, vB r.2].toArray ∧ Rd W' (0 :: K) [u0] r.1 ∧ Bx W' c0 g1_ [vI x1]) :=
 CallR.adJ (J := [c0]) (fun c => bif Nat.beq c 0 then 0 else bif Nat.beq c 2 then c0 else 0) (c75 (V := W.view K [c0]) (h0.view _) (hB1.viewJ 0 hJ) hm) fun _ _ ⟨u0, e, f0, f1⟩ => ⟨u0, e, f0.back rfl, Bx.backJ 0 f1 rfl⟩

theorem c72_75 {V : CW} {x0 : List Str} {v0_ : Value} {x1 : List Str} {v1_ : Value} {x2 : List Str} {v2_ : Value} {x4 : Int} {g4_ : Nat} {r : (List Str) × Bool} (h0 : Rd V [0] [v0_] x0) (h1 : Rd V [0] [v1_] x1) (h2 : Rd V [0] [v2_] x2) (hB4 : Bx V 2 g4_ [vI x4]) (hm : Vm.impl_merged_at75 x0 x1 x2 x4 = some r) : CallR Try.prog 72 [v0_, v1_, v2_, .func (.func 75) #[] [ptr (bx g4_)].toArray].toArray V.w (Res V LL fun Wf v => ∃ (u0 : Value), v = .tuple [u0, vB r.2].toArray ∧ OwS Wf [31] [] [u0] r.1 ∧ Bx Wf 2 g4_ [vI x4]) := by
 unfold Vm.impl_merged_at75 at hm
 obtain ⟨W0, hW0⟩ : ∃ W, W = V := ⟨V, rfl⟩
 subst hW0
 refine CallR.of Try.func72 rfl rfl rfl rfl (Cw.seq (Cw.region (Lw.g (.slice none 0 0) rfl (Lw.g (vB false) rfl (Lw.nil (Cw.seq (Cw.seq (Cw.region (Lw.m v0_ rfl (Lw.m v1_ rfl (Lw.m v2_ rfl ?_)))))))))))
 obtain ⟨z1, e2, hm⟩ := ob hm
 refine Lw.t rfl (T.call rfl (p54 (K := [0])  h0 h1 h2 e2)) ?_
 rintro _ _ ⟨W3, rfl, l3, rfl⟩
 have a4 := l3.o
 have b5 := hB4.up l3 rfl
 refine Lw.r rfl (R.not rfl) (Lw.nil (Cw.cond (b := (!z1)) rfl (fun hc6 => ?_) (fun hc6 => ?_)))
 ·replace hm := bt hm hc6
  refine Cw.seq (Cw.region (Lw.g (.slice none 0 0) rfl (Lw.g (vB false) rfl (Lw.nil ?_))))
  cases hm
  exact Cw.ret (ret2 rfl rfl (Res.mk a4 ⟨.slice none 0 0, rfl, (owsN []).sub rfl rfl, b5⟩))
 ·replace hm := bf hm hc6
  refine Cw.skip (Cw.seq (Cw.region (Lw.g (.slice none 0 0) rfl (Lw.nil (Cw.seq (Cw.seq (Cw.region (Lw.m v0_ rfl (Lw.m v1_ rfl (Lw.m v2_ rfl ?_))))))))))
  obtain ⟨z10, e11, hm⟩ := ob hm
  refine Lw.t rfl (T.call rfl (p69 (K := [0]) (k0 := 3) (h0.ul a4) (h1.ul a4) (h2.ul a4) e11)) ?_
  rintro v0_12 _ ⟨W12, rfl, l12, ⟨_, rfl, f12_0⟩⟩
  have a13 := a4.n l12
  refine Lw.ln z10 f12_0.rd rfl (Lw.m (vI 0) rfl (Lw.nil (Cw.block ?_)))
  obtain ⟨W15, ew15, l15, dj15⟩ := dyeE _ 3
  rw [← ew15]
  have s16 : Rd (α := List Vm.Part) W15 [0] [v0_12] z10 := by rw [dj15]; exact (f12_0.rd.dye 3).sub (M := [0]) rfl
  have a17 := a13.t l15 rfl
  obtain ⟨K33, hK33, hm⟩ := jn_e hm
  refine Cw.loop 26 46 [8, 9, 10, 12, 13, 14, 15, 26] (fun m l w => ∃ (y19 : List Str) (y22 : Bool) (y23 : List Str) (y30 : Int) (v20 v24 j26 j27 j28 j29 : Value) (W32 : CW), W32.w = w ∧ Le [2, 7, 8] W15 W32 ∧ l = [v20, vB y22, v24, j26, j27, j28, j29, vI y30] ∧ Ow W32 6 [] [v20] y19 ∧ Ow W32 7 [] [v24] y23 ∧ Bx W32 2 g4_ [vI x4] ∧ Vm.impl_merged_at75_l1 x4 z10 K33 m y19 y22 y23 y30 = some r) (((z10.length : Int) - 0).toNat + 1) ⟨([] : List Str), false, ([] : List Str), 0, .slice none 0 0, .slice none 0 0, undef, undef, undef, undef, W15, rfl, Le.refl _ _, rfl, owN 6 [], owN 7 [], ((b5.up l12 rfl).up l15 rfl), hm⟩ ?_
  rintro m34 _ _ σ ⟨y19, y22, y23, y30, v20, v24, j26, j27, j28, j29, W32, rfl, l32, rfl, o21, o25, b31, hm⟩
  obtain _ | m34 := m34
  ·cases hm
  unfold Vm.impl_merged_at75_l1 at hm
  have a35 := l32.s rfl
  refine Cw.seq (Cw.region (Lw.lt rfl (Lw.nil (Cw.seq (Cw.cond (b := decide ((y30 : Int) < ((z10.length : Int) : Int))) rfl (fun hc36 => ?_) (fun hc36 => ?_))))))
  ·replace hm := bt hm hc36
   refine Cw.skip (Cw.seq (Cw.block (Cw.seq (Cw.region ?_))))
   obtain ⟨u37, e38, hm⟩ := ob hm
   refine Lw.r rfl (R.ix (α := Part) (s16.ul a35) e38 rfl rfl rfl) ?_
   obtain ⟨x40, c41, _, r42⟩ := ((s16.ul a35).at_ e38).cells
   obtain ⟨v43, v45, v47, v49, rfl, r44, r46, r48, r50⟩ := Part.split r42
   refine Lw.r rfl (R.lda c41 rfl rfl) (Lw.t rfl (T.alloc 8 (cs := [vB false, .slice none 0 0, .slice none 0 0, .slice none 0 0, .slice none 0 0]) rfl) ?_)
   rintro _ _ ⟨g51, W51, rfl, rfl, l51, b51⟩
   have a52 := l51.o
   refine Lw.u (T.sta (vs := [vB u37.Clash, v43, v45, v47, v49]) b51 rfl rfl (oc_cons rfl (oc_cons r44.oc (oc_cons r46.oc (oc_cons r48.oc (oc_cons r50.oc oc_nil))))) rfl rfl) ?_
   rintro _ _ ⟨W56, rfl, l56, b56⟩
   have a57 := l56.s rfl
   have o58 := (o21.up l51 rfl).up l56 rfl
   have b60 := (b31.up l51 rfl).up l56 rfl
   refine Lw.nil (Cw.seq (Cw.region (Lw.fa rfl (Lw.r rfl (R.ld (v := v43) rfl rfl (b56.cell rfl)) (Lw.g v43 rfl (Lw.nil ?_))))))
   obtain ⟨K72, hK72, hm⟩ := jn_e hm
   refine Cw.join 32 42 [8, 9, 13, 14, 15] (fun l w => ∃ (y61 : List Str) (y64 : Bool) (y65 : List Str) (v62 v66 j68 j69 : Value) (W71 : CW), W71.w = w ∧ Le [2] W56 W71 ∧ l = [v62, vB y64, v66, j68, j69] ∧ Ow W71 6 [] [v62] y61 ∧ Rd W71 [0] [v66] y65 ∧ Bx W71 2 g4_ [vI x4] ∧ K72 y61 y64 y65 = some r) ?_ ?_
   ·rintro _ _ σ ⟨y61, y64, y65, v62, v66, j68, j69, W71, rfl, l71, rfl, o63, r67, b70, hm⟩
    rw [hK72] at hm
    refine Cw.region (Lw.m v24 rfl (Lw.m v66 rfl ?_))
    obtain ⟨q76, e77, hm⟩ := ob hm
    refine Lw.t rfl (T.appP (α := Str) (((o25.up l51 rfl).up l56 rfl).up l71 rfl) r67 rfl rfl e77) ?_
    rintro v78 _ ⟨W78, rfl, l78, o78⟩
    refine Lw.g v78 rfl (Lw.nil (Cw.region (Lw.add rfl (Lw.m (vI (w64 (y30 + 1))) rfl (Lw.nil (⟨?_, m34, Nat.lt_succ_self m34, ⟨y61, y64, q76, w64 (y30 + 1), v62, v78, ptr (bx g51), v66, j68, j69, W78, rfl, (l32.trans ((l51.sub rfl).trans ((l56.sub rfl).trans ((l71.sub rfl).trans (l78.sub rfl))))), rfl, (o63.up l78 rfl), o78, (b70.up l78 rfl), hm⟩⟩))))))
    iterate 6 (refine Agree.up rfl ?_)
    iterate 5 (refine Agree.up rfl ?_)
    refine Agree.ov0 rfl ?_
    iterate 7 (refine Agree.up rfl ?_)
    iterate 8 (refine Agree.up rfl ?_)
    exact Agree.base
   ·refine Cw.seq (Cw.region (Lw.fa rfl (Lw.r rfl (R.ld (v := vB u37.Clash) rfl rfl (b56.cell rfl)) (Lw.nil (Cw.cond (b := u37.Clash) rfl (fun hc83 => ?_) (fun hc83 => ?_))))))
    ·replace hm := bt hm hc83
     refine Cw.seq (Cw.region (Lw.m (.func (.func 75) #[] [ptr (bx g4_)].toArray) rfl (Lw.r rfl (R.lda (cs := [vB u37.Clash, v43, v45, v47, v49]) b56.cells rfl rfl) ?_)))
     obtain ⟨z88, e89, hm⟩ := ob hm
     refine Lw.t rfl (T.callV (vals := [.agg [vB u37.Clash, v43, v45, v47, v49].toArray]) (caps := [ptr (bx g4_)]) rfl rfl (p75 (K := [0])  (c0 := 2) (x1 := x4) (Part.rd (K := [0]) u37.Clash u37.Lines u37.Old u37.One u37.Two (r44.ul (a52.trans a57)) (r46.ul (a52.trans a57)) (r48.ul (a52.trans a57)) (r50.ul (a52.trans a57))) b60 rfl e89)) ?_
     rintro _ _ ⟨W90, rfl, l90, ⟨v0_90, rfl, f90_0, f90_1⟩⟩
     have s91 := f90_0.sub (M := [0]) rfl
     have a92 := (((a17.trans a35).trans a52).trans a57).t l90 rfl
     refine Lw.m (.tuple [v0_90, vB z88.2].toArray) rfl (Lw.r rfl (R.ext (vs := [v0_90, vB z88.2]) (v := v0_90) rfl rfl) (Lw.r rfl (R.ext (vs := [v0_90, vB z88.2]) (v := vB z88.2) rfl rfl) (Lw.g v0_90 rfl (Lw.g (vB z88.2) rfl (Lw.nil (Cw.seq (Cw.seq (Cw.region (Lw.m (vB z88.2) rfl (Lw.r rfl (R.not rfl) (Lw.nil (Cw.cond (b := (!z88.2)) rfl (fun hc96 => ?_) (fun hc96 => ?_)))))))))))))
     ·replace hm := bt hm hc96
      refine Cw.seq (Cw.region (Lw.g (.slice none 0 0) rfl (Lw.g (vB false) rfl (Lw.nil ?_))))
      cases hm
      exact Cw.ret (ret2 rfl rfl (Res.mk a92 ⟨.slice none 0 0, rfl, (owsN []).sub rfl rfl, f90_1⟩))
     ·replace hm := bf hm hc96
      refine Cw.skip (Cw.region (Lw.m v0_90 rfl (Lw.g v0_90 rfl (Lw.nil (⟨?_, ⟨y19, y22, z88.1, v20, v0_90, v0_90, vB z88.2, W90, rfl, l90, rfl, (o58.up l90 rfl), s91, f90_1, hm⟩⟩)))))
      iterate 14 (refine Agree.up rfl ?_)
      exact Agree.refl _
    ·replace hm := bf hm hc83
     refine Cw.skip (⟨?_, ⟨y19, y22, u37.Lines, v20, v43, j28, j29, W56, rfl, Le.refl _ _, rfl, o58, (r44.ul (a52.trans a57)), b60, hm⟩⟩)
     iterate 2 (refine Agree.up rfl ?_)
     exact Agree.refl _
  ·replace hm := bf hm hc36
   refine Cw.exit ?_
   rw [hK33] at hm
   refine Cw.seq (Cw.seq (Cw.region (Lw.m v24 rfl ?_)))
   obtain ⟨z98, e99, hm⟩ := ob hm
   refine Lw.t rfl (T.call rfl (p55 (K := [7])  o25.rd e99)) ?_
   rintro _ _ ⟨W100, rfl, l100, rfl⟩
   have a101 := (a17.trans a35).n l100
   refine Lw.r rfl (R.not rfl) (Lw.nil (Cw.cond (b := (!z98)) rfl (fun hc105 => ?_) (fun hc105 => ?_)))
   ·replace hm := bt hm hc105
    refine Cw.seq (Cw.region (Lw.g (.slice none 0 0) rfl (Lw.g (vB false) rfl (Lw.nil ?_))))
    cases hm
    exact Cw.ret (ret2 rfl rfl (Res.mk a101 ⟨.slice none 0 0, rfl, (owsN []).sub rfl rfl, (b31.up l100 rfl)⟩))
   ·replace hm := bf hm hc105
    refine Cw.skip (Cw.seq (Cw.region (Lw.m v24 rfl (Lw.g v24 rfl (Lw.g (vB true) rfl (Lw.nil ?_))))))
    obtain ⟨W106, ew106, l106, o106⟩ := (o25.up l100 rfl).dyeO 31
    have a107 := a101.t l106 rfl
    cases hm
    rw [← ew106]
    exact Cw.ret (ret2 rfl rfl (Res.mk a107 ⟨v24, rfl, o106.s, ((b31.up l100 rfl).up l106 rfl)⟩))

theorem p72_75 {W : CW} {K : List Nat} {x0 : List Str} {v0_ : Value} {x1 : List Str} {v1_ : Value} {x2 : List Str} {v2_ : Value} {x4 : Int} {g4_ : Nat} {k0 : Nat} {c0 : Nat} {r : (List Str) × Bool} (h0 : Rd W K [v0_] x0) (h1 : Rd W K [v1_] x1) (h2 : Rd W K [v2_] x2) (hB4 : Bx W c0 g4_ [vI x4]) (hJ : okJ K [c0] = true) (hm : Vm.impl_merged_at75 x0 x1 x2 x4 = some r) : CallR Try.prog 72 [v0_, v1_, v2_, .func (.func 75) #[] [ptr (bx g4_)].toArray].toArray W.w (Res W [c0] fun W' v => ∃ (u0 : Value), v = .tuple [u0, vB r.2].toArray ∧ Ow W' k0 [] [u0] r.1 ∧ Bx W' c0 g4_ [vI x4]) :=
 CallR.adJ (J := [c0]) (fun c => bif Nat.beq c 0 then 0 else bif Nat.beq c 2 then c0 else bif Nat.beq c 31 then k0 else 0) (c72_75 (V := W.view K [c0]) (h0.view _) (h1.view _) (h2.view _) (hB4.viewJ 0 hJ) hm) fun _ _ ⟨u0, e, f0, f1⟩ => ⟨u0, e, f0.one1.backN rfl, Bx.backJ 0 f1 rfl⟩

theorem c38 {V : CW} {x0 : List Str} {v0_ : Value} {x1 : List Str} {v1_ : Value} {x2 : List Str} {v2_ : Value} {x3 : Int} {r : (List Str) × Bool} (h0 : Rd V [0] [v0_] x0) (h1 : Rd V [0] [v1_] x1) (h2 : Rd V [0] [v2_] x2) (hm : Vm.impl_MergeSide x0 x1 x2 x3 = some r) : CallR Try.prog 38 [v0_, v1_, v2_, vI x3].toArray V.w (Res V LL fun Wf v => ∃ (u0 : Value), v = .tuple [u0, vB r.2].toArray ∧ OwS Wf LL [] [u0] r.1) := by
 unfold Vm.impl_MergeSide at hm
 obtain ⟨W0, hW0⟩ : ∃ W, W = V := ⟨V, rfl⟩
 subst hW0
 refine CallR.of Try.func38 rfl rfl rfl rfl (Cw.seq (Cw.region (Lw.t rfl (T.box 2 (v := vI x3) (cs := [vI x3]) rfl rfl) ?_)))
 rintro _ _ ⟨g1, W1, rfl, rfl, l1, b1⟩
 have a2 := l1.o
 refine Lw.g (.slice none 0 0) rfl (Lw.g (vB false) rfl (Lw.nil (Cw.seq (Cw.seq (Cw.region (Lw.r rfl (R.ld (v := vI x3) rfl rfl (b1.cell0 rfl)) ?_))))))
 obtain ⟨z3, e4, hm⟩ := ob hm
 refine Lw.t rfl (T.call rfl (p74 (K := [0])   e4)) ?_
 rintro _ _ ⟨W5, rfl, l5, rfl⟩
 have a6 := a2.n l5
 refine Lw.r rfl (R.not rfl) (Lw.nil (Cw.cond (b := (!z3)) rfl (fun hc8 => ?_) (fun hc8 => ?_)))
 ·replace hm := bt hm hc8
  refine Cw.seq (Cw.region (Lw.g (.slice none 0 0) rfl (Lw.g (vB false) rfl (Lw.nil ?_))))
  cases hm
  exact Cw.ret (ret2 rfl rfl (Res.mk a6 ⟨.slice none 0 0, rfl, (owsN []).sub rfl rfl⟩))
 ·replace hm := bf hm hc8
  refine Cw.skip (Cw.seq (Cw.region (Lw.m v0_ rfl (Lw.m v1_ rfl (Lw.m v2_ rfl (Lw.r rfl (R.mkF (vs := [ptr (bx g1)]) rfl) ?_))))))
  obtain ⟨z12, e13, hm⟩ := ob hm
  refine Lw.t rfl (T.call rfl (p72_75 (K := [0]) (k0 := 3) (c0 := 2) (x4 := x3) (h0.ul a6) (h1.ul a6) (h2.ul a6) (b1.up l5 rfl) rfl e13)) ?_
  rintro _ _ ⟨W14, rfl, l14, ⟨v0_14, rfl, f14_0, f14_1⟩⟩
  have a15 := a6.t l14 rfl
  refine Lw.r rfl (R.ext (vs := [v0_14, vB z12.2]) (v := v0_14) rfl rfl) (Lw.r rfl (R.ext (vs := [v0_14, vB z12.2]) (v := vB z12.2) rfl rfl) (Lw.g v0_14 rfl (Lw.g (vB z12.2) rfl (Lw.nil ?_))))
  cases hm
  exact Cw.ret (ret2 rfl rfl (Res.mk a15 ⟨v0_14, rfl, f14_0.s.sub rfl rfl⟩))

theorem p38 {W : CW} {K : List Nat} {x0 : List Str} {v0_ : Value} {x1 : List Str} {v1_ : Value} {x2 : List Str} {v2_ : Value} {x3 : Int} {k0 : Nat} {r : (List Str) × Bool} (h0 : Rd W K [v0_] x0) (h1 : Rd W K [v1_] x1) (h2 : Rd W K [v2_] x2) (hm : Vm.impl_MergeSide x0 x1 x2 x3 = some r) : CallR Try.prog 38 [v0_, v1_, v2_, vI x3].toArray W.w (Res W [] fun W' v => ∃ (u0 : Value), v = .tuple [u0, vB r.2].toArray ∧ Ow W' k0 [] [u0] r.1) :=
 (c38 (V := W.view K []) (h0.view _) (h1.view _) (h2.view _) hm).ad (fk k0) fun _ _ ⟨u0, e, f0⟩ => ⟨u0, e, f0.back (fk_LL _)⟩

theorem c7 {V : CW} {x0 : List Byte} {v0_ : Value} {r : Bool} (h0 : Rd V [0] [v0_] x0) (hm : Vm.laws_FnMemoDone x0 = some r) : CallR Try.prog 7 [v0_].toArray V.w (Res V LL fun Wf v => v = vB r) := by
 unfold Vm.laws_FnMemoDone at hm
 obtain ⟨W0, hW0⟩ : ∃ W, W = V := ⟨V, rfl⟩
 subst hW0
 refine CallR.of Try.func7 rfl rfl rfl rfl (Cw.seq (Cw.region (Lw.g (vB false) rfl (Lw.nil (Cw.seq (Cw.seq (Cw.region (Lw.m v0_ rfl (Lw.ln x0 h0 rfl (Lw.gt rfl (Lw.nil (Cw.cond (b := decide ((1048576 : Int) < ((x0.length : Int) : Int))) rfl (fun hc1 => ?_) (fun hc1 => ?_)))))))))))))
 ·replace hm := bt hm hc1
  refine Cw.seq (Cw.region (Lw.g (vB true) rfl (Lw.nil ?_)))
  cases hm
  exact Cw.ret (ret1 rfl (Res.mk (Le.refl _ _) rfl))
 ·replace hm := bf hm hc1
  refine Cw.skip (Cw.seq (Cw.region (Lw.m v0_ rfl ?_)))
  obtain ⟨z2, e3, hm⟩ := ob hm
  refine Lw.t rfl (T.call rfl (p32 (K := [0]) (k0 := 2) h0 e3)) ?_
  rintro _ _ ⟨W4, rfl, l4, ⟨v0_4, v1_4, v2_4, rfl, f4_0, f4_1, f4_2⟩⟩
  have s5 := f4_1.sub (M := [0]) rfl
  have s6 := f4_2.sub (M := [0]) rfl
  have a7 := l4.o
  refine Lw.m (.tuple [v0_4, v1_4, v2_4].toArray) rfl (Lw.r rfl (R.ext (vs := [v0_4, v1_4, v2_4]) (v := v0_4) rfl rfl) (Lw.r rfl (R.ext (vs := [v0_4, v1_4, v2_4]) (v := v1_4) rfl rfl) (Lw.r rfl (R.ext (vs := [v0_4, v1_4, v2_4]) (v := v2_4) rfl rfl) (Lw.g v0_4 rfl (Lw.g v1_4 rfl (Lw.g v2_4 rfl (Lw.nil (Cw.seq (Cw.region (Lw.m v0_4 rfl (Lw.m v1_4 rfl (Lw.m v2_4 rfl ?_))))))))))))
  obtain ⟨z8, e9, hm⟩ := ob hm
  refine Lw.t rfl (T.call rfl (p33 (K := [0, 2]) (k0 := 3) (f4_0.rd.sub (M := [0, 2]) rfl) (s5.sub (M := [0, 2]) rfl) (s6.sub (M := [0, 2]) rfl) e9)) ?_
  rintro v0_10 _ ⟨W10, rfl, l10, ⟨_, rfl, f10_0⟩⟩
  have a11 := l10.o
  have o12 := f4_0.up l10 rfl
  refine Lw.g v0_10 rfl (Lw.nil (Cw.seq ?_))
  obtain ⟨K15, hK15, hm⟩ := jn_e hm
  refine Cw.join 28 41 [41] (fun l w => ∃ (y13 : Bool) (W14 : CW), W14.w = w ∧ Le [] W10 W14 ∧ l = [vB y13] ∧ K15 y13 = some r) ?_ ?_
  ·rintro _ _ σ ⟨y13, W14, rfl, l14, rfl, hm⟩
   rw [hK15] at hm
   have a16 := l14.o
   refine Cw.cond (b := y13) rfl (fun hc19 => ?_) (fun hc19 => ?_)
   ·replace hm := bt hm hc19
    refine Cw.seq (Cw.region (Lw.m v0_10 rfl (Lw.m v0_4 rfl (Lw.m v1_4 rfl (Lw.m v2_4 rfl ?_)))))
    obtain ⟨z22, e23, hm⟩ := ob hm
    refine Lw.t rfl (T.call rfl (p35 (K := [0, 2]) (k0 := 4) ((o12.up l14 rfl).rd.sub (M := [0, 2]) rfl) ((s5.ul (a11.trans a16)).sub (M := [0, 2]) rfl) ((s6.ul (a11.trans a16)).sub (M := [0, 2]) rfl) e23)) ?_
    rintro v0_24 _ ⟨W24, rfl, l24, ⟨_, rfl, f24_0⟩⟩
    have a25 := ((a7.trans a11).trans a16).n l24
    obtain ⟨z28, e29, hm⟩ := ob hm
    refine Lw.t rfl (T.call rfl (p34 (K := [3, 4])  (((f10_0.up l14 rfl).up l24 rfl).rd.sub (M := [3, 4]) rfl) (f24_0.rd.sub (M := [3, 4]) rfl) e29)) ?_
    rintro _ _ ⟨W30, rfl, l30, rfl⟩
    have a31 := a25.n l30
    refine Lw.g (vB z28) rfl (Lw.nil ?_)
    cases hm
    exact Cw.ret (ret1 rfl (Res.mk a31 rfl))
   ·replace hm := bf hm hc19
    refine Cw.skip (Cw.seq (Cw.region (Lw.t rfl (T.lit0 (α := Memo) 5 []) ?_)))
    rintro v35 _ ⟨W35, rfl, l35, o35⟩
    have a36 := l35.o
    refine Lw.g v35 rfl (Lw.nil (Cw.seq (Cw.seq (Cw.region (Lw.g (vI 0) rfl (Lw.nil (Cw.block ?_)))))))
    obtain ⟨K47, hK47, hm⟩ := jn_e hm
    refine Cw.loop 49 95 [2, 7, 8, 9, 10] (fun m l w => ∃ (y39 : Bool) (y40 : List Vm.Memo) (y43 : Int) (v41 j44 j45 : Value) (W46 : CW), W46.w = w ∧ Le [6] W35 W46 ∧ l = [vB y39, v41, vI y43, j44, j45] ∧ Ow W46 5 [] [v41] y40 ∧ Vm.laws_FnMemoDone_l1 z8 K47 m y39 y40 y43 = some r) (((z8.length : Int) - 0).toNat + 1) ⟨false, ([] : List Memo), 0, v35, undef, undef, W35, rfl, Le.refl _ _, rfl, o35, hm⟩ ?_
    rintro m48 _ _ σ ⟨y39, y40, y43, v41, j44, j45, W46, rfl, l46, rfl, o42, hm⟩
    obtain _ | m48 := m48
    ·cases hm
    unfold Vm.laws_FnMemoDone_l1 at hm
    have a49 := l46.s rfl
    have o50 := ((o12.up l14 rfl).up l35 rfl).up l46 rfl
    have o51 := ((f10_0.up l14 rfl).up l35 rfl).up l46 rfl
    refine Cw.seq (Cw.seq (Cw.region (Lw.m (vI y43) rfl (Lw.m v0_10 rfl (Lw.ln z8 o51.rd rfl (Lw.lt rfl (Lw.nil (Cw.cond (b := decide ((y43 : Int) < ((z8.length : Int) : Int))) rfl (fun hc52 => ?_) (fun hc52 => ?_)))))))))
    ·replace hm := bt hm hc52
     refine Cw.skip ?_
     obtain ⟨K60, hK60, hm⟩ := jn_e hm
     refine Cw.join 55 95 [2, 7, 9, 10] (fun l w => ∃ (y53 : Bool) (y54 : List Vm.Memo) (v55 j57 j58 : Value) (W59 : CW), W59.w = w ∧ Le [6] W46 W59 ∧ l = [vB y53, v55, j57, j58] ∧ Ow W59 5 [] [v55] y54 ∧ K60 y53 y54 = some r) ?_ ?_
     ·rintro _ _ σ ⟨y53, y54, v55, j57, j58, W59, rfl, l59, rfl, o56, hm⟩
      rw [hK60] at hm
      refine Cw.region (Lw.m (vI y43) rfl (Lw.add rfl (Lw.g (vI (w64 (y43 + 1))) rfl (Lw.nil (⟨?_, m48, Nat.lt_succ_self m48, ⟨y53, y54, w64 (y43 + 1), v55, j57, j58, W59, rfl, (l46.trans l59), rfl, o56, hm⟩⟩)))))
      iterate 3 (refine Agree.up rfl ?_)
      iterate 4 (refine Agree.up rfl ?_)
      refine Agree.ov0 rfl ?_
      iterate 4 (refine Agree.up rfl ?_)
      iterate 5 (refine Agree.up rfl ?_)
      exact Agree.base
     ·refine Cw.block (Cw.seq (Cw.region (Lw.m v0_10 rfl (Lw.m (vI y43) rfl ?_))))
      obtain ⟨u64, e65, hm⟩ := ob hm
      refine Lw.r rfl (R.ix (α := Part) o51.rd e65 rfl rfl rfl) (Lw.fa rfl (Lw.r rfl (R.ld rfl rfl (Part.at0 (o51.rd.at_ e65)).bool) (Lw.nil (Cw.cond (b := u64.Clash) rfl (fun hc66 => ?_) (fun hc66 => ?_)))))
      ·replace hm := bt hm hc66
       refine Cw.seq (Cw.draw [] [(0, 0), (1, 0), (2, 0), (3, 0), (4, 0), (5, 1), (6, 0), (7, 0), (8, 0), (9, 0), (10, 1), (11, 0), (12, 0), (13, 0), (14, 0), (15, 1), (16, 0), (17, 0), (18, 0), (19, 0), (20, 1), (21, 0), (22, 2), (23, 0), (24, 0), (25, 0), (26, 0), (27, 0)] mixed (by kernel_rfl) fun W67 l67 => ?_)
       have a68 := ((((a7.trans a11).trans a16).trans a36).trans a49).n l67
       have o70 := o51.up l67 rfl
       refine Mw.p rfl rfl (fun _ => R.mv (v := v41) rfl) (Mw.p rfl rfl (fun _ => R.mv (v := v0_10) rfl) (Mw.p rfl rfl (fun _ => R.mv (v := vI y43) rfl) ?_))
       obtain ⟨u72, e73, hm⟩ := ob hm
       refine Mw.p rfl rfl (fun _ => R.ix (α := Part) o70.rd e73 rfl rfl rfl) (Mw.p rfl rfl (fun _ => R.fa rfl) ?_)
       obtain ⟨v74, c75, r76⟩ := (Part.at2 (o70.rd.at_ e73)).cell rfl
       refine Mw.q rfl rfl (fun _ c => R.ld rfl rfl (cl_cell (Part.at2 (o70.rd.at_ e73)).1 rfl c75 c)) (Mw.p rfl rfl (fun _ => R.mv (v := v0_10) rfl) (Mw.p rfl rfl (fun _ => R.mv (v := vI y43) rfl) ?_))
       obtain ⟨u77, e78, hm⟩ := ob hm
       refine Mw.p rfl rfl (fun _ => R.ix (α := Part) o70.rd e78 rfl rfl rfl) (Mw.p rfl rfl (fun _ => R.fa rfl) ?_)
       obtain ⟨v79, c80, r81⟩ := (Part.at3 (o70.rd.at_ e78)).cell rfl
       refine Mw.q rfl rfl (fun _ c => R.ld rfl rfl (cl_cell (Part.at3 (o70.rd.at_ e78)).1 rfl c80 c)) (Mw.p rfl rfl (fun _ => R.mv (v := v0_10) rfl) (Mw.p rfl rfl (fun _ => R.mv (v := vI y43) rfl) ?_))
       obtain ⟨u82, e83, hm⟩ := ob hm
       refine Mw.p rfl rfl (fun _ => R.ix (α := Part) o70.rd e83 rfl rfl rfl) (Mw.p rfl rfl (fun _ => R.fa rfl) ?_)
       obtain ⟨v84, c85, r86⟩ := (Part.at4 (o70.rd.at_ e83)).cell rfl
       refine Mw.q rfl rfl (fun _ c => R.ld rfl rfl (cl_cell (Part.at4 (o70.rd.at_ e83)).1 rfl c85 c)) (Mw.p rfl rfl (fun _ => R.mv (v := v0_10) rfl) (Mw.p rfl rfl (fun _ => R.mv (v := vI y43) rfl) ?_))
       obtain ⟨u87, e88, hm⟩ := ob hm
       refine Mw.p rfl rfl (fun _ => R.ix (α := Part) o70.rd e88 rfl rfl rfl) (Mw.p rfl rfl (fun _ => R.fa rfl) ?_)
       obtain ⟨v89, c90, r91⟩ := (Part.at3 (o70.rd.at_ e88)).cell rfl
       refine Mw.q rfl rfl (fun _ c => R.ld rfl rfl (cl_cell (Part.at3 (o70.rd.at_ e88)).1 rfl c90 c)) (Mw.p rfl rfl (fun _ => R.bd (zs := [.slice none 0 0, .slice none 0 0, .slice none 0 0, .slice none 0 0]) (cs := [v74, v79, v84, v89]) [(0, v74), (1, v79), (2, v84), (3, v89)] rfl rfl rfl (bp_cons r76.oc rfl (bp_cons r81.oc rfl (bp_cons r86.oc rfl (bp_cons r91.oc rfl bp_nil))))) ?_)
       obtain ⟨z92, e93, hm⟩ := ob hm
       refine Mw.t rfl rfl (T.call rfl (p18 (K := [3, 5]) (k0 := 6) (x1 := (Vm.Memo.mk u72.Old u77.One u82.Two u87.One)) ((o42.up l67 rfl).rd.sub (M := [3, 5]) rfl) ((Memo.rd (K := [3]) u72.Old u77.One u82.Two u87.One r76 r81 r86 r91).sub (M := [3, 5]) rfl) e93)) ?_
       rintro _ _ ⟨W94, rfl, l94, ⟨v0_94, rfl, f94_0⟩⟩
       have a95 := a68.n l94
       refine ⟨⟨_, rfl, (l94.sub (M := []) rfl)⟩, ?_⟩
       refine Mw.p rfl rfl (fun _ => R.mv (v := .tuple [v0_94, vB z92.2].toArray) rfl) (Mw.p rfl rfl (fun _ => R.ext (vs := [v0_94, vB z92.2]) (v := v0_94) rfl rfl) (Mw.p rfl rfl (fun _ => R.ext (vs := [v0_94, vB z92.2]) (v := vB z92.2) rfl rfl) (Mw.p rfl rfl (fun _ => R.as (v := v0_94) rfl) (Mw.p rfl rfl (fun _ => R.as (v := vB z92.2) rfl) (Mw.nil (Cw.seq ?_))))))
       obtain ⟨K101, hK101, hm⟩ := jn_e hm
       refine Cw.join 86 94 [94] (fun l w => ∃ (y99 : Bool) (W100 : CW), W100.w = w ∧ Le [] W94 W100 ∧ l = [vB y99] ∧ K101 y99 = some r) ?_ ?_
       ·rintro _ _ σ ⟨y99, W100, rfl, l100, rfl, hm⟩
        rw [hK101] at hm
        have a102 := a95.n l100
        refine Cw.cond (b := y99) rfl (fun hc107 => ?_) (fun hc107 => ?_)
        ·replace hm := bt hm hc107
         refine Cw.seq (Cw.region (Lw.g (vB true) rfl (Lw.nil ?_)))
         cases hm
         exact Cw.ret (ret1 rfl (Res.mk a102 rfl))
        ·replace hm := bf hm hc107
         refine Cw.skip (Cw.region (Lw.m v0_94 rfl (Lw.g v0_94 rfl (Lw.nil ?_))))
         obtain ⟨W108, ew108, l108, o108⟩ := (f94_0.up l100 rfl).dyeO 5
         refine ⟨?_, ⟨y39, z92.1, v0_94, v0_94, vB z92.2, W108, ew108, ((l67.sub rfl).trans ((l94.sub rfl).trans ((l100.sub rfl).trans l108))), rfl, o108, hm⟩⟩
         iterate 2 (refine Agree.up rfl ?_)
         iterate 1 (refine Agree.up rfl ?_)
         refine Agree.ov0 rfl ?_
         iterate 33 (refine Agree.up rfl ?_)
         exact Agree.refl _
       ·refine Cw.region (Lw.m (vB z92.2) rfl (Lw.r rfl (R.not rfl) (Lw.m (vB (!z92.2)) rfl (bsplit (!z92.2) (fun hc112 => ?_) (fun hc112 => ?_)))))
        ·replace hm := bt hm hc112
         refine Lw.pass' hc112 rfl rfl rfl rfl rfl rfl rfl (Lw.pass' hc112 rfl rfl rfl rfl rfl rfl rfl (Lw.pass' hc112 rfl rfl rfl rfl rfl rfl rfl (Lw.pass' hc112 rfl rfl rfl rfl rfl rfl rfl (Lw.pass' hc112 rfl rfl rfl rfl rfl rfl rfl (Lw.p hc112 (vB true) rfl (Lw.nil (⟨?_, ⟨true, W94, rfl, Le.refl _ _, rfl, hm⟩⟩)))))))
         iterate 9 (refine Agree.up rfl ?_)
         exact Agree.refl _
        ·replace hm := bf hm hc112
         refine Lw.want' hc112 rfl rfl rfl rfl (Lw.m v0_94 rfl (Lw.want' hc112 rfl rfl rfl rfl (Lw.ln z92.1 f94_0.rd rfl (Lw.want' hc112 rfl rfl rfl rfl (Lw.m v41 rfl (Lw.want' hc112 rfl rfl rfl rfl (Lw.ln y40 ((o42.up l67 rfl).up l94 rfl).rd rfl (Lw.want' hc112 rfl rfl rfl rfl (Lw.eq rfl (Lw.p hc112 (vB (((z92.1.length : Int) : Int) == ((y40.length : Int) : Int))) rfl (Lw.nil (⟨?_, ⟨(((z92.1.length : Int) : Int) == ((y40.length : Int) : Int)), W94, rfl, Le.refl _ _, rfl, hm⟩⟩))))))))))))
         iterate 9 (refine Agree.up rfl ?_)
         exact Agree.refl _
      ·replace hm := bf hm hc66
       refine Cw.skip (⟨?_, ⟨y39, y40, v41, j44, j45, W46, rfl, Le.refl _ _, rfl, o42, hm⟩⟩)
       iterate 5 (refine Agree.up rfl ?_)
       exact Agree.refl _
    ·replace hm := bf hm hc52
     refine Cw.exit ?_
     rw [hK47] at hm
     refine Cw.seq (Cw.region (Lw.m v41 rfl (Lw.m v0_4 rfl (Lw.m v1_4 rfl (Lw.m v2_4 rfl ?_)))))
     obtain ⟨z115, e116, hm⟩ := ob hm
     refine Lw.t rfl (T.call rfl (p37 (K := [0, 2, 5]) (k0 := 7) (o42.rd.sub (M := [0, 2, 5]) rfl) (o50.rd.sub (M := [0, 2, 5]) rfl) ((s5.ul (((a11.trans a16).trans a36).trans a49)).sub (M := [0, 2, 5]) rfl) ((s6.ul (((a11.trans a16).trans a36).trans a49)).sub (M := [0, 2, 5]) rfl) e116)) ?_
     rintro _ _ ⟨W117, rfl, l117, ⟨v0_117, rfl, f117_0⟩⟩
     have a118 := l117.o
     refine Lw.m (.tuple [v0_117, vB z115.2].toArray) rfl (Lw.r rfl (R.ext (vs := [v0_117, vB z115.2]) (v := v0_117) rfl rfl) (Lw.r rfl (R.ext (vs := [v0_117, vB z115.2]) (v := vB z115.2) rfl rfl) (Lw.g v0_117 rfl (Lw.g (vB z115.2) rfl (Lw.nil (Cw.seq (Cw.region (Lw.m v0_4 rfl (Lw.m v1_4 rfl (Lw.m v2_4 rfl ?_))))))))))
     obtain ⟨z124, e125, hm⟩ := ob hm
     refine Lw.t rfl (T.call rfl (p38 (K := [0, 2]) (k0 := 8) ((o50.up l117 rfl).rd.sub (M := [0, 2]) rfl) ((s5.ul ((((a11.trans a16).trans a36).trans a49).trans a118)).sub (M := [0, 2]) rfl) ((s6.ul ((((a11.trans a16).trans a36).trans a49).trans a118)).sub (M := [0, 2]) rfl) e125)) ?_
     rintro _ _ ⟨W126, rfl, l126, ⟨v0_126, rfl, f126_0⟩⟩
     have a127 := (((((a7.trans a11).trans a16).trans a36).trans a49).trans a118).n l126
     refine Lw.m (.tuple [v0_126, vB z124.2].toArray) rfl (Lw.r rfl (R.ext (vs := [v0_126, vB z124.2]) (v := v0_126) rfl rfl) (Lw.r rfl (R.ext (vs := [v0_126, vB z124.2]) (v := vB z124.2) rfl rfl) (Lw.g v0_126 rfl (Lw.g (vB z124.2) rfl (Lw.nil ?_)))))
     obtain ⟨K134, hK134, hm⟩ := jn_e hm
     refine Cw.join 111 118 [2] (fun l w => ∃ (y132 : Bool) (W133 : CW), W133.w = w ∧ Le [] W126 W133 ∧ l = [vB y132] ∧ K134 y132 = some r) ?_ ?_
     ·rintro _ _ σ ⟨y132, W133, rfl, l133, rfl, hm⟩
      rw [hK134] at hm
      have a135 := a127.n l133
      cases hm
      exact Cw.ret (ret1 rfl (Res.mk a135 rfl))
     ·refine Cw.region (Lw.m (vB z115.2) rfl (Lw.m (vB z124.2) rfl (Lw.r rfl (R.beq rfl rfl) (Lw.m (vB (z115.2 == z124.2)) rfl (bsplit (z115.2 == z124.2) (fun hc141 => ?_) (fun hc141 => ?_))))))
      ·replace hm := bt hm hc141
       refine Lw.want' hc141 rfl rfl rfl rfl (Lw.m v0_117 rfl (Lw.want' hc141 rfl rfl rfl rfl (Lw.m v0_126 rfl (Lw.want' hc141 rfl rfl rfl rfl ?_))))
       obtain ⟨z142, e143, hm⟩ := ob hm
       refine Lw.t rfl (T.call rfl (p39 (K := [7, 8])  ((f117_0.up l126 rfl).rd.sub (M := [7, 8]) rfl) (f126_0.rd.sub (M := [7, 8]) rfl) e143)) ?_
       rintro _ _ ⟨W144, rfl, l144, rfl⟩
       refine Lw.p hc141 (vB z142) rfl (Lw.g (vB z142) rfl (Lw.nil (⟨?_, ⟨z142, W144, rfl, l144, rfl, hm⟩⟩)))
       iterate 9 (refine Agree.up rfl ?_)
       exact Agree.refl _
      ·replace hm := bf hm hc141
       refine Lw.pass' hc141 rfl rfl rfl rfl rfl rfl rfl (Lw.pass' hc141 rfl rfl rfl rfl rfl rfl rfl (Lw.pass' hc141 rfl rfl rfl rfl rfl rfl rfl (Lw.p hc141 (vB false) rfl (Lw.g (vB false) rfl (Lw.nil (⟨?_, ⟨false, W126, rfl, Le.refl _ _, rfl, hm⟩⟩))))))
       iterate 9 (refine Agree.up rfl ?_)
       exact Agree.refl _
  ·refine Cw.region (Lw.m v0_10 rfl (Lw.m v0_4 rfl (Lw.m v1_4 rfl (Lw.m v2_4 rfl ?_))))
   obtain ⟨z153, e154, hm⟩ := ob hm
   refine Lw.t rfl (T.call rfl (p35 (K := [0, 2]) (k0 := 9) (o12.rd.sub (M := [0, 2]) rfl) ((s5.ul a11).sub (M := [0, 2]) rfl) ((s6.ul a11).sub (M := [0, 2]) rfl) e154)) ?_
   rintro v0_155 _ ⟨W155, rfl, l155, ⟨_, rfl, f155_0⟩⟩
   have a156 := a11.n l155
   obtain ⟨z159, e160, hm⟩ := ob hm
   refine Lw.t rfl (T.call rfl (p34 (K := [3, 9])  ((f10_0.up l155 rfl).rd.sub (M := [3, 9]) rfl) (f155_0.rd.sub (M := [3, 9]) rfl) e160)) ?_
   rintro _ _ ⟨W161, rfl, l161, rfl⟩
   have a162 := a156.n l161
   refine Lw.r rfl (R.not rfl) (Lw.m (vB (!z159)) rfl (bsplit (!z159) (fun hc166 => ?_) (fun hc166 => ?_)))
   ·replace hm := bt hm hc166
    refine Lw.pass' hc166 rfl rfl rfl rfl rfl rfl rfl (Lw.pass' hc166 rfl rfl rfl rfl rfl rfl rfl (Lw.pass' hc166 rfl rfl rfl rfl rfl rfl rfl (Lw.pass' hc166 rfl rfl rfl rfl rfl rfl rfl (Lw.pass' hc166 rfl rfl rfl rfl rfl rfl rfl (Lw.p hc166 (vB true) rfl (Lw.nil (⟨?_, ⟨true, W161, rfl, (l155.trans l161), rfl, hm⟩⟩)))))))
    iterate 14 (refine Agree.up rfl ?_)
    exact Agree.refl _
   ·replace hm := bf hm hc166
    refine Lw.want' hc166 rfl rfl rfl rfl (Lw.m v0_4 rfl (Lw.want' hc166 rfl rfl rfl rfl (Lw.m v1_4 rfl (Lw.want' hc166 rfl rfl rfl rfl (Lw.m v2_4 rfl (Lw.want' hc166 rfl rfl rfl rfl ?_))))))
    obtain ⟨z169, e170, hm⟩ := ob hm
    refine Lw.t rfl (T.call rfl (p36 (K := [0, 2])  (((o12.up l155 rfl).up l161 rfl).rd.sub (M := [0, 2]) rfl) ((s5.ul a162).sub (M := [0, 2]) rfl) ((s6.ul a162).sub (M := [0, 2]) rfl) e170)) ?_
    rintro _ _ ⟨W171, rfl, l171, rfl⟩
    refine Lw.want' hc166 rfl rfl rfl rfl (Lw.lt rfl (Lw.p hc166 (vB (decide ((z169 : Int) < (0 : Int)))) rfl (Lw.nil (⟨?_, ⟨decide ((z169 : Int) < (0 : Int)), W171, rfl, (l155.trans (l161.trans l171)), rfl, hm⟩⟩))))
    iterate 14 (refine Agree.up rfl ?_)
    exact Agree.refl _

theorem p7 {W : CW} {K : List Nat} {x0 : List Byte} {v0_ : Value} {r : Bool} (h0 : Rd W K [v0_] x0) (hm : Vm.laws_FnMemoDone x0 = some r) : CallR Try.prog 7 [v0_].toArray W.w (Res W [] fun W' v => v = vB r) :=
 (c7 (V := W.view K []) (h0.view _) hm).ad (fk 0) fun _ _ e => e

end Go.Sx
