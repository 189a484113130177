/- Walks: each function answers as its model, printed by a program of ours. Conditions: the arguments read as they are given. -/
import Derived.Test.YtmjjhnahdmlmaaaGreatDoorXTs
import Derived.Test.YtmjjhnahdmlmaaaGreatDoorXMd
import Derived.Test.YtmjjhnahdmlmaaaGreatDoorXW0
import Derived.Test.YtmjjhnahdmlmaaaGreatDoorXW11
import Derived.Test.YtmjjhnahdmlmaaaGreatDoorXW2
import Derived.Test.YtmjjhnahdmlmaaaGreatDoorXW9
namespace Go.Sx
open Go Go.Proofs Go.Vm Rp
set_option linter.unusedVariables false
set_option linter.unusedSimpArgs false

theorem c18 {V : CW} {x0 : List Byte} {v0_ : Value} {r : Vm.Repo × Int} (h0 : Rd V [0] [v0_] x0) (hm : Vm.spec_DrawAncLine x0 = some r) : CallR Tryz.prog 18 [v0_].toArray V.w (Res V LL fun Wf v => ∃ (u0_0 : Value) (u0_1 : Value), v = .tuple [.agg [u0_0, u0_1].toArray, vI r.2].toArray ∧ OwS Wf [31] [] [u0_0] r.1.Commits ∧ OwS Wf [32] [] [u0_1] r.1.Heads) := by
 unfold Vm.spec_DrawAncLine at hm
 obtain ⟨W0, hW0⟩ : ∃ W, W = V := ⟨V, rfl⟩
 subst hW0
 refine CallR.of Tryz.func18 rfl rfl rfl rfl (Cw.seq (Cw.region (Lw.t rfl (T.alloc 2 (cs := [.slice none 0 0, .slice none 0 0]) rfl) ?_)))
 rintro _ _ ⟨g1, W1, rfl, rfl, l1, b1⟩
 have a2 := l1.o
 refine Lw.g (vI 0) rfl (Lw.nil (Cw.seq (Cw.region (Lw.m v0_ rfl ?_))))
 obtain ⟨z4, e5, hm⟩ := ob hm
 refine Lw.t rfl (T.call rfl (p7 (K := [0]) (k0 := 3) (k1 := 4) (h0.ul a2) e5)) ?_
 rintro _ _ ⟨W6, rfl, l6, ⟨v0_0_6, v0_1_6, rfl, f6_0, f6_1⟩⟩
 have a7 := a2.n l6
 refine Lw.r rfl (R.ext (vs := [.agg [v0_0_6, v0_1_6].toArray, vI z4.2]) (v := .agg [v0_0_6, v0_1_6].toArray) rfl rfl) (Lw.r rfl (R.ext (vs := [.agg [v0_0_6, v0_1_6].toArray, vI z4.2]) (v := vI z4.2) rfl rfl) (Lw.u (T.sta (vs := [v0_0_6, v0_1_6]) (b1.up l6 rfl) rfl rfl (oc_cons f6_0.oc (oc_cons f6_1.oc oc_nil)) rfl rfl) ?_))
 rintro _ _ ⟨W9, rfl, l9, b9⟩
 have a10 := a7.t l9 rfl
 refine Lw.g (vI z4.2) rfl (Lw.nil ?_)
 obtain ⟨W13, ew13, l13, o13⟩ := (f6_0.up l9 rfl).dyeO 31
 have a14 := a10.t l13 rfl
 obtain ⟨W17, ew17, l17, o17⟩ := ((f6_1.up l9 rfl).up l13 rfl).dyeO 32
 have a18 := a14.t l17 rfl
 cases hm
 rw [← ew17.trans (ew13)]
 exact Cw.ret (retA2 rfl ((b9.up l13 rfl).up l17 rfl) rfl (Res.mk a18 ⟨v0_0_6, v0_1_6, rfl, (o13.up l17 rfl).s, o17.s⟩))

theorem p18 {W : CW} {K : List Nat} {x0 : List Byte} {v0_ : Value} {k0 : Nat} {k1 : Nat} {r : Vm.Repo × Int} (h0 : Rd W K [v0_] x0) (hm : Vm.spec_DrawAncLine x0 = some r) : CallR Tryz.prog 18 [v0_].toArray W.w (Res W [] fun W' v => ∃ (u0_0 : Value) (u0_1 : Value), v = .tuple [.agg [u0_0, u0_1].toArray, vI r.2].toArray ∧ Ow W' k0 [] [u0_0] r.1.Commits ∧ Ow W' k1 [] [u0_1] r.1.Heads) :=
 CallR.adJ (J := []) (fun c => bif Nat.beq c 0 then 0 else bif Nat.beq c 31 then k0 else bif Nat.beq c 32 then k1 else 0) (c18 (V := W.view K []) (h0.view _) hm) fun _ _ ⟨u0_0, u0_1, e, f0, f1⟩ => ⟨u0_0, u0_1, e, f0.one1.backN rfl, f1.one1.backN rfl⟩

theorem c57 {V : CW} {x0 : Vm.Repo} {v0_0_ : Value} {v0_1_ : Value} {x1 : Int} {r : Int} (h0 : Rd V [0] [v0_0_, v0_1_] x0) (hm : Vm.impl_Repo_first x0 x1 = some r) : CallR Tryz.prog 57 [.agg [v0_0_, v0_1_].toArray, vI x1].toArray V.w (Res V LL fun Wf v => v = vI r) := by
 unfold Vm.impl_Repo_first at hm
 obtain ⟨w0_0, w0_1, he0, h0_0, h0_1⟩ := Repo.split h0
 simp only [List.cons.injEq, and_true, true_and] at he0
 obtain ⟨rfl, rfl⟩ := he0
 obtain ⟨W0, hW0⟩ : ∃ W, W = V := ⟨V, rfl⟩
 subst hW0
 refine CallR.of Tryz.func57 rfl rfl rfl rfl (Cw.seq (Cw.region (Lw.t rfl (T.box 2 (v := .agg [v0_0_, v0_1_].toArray) (cs := [v0_0_, v0_1_]) rfl rfl) ?_)))
 rintro _ _ ⟨g1, W1, rfl, rfl, l1, b1⟩
 have a2 := l1.o
 refine Lw.g (vI 0) rfl (Lw.nil (Cw.seq (Cw.seq (Cw.region (Lw.fa rfl (Lw.r rfl (R.ld (v := v0_0_) rfl rfl (b1.cell rfl)) (Lw.m (vI x1) rfl ?_)))))))
 obtain ⟨u3, e4, hm⟩ := ob hm
 have s5 := h0_0.ul a2
 refine Lw.r rfl (R.ix (α := Commit) s5 e4 rfl rfl rfl) (Lw.fa rfl ?_)
 obtain ⟨v6, c7, r8⟩ := (Commit.at0 (s5.at_ e4)).cell rfl
 refine Lw.r rfl (R.ld rfl rfl c7) (Lw.ln u3.Parents r8 rfl (Lw.eq rfl (Lw.nil (Cw.cond (b := (((u3.Parents.length : Int) : Int) == (0 : Int))) rfl (fun hc9 => ?_) (fun hc9 => ?_)))))
 ·replace hm := bt hm hc9
  refine Cw.seq (Cw.region (Lw.g (vI (-1)) rfl (Lw.nil ?_)))
  cases hm
  exact Cw.ret (ret1 rfl (Res.mk a2 rfl))
 ·replace hm := bf hm hc9
  refine Cw.skip (Cw.seq (Cw.region (Lw.fa rfl (Lw.r rfl (R.ld (v := v0_0_) rfl rfl (b1.cell rfl)) (Lw.m (vI x1) rfl ?_)))))
  obtain ⟨u10, e11, hm⟩ := ob hm
  refine Lw.r rfl (R.ix (α := Commit) s5 e11 rfl rfl rfl) (Lw.fa rfl ?_)
  obtain ⟨v12, c13, r14⟩ := (Commit.at0 (s5.at_ e11)).cell rfl
  refine Lw.r rfl (R.ld rfl rfl c13) ?_
  obtain ⟨u15, e16, hm⟩ := ob hm
  refine Lw.r rfl (R.ix (α := Int) r14 e16 rfl rfl rfl) (Lw.r rfl (R.ld rfl rfl (r14.at_ e16).int) (Lw.g (vI u15) rfl (Lw.nil ?_)))
  cases hm
  exact Cw.ret (ret1 rfl (Res.mk a2 rfl))

theorem p57 {W : CW} {K : List Nat} {x0 : Vm.Repo} {v0_0_ : Value} {v0_1_ : Value} {x1 : Int} {r : Int} (h0 : Rd W K [v0_0_, v0_1_] x0) (hm : Vm.impl_Repo_first x0 x1 = some r) : CallR Tryz.prog 57 [.agg [v0_0_, v0_1_].toArray, vI x1].toArray W.w (Res W [] fun W' v => v = vI r) :=
 (c57 (V := W.view K []) (h0.view _) hm).ad (fk 0) fun _ _ e => e

theorem c45 {V : CW} {x0 : Vm.Repo} {v0_0_ : Value} {v0_1_ : Value} {x1 : Int} {r : (List Int)} (h0 : Rd V [0] [v0_0_, v0_1_] x0) (hm : Vm.impl_Repo_line x0 x1 = some r) : CallR Tryz.prog 45 [.agg [v0_0_, v0_1_].toArray, vI x1].toArray V.w (Res V LL fun Wf v => ∃ (u0 : Value), v = u0 ∧ OwS Wf LL [] [u0] r) := by
 unfold Vm.impl_Repo_line at hm
 obtain ⟨w0_0, w0_1, he0, h0_0, h0_1⟩ := Repo.split h0
 simp only [List.cons.injEq, and_true, true_and] at he0
 obtain ⟨rfl, rfl⟩ := he0
 obtain ⟨W0, hW0⟩ : ∃ W, W = V := ⟨V, rfl⟩
 subst hW0
 refine CallR.of Tryz.func45 rfl rfl rfl rfl (Cw.seq (Cw.region (Lw.t rfl (T.box 2 (v := .agg [v0_0_, v0_1_].toArray) (cs := [v0_0_, v0_1_]) rfl rfl) ?_)))
 rintro _ _ ⟨g1, W1, rfl, rfl, l1, b1⟩
 have a2 := l1.o
 refine Lw.g (.slice none 0 0) rfl (Lw.nil (Cw.seq (Cw.region (Lw.g (.slice none 0 0) rfl (Lw.nil (Cw.seq (Cw.block ?_)))))))
 obtain ⟨K8, hK8, hm⟩ := jn_e hm
 refine Cw.loop 6 14 [1, 5] (fun m l w => ∃ (y3 : Int) (y4 : List Int) (v5 : Value) (W7 : CW), W7.w = w ∧ Le [3] W1 W7 ∧ l = [vI y3, v5] ∧ Ow W7 3 [] [v5] y4 ∧ Vm.impl_Repo_line_l1 x0 K8 m y3 y4 = some r) ((x1 + 1 - 0).toNat + 1) ⟨x1, ([] : List Int), .slice none 0 0, W1, rfl, Le.refl _ _, rfl, owN 3 [], hm⟩ ?_
 rintro m9 _ _ σ ⟨y3, y4, v5, W7, rfl, l7, rfl, o6, hm⟩
 obtain _ | m9 := m9
 ·cases hm
 unfold Vm.impl_Repo_line_l1 at hm
 have a10 := a2.t l7 rfl
 refine Cw.seq (Cw.seq (Cw.region (Lw.m (vI y3) rfl (Lw.ge rfl (Lw.nil (Cw.cond (b := decide ((0 : Int) ≤ (y3 : Int))) rfl (fun hc12 => ?_) (fun hc12 => ?_)))))))
 ·replace hm := bt hm hc12
  refine Cw.skip (Cw.block (Cw.seq (Cw.region (Lw.m v5 rfl (Lw.m (vI y3) rfl (Lw.t rfl (T.bs 4 [vI y3] (cs := [vI y3]) rfl rfl (bsv rfl)) ?_))))))
  rintro _ _ ⟨g13, W13, rfl, rfl, l13, b13⟩
  have a14 := a10.n l13
  obtain ⟨q17, e18, hm⟩ := ob hm
  refine Lw.t rfl (T.app1S (α := Int) (K' := []) (o6.up l13 rfl) b13 (rdI _) rfl rfl e18) ?_
  rintro v19 _ ⟨W19, rfl, l19, o19⟩
  have a20 := a14.t l19 rfl
  refine Lw.g v19 rfl (Lw.nil (Cw.region (Lw.r rfl (R.lda (cs := [v0_0_, v0_1_]) (((b1.up l7 rfl).up l13 rfl).up l19 rfl).cells rfl rfl) (Lw.m (vI y3) rfl ?_))))
  obtain ⟨z25, e26, hm⟩ := ob hm
  refine Lw.t rfl (T.call rfl (p57 (K := [0])  (Repo.rd (K := [0]) x0.Commits x0.Heads (h0_0.ul a20) (h0_1.ul a20)) e26)) ?_
  rintro _ _ ⟨W27, rfl, l27, rfl⟩
  refine Lw.g (vI z25) rfl (Lw.nil (⟨?_, m9, Nat.lt_succ_self m9, ⟨z25, q17, v19, W27, rfl, (l7.trans ((l13.sub rfl).trans (l19.trans (l27.sub rfl)))), rfl, (o19.up l27 rfl), hm⟩⟩))
  iterate 13 (refine .u ?_)
  exact Agree.base
 ·replace hm := bf hm hc12
  refine Cw.exit ?_
  rw [hK8] at hm
  refine Cw.seq (Cw.region (Lw.m v5 rfl (Lw.g v5 rfl (Lw.nil ?_))))
  cases hm
  exact Cw.ret (ret1 rfl (Res.mk a10 ⟨v5, rfl, o6.s.sub rfl rfl⟩))

theorem p45 {W : CW} {K : List Nat} {x0 : Vm.Repo} {v0_0_ : Value} {v0_1_ : Value} {x1 : Int} {k0 : Nat} {r : (List Int)} (h0 : Rd W K [v0_0_, v0_1_] x0) (hm : Vm.impl_Repo_line x0 x1 = some r) : CallR Tryz.prog 45 [.agg [v0_0_, v0_1_].toArray, vI x1].toArray W.w (Res W [] fun W' v => ∃ (u0 : Value), v = u0 ∧ Ow W' k0 [] [u0] r) :=
 (c45 (V := W.view K []) (h0.view _) hm).ad (fk k0) fun _ _ ⟨u0, e, f0⟩ => ⟨u0, e, f0.back (fk_LL _)⟩

theorem c19 {V : CW} {x0 : Vm.Repo} {v0_0_ : Value} {v0_1_ : Value} {x1 : Int} {r : (List Int)} (h0 : Rd V [0] [v0_0_, v0_1_] x0) (h99 : Gl 0 V [0]) (hm : Vm.impl_AncLine x0 x1 = some r) : CallR Tryz.prog 19 [.agg [v0_0_, v0_1_].toArray, vI x1].toArray V.w (Res V LL fun Wf v => ∃ (u0 : Value), v = u0 ∧ OwS Wf LL [] [u0] r) := by
 unfold Vm.impl_AncLine at hm
 obtain ⟨w0_0, w0_1, he0, h0_0, h0_1⟩ := Repo.split h0
 simp only [List.cons.injEq, and_true, true_and] at he0
 obtain ⟨rfl, rfl⟩ := he0
 obtain ⟨W0, hW0⟩ : ∃ W, W = V := ⟨V, rfl⟩
 subst hW0
 refine CallR.of Tryz.func19 rfl rfl rfl rfl (Cw.seq (Cw.region (Lw.t rfl (T.box 2 (v := .agg [v0_0_, v0_1_].toArray) (cs := [v0_0_, v0_1_]) rfl rfl) ?_)))
 rintro _ _ ⟨g1, W1, rfl, rfl, l1, b1⟩
 have a2 := l1.o
 refine Lw.g (.slice none 0 0) rfl (Lw.nil (Cw.seq (Cw.seq (Cw.region (Lw.r rfl (R.lda (cs := [v0_0_, v0_1_]) b1.cells rfl rfl) (Lw.m (vI x1) rfl (Lw.t rfl (T.bsS (α := Int) (xs := [x1]) 3 [] (W := W1) [vI x1] (Each.cons ((rdI _)) Each.nil) rfl) ?_)))))))
 rintro v3 _ ⟨W3, rfl, l3, o3⟩
 have a4 := a2.n l3
 obtain ⟨z9, e10, hm⟩ := ob hm
 refine Lw.t rfl (T.call rfl (p37 (K := [0, 3])  ((Repo.rd (K := [0]) x0.Commits x0.Heads (h0_0.ul a4) (h0_1.ul a4)).sub (M := [0, 3]) rfl) (o3.rd.sub (M := [0, 3]) rfl) ((h99.ul a4).sub (M := [0, 3]) rfl) e10)) ?_
 rintro _ _ ⟨W11, rfl, l11, rfl⟩
 have a12 := a4.n l11
 refine Lw.r rfl (R.not rfl) (Lw.nil (Cw.cond (b := (!z9)) rfl (fun hc15 => ?_) (fun hc15 => ?_)))
 ·replace hm := bt hm hc15
  refine Cw.seq (Cw.region (Lw.g (.slice none 0 0) rfl (Lw.nil ?_)))
  cases hm
  exact Cw.ret (ret1 rfl (Res.mk a12 ⟨.slice none 0 0, rfl, (owsN []).sub rfl rfl⟩))
 ·replace hm := bf hm hc15
  refine Cw.skip (Cw.seq (Cw.region (Lw.r rfl (R.lda (cs := [v0_0_, v0_1_]) ((b1.up l3 rfl).up l11 rfl).cells rfl rfl) (Lw.m (vI x1) rfl ?_))))
  obtain ⟨z18, e19, hm⟩ := ob hm
  refine Lw.t rfl (T.call rfl (p45 (K := [0]) (k0 := 4) (Repo.rd (K := [0]) x0.Commits x0.Heads (h0_0.ul a12) (h0_1.ul a12)) e19)) ?_
  rintro v0_20 _ ⟨W20, rfl, l20, ⟨_, rfl, f20_0⟩⟩
  have a21 := a12.n l20
  refine Lw.g v0_20 rfl (Lw.nil ?_)
  cases hm
  exact Cw.ret (ret1 rfl (Res.mk a21 ⟨v0_20, rfl, f20_0.s.sub rfl rfl⟩))

theorem p19 {W : CW} {K : List Nat} {x0 : Vm.Repo} {v0_0_ : Value} {v0_1_ : Value} {x1 : Int} {k0 : Nat} {r : (List Int)} (h0 : Rd W K [v0_0_, v0_1_] x0) (h99 : Gl 0 W K) (hm : Vm.impl_AncLine x0 x1 = some r) : CallR Tryz.prog 19 [.agg [v0_0_, v0_1_].toArray, vI x1].toArray W.w (Res W [] fun W' v => ∃ (u0 : Value), v = u0 ∧ Ow W' k0 [] [u0] r) :=
 (c19 (V := W.view K []) (h0.view _) (h99.view _) hm).ad (fk k0) fun _ _ ⟨u0, e, f0⟩ => ⟨u0, e, f0.back (fk_LL _)⟩

theorem c46 {V : CW} {x0 : Vm.Repo} {v0_0_ : Value} {v0_1_ : Value} {x1 : Int} {r : (List Int)} (h0 : Rd V [0] [v0_0_, v0_1_] x0) (hm : Vm.spec_l8Line x0 x1 = some r) : CallR Tryz.prog 46 [.agg [v0_0_, v0_1_].toArray, vI x1].toArray V.w (Res V LL fun Wf v => ∃ (u0 : Value), v = u0 ∧ OwS Wf LL [] [u0] r) := by
 unfold Vm.spec_l8Line at hm
 obtain ⟨w0_0, w0_1, he0, h0_0, h0_1⟩ := Repo.split h0
 simp only [List.cons.injEq, and_true, true_and] at he0
 obtain ⟨rfl, rfl⟩ := he0
 obtain ⟨W0, hW0⟩ : ∃ W, W = V := ⟨V, rfl⟩
 subst hW0
 refine CallR.of Tryz.func46 rfl rfl rfl rfl (Cw.seq (Cw.region (Lw.t rfl (T.box 2 (v := .agg [v0_0_, v0_1_].toArray) (cs := [v0_0_, v0_1_]) rfl rfl) ?_)))
 rintro _ _ ⟨g1, W1, rfl, rfl, l1, b1⟩
 have a2 := l1.o
 refine Lw.g (.slice none 0 0) rfl (Lw.nil (Cw.seq (Cw.region (Lw.m (vI x1) rfl (Lw.t rfl (T.bsS (α := Int) (xs := [x1]) 3 [] (W := W1) [vI x1] (Each.cons ((rdI _)) Each.nil) rfl) ?_)))))
 rintro v3 _ ⟨W3, rfl, l3, o3⟩
 have a4 := a2.n l3
 refine Lw.g v3 rfl (Lw.nil (Cw.seq (Cw.block ?_)))
 obtain ⟨K11, hK11, hm⟩ := jn_e hm
 refine Cw.loop 8 27 [1, 5] (fun m l w => ∃ (y6 : Int) (y7 : List Int) (v8 : Value) (W10 : CW), W10.w = w ∧ Le [3] W3 W10 ∧ l = [vI y6, v8] ∧ Ow W10 3 [] [v8] y7 ∧ Vm.spec_l8Line_l1 x0 K11 m y6 y7 = some r) (x1.toNat + 2) ⟨x1, ([x1] : List Int), v3, W3, rfl, Le.refl _ _, rfl, o3, hm⟩ ?_
 rintro m12 _ _ σ ⟨y6, y7, v8, W10, rfl, l10, rfl, o9, hm⟩
 obtain _ | m12 := m12
 ·cases hm
 unfold Vm.spec_l8Line_l1 at hm
 have a13 := a4.t l10 rfl
 have b14 := (b1.up l3 rfl).up l10 rfl
 refine Cw.seq (Cw.seq (Cw.region (Lw.fa rfl (Lw.r rfl (R.ld (v := v0_0_) rfl rfl (b14.cell rfl)) (Lw.m (vI y6) rfl ?_)))))
 obtain ⟨u15, e16, hm⟩ := ob hm
 have s17 := h0_0.ul a13
 refine Lw.r rfl (R.ix (α := Commit) s17 e16 rfl rfl rfl) (Lw.fa rfl ?_)
 obtain ⟨v18, c19, r20⟩ := (Commit.at0 (s17.at_ e16)).cell rfl
 refine Lw.r rfl (R.ld rfl rfl c19) (Lw.ln u15.Parents r20 rfl (Lw.gt rfl (Lw.nil (Cw.cond (b := decide ((0 : Int) < ((u15.Parents.length : Int) : Int))) rfl (fun hc21 => ?_) (fun hc21 => ?_)))))
 ·replace hm := bt hm hc21
  refine Cw.skip (Cw.block (Cw.seq (Cw.region (Lw.fa rfl (Lw.r rfl (R.ld (v := v0_0_) rfl rfl (b14.cell rfl)) (Lw.m (vI y6) rfl ?_))))))
  obtain ⟨u22, e23, hm⟩ := ob hm
  refine Lw.r rfl (R.ix (α := Commit) s17 e23 rfl rfl rfl) (Lw.fa rfl ?_)
  obtain ⟨v24, c25, r26⟩ := (Commit.at0 (s17.at_ e23)).cell rfl
  refine Lw.r rfl (R.ld rfl rfl c25) ?_
  obtain ⟨u27, e28, hm⟩ := ob hm
  refine Lw.r rfl (R.ix (α := Int) r26 e28 rfl rfl rfl) (Lw.r rfl (R.ld rfl rfl (r26.at_ e28).int) (Lw.g (vI u27) rfl (Lw.nil (Cw.region (Lw.m v8 rfl (Lw.m (vI u27) rfl (Lw.t rfl (T.bs 4 [vI u27] (cs := [vI u27]) rfl rfl (bsv rfl)) ?_)))))))
  rintro _ _ ⟨g29, W29, rfl, rfl, l29, b29⟩
  obtain ⟨q33, e34, hm⟩ := ob hm
  refine Lw.t rfl (T.app1S (α := Int) (K' := []) (o9.up l29 rfl) b29 (rdI _) rfl rfl e34) ?_
  rintro v35 _ ⟨W35, rfl, l35, o35⟩
  refine Lw.g v35 rfl (Lw.nil (⟨?_, m12, Nat.lt_succ_self m12, ⟨u27, q33, v35, W35, rfl, (l10.trans ((l29.sub rfl).trans l35)), rfl, o35, hm⟩⟩))
  iterate 24 (refine .u ?_)
  exact Agree.base
 ·replace hm := bf hm hc21
  refine Cw.exit ?_
  rw [hK11] at hm
  refine Cw.seq (Cw.region (Lw.m v8 rfl (Lw.g v8 rfl (Lw.nil ?_))))
  cases hm
  exact Cw.ret (ret1 rfl (Res.mk a13 ⟨v8, rfl, o9.s.sub rfl rfl⟩))

theorem p46 {W : CW} {K : List Nat} {x0 : Vm.Repo} {v0_0_ : Value} {v0_1_ : Value} {x1 : Int} {k0 : Nat} {r : (List Int)} (h0 : Rd W K [v0_0_, v0_1_] x0) (hm : Vm.spec_l8Line x0 x1 = some r) : CallR Tryz.prog 46 [.agg [v0_0_, v0_1_].toArray, vI x1].toArray W.w (Res W [] fun W' v => ∃ (u0 : Value), v = u0 ∧ Ow W' k0 [] [u0] r) :=
 (c46 (V := W.view K []) (h0.view _) hm).ad (fk k0) fun _ _ ⟨u0, e, f0⟩ => ⟨u0, e, f0.back (fk_LL _)⟩

theorem c21 {V : CW} {x0 : Vm.Repo} {v0_0_ : Value} {v0_1_ : Value} {x1 : Int} {r : (List Int)} (h0 : Rd V [0] [v0_0_, v0_1_] x0) (hm : Vm.spec_AncLine x0 x1 = some r) : CallR Tryz.prog 21 [.agg [v0_0_, v0_1_].toArray, vI x1].toArray V.w (Res V LL fun Wf v => ∃ (u0 : Value), v = u0 ∧ OwS Wf LL [] [u0] r) := by
 unfold Vm.spec_AncLine at hm
 obtain ⟨w0_0, w0_1, he0, h0_0, h0_1⟩ := Repo.split h0
 simp only [List.cons.injEq, and_true, true_and] at he0
 obtain ⟨rfl, rfl⟩ := he0
 obtain ⟨W0, hW0⟩ : ∃ W, W = V := ⟨V, rfl⟩
 subst hW0
 refine CallR.of Tryz.func21 rfl rfl rfl rfl (Cw.seq (Cw.region (Lw.t rfl (T.box 2 (v := .agg [v0_0_, v0_1_].toArray) (cs := [v0_0_, v0_1_]) rfl rfl) ?_)))
 rintro _ _ ⟨g1, W1, rfl, rfl, l1, b1⟩
 have a2 := l1.o
 refine Lw.g (.slice none 0 0) rfl (Lw.nil (Cw.seq (Cw.region (Lw.t rfl (T.lit0 (α := Int) 3 []) ?_))))
 rintro v3 _ ⟨W3, rfl, l3, o3⟩
 have a4 := a2.n l3
 have b5 := b1.up l3 rfl
 refine Lw.g v3 rfl (Lw.nil (Cw.seq ?_))
 obtain ⟨K8, hK8, hm⟩ := jn_e hm
 refine Cw.join 7 18 [18] (fun l w => ∃ (y6 : Bool) (W7 : CW), W7.w = w ∧ Le [] W3 W7 ∧ l = [vB y6] ∧ K8 y6 = some r) ?_ ?_
 ·rintro _ _ σ ⟨y6, W7, rfl, l7, rfl, hm⟩
  rw [hK8] at hm
  have a9 := a4.n l7
  refine Cw.cond (b := y6) rfl (fun hc12 => ?_) (fun hc12 => ?_)
  ·replace hm := bt hm hc12
   refine Cw.seq (Cw.region (Lw.g (.slice none 0 0) rfl (Lw.nil ?_)))
   cases hm
   exact Cw.ret (ret1 rfl (Res.mk a9 ⟨.slice none 0 0, rfl, (owsN []).sub rfl rfl⟩))
  ·replace hm := bf hm hc12
   refine Cw.skip (Cw.seq (Cw.region (Lw.m v3 rfl (Lw.r rfl (R.lda (cs := [v0_0_, v0_1_]) (b5.up l7 rfl).cells rfl rfl) (Lw.m (vI x1) rfl ?_)))))
   obtain ⟨z15, e16, hm⟩ := ob hm
   refine Lw.t rfl (T.call rfl (p46 (K := [0]) (k0 := 4) (Repo.rd (K := [0]) x0.Commits x0.Heads (h0_0.ul a9) (h0_1.ul a9)) e16)) ?_
   rintro v0_17 _ ⟨W17, rfl, l17, ⟨_, rfl, f17_0⟩⟩
   have a18 := a9.n l17
   obtain ⟨q21, e22, hm⟩ := ob hm
   refine Lw.t rfl (T.appP (α := Int) ((o3.up l7 rfl).up l17 rfl) f17_0.rd rfl rfl e22) ?_
   rintro v23 _ ⟨W23, rfl, l23, o23⟩
   have a24 := a18.t l23 rfl
   refine Lw.g v23 rfl (Lw.nil ?_)
   cases hm
   exact Cw.ret (ret1 rfl (Res.mk a24 ⟨v23, rfl, o23.s.sub rfl rfl⟩))
 ·refine Cw.region (Lw.r rfl (R.lda (cs := [v0_0_, v0_1_]) b5.cells rfl rfl) ?_)
  obtain ⟨z29, e30, hm⟩ := ob hm
  refine Lw.t rfl (T.call rfl (p30 (K := [0])  (Repo.rd (K := [0]) x0.Commits x0.Heads (h0_0.ul a4) (h0_1.ul a4)) e30)) ?_
  rintro _ _ ⟨W31, rfl, l31, rfl⟩
  have a32 := a4.n l31
  refine Lw.r rfl (R.not rfl) (Lw.m (vB (!z29)) rfl (bsplit (!z29) (fun hc35 => ?_) (fun hc35 => ?_)))
  ·replace hm := bt hm hc35
   refine Lw.ps hc35 rfl (Lw.ps hc35 rfl (Lw.ps hc35 rfl (Lw.ps hc35 rfl (Lw.ps hc35 rfl (Lw.ps hc35 rfl (Lw.ps hc35 rfl (Lw.p hc35 (vB true) rfl (Lw.nil (⟨?_, ⟨true, W31, rfl, l31, rfl, hm⟩⟩)))))))))
   iterate 12 (refine .u ?_)
   exact Agree.refl _
  ·replace hm := bf hm hc35
   refine Lw.wa hc35 rfl (Lw.m (vI x1) rfl (Lw.wa hc35 rfl (Lw.fa rfl (Lw.wa hc35 rfl (Lw.r rfl (R.ld (v := v0_0_) rfl rfl ((b5.up l31 rfl).cell rfl)) (Lw.wa hc35 rfl (Lw.ln x0.Commits (h0_0.ul a32) rfl (Lw.wa hc35 rfl (Lw.sub rfl (Lw.wa hc35 rfl ?_))))))))))
   obtain ⟨z37, e38, hm⟩ := ob hm
   refine Lw.t rfl (T.call rfl (p31 (K := [0])   e38)) ?_
   rintro _ _ ⟨W39, rfl, l39, rfl⟩
   refine Lw.wa hc35 rfl (Lw.r rfl (R.not rfl) (Lw.p hc35 (vB (!z37)) rfl (Lw.nil (⟨?_, ⟨(!z37), W39, rfl, (l31.trans l39), rfl, hm⟩⟩))))
   iterate 12 (refine .u ?_)
   exact Agree.refl _

theorem p21 {W : CW} {K : List Nat} {x0 : Vm.Repo} {v0_0_ : Value} {v0_1_ : Value} {x1 : Int} {k0 : Nat} {r : (List Int)} (h0 : Rd W K [v0_0_, v0_1_] x0) (hm : Vm.spec_AncLine x0 x1 = some r) : CallR Tryz.prog 21 [.agg [v0_0_, v0_1_].toArray, vI x1].toArray W.w (Res W [] fun W' v => ∃ (u0 : Value), v = u0 ∧ Ow W' k0 [] [u0] r) :=
 (c21 (V := W.view K []) (h0.view _) hm).ad (fk k0) fun _ _ ⟨u0, e, f0⟩ => ⟨u0, e, f0.back (fk_LL _)⟩

theorem c20 {V : CW} {x0 : List Int} {v0_ : Value} {x1 : List Int} {v1_ : Value} {r : Bool} (h0 : Rd V [0] [v0_] x0) (h1 : Rd V [0] [v1_] x1) (hm : Vm.laws_smInts x0 x1 = some r) : CallR Tryz.prog 20 [v0_, v1_].toArray V.w (Res V LL fun Wf v => v = vB r) := by
 unfold Vm.laws_smInts at hm
 obtain ⟨W0, hW0⟩ : ∃ W, W = V := ⟨V, rfl⟩
 subst hW0
 refine CallR.of Tryz.func20 rfl rfl rfl rfl (Cw.seq (Cw.region (Lw.g (vB false) rfl (Lw.nil (Cw.seq (Cw.seq (Cw.region (Lw.m v0_ rfl (Lw.ln x0 h0 rfl (Lw.m v1_ rfl (Lw.ln x1 h1 rfl (Lw.ne rfl (Lw.nil (Cw.cond (b := (((x0.length : Int) : Int) != ((x1.length : Int) : Int))) rfl (fun hc1 => ?_) (fun hc1 => ?_)))))))))))))))
 ·replace hm := bt hm hc1
  refine Cw.seq (Cw.region (Lw.g (vB false) rfl (Lw.nil ?_)))
  cases hm
  exact Cw.ret (ret1 rfl (Res.mk (Le.refl _ _) rfl))
 ·replace hm := bf hm hc1
  refine Cw.skip (Cw.seq (Cw.seq (Cw.region (Lw.g (vI 0) rfl (Lw.nil (Cw.block ?_))))))
  obtain ⟨K5, hK5, hm⟩ := jn_e hm
  refine Cw.loop 11 25 [4, 5] (fun m l w => ∃ (y2 : Bool) (y3 : Int) (W4 : CW), W4.w = w ∧ Le [] W0 W4 ∧ l = [vB y2, vI y3] ∧ Vm.laws_smInts_l1 x0 x1 K5 m y2 y3 = some r) (((x0.length : Int) - 0).toNat + 1) ⟨false, 0, W0, rfl, Le.refl _ _, rfl, hm⟩ ?_
  rintro m6 _ _ σ ⟨y2, y3, W4, rfl, l4, rfl, hm⟩
  obtain _ | m6 := m6
  ·cases hm
  unfold Vm.laws_smInts_l1 at hm
  have a7 := l4.o
  refine Cw.seq (Cw.seq (Cw.region (Lw.m (vI y3) rfl (Lw.m v0_ rfl (Lw.ln x0 (h0.ul a7) rfl (Lw.lt rfl (Lw.nil (Cw.cond (b := decide ((y3 : Int) < ((x0.length : Int) : Int))) rfl (fun hc9 => ?_) (fun hc9 => ?_)))))))))
  ·replace hm := bt hm hc9
   refine Cw.skip (Cw.seq (Cw.block (Cw.seq (Cw.draw [] [(0, 0), (1, 0), (2, 0), (3, 1), (4, 0), (5, 0), (6, 0), (7, 1), (8, 0)] mixed (by kernel_rfl) fun W10 l10 => ?_))))
   have a11 := a7.n l10
   refine Mw.p rfl rfl (fun _ => R.mv (v := v0_) rfl) (Mw.p rfl rfl (fun _ => R.mv (v := vI y3) rfl) ?_)
   obtain ⟨u12, e13, hm⟩ := ob hm
   refine Mw.p rfl rfl (fun _ => R.ix (α := Int) (h0.ul a11) e13 rfl rfl rfl) (Mw.q rfl rfl (fun _ c => R.ld rfl rfl (cl_cell ((h0.ul a11).at_ e13).1 rfl ((h0.ul a11).at_ e13).int c)) (Mw.p rfl rfl (fun _ => R.mv (v := v1_) rfl) (Mw.p rfl rfl (fun _ => R.mv (v := vI y3) rfl) ?_)))
   obtain ⟨u15, e16, hm⟩ := ob hm
   refine Mw.p rfl rfl (fun _ => R.ix (α := Int) (h1.ul a11) e16 rfl rfl rfl) (Mw.q rfl rfl (fun _ c => R.ld rfl rfl (cl_cell ((h1.ul a11).at_ e16).1 rfl ((h1.ul a11).at_ e16).int c)) (Mw.p rfl rfl (fun _ => R.ne rfl rfl) (Mw.nil (Cw.cond (b := ((u12 : Int) != (u15 : Int))) rfl (fun hc18 => ?_) (fun hc18 => ?_)))))
   ·replace hm := bt hm hc18
    refine Cw.seq (Cw.region (Lw.g (vB false) rfl (Lw.nil ?_)))
    cases hm
    exact Cw.ret (ret1 rfl (Res.mk a11 rfl))
   ·replace hm := bf hm hc18
    refine Cw.skip (Cw.region (Lw.m (vI y3) rfl (Lw.add rfl (Lw.g (vI (w64 (y3 + 1))) rfl (Lw.nil (⟨?_, m6, Nat.lt_succ_self m6, ⟨y2, w64 (y3 + 1), W10, rfl, (l4.trans l10), rfl, hm⟩⟩))))))
    iterate 18 (refine .u ?_)
    exact Agree.base
  ·replace hm := bf hm hc9
   refine Cw.exit ?_
   rw [hK5] at hm
   refine Cw.seq (Cw.region (Lw.g (vB true) rfl (Lw.nil ?_)))
   cases hm
   exact Cw.ret (ret1 rfl (Res.mk a7 rfl))

theorem p20 {W : CW} {K : List Nat} {x0 : List Int} {v0_ : Value} {x1 : List Int} {v1_ : Value} {r : Bool} (h0 : Rd W K [v0_] x0) (h1 : Rd W K [v1_] x1) (hm : Vm.laws_smInts x0 x1 = some r) : CallR Tryz.prog 20 [v0_, v1_].toArray W.w (Res W [] fun W' v => v = vB r) :=
 (c20 (V := W.view K []) (h0.view _) (h1.view _) hm).ad (fk 0) fun _ _ e => e

theorem c5 {V : CW} {x0 : List Byte} {v0_ : Value} {r : Bool} (h0 : Rd V [0] [v0_] x0) (h99 : Gl 0 V [0]) (hm : Vm.laws_FnAncLine x0 = some r) : CallR Tryz.prog 5 [v0_].toArray V.w (Res V LL fun Wf v => v = vB r) := by
 unfold Vm.laws_FnAncLine at hm
 obtain ⟨W0, hW0⟩ : ∃ W, W = V := ⟨V, rfl⟩
 subst hW0
 refine CallR.of Tryz.func5 rfl rfl rfl rfl (Cw.seq (Cw.region (Lw.g (vB false) rfl (Lw.nil (Cw.seq (Cw.seq (Cw.region (Lw.m v0_ rfl (Lw.ln x0 h0 rfl (Lw.gt rfl (Lw.nil (Cw.cond (b := decide ((1048576 : Int) < ((x0.length : Int) : Int))) rfl (fun hc1 => ?_) (fun hc1 => ?_)))))))))))))
 ·replace hm := bt hm hc1
  refine Cw.seq (Cw.region (Lw.g (vB true) rfl (Lw.nil ?_)))
  cases hm
  exact Cw.ret (ret1 rfl (Res.mk (Le.refl _ _) rfl))
 ·replace hm := bf hm hc1
  refine Cw.skip (Cw.seq (Cw.region (Lw.m v0_ rfl ?_)))
  obtain ⟨z2, e3, hm⟩ := ob hm
  refine Lw.t rfl (T.call rfl (p18 (K := [0]) (k0 := 2) (k1 := 3) h0 e3)) ?_
  rintro _ _ ⟨W4, rfl, l4, ⟨v0_0_4, v0_1_4, rfl, f4_0, f4_1⟩⟩
  have a5 := l4.o
  refine Lw.m (.tuple [.agg [v0_0_4, v0_1_4].toArray, vI z2.2].toArray) rfl (Lw.r rfl (R.ext (vs := [.agg [v0_0_4, v0_1_4].toArray, vI z2.2]) (v := .agg [v0_0_4, v0_1_4].toArray) rfl rfl) (Lw.r rfl (R.ext (vs := [.agg [v0_0_4, v0_1_4].toArray, vI z2.2]) (v := vI z2.2) rfl rfl) (Lw.t rfl (T.alloc 4 (cs := [.slice none 0 0, .slice none 0 0]) rfl) ?_)))
  rintro _ _ ⟨g6, W6, rfl, rfl, l6, b6⟩
  have a7 := a5.n l6
  refine Lw.u (T.sta (vs := [v0_0_4, v0_1_4]) b6 rfl rfl (oc_cons (f4_0.up l6 rfl).oc (oc_cons (f4_1.up l6 rfl).oc oc_nil)) rfl rfl) ?_
  rintro _ _ ⟨W10, rfl, l10, b10⟩
  have a11 := a7.t l10 rfl
  have o12 := (f4_0.up l6 rfl).up l10 rfl
  have o13 := (f4_1.up l6 rfl).up l10 rfl
  refine Lw.g (vI z2.2) rfl (Lw.nil (Cw.seq (Cw.region (Lw.r rfl (R.lda (cs := [v0_0_4, v0_1_4]) b10.cells rfl rfl) (Lw.m (vI z2.2) rfl ?_)))))
  obtain ⟨z15, e16, hm⟩ := ob hm
  refine Lw.t rfl (T.call rfl (p19 (K := [0, 2, 3]) (k0 := 5) (x0 := (Vm.Repo.mk z2.1.Commits z2.1.Heads)) ((Repo.rd (K := [2, 3]) z2.1.Commits z2.1.Heads (o12.rd.sub (M := [2, 3]) rfl) (o13.rd.sub (M := [2, 3]) rfl)).sub (M := [0, 2, 3]) rfl) ((h99.ul a11).sub (M := [0, 2, 3]) rfl) e16)) ?_
  rintro v0_17 _ ⟨W17, rfl, l17, ⟨_, rfl, f17_0⟩⟩
  have a18 := a11.n l17
  refine Lw.g v0_17 rfl (Lw.nil (Cw.seq ?_))
  obtain ⟨K24, hK24, hm⟩ := jn_e hm
  refine Cw.join 18 28 [28] (fun l w => ∃ (y22 : Bool) (W23 : CW), W23.w = w ∧ Le [] W17 W23 ∧ l = [vB y22] ∧ K24 y22 = some r) ?_ ?_
  ·rintro _ _ σ ⟨y22, W23, rfl, l23, rfl, hm⟩
   rw [hK24] at hm
   have a25 := a18.n l23
   have o26 := (o12.up l17 rfl).up l23 rfl
   have b29 := (b10.up l17 rfl).up l23 rfl
   refine Cw.cond (b := y22) rfl (fun hc30 => ?_) (fun hc30 => ?_)
   ·replace hm := bt hm hc30
    refine Cw.seq (Cw.region (Lw.m v0_17 rfl (Lw.r rfl (R.lda (cs := [v0_0_4, v0_1_4]) b29.cells rfl rfl) (Lw.m (vI z2.2) rfl ?_))))
    obtain ⟨z31, e32, hm⟩ := ob hm
    refine Lw.t rfl (T.call rfl (p21 (K := [2, 3]) (k0 := 6) (x0 := (Vm.Repo.mk z2.1.Commits z2.1.Heads)) (Repo.rd (K := [2, 3]) z2.1.Commits z2.1.Heads (o26.rd.sub (M := [2, 3]) rfl) (((o13.up l17 rfl).up l23 rfl).rd.sub (M := [2, 3]) rfl)) e32)) ?_
    rintro v0_33 _ ⟨W33, rfl, l33, ⟨_, rfl, f33_0⟩⟩
    have a34 := a25.n l33
    obtain ⟨z39, e40, hm⟩ := ob hm
    refine Lw.t rfl (T.call rfl (p20 (K := [5, 6])  (((f17_0.up l23 rfl).up l33 rfl).rd.sub (M := [5, 6]) rfl) (f33_0.rd.sub (M := [5, 6]) rfl) e40)) ?_
    rintro _ _ ⟨W41, rfl, l41, rfl⟩
    have a42 := a34.n l41
    refine Lw.g (vB z39) rfl (Lw.nil ?_)
    cases hm
    exact Cw.ret (ret1 rfl (Res.mk a42 rfl))
   ·replace hm := bf hm hc30
    refine Cw.skip (Cw.seq (Cw.seq (Cw.region (Lw.g (vI 0) rfl (Lw.nil (Cw.block ?_))))))
    obtain ⟨K51, hK51, hm⟩ := jn_e hm
    refine Cw.loop 34 70 [2, 6] (fun m l w => ∃ (y48 : Bool) (y49 : Int) (W50 : CW), W50.w = w ∧ Le [] W23 W50 ∧ l = [vB y48, vI y49] ∧ Vm.laws_FnAncLine_l1 z2 z15 K51 m y48 y49 = some r) (((z15.length : Int) - (w64 (0 + 1))).toNat + 1) ⟨false, 0, W23, rfl, Le.refl _ _, rfl, hm⟩ ?_
    rintro m52 _ _ σ ⟨y48, y49, W50, rfl, l50, rfl, hm⟩
    obtain _ | m52 := m52
    ·cases hm
    unfold Vm.laws_FnAncLine_l1 at hm
    have a53 := a25.n l50
    have o56 := (f17_0.up l23 rfl).up l50 rfl
    refine Cw.seq (Cw.seq (Cw.region (Lw.m (vI y49) rfl (Lw.add rfl (Lw.m v0_17 rfl (Lw.ln z15 o56.rd rfl (Lw.lt rfl (Lw.nil (Cw.cond (b := decide ((w64 (y49 + 1) : Int) < ((z15.length : Int) : Int))) rfl (fun hc58 => ?_) (fun hc58 => ?_))))))))))
    ·replace hm := bt hm hc58
     refine Cw.skip (Cw.seq (Cw.block ?_))
     obtain ⟨K61, hK61, hm⟩ := jn_e hm
     refine Cw.join 41 70 [70] (fun l w => ∃ (y59 : Bool) (W60 : CW), W60.w = w ∧ Le [] W50 W60 ∧ l = [vB y59] ∧ K61 y59 = some r) ?_ ?_
     ·rintro _ _ σ ⟨y59, W60, rfl, l60, rfl, hm⟩
      rw [hK61] at hm
      have a62 := a53.n l60
      refine Cw.cond (b := y59) rfl (fun hc67 => ?_) (fun hc67 => ?_)
      ·replace hm := bt hm hc67
       refine Cw.seq (Cw.region (Lw.g (vB false) rfl (Lw.nil ?_)))
       cases hm
       exact Cw.ret (ret1 rfl (Res.mk a62 rfl))
      ·replace hm := bf hm hc67
       refine Cw.skip (Cw.region (Lw.m (vI y49) rfl (Lw.add rfl (Lw.g (vI (w64 (y49 + 1))) rfl (Lw.nil (⟨?_, m52, Nat.lt_succ_self m52, ⟨y48, w64 (y49 + 1), W60, rfl, (l50.trans l60), rfl, hm⟩⟩))))))
       iterate 4 (refine .u ?_)
       refine Agree.ov0 rfl ?_
       iterate 7 (refine .u ?_)
       exact Agree.base
     ·refine Cw.draw [] [(0, 0), (1, 1), (2, 0), (3, 0), (4, 0), (5, 1), (6, 0), (7, 0), (8, 1), (9, 0), (10, 0), (11, 0), (12, 0), (13, 1), (14, 0), (15, 0), (16, 0), (17, 1), (18, 0), (19, 0), (20, 1), (21, 0), (22, 1), (23, 0), (24, 0), (25, 0), (26, 0), (27, 1), (28, 0), (29, 0)] mixed (by kernel_rfl) fun W68 l68 => ?_
      have o70 := (o26.up l50 rfl).up l68 rfl
      have o72 := o56.up l68 rfl
      have b73 := (b29.up l50 rfl).up l68 rfl
      refine Mw.p rfl rfl (fun _ => R.fa rfl) (Mw.q rfl rfl (fun _ c => R.ld (v := v0_0_4) rfl rfl (b73.clc rfl rfl c)) (Mw.p rfl rfl (fun _ => R.mv (v := v0_17) rfl) (Mw.p rfl rfl (fun _ => R.mv (v := vI y49) rfl) ?_)))
      obtain ⟨u74, e75, hm⟩ := ob hm
      refine Mw.p rfl rfl (fun _ => R.ix (α := Int) o72.rd e75 rfl rfl rfl) (Mw.q rfl rfl (fun _ c => R.ld rfl rfl (cl_cell (o72.rd.at_ e75).1 rfl (o72.rd.at_ e75).int c)) ?_)
      obtain ⟨u76, e77, hm⟩ := ob hm
      refine Mw.p rfl rfl (fun _ => R.ix (α := Commit) o70.rd e77 rfl rfl rfl) (Mw.p rfl rfl (fun _ => R.fa rfl) ?_)
      obtain ⟨v78, c79, r80⟩ := (Commit.at0 (o70.rd.at_ e77)).cell rfl
      refine Mw.q rfl rfl (fun _ c => R.ld rfl rfl (cl_cell (Commit.at0 (o70.rd.at_ e77)).1 rfl c79 c)) (Mw.p rfl rfl (fun _ => lenR (xs := u76.Parents) r80 rfl) (Mw.p rfl rfl (fun _ => R.eq rfl rfl) (Mw.p rfl rfl (fun _ => R.mv (v := vB (((u76.Parents.length : Int) : Int) == (0 : Int))) rfl) (bsplit (((u76.Parents.length : Int) : Int) == (0 : Int)) (fun hc81 => ?_) (fun hc81 => ?_)))))
      ·replace hm := bt hm hc81
       refine Mw.ps hc81 rfl rfl (Mw.ps hc81 rfl rfl (Mw.ps hc81 rfl rfl (Mw.ps hc81 rfl rfl (Mw.ps hc81 rfl rfl (Mw.ps hc81 rfl rfl (Mw.ps hc81 rfl rfl (Mw.ps hc81 rfl rfl (Mw.ps hc81 rfl rfl (Mw.ps hc81 rfl rfl (Mw.ps hc81 rfl rfl (Mw.ps hc81 rfl rfl (Mw.ps hc81 rfl rfl (Mw.ps hc81 rfl rfl (Mw.ps hc81 rfl rfl (Mw.ps hc81 rfl rfl (Mw.ps hc81 rfl rfl (Mw.p rfl rfl (fun _ => R.pk hc81 rfl (v := vB true) rfl) (Mw.nil (⟨?_, ⟨true, W68, rfl, l68, rfl, hm⟩⟩)))))))))))))))))))
       iterate 30 (refine .u ?_)
       exact Agree.refl _
      ·replace hm := bf hm hc81
       refine Mw.gp hc81 rfl rfl rfl rfl rfl (fun _ => R.fa rfl) (Mw.gq hc81 rfl rfl rfl rfl rfl (fun _ c => R.ld (v := v0_0_4) rfl rfl (b73.clc rfl rfl c)) (Mw.gp hc81 rfl rfl rfl rfl rfl (fun _ => R.mv (v := v0_17) rfl) (Mw.gp hc81 rfl rfl rfl rfl rfl (fun _ => R.mv (v := vI y49) rfl) ?_)))
       obtain ⟨u82, e83, hm⟩ := ob hm
       refine Mw.gp hc81 rfl rfl rfl rfl rfl (fun _ => R.ix (α := Int) o72.rd e83 rfl rfl rfl) (Mw.gq hc81 rfl rfl rfl rfl rfl (fun _ c => R.ld rfl rfl (cl_cell (o72.rd.at_ e83).1 rfl (o72.rd.at_ e83).int c)) ?_)
       obtain ⟨u84, e85, hm⟩ := ob hm
       refine Mw.gp hc81 rfl rfl rfl rfl rfl (fun _ => R.ix (α := Commit) o70.rd e85 rfl rfl rfl) (Mw.gp hc81 rfl rfl rfl rfl rfl (fun _ => R.fa rfl) ?_)
       obtain ⟨v86, c87, r88⟩ := (Commit.at0 (o70.rd.at_ e85)).cell rfl
       refine Mw.gq hc81 rfl rfl rfl rfl rfl (fun _ c => R.ld rfl rfl (cl_cell (Commit.at0 (o70.rd.at_ e85)).1 rfl c87 c)) ?_
       obtain ⟨u89, e90, hm⟩ := ob hm
       refine Mw.gp hc81 rfl rfl rfl rfl rfl (fun _ => R.ix (α := Int) r88 e90 rfl rfl rfl) (Mw.gq hc81 rfl rfl rfl rfl rfl (fun _ c => R.ld rfl rfl (cl_cell (r88.at_ e90).1 rfl (r88.at_ e90).int c)) (Mw.gp hc81 rfl rfl rfl rfl rfl (fun _ => R.mv (v := v0_17) rfl) (Mw.gp hc81 rfl rfl rfl rfl rfl (fun _ => R.mv (v := vI y49) rfl) (Mw.gp hc81 rfl rfl rfl rfl rfl (fun _ => R.add rfl rfl) ?_))))
       obtain ⟨u91, e92, hm⟩ := ob hm
       refine Mw.gp hc81 rfl rfl rfl rfl rfl (fun _ => R.ix (α := Int) o72.rd e92 rfl rfl rfl) (Mw.gq hc81 rfl rfl rfl rfl rfl (fun _ c => R.ld rfl rfl (cl_cell (o72.rd.at_ e92).1 rfl (o72.rd.at_ e92).int c)) (Mw.gp hc81 rfl rfl rfl rfl rfl (fun _ => R.ne rfl rfl) (Mw.p rfl rfl (fun _ => R.pk hc81 rfl (v := vB ((u89 : Int) != (u91 : Int))) rfl) (Mw.nil (⟨?_, ⟨((u89 : Int) != (u91 : Int)), W68, rfl, l68, rfl, hm⟩⟩)))))
       iterate 30 (refine .u ?_)
       exact Agree.refl _
    ·replace hm := bf hm hc58
     refine Cw.exit ?_
     rw [hK51] at hm
     obtain ⟨K95, hK95, hm⟩ := jn_e hm
     refine Cw.join 71 90 [2] (fun l w => ∃ (y93 : Bool) (W94 : CW), W94.w = w ∧ Le [] W50 W94 ∧ l = [vB y93] ∧ K95 y93 = some r) ?_ ?_
     ·rintro _ _ σ ⟨y93, W94, rfl, l94, rfl, hm⟩
      rw [hK95] at hm
      have a96 := a53.n l94
      cases hm
      exact Cw.ret (ret1 rfl (Res.mk a96 rfl))
     ·refine Cw.draw [] [(0, 0), (1, 0), (2, 1), (3, 0), (4, 0), (5, 0), (6, 0), (7, 1), (8, 0), (9, 0), (10, 0), (11, 0), (12, 0), (13, 1), (14, 0), (15, 0), (16, 1), (17, 0), (18, 0), (19, 0), (20, 0)] mixed (by kernel_rfl) fun W101 l101 => ?_
      have o103 := (o26.up l50 rfl).up l101 rfl
      have o105 := o56.up l101 rfl
      refine Mw.p rfl rfl (fun _ => R.mv (v := v0_17) rfl) ?_
      obtain ⟨u107, e108, hm⟩ := ob hm
      refine Mw.p rfl rfl (fun _ => R.ix (α := Int) o105.rd e108 rfl rfl rfl) (Mw.q rfl rfl (fun _ c => R.ld rfl rfl (cl_cell (o105.rd.at_ e108).1 rfl (o105.rd.at_ e108).int c)) (Mw.p rfl rfl (fun _ => R.mv (v := vI z2.2) rfl) (Mw.p rfl rfl (fun _ => R.eq rfl rfl) (Mw.p rfl rfl (fun _ => R.mv (v := vB ((u107 : Int) == (z2.2 : Int))) rfl) (bsplit ((u107 : Int) == (z2.2 : Int)) (fun hc109 => ?_) (fun hc109 => ?_))))))
      ·replace hm := bt hm hc109
       refine Mw.gp hc109 rfl rfl rfl rfl rfl (fun _ => R.fa rfl) (Mw.gq hc109 rfl rfl rfl rfl rfl (fun _ c => R.ld (v := v0_0_4) rfl rfl (((b29.up l50 rfl).up l101 rfl).clc rfl rfl c)) (Mw.gp hc109 rfl rfl rfl rfl rfl (fun _ => R.mv (v := v0_17) rfl) (Mw.gp hc109 rfl rfl rfl rfl rfl (fun _ => R.mv (v := v0_17) rfl) (Mw.gp hc109 rfl rfl rfl rfl rfl (fun _ => lenR (xs := z15) o105.rd rfl) (Mw.gp hc109 rfl rfl rfl rfl rfl (fun _ => R.sub rfl rfl) ?_)))))
       obtain ⟨u110, e111, hm⟩ := ob hm
       refine Mw.gp hc109 rfl rfl rfl rfl rfl (fun _ => R.ix (α := Int) o105.rd e111 rfl rfl rfl) (Mw.gq hc109 rfl rfl rfl rfl rfl (fun _ c => R.ld rfl rfl (cl_cell (o105.rd.at_ e111).1 rfl (o105.rd.at_ e111).int c)) ?_)
       obtain ⟨u112, e113, hm⟩ := ob hm
       refine Mw.gp hc109 rfl rfl rfl rfl rfl (fun _ => R.ix (α := Commit) o103.rd e113 rfl rfl rfl) (Mw.gp hc109 rfl rfl rfl rfl rfl (fun _ => R.fa rfl) ?_)
       obtain ⟨v114, c115, r116⟩ := (Commit.at0 (o103.rd.at_ e113)).cell rfl
       refine Mw.gq hc109 rfl rfl rfl rfl rfl (fun _ c => R.ld rfl rfl (cl_cell (Commit.at0 (o103.rd.at_ e113)).1 rfl c115 c)) (Mw.gp hc109 rfl rfl rfl rfl rfl (fun _ => lenR (xs := u112.Parents) r116 rfl) (Mw.gp hc109 rfl rfl rfl rfl rfl (fun _ => R.eq rfl rfl) (Mw.p rfl rfl (fun _ => R.pk hc109 rfl (v := vB (((u112.Parents.length : Int) : Int) == (0 : Int))) rfl) (Mw.p rfl rfl (fun _ => R.as (v := vB (((u112.Parents.length : Int) : Int) == (0 : Int))) rfl) (Mw.nil (⟨?_, ⟨(((u112.Parents.length : Int) : Int) == (0 : Int)), W101, rfl, l101, rfl, hm⟩⟩))))))
       iterate 21 (refine .u ?_)
       exact Agree.refl _
      ·replace hm := bf hm hc109
       refine Mw.ps hc109 rfl rfl (Mw.ps hc109 rfl rfl (Mw.ps hc109 rfl rfl (Mw.ps hc109 rfl rfl (Mw.ps hc109 rfl rfl (Mw.ps hc109 rfl rfl (Mw.ps hc109 rfl rfl (Mw.ps hc109 rfl rfl (Mw.ps hc109 rfl rfl (Mw.ps hc109 rfl rfl (Mw.ps hc109 rfl rfl (Mw.ps hc109 rfl rfl (Mw.ps hc109 rfl rfl (Mw.p rfl rfl (fun _ => R.pk hc109 rfl (v := vB false) rfl) (Mw.p rfl rfl (fun _ => R.as (v := vB false) rfl) (Mw.nil (⟨?_, ⟨false, W101, rfl, l101, rfl, hm⟩⟩))))))))))))))))
       iterate 21 (refine .u ?_)
       exact Agree.refl _
  ·refine Cw.region (Lw.m v0_17 rfl (Lw.r rfl (R.lda (cs := [v0_0_4, v0_1_4]) (b10.up l17 rfl).cells rfl rfl) (Lw.m (vI z2.2) rfl ?_)))
   obtain ⟨z117, e118, hm⟩ := ob hm
   refine Lw.t rfl (T.call rfl (p21 (K := [2, 3]) (k0 := 7) (x0 := (Vm.Repo.mk z2.1.Commits z2.1.Heads)) (Repo.rd (K := [2, 3]) z2.1.Commits z2.1.Heads ((o12.up l17 rfl).rd.sub (M := [2, 3]) rfl) ((o13.up l17 rfl).rd.sub (M := [2, 3]) rfl)) e118)) ?_
   rintro v0_119 _ ⟨W119, rfl, l119, ⟨_, rfl, f119_0⟩⟩
   obtain ⟨z125, e126, hm⟩ := ob hm
   refine Lw.t rfl (T.call rfl (p20 (K := [5, 7])  ((f17_0.up l119 rfl).rd.sub (M := [5, 7]) rfl) (f119_0.rd.sub (M := [5, 7]) rfl) e126)) ?_
   rintro _ _ ⟨W127, rfl, l127, rfl⟩
   refine Lw.r rfl (R.not rfl) (Lw.m (vB (!z125)) rfl (bsplit (!z125) (fun hc134 => ?_) (fun hc134 => ?_)))
   ·replace hm := bt hm hc134
    refine Lw.ps hc134 rfl (Lw.ps hc134 rfl (Lw.ps hc134 rfl (Lw.p hc134 (vB true) rfl (Lw.nil (⟨?_, ⟨true, W127, rfl, (l119.trans l127), rfl, hm⟩⟩)))))
    iterate 11 (refine .u ?_)
    exact Agree.refl _
   ·replace hm := bf hm hc134
    refine Lw.wa hc134 rfl (Lw.m v0_17 rfl (Lw.wa hc134 rfl (Lw.ln z15 ((f17_0.up l119 rfl).up l127 rfl).rd rfl (Lw.wa hc134 rfl (Lw.eq rfl (Lw.p hc134 (vB (((z15.length : Int) : Int) == (0 : Int))) rfl (Lw.nil (⟨?_, ⟨(((z15.length : Int) : Int) == (0 : Int)), W127, rfl, (l119.trans l127), rfl, hm⟩⟩))))))))
    iterate 11 (refine .u ?_)
    exact Agree.refl _

theorem p5 {W : CW} {K : List Nat} {x0 : List Byte} {v0_ : Value} {r : Bool} (h0 : Rd W K [v0_] x0) (h99 : Gl 0 W K) (hm : Vm.laws_FnAncLine x0 = some r) : CallR Tryz.prog 5 [v0_].toArray W.w (Res W [] fun W' v => v = vB r) :=
 (c5 (V := W.view K []) (h0.view _) (h99.view _) hm).ad (fk 0) fun _ _ e => e

end Go.Sx
