/- Walks: each function answers as its model, printed by a program of ours. Conditions: the arguments read as they are given. -/
import Derived.Test.YtmjjhnahdmlmaaaGreatDoorXTs
import Derived.Test.YtmjjhnahdmlmaaaGreatDoorXMd
import Derived.Test.YtmjjhnahdmlmaaaGreatDoorXW1
import Derived.Test.YtmjjhnahdmlmaaaGreatDoorXW2
namespace Go.Sx
open Go Go.Proofs Go.Vm Rp
set_option linter.unusedVariables false
set_option linter.unusedSimpArgs false

theorem c58 {V : CW} {x0 : Vm.Repo} {v0_0_ : Value} {v0_1_ : Value} {r : Vm.Repo} (h0 : Rd V [0] [v0_0_, v0_1_] x0) (hm : Vm.spec_l7Copy x0 = some r) : CallR Tryz.prog 58 [.agg [v0_0_, v0_1_].toArray].toArray V.w (Res V LL fun Wf v => ∃ (u0_0 : Value) (u0_1 : Value), v = .agg [u0_0, u0_1].toArray ∧ OwS Wf [31] [] [u0_0] r.Commits ∧ OwS Wf [32] [] [u0_1] r.Heads) := by
 unfold Vm.spec_l7Copy at hm
 obtain ⟨w0_0, w0_1, he0, h0_0, h0_1⟩ := Repo.split h0
 simp only [List.cons.injEq, and_true, true_and] at he0
 obtain ⟨rfl, rfl⟩ := he0
 obtain ⟨W0, hW0⟩ : ∃ W, W = V := ⟨V, rfl⟩
 subst hW0
 refine CallR.of Tryz.func58 rfl rfl rfl rfl (Cw.seq (Cw.region (Lw.t rfl (T.box 2 (v := .agg [v0_0_, v0_1_].toArray) (cs := [v0_0_, v0_1_]) rfl rfl) ?_)))
 rintro _ _ ⟨g1, W1, rfl, rfl, l1, b1⟩
 have a2 := l1.o
 refine Lw.t rfl (T.alloc 3 (cs := [.slice none 0 0, .slice none 0 0]) rfl) ?_
 rintro _ _ ⟨g3, W3, rfl, rfl, l3, b3⟩
 have a4 := a2.n l3
 refine Lw.nil (Cw.seq (Cw.region (Lw.t rfl (T.lit0 (α := Head) 4 []) ?_)))
 rintro v6 _ ⟨W6, rfl, l6, o6⟩
 have a7 := a4.n l6
 have b8 := (b1.up l3 rfl).up l6 rfl
 refine Lw.fa rfl (Lw.r rfl (R.ld (v := v0_1_) rfl rfl (b8.cell rfl)) ?_)
 obtain ⟨q10, e11, hm⟩ := ob hm
 refine Lw.t rfl (T.appP (α := Head) o6 (h0_1.ul a7) rfl rfl e11) ?_
 rintro v12 _ ⟨W12, rfl, l12, o12⟩
 have a14 := a7.t l12 rfl
 refine Lw.r rfl (R.bd (zs := [.slice none 0 0, .slice none 0 0]) (cs := [.slice none 0 0, v12]) [(1, v12)] rfl rfl rfl (bp_cons o12.oc rfl bp_nil)) (Lw.t rfl (T.alloc 5 (cs := [.slice none 0 0, .slice none 0 0]) rfl) ?_)
 rintro _ _ ⟨g17, W17, rfl, rfl, l17, b17⟩
 have a18 := a14.n l17
 refine Lw.u (T.sta (vs := [.slice none 0 0, v12]) b17 rfl rfl (oc_cons rfl (oc_cons (o12.up l17 rfl).oc oc_nil)) rfl rfl) ?_
 rintro _ _ ⟨W22, rfl, l22, b22⟩
 have a23 := a18.t l22 rfl
 refine Lw.nil (Cw.seq (Cw.seq (Cw.region (Lw.g (vI 0) rfl (Lw.nil (Cw.block ?_))))))
 obtain ⟨K36, hK36, hm⟩ := jn_e hm
 refine Cw.loop 10 27 [4] (fun m l w => ∃ (y27 : Int) (y28 : List Vm.Commit) (y31 : List Vm.Head) (v29 v32 : Value) (W35 : CW), W35.w = w ∧ Le [5, 6, 7, 8] W22 W35 ∧ l = [vI y27] ∧ Ow W35 6 [] [v29] y28 ∧ Ow W35 4 [] [v32] y31 ∧ Bx W35 5 g17 [v29, v32] ∧ Vm.spec_l7Copy_l1 x0 K36 m y27 y28 y31 = some r) (((x0.Commits.length : Int) - 0).toNat + 1) ⟨0, ([] : List Commit), q10, .slice none 0 0, v12, W22, rfl, Le.refl _ _, rfl, owN 6 [], ((o12.up l17 rfl).up l22 rfl), b22, hm⟩ ?_
 rintro m37 _ _ σ ⟨y27, y28, y31, v29, v32, W35, rfl, l35, rfl, o30, o33, b34, hm⟩
 obtain _ | m37 := m37
 ·cases hm
 unfold Vm.spec_l7Copy_l1 at hm
 have a38 := a23.t l35 rfl
 have b39 := (((b8.up l12 rfl).up l17 rfl).up l22 rfl).up l35 rfl
 refine Cw.seq (Cw.seq (Cw.region (Lw.m (vI y27) rfl (Lw.fa rfl (Lw.r rfl (R.ld (v := v0_0_) rfl rfl (b39.cell rfl)) (Lw.ln x0.Commits (h0_0.ul a38) rfl (Lw.lt rfl (Lw.nil (Cw.cond (b := decide ((y27 : Int) < ((x0.Commits.length : Int) : Int))) rfl (fun hc42 => ?_) (fun hc42 => ?_))))))))))
 ·replace hm := bt hm hc42
  refine Cw.skip (Cw.seq (Cw.block (Cw.draw [6, 7, 8] [(0, 0), (1, 1), (2, 0), (3, 1), (4, 0), (5, 0), (6, 1), (7, 2), (8, 2), (9, 2), (10, 0), (11, 3)] mixed (by kernel_rfl) fun W43 l43 => ?_)))
  have a44 := a38.n l43
  refine Mw.p rfl rfl (fun _ => R.fa rfl) (Mw.q rfl rfl (fun _ c => R.ld (v := v29) rfl rfl ((b34.up l43 rfl).clc rfl rfl c)) (Mw.p rfl rfl (fun _ => R.fa rfl) (Mw.q rfl rfl (fun _ c => R.ld (v := v0_0_) rfl rfl ((b39.up l43 rfl).clc rfl rfl c)) (Mw.p rfl rfl (fun _ => R.mv (v := vI y27) rfl) ?_))))
  obtain ⟨u50, e51, hm⟩ := ob hm
  have s52 := h0_0.ul a44
  refine Mw.p rfl rfl (fun _ => R.ix (α := Commit) s52 e51 rfl rfl rfl) ?_
  obtain ⟨x53, c54, _, r55⟩ := (s52.at_ e51).cells
  obtain ⟨v56, v58, rfl, r57, r59⟩ := Commit.split r55
  refine Mw.q rfl rfl (fun _ c => R.lda (cl_cells (s52.at_ e51).1 rfl c54 c) rfl rfl) ?_
  obtain ⟨z60, e61, hm⟩ := ob hm
  refine Mw.t rfl rfl (T.call rfl (p66 (K := [0]) (k0 := 7) (k1 := 8) (Commit.rd (K := [0]) u50.Parents u50.Who u50.Tree r57 r59) e61)) ?_
  rintro _ _ ⟨W62, rfl, l62, ⟨v0_0_62, v0_2_62, rfl, f62_0, f62_1⟩⟩
  refine ⟨⟨_, rfl, (l62.sub (M := [6, 7, 8]) rfl)⟩, ?_⟩
  refine Mw.t rfl rfl (T.bs 9 [.agg [v0_0_62, vS z60.Who, v0_2_62].toArray] (cs := [v0_0_62, vS z60.Who, v0_2_62]) rfl rfl (bsA rfl)) ?_
  rintro _ _ ⟨g69, W69, rfl, rfl, l69, b69⟩
  refine ⟨⟨_, rfl, ((l62.sub (M := [6, 7, 8]) rfl).trans (l69.sub (M := [6, 7, 8]) rfl))⟩, ?_⟩
  obtain ⟨q78, e79, hm⟩ := ob hm
  refine Mw.t rfl rfl (T.app1 (α := Commit) (J := [7, 8]) (K' := []) (((o30.up l43 rfl).up l62 rfl).up l69 rfl) b69 (Commit.own z60.Parents z60.Who z60.Tree (f62_0.up l69 rfl).s (f62_1.up l69 rfl).s) rfl rfl e79) ?_
  rintro v80 _ ⟨W80, rfl, l80, o80⟩
  refine ⟨⟨_, rfl, ((l62.sub (M := [6, 7, 8]) rfl).trans ((l69.sub (M := [6, 7, 8]) rfl).trans (l80.sub (M := [6, 7, 8]) rfl)))⟩, ?_⟩
  refine Mw.p rfl rfl (fun _ => R.fa rfl) (Mw.lu rfl (T.st (j := 0) (v := v80) ((((b34.up l43 rfl).up l62 rfl).up l69 rfl).up l80 rfl) rfl rfl o80.oc rfl rfl) ?_)
  rintro _ _ ⟨W87, rfl, l87, b87⟩
  refine Mw.nil (Cw.region (Lw.m (vI y27) rfl (Lw.add rfl (Lw.g (vI (w64 (y27 + 1))) rfl (Lw.nil (⟨?_, m37, Nat.lt_succ_self m37, ⟨w64 (y27 + 1), q78, y31, v80, v32, W87, rfl, (l35.trans ((l43.sub rfl).trans ((l62.sub rfl).trans ((l69.sub rfl).trans ((l80.sub rfl).trans (l87.sub rfl)))))), rfl, (o80.up l87 rfl), (((((o33.up l43 rfl).up l62 rfl).up l69 rfl).up l80 rfl).up l87 rfl), b87, hm⟩⟩))))))
  iterate 20 (refine .u ?_)
  exact Agree.base
 ·replace hm := bf hm hc42
  refine Cw.exit ?_
  rw [hK36] at hm
  refine Cw.seq (Cw.region (Lw.r rfl (R.lda (cs := [v29, v32]) b34.cells rfl rfl) (Lw.u (T.sta (vs := [v29, v32]) (((((b3.up l6 rfl).up l12 rfl).up l17 rfl).up l22 rfl).up l35 rfl) rfl rfl (oc_cons o30.oc (oc_cons o33.oc oc_nil)) rfl rfl) ?_)))
  rintro _ _ ⟨W94, rfl, l94, b94⟩
  have a95 := a38.t l94 rfl
  refine Lw.nil ?_
  obtain ⟨W100, ew100, l100, o100⟩ := (o30.up l94 rfl).dyeO 31
  have a101 := a95.t l100 rfl
  obtain ⟨W106, ew106, l106, o106⟩ := ((o33.up l94 rfl).up l100 rfl).dyeO 32
  have a107 := a101.t l106 rfl
  cases hm
  rw [← ew106.trans (ew100)]
  exact Cw.ret (retA1 rfl ((b94.up l100 rfl).up l106 rfl) (Res.mk a107 ⟨v29, v32, rfl, (o100.up l106 rfl).s, o106.s⟩))

theorem p58 {W : CW} {K : List Nat} {x0 : Vm.Repo} {v0_0_ : Value} {v0_1_ : Value} {k0 : Nat} {k1 : Nat} {r : Vm.Repo} (h0 : Rd W K [v0_0_, v0_1_] x0) (hm : Vm.spec_l7Copy x0 = some r) : CallR Tryz.prog 58 [.agg [v0_0_, v0_1_].toArray].toArray W.w (Res W [] fun W' v => ∃ (u0_0 : Value) (u0_1 : Value), v = .agg [u0_0, u0_1].toArray ∧ Ow W' k0 [] [u0_0] r.Commits ∧ Ow W' k1 [] [u0_1] r.Heads) :=
 CallR.adJ (J := []) (fun c => bif Nat.beq c 0 then 0 else bif Nat.beq c 31 then k0 else bif Nat.beq c 32 then k1 else 0) (c58 (V := W.view K []) (h0.view _) hm) fun _ _ ⟨u0_0, u0_1, e, f0, f1⟩ => ⟨u0_0, u0_1, e, f0.one1.backN rfl, f1.one1.backN rfl⟩

theorem c97 {V : CW} {x0 : Vm.Repo} {v0_0_ : Value} {v0_1_ : Value} {x1 : Str} {x2 : Int} {r : Vm.Repo} (h0 : Rd V [0] [v0_0_, v0_1_] x0) (hm : Vm.spec_l7Head x0 x1 x2 = some r) : CallR Tryz.prog 97 [.agg [v0_0_, v0_1_].toArray, vS x1, vI x2].toArray V.w (Res V LL fun Wf v => ∃ (u0_0 : Value) (u0_1 : Value), v = .agg [u0_0, u0_1].toArray ∧ Rd Wf [0] [u0_0] r.Commits ∧ Rd Wf [0] [u0_1] r.Heads) := by
 unfold Vm.spec_l7Head at hm
 obtain ⟨w0_0, w0_1, he0, h0_0, h0_1⟩ := Repo.split h0
 simp only [List.cons.injEq, and_true, true_and] at he0
 obtain ⟨rfl, rfl⟩ := he0
 obtain ⟨W0, hW0⟩ : ∃ W, W = V := ⟨V, rfl⟩
 subst hW0
 refine CallR.of Tryz.func97 rfl rfl rfl rfl (Cw.seq (Cw.region (Lw.t rfl (T.box 2 (v := .agg [v0_0_, v0_1_].toArray) (cs := [v0_0_, v0_1_]) rfl rfl) ?_)))
 rintro _ _ ⟨g1, W1, rfl, rfl, l1, b1⟩
 have a2 := l1.o
 refine Lw.t rfl (T.alloc 3 (cs := [.slice none 0 0, .slice none 0 0]) rfl) ?_
 rintro _ _ ⟨g3, W3, rfl, rfl, l3, b3⟩
 have a4 := a2.n l3
 refine Lw.nil (Cw.seq (Cw.region (Lw.fa rfl (Lw.r rfl (R.ld (v := v0_0_) rfl rfl ((b1.up l3 rfl).cell rfl)) (Lw.r rfl (R.bd (zs := [.slice none 0 0, .slice none 0 0]) (cs := [v0_0_, .slice none 0 0]) [(0, v0_0_)] rfl rfl rfl (bp_cons h0_0.oc rfl bp_nil)) (Lw.t rfl (T.alloc 4 (cs := [.slice none 0 0, .slice none 0 0]) rfl) ?_))))))
 rintro _ _ ⟨g6, W6, rfl, rfl, l6, b6⟩
 have a7 := a4.n l6
 refine Lw.u (T.sta (vs := [v0_0_, .slice none 0 0]) b6 rfl rfl (oc_cons h0_0.oc (oc_cons rfl oc_nil)) rfl rfl) ?_
 rintro _ _ ⟨W10, rfl, l10, b10⟩
 have a11 := a7.t l10 rfl
 refine Lw.nil (Cw.seq (Cw.region (Lw.g (vB false) rfl (Lw.nil (Cw.seq (Cw.seq (Cw.region (Lw.g (vI 0) rfl (Lw.nil (Cw.block ?_))))))))))
 obtain ⟨K24, hK24, hm⟩ := jn_e hm
 refine Cw.loop 13 57 [8, 9] (fun m l w => ∃ (y14 : Bool) (y15 : Int) (y16 : List Vm.Commit) (y19 : List Vm.Head) (v17 v20 : Value) (W23 : CW), W23.w = w ∧ Le [4, 5] W10 W23 ∧ l = [vB y14, vI y15] ∧ Rd W23 [0] [v17] y16 ∧ Ow W23 5 [] [v20] y19 ∧ Bx W23 4 g6 [v17, v20] ∧ Vm.spec_l7Head_l1 x0 x1 x2 K24 m y14 y15 y16 y19 = some r) (((x0.Heads.length : Int) - 0).toNat + 1) ⟨false, 0, x0.Commits, ([] : List Head), v0_0_, .slice none 0 0, W10, rfl, Le.refl _ _, rfl, (h0_0.ul a11), owN 5 [], b10, hm⟩ ?_
 rintro m26 _ _ σ ⟨y14, y15, y16, y19, v17, v20, W23, rfl, l23, rfl, r18, o21, b22, hm⟩
 obtain _ | m26 := m26
 ·cases hm
 unfold Vm.spec_l7Head_l1 at hm
 have a27 := a11.t l23 rfl
 have b28 := (((b1.up l3 rfl).up l6 rfl).up l10 rfl).up l23 rfl
 refine Cw.seq (Cw.seq (Cw.region ?_))
 have s30 := h0_1.ul a27
 refine Lw.m (vI y15) rfl (Lw.fa rfl (Lw.r rfl (R.ld (v := v0_1_) rfl rfl (b28.cell rfl)) (Lw.ln x0.Heads s30 rfl (Lw.lt rfl (Lw.nil (Cw.cond (b := decide ((y15 : Int) < ((x0.Heads.length : Int) : Int))) rfl (fun hc31 => ?_) (fun hc31 => ?_)))))))
 ·replace hm := bt hm hc31
  refine Cw.skip ?_
  obtain ⟨K41, hK41, hm⟩ := jn_e hm
  refine Cw.join 20 57 [8] (fun l w => ∃ (y32 : Bool) (y33 : List Vm.Commit) (y36 : List Vm.Head) (v34 v37 : Value) (W40 : CW), W40.w = w ∧ Le [4, 5] W23 W40 ∧ l = [vB y32] ∧ Rd W40 [0] [v34] y33 ∧ Ow W40 5 [] [v37] y36 ∧ Bx W40 4 g6 [v34, v37] ∧ K41 y32 y33 y36 = some r) ?_ ?_
  ·rintro _ _ σ ⟨y32, y33, y36, v34, v37, W40, rfl, l40, rfl, r35, o38, b39, hm⟩
   rw [hK41] at hm
   refine Cw.region (Lw.m (vI y15) rfl (Lw.add rfl (Lw.g (vI (w64 (y15 + 1))) rfl (Lw.nil (⟨?_, m26, Nat.lt_succ_self m26, ⟨y32, w64 (y15 + 1), y33, y36, v34, v37, W40, rfl, (l23.trans l40), rfl, r35, o38, b39, hm⟩⟩)))))
   iterate 4 (refine .u ?_)
   refine Agree.ov0 rfl ?_
   iterate 7 (refine .u ?_)
   exact Agree.base
  ·refine Cw.block ?_
   obtain ⟨K54, hK54, hm⟩ := jn_e hm
   refine Cw.join 20 39 [8] (fun l w => ∃ (y45 : Bool) (y46 : List Vm.Commit) (y49 : List Vm.Head) (v47 v50 : Value) (W53 : CW), W53.w = w ∧ Le [4, 5] W23 W53 ∧ l = [vB y45] ∧ Rd W53 [0] [v47] y46 ∧ Ow W53 5 [] [v50] y49 ∧ Bx W53 4 g6 [v47, v50] ∧ K54 y45 y46 y49 = some r) ?_ ?_
   ·rintro _ _ σ ⟨y45, y46, y49, v47, v50, W53, rfl, l53, rfl, r48, o51, b52, hm⟩
    rw [hK54] at hm
    have a55 := a27.t l53 rfl
    refine Cw.seq (Cw.region (Lw.fa rfl (Lw.r rfl (R.ld (v := v0_1_) rfl rfl ((b28.up l53 rfl).cell rfl)) (Lw.m (vI y15) rfl ?_))))
    obtain ⟨u58, e59, hm⟩ := ob hm
    refine Lw.r rfl (R.ix (α := Head) (h0_1.ul a55) e59 rfl rfl rfl) (Lw.fa rfl (Lw.r rfl (R.ld rfl rfl (Head.at0 ((h0_1.ul a55).at_ e59)).str) (Lw.m (vS x1) rfl (Lw.sne rfl (Lw.nil (Cw.cond (b := (u58.Name != x1)) rfl (fun hc61 => ?_) (fun hc61 => ?_)))))))
    ·replace hm := bt hm hc61
     refine Cw.draw [5] [(0, 0), (1, 1), (2, 0), (3, 1), (4, 0), (5, 0), (6, 1), (7, 2), (8, 2), (9, 0), (10, 3)] mixed (by kernel_rfl) fun W62 l62 => ?_
     have a63 := l62.o
     refine Mw.p rfl rfl (fun _ => R.fa rfl) (Mw.q rfl rfl (fun _ c => R.ld (v := v50) rfl rfl ((b52.up l62 rfl).clc rfl rfl c)) (Mw.p rfl rfl (fun _ => R.fa rfl) (Mw.q rfl rfl (fun _ c => R.ld (v := v0_1_) rfl rfl (((b28.up l53 rfl).up l62 rfl).clc rfl rfl c)) (Mw.p rfl rfl (fun _ => R.mv (v := vI y15) rfl) ?_))))
     obtain ⟨u68, e69, hm⟩ := ob hm
     have s70 := h0_1.ul (a55.trans a63)
     refine Mw.p rfl rfl (fun _ => R.ix (α := Head) s70 e69 rfl rfl rfl) ?_
     obtain ⟨x71, c72, _, r73⟩ := (s70.at_ e69).cells
     obtain rfl := Head.split r73
     refine Mw.q rfl rfl (fun _ c => R.lda (cl_cells (s70.at_ e69).1 rfl c72 c) rfl rfl) (Mw.t rfl rfl (T.bs 6 [.agg [vS u68.Name, vI u68.At].toArray] (cs := [vS u68.Name, vI u68.At]) rfl rfl (bsA rfl)) ?_)
     rintro _ _ ⟨g74, W74, rfl, rfl, l74, b74⟩
     have a75 := a63.n l74
     refine ⟨⟨_, rfl, (l74.sub (M := [5]) rfl)⟩, ?_⟩
     obtain ⟨q80, e81, hm⟩ := ob hm
     refine Mw.t rfl rfl (T.app1S (α := Head) (K' := []) ((o51.up l62 rfl).up l74 rfl) b74 (Head.rd (K := []) u68.Name u68.At) rfl rfl e81) ?_
     rintro v82 _ ⟨W82, rfl, l82, o82⟩
     have a83 := a75.t l82 rfl
     refine ⟨⟨_, rfl, ((l74.sub (M := [5]) rfl).trans (l82.sub (M := [5]) rfl))⟩, ?_⟩
     refine Mw.p rfl rfl (fun _ => R.fa rfl) (Mw.lu rfl (T.st (j := 1) (v := v82) (((b52.up l62 rfl).up l74 rfl).up l82 rfl) rfl rfl o82.oc rfl rfl) ?_)
     rintro _ _ ⟨W88, rfl, l88, b88⟩
     have a89 := a83.t l88 rfl
     refine Mw.nil (⟨?_, ⟨y45, y46, q80, v47, v82, W88, rfl, (l53.trans ((l62.sub rfl).trans ((l74.sub rfl).trans ((l82.sub rfl).trans (l88.sub rfl))))), rfl, (r48.ul a89), (o82.up l88 rfl), b88, hm⟩⟩)
     iterate 19 (refine .u ?_)
     refine Agree.ov0 rfl ?_
     exact Agree.refl _
    ·replace hm := bf hm hc61
     refine Cw.skip (⟨?_, ⟨y45, y46, y49, v47, v50, W53, rfl, l53, rfl, r48, o51, b52, hm⟩⟩)
     iterate 9 (refine .u ?_)
     refine Agree.ov0 rfl ?_
     exact Agree.refl _
   ·obtain ⟨K97, hK97, hm⟩ := jn_e hm
    refine Cw.join 20 31 [31] (fun l w => ∃ (y95 : Bool) (W96 : CW), W96.w = w ∧ Le [] W23 W96 ∧ l = [vB y95] ∧ K97 y95 = some r) ?_ ?_
    ·rintro _ _ σ ⟨y95, W96, rfl, l96, rfl, hm⟩
     rw [hK97] at hm
     have a98 := l96.o
     have b102 := b22.up l96 rfl
     refine Cw.cond (b := y95) rfl (fun hc103 => ?_) (fun hc103 => ?_)
     ·replace hm := bt hm hc103
      refine Cw.seq (Cw.region (Lw.fa rfl (Lw.r rfl (R.ld (v := v20) rfl rfl (b102.cell rfl)) (Lw.m (vS x1) rfl (Lw.m (vI x2) rfl (Lw.r rfl (R.bd (zs := [vS ([] : Str), vI 0]) (cs := [vS x1, vI x2]) [(0, vS x1), (1, vI x2)] rfl rfl rfl (bp_cons rfl rfl (bp_cons rfl rfl bp_nil))) (Lw.t rfl (T.bs 7 [.agg [vS x1, vI x2].toArray] (cs := [vS x1, vI x2]) rfl rfl (bsA rfl)) ?_)))))))
      rintro _ _ ⟨g104, W104, rfl, rfl, l104, b104⟩
      have a105 := a98.n l104
      obtain ⟨q110, e111, hm⟩ := ob hm
      refine Lw.t rfl (T.app1S (α := Head) (K' := []) ((o21.up l96 rfl).up l104 rfl) b104 (Head.rd (K := []) x1 x2) rfl rfl e111) ?_
      rintro v112 _ ⟨W112, rfl, l112, o112⟩
      have a113 := a105.t l112 rfl
      refine Lw.fa rfl (Lw.u (T.st (j := 1) (v := v112) ((b102.up l104 rfl).up l112 rfl) rfl rfl o112.oc rfl rfl) ?_)
      rintro _ _ ⟨W118, rfl, l118, b118⟩
      have a119 := a113.t l118 rfl
      refine Lw.nil (Cw.region (Lw.g (vB true) rfl (Lw.nil (⟨?_, ⟨true, y16, q110, v17, v112, W118, rfl, ((l96.sub rfl).trans ((l104.sub rfl).trans ((l112.sub rfl).trans (l118.sub rfl)))), rfl, (r18.ul a119), (o112.up l118 rfl), b118, hm⟩⟩))))
      iterate 10 (refine .u ?_)
      refine Agree.ov0 rfl ?_
      exact Agree.refl _
     ·replace hm := bf hm hc103
      refine Cw.skip (⟨?_, ⟨y14, y16, y19, v17, v20, W96, rfl, (l96.sub rfl), rfl, (r18.ul a98), (o21.up l96 rfl), b102, hm⟩⟩)
      iterate 1 (refine .u ?_)
      refine Agree.ov0 rfl ?_
      exact Agree.refl _
    ·refine Cw.region (Lw.m (vB y14) rfl (Lw.r rfl (R.not rfl) (Lw.m (vB (!y14)) rfl (bsplit (!y14) (fun hc126 => ?_) (fun hc126 => ?_)))))
     ·replace hm := bt hm hc126
      refine Lw.wa hc126 rfl (Lw.fa rfl (Lw.wa hc126 rfl (Lw.r rfl (R.ld (v := v0_1_) rfl rfl (b28.cell rfl)) (Lw.wa hc126 rfl (Lw.m (vI y15) rfl (Lw.wa hc126 rfl ?_))))))
      obtain ⟨u127, e128, hm⟩ := ob hm
      refine Lw.r rfl (R.ix (α := Head) s30 e128 rfl rfl rfl) (Lw.wa hc126 rfl (Lw.fa rfl (Lw.wa hc126 rfl (Lw.r rfl (R.ld rfl rfl (Head.at0 (s30.at_ e128)).str) (Lw.wa hc126 rfl (Lw.m (vS x1) rfl (Lw.wa hc126 rfl (Lw.r rfl (R.sge rfl rfl) (Lw.p hc126 (vB (!Op.bytesLess u127.Name x1)) rfl (Lw.nil (⟨?_, ⟨(!Op.bytesLess u127.Name x1), W23, rfl, Le.refl _ _, rfl, hm⟩⟩)))))))))))
      iterate 12 (refine .u ?_)
      exact Agree.refl _
     ·replace hm := bf hm hc126
      refine Lw.ps hc126 rfl (Lw.ps hc126 rfl (Lw.ps hc126 rfl (Lw.ps hc126 rfl (Lw.ps hc126 rfl (Lw.ps hc126 rfl (Lw.ps hc126 rfl (Lw.ps hc126 rfl (Lw.p hc126 (vB false) rfl (Lw.nil (⟨?_, ⟨false, W23, rfl, Le.refl _ _, rfl, hm⟩⟩))))))))))
      iterate 12 (refine .u ?_)
      exact Agree.refl _
 ·replace hm := bf hm hc31
  refine Cw.exit ?_
  rw [hK24] at hm
  obtain ⟨K137, hK137, hm⟩ := jn_e hm
  refine Cw.join 58 67 [] (fun l w => ∃ (y129 : List Vm.Commit) (y132 : List Vm.Head) (v130 v133 : Value) (W136 : CW), W136.w = w ∧ Le [4, 5] W23 W136 ∧ l = [] ∧ Rd W136 [0] [v130] y129 ∧ Ow W136 5 [] [v133] y132 ∧ Bx W136 4 g6 [v130, v133] ∧ K137 y129 y132 = some r) ?_ ?_
  ·rintro _ _ σ ⟨y129, y132, v130, v133, W136, rfl, l136, rfl, r131, o134, b135, hm⟩
   rw [hK137] at hm
   have a138 := a27.t l136 rfl
   refine Cw.seq (Cw.region (Lw.r rfl (R.lda (cs := [v130, v133]) b135.cells rfl rfl) (Lw.u (T.sta (vs := [v130, v133]) ((((b3.up l6 rfl).up l10 rfl).up l23 rfl).up l136 rfl) rfl rfl (oc_cons r131.oc (oc_cons o134.oc oc_nil)) rfl rfl) ?_)))
   rintro _ _ ⟨W141, rfl, l141, b141⟩
   have a142 := l141.s rfl
   refine Lw.nil ?_
   obtain ⟨W146, ew146, l146, dj146⟩ := dyeE _ 5
   have s147 : Rd (α := List Vm.Head) W146 [0] [v133] y132 := by rw [dj146]; exact ((o134.up l141 rfl).rd.dye 5).sub (M := [0]) rfl
   have a148 := l146.s rfl
   cases hm
   rw [← ew146]
   exact Cw.ret (retA1 rfl (b141.up l146 rfl) (Res.mk ((a138.trans a142).trans a148) ⟨v130, v133, rfl, (r131.ul (a142.trans a148)), s147⟩))
  ·refine Cw.seq (Cw.region (Lw.m (vB y14) rfl (Lw.r rfl (R.not rfl) (Lw.nil (Cw.cond (b := (!y14)) rfl (fun hc153 => ?_) (fun hc153 => ?_))))))
   ·replace hm := bt hm hc153
    refine Cw.region (Lw.fa rfl (Lw.r rfl (R.ld (v := v20) rfl rfl (b22.cell rfl)) (Lw.m (vS x1) rfl (Lw.m (vI x2) rfl (Lw.r rfl (R.bd (zs := [vS ([] : Str), vI 0]) (cs := [vS x1, vI x2]) [(0, vS x1), (1, vI x2)] rfl rfl rfl (bp_cons rfl rfl (bp_cons rfl rfl bp_nil))) (Lw.t rfl (T.bs 8 [.agg [vS x1, vI x2].toArray] (cs := [vS x1, vI x2]) rfl rfl (bsA rfl)) ?_))))))
    rintro _ _ ⟨g154, W154, rfl, rfl, l154, b154⟩
    have a155 := l154.o
    obtain ⟨q160, e161, hm⟩ := ob hm
    refine Lw.t rfl (T.app1S (α := Head) (K' := []) (o21.up l154 rfl) b154 (Head.rd (K := []) x1 x2) rfl rfl e161) ?_
    rintro v162 _ ⟨W162, rfl, l162, o162⟩
    have a163 := a155.t l162 rfl
    refine Lw.fa rfl (Lw.u (T.st (j := 1) (v := v162) ((b22.up l154 rfl).up l162 rfl) rfl rfl o162.oc rfl rfl) ?_)
    rintro _ _ ⟨W168, rfl, l168, b168⟩
    have a169 := a163.t l168 rfl
    refine Lw.nil (⟨?_, ⟨y16, q160, v17, v162, W168, rfl, ((l154.sub rfl).trans ((l162.sub rfl).trans (l168.sub rfl))), rfl, (r18.ul a169), (o162.up l168 rfl), b168, hm⟩⟩)
    iterate 10 (refine .u ?_)
    exact Agree.refl _
   ·replace hm := bf hm hc153
    refine Cw.skip (⟨?_, ⟨y16, y19, v17, v20, W23, rfl, Le.refl _ _, rfl, r18, o21, b22, hm⟩⟩)
    iterate 2 (refine .u ?_)
    exact Agree.refl _

theorem p97 {W : CW} {K : List Nat} {x0 : Vm.Repo} {v0_0_ : Value} {v0_1_ : Value} {x1 : Str} {x2 : Int} {r : Vm.Repo} (h0 : Rd W K [v0_0_, v0_1_] x0) (hm : Vm.spec_l7Head x0 x1 x2 = some r) : CallR Tryz.prog 97 [.agg [v0_0_, v0_1_].toArray, vS x1, vI x2].toArray W.w (Res W [] fun W' v => ∃ (u0_0 : Value) (u0_1 : Value), v = .agg [u0_0, u0_1].toArray ∧ Rd W' (0 :: K) [u0_0] r.Commits ∧ Rd W' (0 :: K) [u0_1] r.Heads) :=
 (c97 (V := W.view K []) (h0.view _) hm).ad (fk 0) fun _ _ ⟨u0_0, u0_1, e, f0, f1⟩ => ⟨u0_0, u0_1, e, f0.back rfl, f1.back rfl⟩

theorem c107 {V : CW} {x0 : Vm.Repo} {v0_0_ : Value} {v0_1_ : Value} {x1 : Str} {x2 : Vm.Commit} {v2_0_ : Value} {v2_2_ : Value} {r : Vm.Repo} (h0 : Rd V [0] [v0_0_, v0_1_] x0) (h2 : Rd V [0] [v2_0_, vS x2.Who, v2_2_] x2) (hm : Vm.spec_l7Add x0 x1 x2 = some r) : CallR Tryz.prog 107 [.agg [v0_0_, v0_1_].toArray, vS x1, .agg [v2_0_, vS x2.Who, v2_2_].toArray].toArray V.w (Res V LL fun Wf v => ∃ (u0_0 : Value) (u0_1 : Value), v = .agg [u0_0, u0_1].toArray ∧ Rd Wf [0] [u0_0] r.Commits ∧ Rd Wf [0] [u0_1] r.Heads) := by
 unfold Vm.spec_l7Add at hm
 obtain ⟨w0_0, w0_1, he0, h0_0, h0_1⟩ := Repo.split h0
 simp only [List.cons.injEq, and_true, true_and] at he0
 obtain ⟨rfl, rfl⟩ := he0
 obtain ⟨w2_0, w2_1, he2, h2_0, h2_2⟩ := Commit.split h2
 simp only [List.cons.injEq, and_true, true_and] at he2
 obtain ⟨rfl, rfl⟩ := he2
 obtain ⟨W0, hW0⟩ : ∃ W, W = V := ⟨V, rfl⟩
 subst hW0
 refine CallR.of Tryz.func107 rfl rfl rfl rfl (Cw.seq (Cw.region (Lw.t rfl (T.box 2 (v := .agg [v0_0_, v0_1_].toArray) (cs := [v0_0_, v0_1_]) rfl rfl) ?_)))
 rintro _ _ ⟨g1, W1, rfl, rfl, l1, b1⟩
 have a2 := l1.o
 refine Lw.t rfl (T.box 3 (v := .agg [v2_0_, vS x2.Who, v2_2_].toArray) (cs := [v2_0_, vS x2.Who, v2_2_]) rfl rfl) ?_
 rintro _ _ ⟨g3, W3, rfl, rfl, l3, b3⟩
 have a4 := a2.n l3
 refine Lw.t rfl (T.alloc 4 (cs := [.slice none 0 0, .slice none 0 0]) rfl) ?_
 rintro _ _ ⟨g6, W6, rfl, rfl, l6, b6⟩
 have a7 := a4.n l6
 refine Lw.nil (Cw.seq ?_)
 obtain ⟨q26, e27, hm⟩ := ob hm
 obtain ⟨q41, e42, hm⟩ := ob hm
 refine Cw.par [[], [], [1], [0, 1, 2], [], [4], [0, 1, 2, 3, 4, 5], [], [7], [0, 1, 2, 3, 4, 5, 6, 7, 8], [], [0, 1, 2, 3, 4, 5, 6, 7, 8, 9, 10]] [[], [], [1], [0, 2], [], [4], [3, 5], [], [7], [6, 8], [], [6, 9, 10]] [[], [], [], [5], [], [], [5], [], [], [], [], [7]] [[0], [1], [2], [3], [4], [5], [6], [7], [8], [6, 9], [10], [6, 10]] [[5], [], [], [0, 5], [], [6], [0, 5], [], [], [], [7], [7]] [1, 2, 4, 5, 6, 7, 8, 9, 11] [5, 7] [fun vs W => Ow W 5 [] [(vs 0)] ([] : List Commit), fun vs W => (vs 1) = ptr ((bx g1).add 0), fun vs W => (vs 2) = v0_0_, fun vs W => Ow (α := List (Sh Vm.Commit)) W 5 [0] [(vs 3)] q26, fun vs W => (vs 4) = .agg [v2_0_, vS x2.Who, v2_2_].toArray, fun vs W => (vs 5) = .slice (some (bx (pg (vs 5)))) 1 1 ∧ Bx W 6 (pg (vs 5)) [v2_0_, vS x2.Who, v2_2_], fun vs W => Ow (α := List (Sh Vm.Commit)) W 5 [0] [(vs 6)] q41, fun vs W => (vs 7) = ptr ((bx g1).add 1), fun vs W => (vs 8) = v0_1_, fun vs W => (vs 9) = .agg [(vs 6), v0_1_].toArray, fun vs W => (vs 10) = ptr (bx (pg (vs 10))) ∧ Bx W 7 (pg (vs 10)) [.slice none 0 0, .slice none 0 0], fun vs W => (vs 10) = ptr (bx (pg (vs 10))) ∧ Bx W 7 (pg (vs 10)) [(vs 6), v0_1_]] [] mixed (by kernel_rfl) rfl AllF.nil ?_
 intro W63 l63
 have a64 := a7.n l63
 have b65 := ((b1.up l3 rfl).up l6 rfl).up l63 rfl
 refine ⟨(Steps.cons ?_ (Steps.cons ?_ (Steps.cons ?_ (Steps.cons ?_ (Steps.cons ?_ (Steps.cons ?_ (Steps.cons ?_ (Steps.cons ?_ (Steps.cons ?_ (Steps.cons ?_ (Steps.cons ?_ (Steps.cons ?_ Steps.nil)))))))))))), (Sups.cons (fun vs vs' W W' _ hv l hd h => by (show Ow W' 5 [] [(vs' 0)] ([] : List Commit)); rw [hv 0 (anyb rfl)]; exact h.upv l (disj_mem hd (c := 5) rfl)) (Sups.cons (fun vs vs' W W' _ hv l hd h => by (show (vs' 1) = ptr ((bx g1).add 0)); rw [hv 1 (anyb rfl)]; exact h) (Sups.cons (fun vs vs' W W' _ hv l hd h => by (show (vs' 2) = v0_0_); rw [hv 2 (anyb rfl)]; exact h) (Sups.cons (fun vs vs' W W' _ hv l hd h => by (show Ow (α := List (Sh Vm.Commit)) W' 5 [0] [(vs' 3)] q26); rw [hv 3 (anyb rfl)]; exact h.up l (disj_sub hd (K := [5, 0]) rfl)) (Sups.cons (fun vs vs' W W' _ hv l hd h => by (show (vs' 4) = .agg [v2_0_, vS x2.Who, v2_2_].toArray); rw [hv 4 (anyb rfl)]; exact h) (Sups.cons (fun vs vs' W W' _ hv l hd h => by (show (vs' 5) = .slice (some (bx (pg (vs' 5)))) 1 1 ∧ Bx W' 6 (pg (vs' 5)) [v2_0_, vS x2.Who, v2_2_]); rw [hv 5 (anyb rfl)]; exact ⟨h.1, h.2.up l (disj_mem hd (c := 6) rfl)⟩) (Sups.cons (fun vs vs' W W' _ hv l hd h => by (show Ow (α := List (Sh Vm.Commit)) W' 5 [0] [(vs' 6)] q41); rw [hv 6 (anyb rfl)]; exact h.up l (disj_sub hd (K := [5, 0]) rfl)) (Sups.cons (fun vs vs' W W' _ hv l hd h => by (show (vs' 7) = ptr ((bx g1).add 1)); rw [hv 7 (anyb rfl)]; exact h) (Sups.cons (fun vs vs' W W' _ hv l hd h => by (show (vs' 8) = v0_1_); rw [hv 8 (anyb rfl)]; exact h) (Sups.cons (fun vs vs' W W' _ hv l hd h => by (show (vs' 9) = .agg [(vs' 6), v0_1_].toArray); rw [hv 6 (anyb rfl), hv 9 (anyb rfl)]; exact h) (Sups.cons (fun vs vs' W W' _ hv l hd h => by (show (vs' 10) = ptr (bx (pg (vs' 10))) ∧ Bx W' 7 (pg (vs' 10)) [.slice none 0 0, .slice none 0 0]); rw [hv 10 (anyb rfl)]; exact ⟨h.1, h.2.up l (disj_mem hd (c := 7) rfl)⟩) (Sups.cons (fun vs vs' W W' _ hv l hd h => by (show (vs' 10) = ptr (bx (pg (vs' 10))) ∧ Bx W' 7 (pg (vs' 10)) [(vs' 6), v0_1_]); rw [hv 6 (anyb rfl), hv 10 (anyb rfl)]; exact ⟨h.1, h.2.up l (disj_mem hd (c := 7) rfl)⟩) Sups.nil)))))))))))), ?_⟩
 ·intro vs W lW hN
  obtain ⟨W68, hW68⟩ : ∃ X, X = W := ⟨W, rfl⟩
  subst hW68
  refine Tr.mono (T.lit0 (α := Commit) 5 []) ?_
  rintro v73 _ ⟨W73, rfl, l73, o73⟩
  exact ⟨W73, rfl, l73, (show Ow W73 5 [] [v73] ([] : List Commit) from o73)⟩
 ·intro vs W lW hN
  obtain ⟨W78, hW78⟩ : ∃ X, X = W := ⟨W, rfl⟩
  subst hW78
  refine Tr.mono (Run.tr (R.fa rfl)) ?_
  rintro _ _ ⟨hu, rfl⟩
  obtain rfl := hu.symm
  exact ⟨W78, rfl, Le.refl _ _, (show (ptr ((bx g1).add 0) : Value) = ptr ((bx g1).add 0) from rfl)⟩
 ·intro vs W lW hN
  obtain ⟨W83, hW83⟩ : ∃ X, X = W := ⟨W, rfl⟩
  subst hW83
  have e1_ : vs 1 = ptr ((bx g1).add 0) := (hN 1 (anyb rfl))
  obtain ⟨vs, rfl⟩ := up_eq e1_
  refine Tr.mono (Run.tr (R.ld (v := v0_0_) rfl rfl ((b65.up lW rfl).cell rfl))) ?_
  rintro _ _ ⟨hu, rfl⟩
  obtain rfl := hu.symm
  exact ⟨W83, rfl, Le.refl _ _, (show (v0_0_ : Value) = v0_0_ from rfl)⟩
 ·intro vs W lW hN
  obtain ⟨W88, hW88⟩ : ∃ X, X = W := ⟨W, rfl⟩
  subst hW88
  have a89 := a64.t lW rfl
  obtain ⟨pv0, e0_⟩ : ∃ v, vs 0 = v := ⟨_, rfl⟩
  obtain ⟨vs, rfl⟩ := up_eq e0_
  have o93 : Ow W88 5 [] [pv0] ([] : List Commit) := (hN 0 (anyb rfl))
  have e2_ : vs 2 = v0_0_ := (hN 2 (anyb rfl))
  obtain ⟨vs, rfl⟩ := up_eq e2_
  obtain ⟨W94, ew94, l94, o94⟩ := o93.toSh
  rw [← ew94]
  have a95 := a89.t l94 rfl
  refine Tr.mono (T.appS (α := Sh Vm.Commit) (K' := [0]) o94 (h0_0.ul a95).shL rfl rfl e27) ?_
  rintro v100 _ ⟨W100, rfl, l100, o100⟩
  exact ⟨W100, rfl, ((l94.sub (M := [5]) rfl).trans (l100.sub (M := [5]) rfl)), (show Ow (α := List (Sh Vm.Commit)) W100 5 [0] [v100] q26 from o100)⟩
 ·intro vs W lW hN
  obtain ⟨W105, hW105⟩ : ∃ X, X = W := ⟨W, rfl⟩
  subst hW105
  refine Tr.mono (Run.tr (R.lda (cs := [v2_0_, vS x2.Who, v2_2_]) (((b3.up l6 rfl).up l63 rfl).up lW rfl).cells rfl rfl)) ?_
  rintro _ _ ⟨hu, rfl⟩
  obtain rfl := hu.symm
  exact ⟨W105, rfl, Le.refl _ _, (show (.agg [v2_0_, vS x2.Who, v2_2_].toArray : Value) = .agg [v2_0_, vS x2.Who, v2_2_].toArray from rfl)⟩
 ·intro vs W lW hN
  obtain ⟨W110, hW110⟩ : ∃ X, X = W := ⟨W, rfl⟩
  subst hW110
  have e4_ : vs 4 = .agg [v2_0_, vS x2.Who, v2_2_].toArray := (hN 4 (anyb rfl))
  obtain ⟨vs, rfl⟩ := up_eq e4_
  refine Tr.mono (T.bs 6 [.agg [v2_0_, vS x2.Who, v2_2_].toArray] (cs := [v2_0_, vS x2.Who, v2_2_]) rfl rfl (bsA rfl)) ?_
  rintro _ _ ⟨g115, W115, rfl, rfl, l115, b115⟩
  exact ⟨W115, rfl, l115, (show (.slice (some (bx g115)) 1 1 : Value) = .slice (some (bx g115)) 1 1 ∧ Bx W115 6 g115 [v2_0_, vS x2.Who, v2_2_] from ⟨rfl, b115⟩)⟩
 ·intro vs W lW hN
  obtain ⟨W120, hW120⟩ : ∃ X, X = W := ⟨W, rfl⟩
  subst hW120
  have a121 := a64.t lW rfl
  obtain ⟨pv3, e3_⟩ : ∃ v, vs 3 = v := ⟨_, rfl⟩
  obtain ⟨vs, rfl⟩ := up_eq e3_
  have o125 : Ow (α := List (Sh Vm.Commit)) W120 5 [0] [pv3] q26 := (hN 3 (anyb rfl))
  obtain ⟨pg5, e5_⟩ : ∃ pg5, vs 5 = .slice (some (bx pg5)) 1 1 := ⟨_, ((hN 5 (anyb rfl))).1⟩
  obtain ⟨vs, rfl⟩ := up_eq e5_
  have o126 : Bx W120 6 pg5 [v2_0_, vS x2.Who, v2_2_] := (hN 5 (anyb rfl)).2
  refine Tr.mono (T.app1S (α := Sh Vm.Commit) (K' := [0]) o125 o126 (Commit.rd (K := [0]) x2.Parents x2.Who x2.Tree (h2_0.ul a121) (h2_2.ul a121)).sh1 rfl rfl e42) ?_
  rintro v129 _ ⟨W129, rfl, l129, o129⟩
  exact ⟨W129, rfl, l129, (show Ow (α := List (Sh Vm.Commit)) W129 5 [0] [v129] q41 from o129)⟩
 ·intro vs W lW hN
  obtain ⟨W135, hW135⟩ : ∃ X, X = W := ⟨W, rfl⟩
  subst hW135
  refine Tr.mono (Run.tr (R.fa rfl)) ?_
  rintro _ _ ⟨hu, rfl⟩
  obtain rfl := hu.symm
  exact ⟨W135, rfl, Le.refl _ _, (show (ptr ((bx g1).add 1) : Value) = ptr ((bx g1).add 1) from rfl)⟩
 ·intro vs W lW hN
  obtain ⟨W140, hW140⟩ : ∃ X, X = W := ⟨W, rfl⟩
  subst hW140
  have e7_ : vs 7 = ptr ((bx g1).add 1) := (hN 7 (anyb rfl))
  obtain ⟨vs, rfl⟩ := up_eq e7_
  refine Tr.mono (Run.tr (R.ld (v := v0_1_) rfl rfl ((b65.up lW rfl).cell rfl))) ?_
  rintro _ _ ⟨hu, rfl⟩
  obtain rfl := hu.symm
  exact ⟨W140, rfl, Le.refl _ _, (show (v0_1_ : Value) = v0_1_ from rfl)⟩
 ·intro vs W lW hN
  obtain ⟨W145, hW145⟩ : ∃ X, X = W := ⟨W, rfl⟩
  subst hW145
  obtain ⟨pv6, e6_⟩ : ∃ v, vs 6 = v := ⟨_, rfl⟩
  obtain ⟨vs, rfl⟩ := up_eq e6_
  have o150 : Ow (α := List (Sh Vm.Commit)) W145 5 [0] [pv6] q41 := (hN 6 (anyb rfl))
  have e8_ : vs 8 = v0_1_ := (hN 8 (anyb rfl))
  obtain ⟨vs, rfl⟩ := up_eq e8_
  refine Tr.mono (Run.tr (R.bd (zs := [.slice none 0 0, .slice none 0 0]) (cs := [pv6, v0_1_]) [(0, pv6), (1, v0_1_)] rfl rfl rfl (bp_cons o150.oc rfl (bp_cons h0_1.oc rfl bp_nil)))) ?_
  rintro _ _ ⟨hu, rfl⟩
  obtain rfl := hu.symm
  exact ⟨W145, rfl, Le.refl _ _, (show (.agg [pv6, v0_1_].toArray : Value) = .agg [pv6, v0_1_].toArray from rfl)⟩
 ·intro vs W lW hN
  obtain ⟨W151, hW151⟩ : ∃ X, X = W := ⟨W, rfl⟩
  subst hW151
  refine Tr.mono (T.alloc 7 (cs := [.slice none 0 0, .slice none 0 0]) rfl) ?_
  rintro _ _ ⟨g156, W156, rfl, rfl, l156, b156⟩
  exact ⟨W156, rfl, l156, (show (ptr (bx g156) : Value) = ptr (bx g156) ∧ Bx W156 7 g156 [.slice none 0 0, .slice none 0 0] from ⟨rfl, b156⟩)⟩
 ·intro vs W lW hN
  obtain ⟨W161, hW161⟩ : ∃ X, X = W := ⟨W, rfl⟩
  subst hW161
  obtain ⟨pv6, e6_⟩ : ∃ v, vs 6 = v := ⟨_, rfl⟩
  obtain ⟨vs, rfl⟩ := up_eq e6_
  have o166 : Ow (α := List (Sh Vm.Commit)) W161 5 [0] [pv6] q41 := (hN 6 (anyb rfl))
  have e9_ : vs 9 = .agg [pv6, v0_1_].toArray := (hN 9 (anyb rfl))
  obtain ⟨vs, rfl⟩ := up_eq e9_
  obtain ⟨pg10, e10_⟩ : ∃ pg10, vs 10 = ptr (bx pg10) := ⟨_, ((hN 10 (anyb rfl))).1⟩
  obtain ⟨vs, rfl⟩ := up_eq e10_
  have o167 : Bx W161 7 pg10 [.slice none 0 0, .slice none 0 0] := (hN 10 (anyb rfl)).2
  refine Tr.mono (T.sta (vs := [pv6, v0_1_]) o167 rfl rfl (oc_cons o166.oc (oc_cons h0_1.oc oc_nil)) rfl rfl) ?_
  rintro _ _ ⟨W168, rfl, l168, b168⟩
  exact ⟨W168, rfl, l168, (show (ptr (bx pg10)) = ptr (bx pg10) ∧ Bx W168 7 pg10 [pv6, v0_1_] from ⟨rfl, b168⟩)⟩
 ·intro vs W lW hN
  obtain ⟨W174, hW174⟩ : ∃ X, X = W := ⟨W, rfl⟩
  subst hW174
  have a175 := a64.t lW rfl
  obtain ⟨l174, hl174⟩ : ∃ x, x = lW := ⟨lW, rfl⟩
  have e1_ : vs 1 = ptr ((bx g1).add 0) := (hN 1 (anyb rfl))
  obtain ⟨vs, rfl⟩ := up_eq e1_
  have e2_ : vs 2 = v0_0_ := (hN 2 (anyb rfl))
  obtain ⟨vs, rfl⟩ := up_eq e2_
  have e4_ : vs 4 = .agg [v2_0_, vS x2.Who, v2_2_].toArray := (hN 4 (anyb rfl))
  obtain ⟨vs, rfl⟩ := up_eq e4_
  obtain ⟨pg5, e5_⟩ : ∃ pg5, vs 5 = .slice (some (bx pg5)) 1 1 := ⟨_, ((hN 5 (anyb rfl))).1⟩
  obtain ⟨vs, rfl⟩ := up_eq e5_
  have o179 : Bx W174 6 pg5 [v2_0_, vS x2.Who, v2_2_] := (hN 5 (anyb rfl)).2
  obtain ⟨pv6, e6_⟩ : ∃ v, vs 6 = v := ⟨_, rfl⟩
  obtain ⟨vs, rfl⟩ := up_eq e6_
  have o180 : Ow (α := List (Sh Vm.Commit)) W174 5 [0] [pv6] q41 := (hN 6 (anyb rfl))
  have e7_ : vs 7 = ptr ((bx g1).add 1) := (hN 7 (anyb rfl))
  obtain ⟨vs, rfl⟩ := up_eq e7_
  have e8_ : vs 8 = v0_1_ := (hN 8 (anyb rfl))
  obtain ⟨vs, rfl⟩ := up_eq e8_
  have e9_ : vs 9 = .agg [pv6, v0_1_].toArray := (hN 9 (anyb rfl))
  obtain ⟨vs, rfl⟩ := up_eq e9_
  obtain ⟨pg10, e10_⟩ : ∃ pg10, vs 10 = ptr (bx pg10) := ⟨_, (hN 11 (anyb rfl)).1⟩
  obtain ⟨vs, rfl⟩ := up_eq e10_
  have o181 : Bx W174 7 pg10 [pv6, v0_1_] := (hN 11 (anyb rfl)).2
  refine Cw.seq (Cw.region (Lw.r rfl (R.lda (cs := [pv6, v0_1_]) o181.cells rfl rfl) (Lw.m (vS x1) rfl (Lw.fa rfl (Lw.r rfl (R.ld (v := v0_0_) rfl rfl ((b65.up lW rfl).cell rfl)) (Lw.ln x0.Commits (h0_0.ul a175) rfl ?_))))))
  have s183 : Rd (α := List Vm.Commit) W174 [5, 0] [pv6] q41 := Ow.rdSh o180
  obtain ⟨z185, e186, hm⟩ := ob hm
  refine Lw.t rfl (T.call rfl (p97 (K := [0, 5])  (x0 := (Vm.Repo.mk q41 x0.Heads)) (Repo.rd (K := [0, 5]) q41 x0.Heads (s183.sub (M := [0, 5]) rfl) ((h0_1.ul a175).sub (M := [0, 5]) rfl)) e186)) ?_
  rintro _ _ ⟨W187, rfl, l187, ⟨v0_0_187, v0_1_187, rfl, f187_0, f187_1⟩⟩
  have s188 := f187_0.sub (M := [0, 5]) rfl
  have s189 := f187_1.sub (M := [0, 5]) rfl
  have a190 := a175.n l187
  refine Lw.u (T.sta (vs := [v0_0_187, v0_1_187]) (((b6.up l63 rfl).up lW rfl).up l187 rfl) rfl rfl (oc_cons s188.oc (oc_cons s189.oc oc_nil)) rfl rfl) ?_
  rintro _ _ ⟨W197, rfl, l197, b197⟩
  have a198 := a190.t l197 rfl
  refine Lw.nil ?_
  have s204 := s188.up (l197.sub (M := [4]) rfl) rfl
  have s205 := s189.up (l197.sub (M := [4]) rfl) rfl
  obtain ⟨W206, ew206, l206, dj206⟩ := dyeE _ 5
  have s207 : Rd W206 [0] [v0_0_187] z185.Commits := by rw [dj206]; exact (s204.dye 5).sub (M := [0]) rfl
  have s208 : Rd W206 [0] [v0_1_187] z185.Heads := by rw [dj206]; exact (s205.dye 5).sub (M := [0]) rfl
  have s209 : Rd (α := List Vm.Commit) W206 [0] [pv6] q41 := by rw [dj206]; exact (((o180.up l187 rfl).up l197 rfl).rd.dye 5).sub (M := [0]) rfl
  have a210 := a198.t l206 rfl
  cases hm
  rw [← ew206]
  exact Cw.ret (retA1 rfl (b197.up l206 rfl) (Res.mk a210 ⟨v0_0_187, v0_1_187, rfl, s207, s208⟩))

theorem p107 {W : CW} {K : List Nat} {x0 : Vm.Repo} {v0_0_ : Value} {v0_1_ : Value} {x1 : Str} {x2 : Vm.Commit} {v2_0_ : Value} {v2_2_ : Value} {r : Vm.Repo} (h0 : Rd W K [v0_0_, v0_1_] x0) (h2 : Rd W K [v2_0_, vS x2.Who, v2_2_] x2) (hm : Vm.spec_l7Add x0 x1 x2 = some r) : CallR Tryz.prog 107 [.agg [v0_0_, v0_1_].toArray, vS x1, .agg [v2_0_, vS x2.Who, v2_2_].toArray].toArray W.w (Res W [] fun W' v => ∃ (u0_0 : Value) (u0_1 : Value), v = .agg [u0_0, u0_1].toArray ∧ Rd W' (0 :: K) [u0_0] r.Commits ∧ Rd W' (0 :: K) [u0_1] r.Heads) :=
 (c107 (V := W.view K []) (h0.view _) (h2.view _) hm).ad (fk 0) fun _ _ ⟨u0_0, u0_1, e, f0, f1⟩ => ⟨u0_0, u0_1, e, f0.back rfl, f1.back rfl⟩

theorem c95 {V : CW} {x0 : Vm.Repo} {v0_0_ : Value} {v0_1_ : Value} {x1 : Str} {x2 : Str} {x3 : List Vm.File} {v3_ : Value} {r : Vm.Repo × Bool} (h0 : Rd V [0] [v0_0_, v0_1_] x0) (h3 : Rd V [0] [v3_] x3) (hm : Vm.spec_RepoCommit x0 x1 x2 x3 = some r) : CallR Tryz.prog 95 [.agg [v0_0_, v0_1_].toArray, vS x1, vS x2, v3_].toArray V.w (Res V LL fun Wf v => ∃ (u0_0 : Value) (u0_1 : Value), v = .tuple [.agg [u0_0, u0_1].toArray, vB r.2].toArray ∧ Rd Wf [0] [u0_0] r.1.Commits ∧ Rd Wf [0] [u0_1] r.1.Heads) := by
 unfold Vm.spec_RepoCommit at hm
 obtain ⟨w0_0, w0_1, he0, h0_0, h0_1⟩ := Repo.split h0
 simp only [List.cons.injEq, and_true, true_and] at he0
 obtain ⟨rfl, rfl⟩ := he0
 obtain ⟨W0, hW0⟩ : ∃ W, W = V := ⟨V, rfl⟩
 subst hW0
 refine CallR.of Tryz.func95 rfl rfl rfl rfl (Cw.seq (Cw.region (Lw.t rfl (T.box 2 (v := .agg [v0_0_, v0_1_].toArray) (cs := [v0_0_, v0_1_]) rfl rfl) ?_)))
 rintro _ _ ⟨g1, W1, rfl, rfl, l1, b1⟩
 have a2 := l1.o
 refine Lw.t rfl (T.alloc 3 (cs := [.slice none 0 0, .slice none 0 0]) rfl) ?_
 rintro _ _ ⟨g3, W3, rfl, rfl, l3, b3⟩
 have a4 := a2.n l3
 refine Lw.g (vB false) rfl (Lw.nil (Cw.seq (Cw.seq (Cw.region (Lw.r rfl (R.lda (cs := [v0_0_, v0_1_]) (b1.up l3 rfl).cells rfl rfl) ?_)))))
 obtain ⟨z8, e9, hm⟩ := ob hm
 refine Lw.t rfl (T.call rfl (p30 (K := [0])  (Repo.rd (K := [0]) x0.Commits x0.Heads (h0_0.ul a4) (h0_1.ul a4)) e9)) ?_
 rintro _ _ ⟨W10, rfl, l10, rfl⟩
 have a11 := a4.n l10
 refine Lw.r rfl (R.not rfl) (Lw.nil (Cw.cond (b := (!z8)) rfl (fun hc14 => ?_) (fun hc14 => ?_)))
 ·replace hm := bt hm hc14
  refine Cw.seq (Cw.region (Lw.r rfl (R.bd (zs := [.slice none 0 0, .slice none 0 0]) (cs := [.slice none 0 0, .slice none 0 0]) [] rfl rfl rfl bp_nil) (Lw.u (T.sta (vs := [.slice none 0 0, .slice none 0 0]) (b3.up l10 rfl) rfl rfl (oc_cons rfl (oc_cons rfl oc_nil)) rfl rfl) ?_)))
  rintro _ _ ⟨W15, rfl, l15, b15⟩
  have a16 := a11.t l15 rfl
  refine Lw.g (vB false) rfl (Lw.nil ?_)
  cases hm
  exact Cw.ret (retA2 rfl b15 rfl (Res.mk a16 ⟨.slice none 0 0, .slice none 0 0, rfl, (rdN (K := [0])), (rdN (K := [0]))⟩))
 ·replace hm := bf hm hc14
  refine Cw.skip (Cw.seq (Cw.region (Lw.m (vS x2) rfl (Lw.m v3_ rfl ?_))))
  obtain ⟨z19, e20, hm⟩ := ob hm
  refine Lw.t rfl (T.call rfl (p32 (K := [0]) (k0 := 4) (h3.ul a11) e20)) ?_
  rintro v0_21 _ ⟨W21, rfl, l21, ⟨_, rfl, f21_0⟩⟩
  have a22 := a11.n l21
  refine Lw.r rfl (R.bd (zs := [.slice none 0 0, vS ([] : Str), .slice none 0 0]) (cs := [.slice none 0 0, vS x2, v0_21]) [(1, vS x2), (2, v0_21)] rfl rfl rfl (bp_cons rfl rfl (bp_cons f21_0.oc rfl bp_nil))) (Lw.t rfl (T.alloc 5 (cs := [.slice none 0 0, vS ([] : Str), .slice none 0 0]) rfl) ?_)
  rintro _ _ ⟨g25, W25, rfl, rfl, l25, b25⟩
  have a26 := a22.n l25
  refine Lw.u (T.sta (vs := [.slice none 0 0, vS x2, v0_21]) b25 rfl rfl (oc_cons rfl (oc_cons rfl (oc_cons (f21_0.up l25 rfl).oc oc_nil))) rfl rfl) ?_
  rintro _ _ ⟨W30, rfl, l30, b30⟩
  have a31 := a26.t l30 rfl
  have b33 := ((((b1.up l3 rfl).up l10 rfl).up l21 rfl).up l25 rfl).up l30 rfl
  refine Lw.nil ?_
  obtain ⟨K44, hK44, hm⟩ := jn_e hm
  refine Cw.join 20 28 [] (fun l w => ∃ (y35 : List Int) (y38 : Str) (y39 : List Vm.File) (v36 v40 : Value) (W43 : CW), W43.w = w ∧ Le [5, 12] W30 W43 ∧ l = [] ∧ Ow W43 6 [] [v36] y35 ∧ Ow W43 4 [] [v40] y39 ∧ Bx W43 5 g25 [v36, vS y38, v40] ∧ K44 y35 y38 y39 = some r) ?_ ?_
  ·rintro _ _ σ ⟨y35, y38, y39, v36, v40, W43, rfl, l43, rfl, o37, o41, b42, hm⟩
   rw [hK44] at hm
   have a45 := a31.t l43 rfl
   refine Cw.seq ?_
   obtain ⟨z57, e58, hm⟩ := ob hm
   obtain ⟨z66, e67, hm⟩ := ob hm
   refine Cw.par [[], [0], [], [], [0, 1, 2, 3], [], [0, 1, 2, 3, 4, 5]] [[], [0], [], [], [1, 2, 3], [], [4, 5]] [[], [], [], [], [], [], [9]] [[0], [1], [2], [3], [4], [5], [4, 5]] [[], [7, 8], [], [], [0, 4, 6, 7, 8], [9], [9]] [0, 1, 2, 3, 4, 6] [9] [fun vs W => (vs 0) = .agg [v0_0_, v0_1_].toArray, fun vs W => (vs 1) = .agg [(cellOf (vs 1) 0), (cellOf (vs 1) 1)].toArray ∧ Ow W 7 [] [(cellOf (vs 1) 0)] z57.Commits ∧ Ow W 8 [] [(cellOf (vs 1) 1)] z57.Heads, fun vs W => (vs 2) = vS x1, fun vs W => (vs 3) = .agg [v36, vS y38, v40].toArray, fun vs W => (vs 4) = .agg [(cellOf (vs 4) 0), (cellOf (vs 4) 1)].toArray ∧ Rd W [0, 4, 6, 7, 8] [(cellOf (vs 4) 0)] z66.Commits ∧ Rd W [0, 4, 6, 7, 8] [(cellOf (vs 4) 1)] z66.Heads, fun vs W => (vs 5) = ptr (bx (pg (vs 5))) ∧ Bx W 9 (pg (vs 5)) [.slice none 0 0, .slice none 0 0], fun vs W => (vs 5) = ptr (bx (pg (vs 5))) ∧ Bx W 9 (pg (vs 5)) [(cellOf (vs 4) 0), (cellOf (vs 4) 1)]] [] mixed (by kernel_rfl) rfl AllF.nil ?_
   intro W97 l97
   have a98 := a45.n l97
   have b101 := (b33.up l43 rfl).up l97 rfl
   refine ⟨(Steps.cons ?_ (Steps.cons ?_ (Steps.cons ?_ (Steps.cons ?_ (Steps.cons ?_ (Steps.cons ?_ (Steps.cons ?_ Steps.nil))))))), (Sups.cons (fun vs vs' W W' _ hv l hd h => by (show (vs' 0) = .agg [v0_0_, v0_1_].toArray); rw [hv 0 (anyb rfl)]; exact h) (Sups.cons (fun vs vs' W W' _ hv l hd h => by (show (vs' 1) = .agg [(cellOf (vs' 1) 0), (cellOf (vs' 1) 1)].toArray ∧ Ow W' 7 [] [(cellOf (vs' 1) 0)] z57.Commits ∧ Ow W' 8 [] [(cellOf (vs' 1) 1)] z57.Heads); rw [hv 1 (anyb rfl)]; exact ⟨h.1, h.2.1.upv l (disj_mem hd (c := 7) rfl), h.2.2.upv l (disj_mem hd (c := 8) rfl)⟩) (Sups.cons (fun vs vs' W W' _ hv l hd h => by (show (vs' 2) = vS x1); rw [hv 2 (anyb rfl)]; exact h) (Sups.cons (fun vs vs' W W' _ hv l hd h => by (show (vs' 3) = .agg [v36, vS y38, v40].toArray); rw [hv 3 (anyb rfl)]; exact h) (Sups.cons (fun vs vs' W W' _ hv l hd h => by (show (vs' 4) = .agg [(cellOf (vs' 4) 0), (cellOf (vs' 4) 1)].toArray ∧ Rd W' [0, 4, 6, 7, 8] [(cellOf (vs' 4) 0)] z66.Commits ∧ Rd W' [0, 4, 6, 7, 8] [(cellOf (vs' 4) 1)] z66.Heads); rw [hv 4 (anyb rfl)]; exact ⟨h.1, h.2.1.up l (disj_sub hd (K := [0, 4, 6, 7, 8]) rfl), h.2.2.up l (disj_sub hd (K := [0, 4, 6, 7, 8]) rfl)⟩) (Sups.cons (fun vs vs' W W' _ hv l hd h => by (show (vs' 5) = ptr (bx (pg (vs' 5))) ∧ Bx W' 9 (pg (vs' 5)) [.slice none 0 0, .slice none 0 0]); rw [hv 5 (anyb rfl)]; exact ⟨h.1, h.2.up l (disj_mem hd (c := 9) rfl)⟩) (Sups.cons (fun vs vs' W W' _ hv l hd h => by (show (vs' 5) = ptr (bx (pg (vs' 5))) ∧ Bx W' 9 (pg (vs' 5)) [(cellOf (vs' 4) 0), (cellOf (vs' 4) 1)]); rw [hv 4 (anyb rfl), hv 5 (anyb rfl)]; exact ⟨h.1, h.2.up l (disj_mem hd (c := 9) rfl)⟩) Sups.nil))))))), ?_⟩
   ·intro vs W lW hN
    obtain ⟨W104, hW104⟩ : ∃ X, X = W := ⟨W, rfl⟩
    subst hW104
    refine Tr.mono (Run.tr (R.lda (cs := [v0_0_, v0_1_]) (b101.up lW rfl).cells rfl rfl)) ?_
    rintro _ _ ⟨hu, rfl⟩
    obtain rfl := hu.symm
    exact ⟨W104, rfl, Le.refl _ _, (show (.agg [v0_0_, v0_1_].toArray : Value) = .agg [v0_0_, v0_1_].toArray from rfl)⟩
   ·intro vs W lW hN
    obtain ⟨W111, hW111⟩ : ∃ X, X = W := ⟨W, rfl⟩
    subst hW111
    have a112 := a98.t lW rfl
    have e0_ : vs 0 = .agg [v0_0_, v0_1_].toArray := (hN 0 (anyb rfl))
    obtain ⟨vs, rfl⟩ := up_eq e0_
    refine Tr.mono (T.call rfl (p58 (K := [0]) (k0 := 7) (k1 := 8) (Repo.rd (K := [0]) x0.Commits x0.Heads (h0_0.ul a112) (h0_1.ul a112)) e58)) ?_
    rintro _ _ ⟨W120, rfl, l120, ⟨v0_0_120, v0_1_120, rfl, f120_0, f120_1⟩⟩
    exact ⟨W120, rfl, l120, (show (.agg [v0_0_120, v0_1_120].toArray : Value) = .agg [v0_0_120, v0_1_120].toArray ∧ Ow W120 7 [] [v0_0_120] z57.Commits ∧ Ow W120 8 [] [v0_1_120] z57.Heads from ⟨rfl, f120_0, f120_1⟩)⟩
   ·intro vs W lW hN
    obtain ⟨W127, hW127⟩ : ∃ X, X = W := ⟨W, rfl⟩
    subst hW127
    refine Tr.mono (Run.tr (R.mv (v := vS x1) rfl)) ?_
    rintro _ _ ⟨hu, rfl⟩
    obtain rfl := hu.symm
    exact ⟨W127, rfl, Le.refl _ _, (show (vS x1 : Value) = vS x1 from rfl)⟩
   ·intro vs W lW hN
    obtain ⟨W134, hW134⟩ : ∃ X, X = W := ⟨W, rfl⟩
    subst hW134
    refine Tr.mono (Run.tr (R.lda (cs := [v36, vS y38, v40]) ((b42.up l97 rfl).up lW rfl).cells rfl rfl)) ?_
    rintro _ _ ⟨hu, rfl⟩
    obtain rfl := hu.symm
    exact ⟨W134, rfl, Le.refl _ _, (show (.agg [v36, vS y38, v40].toArray : Value) = .agg [v36, vS y38, v40].toArray from rfl)⟩
   ·intro vs W lW hN
    obtain ⟨W141, hW141⟩ : ∃ X, X = W := ⟨W, rfl⟩
    subst hW141
    obtain ⟨pc1_0, pc1_1, e1_⟩ : ∃ pc1_0 pc1_1 : Value, vs 1 = .agg [pc1_0, pc1_1].toArray := ⟨_, _, (hN 1 (anyb rfl)).1⟩
    obtain ⟨vs, rfl⟩ := up_eq e1_
    have o148 : Ow W141 7 [] [pc1_0] z57.Commits := (hN 1 (anyb rfl)).2.1
    have o149 : Ow W141 8 [] [pc1_1] z57.Heads := (hN 1 (anyb rfl)).2.2
    have e2_ : vs 2 = vS x1 := (hN 2 (anyb rfl))
    obtain ⟨vs, rfl⟩ := up_eq e2_
    have e3_ : vs 3 = .agg [v36, vS y38, v40].toArray := (hN 3 (anyb rfl))
    obtain ⟨vs, rfl⟩ := up_eq e3_
    refine Tr.mono (T.call rfl (p107 (K := [4, 6, 7, 8])  (x0 := (Vm.Repo.mk z57.Commits z57.Heads)) (x2 := (Vm.Commit.mk y35 y38 y39)) ((Repo.rd (K := [7, 8]) z57.Commits z57.Heads (o148.rd.sub (M := [7, 8]) rfl) (o149.rd.sub (M := [7, 8]) rfl)).sub (M := [4, 6, 7, 8]) rfl) ((Commit.rd (K := [4, 6]) y35 y38 y39 (((o37.up l97 rfl).up lW rfl).rd.sub (M := [4, 6]) rfl) (((o41.up l97 rfl).up lW rfl).rd.sub (M := [4, 6]) rfl)).sub (M := [4, 6, 7, 8]) rfl) e67)) ?_
    rintro _ _ ⟨W150, rfl, l150, ⟨v0_0_150, v0_1_150, rfl, f150_0, f150_1⟩⟩
    have s151 := f150_0.sub (M := [0, 4, 6, 7, 8]) rfl
    have s152 := f150_1.sub (M := [0, 4, 6, 7, 8]) rfl
    exact ⟨W150, rfl, l150, (show (.agg [v0_0_150, v0_1_150].toArray : Value) = .agg [v0_0_150, v0_1_150].toArray ∧ Rd W150 [0, 4, 6, 7, 8] [v0_0_150] z66.Commits ∧ Rd W150 [0, 4, 6, 7, 8] [v0_1_150] z66.Heads from ⟨rfl, s151, s152⟩)⟩
   ·intro vs W lW hN
    obtain ⟨W161, hW161⟩ : ∃ X, X = W := ⟨W, rfl⟩
    subst hW161
    refine Tr.mono (T.alloc 9 (cs := [.slice none 0 0, .slice none 0 0]) rfl) ?_
    rintro _ _ ⟨g168, W168, rfl, rfl, l168, b168⟩
    exact ⟨W168, rfl, l168, (show (ptr (bx g168) : Value) = ptr (bx g168) ∧ Bx W168 9 g168 [.slice none 0 0, .slice none 0 0] from ⟨rfl, b168⟩)⟩
   ·intro vs W lW hN
    obtain ⟨W175, hW175⟩ : ∃ X, X = W := ⟨W, rfl⟩
    subst hW175
    obtain ⟨pc4_0, pc4_1, e4_⟩ : ∃ pc4_0 pc4_1 : Value, vs 4 = .agg [pc4_0, pc4_1].toArray := ⟨_, _, (hN 4 (anyb rfl)).1⟩
    obtain ⟨vs, rfl⟩ := up_eq e4_
    have o182 : Rd W175 [0, 4, 6, 7, 8] [pc4_0] z66.Commits := (hN 4 (anyb rfl)).2.1
    have o183 : Rd W175 [0, 4, 6, 7, 8] [pc4_1] z66.Heads := (hN 4 (anyb rfl)).2.2
    obtain ⟨pg5, e5_⟩ : ∃ pg5, vs 5 = ptr (bx pg5) := ⟨_, ((hN 5 (anyb rfl))).1⟩
    obtain ⟨vs, rfl⟩ := up_eq e5_
    have o184 : Bx W175 9 pg5 [.slice none 0 0, .slice none 0 0] := (hN 5 (anyb rfl)).2
    refine Tr.mono (T.sta (vs := [pc4_0, pc4_1]) o184 rfl rfl (oc_cons o182.oc (oc_cons o183.oc oc_nil)) rfl rfl) ?_
    rintro _ _ ⟨W185, rfl, l185, b185⟩
    exact ⟨W185, rfl, l185, (show (ptr (bx pg5)) = ptr (bx pg5) ∧ Bx W185 9 pg5 [pc4_0, pc4_1] from ⟨rfl, b185⟩)⟩
   ·intro vs W lW hN
    obtain ⟨W192, hW192⟩ : ∃ X, X = W := ⟨W, rfl⟩
    subst hW192
    have a193 := a98.t lW rfl
    obtain ⟨l192, hl192⟩ : ∃ x, x = lW := ⟨lW, rfl⟩
    have e0_ : vs 0 = .agg [v0_0_, v0_1_].toArray := (hN 0 (anyb rfl))
    obtain ⟨vs, rfl⟩ := up_eq e0_
    obtain ⟨pc1_0, pc1_1, e1_⟩ : ∃ pc1_0 pc1_1 : Value, vs 1 = .agg [pc1_0, pc1_1].toArray := ⟨_, _, (hN 1 (anyb rfl)).1⟩
    obtain ⟨vs, rfl⟩ := up_eq e1_
    have o199 : Ow W192 7 [] [pc1_0] z57.Commits := (hN 1 (anyb rfl)).2.1
    have o200 : Ow W192 8 [] [pc1_1] z57.Heads := (hN 1 (anyb rfl)).2.2
    have e2_ : vs 2 = vS x1 := (hN 2 (anyb rfl))
    obtain ⟨vs, rfl⟩ := up_eq e2_
    have e3_ : vs 3 = .agg [v36, vS y38, v40].toArray := (hN 3 (anyb rfl))
    obtain ⟨vs, rfl⟩ := up_eq e3_
    obtain ⟨pc4_0, pc4_1, e4_⟩ : ∃ pc4_0 pc4_1 : Value, vs 4 = .agg [pc4_0, pc4_1].toArray := ⟨_, _, (hN 4 (anyb rfl)).1⟩
    obtain ⟨vs, rfl⟩ := up_eq e4_
    have o201 : Rd W192 [0, 4, 6, 7, 8] [pc4_0] z66.Commits := (hN 4 (anyb rfl)).2.1
    have o202 : Rd W192 [0, 4, 6, 7, 8] [pc4_1] z66.Heads := (hN 4 (anyb rfl)).2.2
    obtain ⟨pg5, e5_⟩ : ∃ pg5, vs 5 = ptr (bx pg5) := ⟨_, (hN 6 (anyb rfl)).1⟩
    obtain ⟨vs, rfl⟩ := up_eq e5_
    have o203 : Bx W192 9 pg5 [pc4_0, pc4_1] := (hN 6 (anyb rfl)).2
    refine Cw.seq (Cw.seq (Cw.region (Lw.r rfl (R.lda (cs := [pc4_0, pc4_1]) o203.cells rfl rfl) ?_)))
    obtain ⟨z204, e205, hm⟩ := ob hm
    refine Lw.t rfl (T.call rfl (p30 (K := [0, 4, 6, 7, 8])  (Repo.rd (K := [0, 4, 6, 7, 8]) z66.Commits z66.Heads o201 o202) e205)) ?_
    rintro _ _ ⟨W206, rfl, l206, rfl⟩
    have a207 := a193.n l206
    have b213 := (((((((b3.up l10 rfl).up l21 rfl).up l25 rfl).up l30 rfl).up l43 rfl).up l97 rfl).up lW rfl).up l206 rfl
    refine Lw.r rfl (R.not rfl) (Lw.nil (Cw.cond (b := (!z204)) rfl (fun hc216 => ?_) (fun hc216 => ?_)))
    ·replace hm := bt hm hc216
     refine Cw.seq (Cw.region (Lw.r rfl (R.lda (cs := [v0_0_, v0_1_]) ((b101.up lW rfl).up l206 rfl).cells rfl rfl) ?_))
     obtain ⟨z219, e220, hm⟩ := ob hm
     refine Lw.t rfl (T.call rfl (p58 (K := [0]) (k0 := 10) (k1 := 11) (Repo.rd (K := [0]) x0.Commits x0.Heads (h0_0.ul a207) (h0_1.ul a207)) e220)) ?_
     rintro _ _ ⟨W221, rfl, l221, ⟨v0_0_221, v0_1_221, rfl, f221_0, f221_1⟩⟩
     have a222 := a207.n l221
     refine Lw.u (T.sta (vs := [v0_0_221, v0_1_221]) (b213.up l221 rfl) rfl rfl (oc_cons f221_0.oc (oc_cons f221_1.oc oc_nil)) rfl rfl) ?_
     rintro _ _ ⟨W231, rfl, l231, b231⟩
     have a232 := a222.t l231 rfl
     refine Lw.g (vB false) rfl (Lw.nil ?_)
     obtain ⟨W242, ew242, l242, dj242⟩ := dyeE _ 10
     have s243 : Rd (α := List Vm.Commit) W242 [0] [v0_0_221] z219.Commits := by rw [dj242]; exact ((f221_0.up l231 rfl).rd.dye 10).sub (M := [0]) rfl
     have a244 := a232.t l242 rfl
     obtain ⟨W254, ew254, l254, dj254⟩ := dyeE _ 11
     have s255 : Rd (α := List Vm.Head) W254 [0] [v0_1_221] z219.Heads := by rw [dj254]; exact (((f221_1.up l231 rfl).up l242 rfl).rd.dye 11).sub (M := [0]) rfl
     have a256 := l254.s rfl
     cases hm
     rw [← ew254.trans (ew242)]
     exact Cw.ret (retA2 rfl ((b231.up l242 rfl).up l254 rfl) rfl (Res.mk (a244.trans a256) ⟨v0_0_221, v0_1_221, rfl, (s243.ul a256), s255⟩))
    ·replace hm := bf hm hc216
     refine Cw.skip (Cw.seq (Cw.region (Lw.r rfl (R.lda (cs := [pc4_0, pc4_1]) (o203.up l206 rfl).cells rfl rfl) (Lw.u (T.sta (vs := [pc4_0, pc4_1]) b213 rfl rfl (oc_cons o201.oc (oc_cons o202.oc oc_nil)) rfl rfl) ?_))))
     rintro _ _ ⟨W266, rfl, l266, b266⟩
     have a267 := a207.t l266 rfl
     refine Lw.g (vB true) rfl (Lw.nil ?_)
     have s275 := o201.up ((l206.sub (M := [3]) rfl).trans (l266.sub (M := [3]) rfl)) rfl
     have s276 := o202.up ((l206.sub (M := [3]) rfl).trans (l266.sub (M := [3]) rfl)) rfl
     obtain ⟨W277, ew277, l277, dj277⟩ := dyeE _ 4
     have s278 : Rd W277 [0, 6, 7, 8] [pc4_0] z66.Commits := by rw [dj277]; exact (s275.dye 4).sub (M := [0, 6, 7, 8]) rfl
     have s279 : Rd W277 [0, 6, 7, 8] [pc4_1] z66.Heads := by rw [dj277]; exact (s276.dye 4).sub (M := [0, 6, 7, 8]) rfl
     have s280 : Rd (α := List Vm.File) W277 [0] [v40] y39 := by rw [dj277]; exact (((((o41.up l97 rfl).up lW rfl).up l206 rfl).up l266 rfl).rd.dye 4).sub (M := [0]) rfl
     have a281 := a267.t l277 rfl
     obtain ⟨W289, ew289, l289, dj289⟩ := dyeE _ 6
     have s290 : Rd W289 [0, 7, 8] [pc4_0] z66.Commits := by rw [dj289]; exact (s278.dye 6).sub (M := [0, 7, 8]) rfl
     have s291 : Rd W289 [0, 7, 8] [pc4_1] z66.Heads := by rw [dj289]; exact (s279.dye 6).sub (M := [0, 7, 8]) rfl
     have s292 : Rd (α := List Int) W289 [0] [v36] y35 := by rw [dj289]; exact ((((((o37.up l97 rfl).up lW rfl).up l206 rfl).up l266 rfl).up l277 rfl).rd.dye 6).sub (M := [0]) rfl
     have a293 := a281.t l289 rfl
     obtain ⟨W300, ew300, l300, dj300⟩ := dyeE _ 7
     have s301 : Rd W300 [0, 8] [pc4_0] z66.Commits := by rw [dj300]; exact (s290.dye 7).sub (M := [0, 8]) rfl
     have s302 : Rd W300 [0, 8] [pc4_1] z66.Heads := by rw [dj300]; exact (s291.dye 7).sub (M := [0, 8]) rfl
     have s303 : Rd (α := List Vm.Commit) W300 [0] [pc1_0] z57.Commits := by rw [dj300]; exact (((((o199.up l206 rfl).up l266 rfl).up l277 rfl).up l289 rfl).rd.dye 7).sub (M := [0]) rfl
     have a304 := a293.t l300 rfl
     obtain ⟨W310, ew310, l310, dj310⟩ := dyeE _ 8
     have s311 : Rd W310 [0] [pc4_0] z66.Commits := by rw [dj310]; exact (s301.dye 8).sub (M := [0]) rfl
     have s312 : Rd W310 [0] [pc4_1] z66.Heads := by rw [dj310]; exact (s302.dye 8).sub (M := [0]) rfl
     have s313 : Rd (α := List Vm.Head) W310 [0] [pc1_1] z57.Heads := by rw [dj310]; exact ((((((o200.up l206 rfl).up l266 rfl).up l277 rfl).up l289 rfl).up l300 rfl).rd.dye 8).sub (M := [0]) rfl
     have a314 := a304.t l310 rfl
     cases hm
     rw [← ew310.trans (ew300.trans (ew289.trans (ew277)))]
     exact Cw.ret (retA2 rfl ((((b266.up l277 rfl).up l289 rfl).up l300 rfl).up l310 rfl) rfl (Res.mk a314 ⟨pc4_0, pc4_1, rfl, s311, s312⟩))
  ·refine Cw.seq (Cw.region (Lw.r rfl (R.lda (cs := [v0_0_, v0_1_]) b33.cells rfl rfl) (Lw.m (vS x1) rfl ?_)))
   obtain ⟨z321, e322, hm⟩ := ob hm
   refine Lw.t rfl (T.call rfl (p77 (K := [0])  (Repo.rd (K := [0]) x0.Commits x0.Heads (h0_0.ul a31) (h0_1.ul a31)) e322)) ?_
   rintro _ _ ⟨W323, rfl, l323, rfl⟩
   have a324 := a31.n l323
   have o325 := ((f21_0.up l25 rfl).up l30 rfl).up l323 rfl
   refine Lw.ge rfl (Lw.nil (Cw.cond (b := decide ((0 : Int) ≤ (z321 : Int))) rfl (fun hc329 => ?_) (fun hc329 => ?_)))
   ·replace hm := bt hm hc329
    refine Cw.region (Lw.r rfl (R.lda (cs := [v0_0_, v0_1_]) (b33.up l323 rfl).cells rfl rfl) (Lw.m (vS x1) rfl ?_))
    obtain ⟨z332, e333, hm⟩ := ob hm
    refine Lw.t rfl (T.call rfl (p77 (K := [0])  (Repo.rd (K := [0]) x0.Commits x0.Heads (h0_0.ul a324) (h0_1.ul a324)) e333)) ?_
    rintro _ _ ⟨W334, rfl, l334, rfl⟩
    refine Lw.t rfl (T.bsS (α := Int) (xs := [z332]) 12 [] (W := W334) [vI z332] (Each.cons ((rdI _)) Each.nil) rfl) ?_
    rintro v340 _ ⟨W340, rfl, l340, o340⟩
    refine Lw.fa rfl (Lw.u (T.st (j := 0) (v := v340) (((b30.up l323 rfl).up l334 rfl).up l340 rfl) rfl rfl o340.oc rfl rfl) ?_)
    rintro _ _ ⟨W346, rfl, l346, b346⟩
    refine Lw.nil ?_
    obtain ⟨W352, ew352, l352, o352⟩ := (o340.up l346 rfl).dyeO 6
    refine ⟨?_, ⟨([z332] : List Int), x2, z19, v340, v0_21, W352, ew352, ((l323.sub rfl).trans ((l334.sub rfl).trans ((l340.sub rfl).trans ((l346.sub rfl).trans (l352.sub rfl))))), rfl, o352, ((((o325.up l334 rfl).up l340 rfl).up l346 rfl).up l352 rfl), (b346.up l352 rfl), hm⟩⟩
    iterate 9 (refine .u ?_)
    exact Agree.refl _
   ·replace hm := bf hm hc329
    refine Cw.skip (⟨?_, ⟨([] : List Int), x2, z19, .slice none 0 0, v0_21, W323, rfl, (l323.sub rfl), rfl, owN 6 [], o325, (b30.up l323 rfl), hm⟩⟩)
    iterate 4 (refine .u ?_)
    exact Agree.refl _

theorem p95 {W : CW} {K : List Nat} {x0 : Vm.Repo} {v0_0_ : Value} {v0_1_ : Value} {x1 : Str} {x2 : Str} {x3 : List Vm.File} {v3_ : Value} {r : Vm.Repo × Bool} (h0 : Rd W K [v0_0_, v0_1_] x0) (h3 : Rd W K [v3_] x3) (hm : Vm.spec_RepoCommit x0 x1 x2 x3 = some r) : CallR Tryz.prog 95 [.agg [v0_0_, v0_1_].toArray, vS x1, vS x2, v3_].toArray W.w (Res W [] fun W' v => ∃ (u0_0 : Value) (u0_1 : Value), v = .tuple [.agg [u0_0, u0_1].toArray, vB r.2].toArray ∧ Rd W' (0 :: K) [u0_0] r.1.Commits ∧ Rd W' (0 :: K) [u0_1] r.1.Heads) :=
 (c95 (V := W.view K []) (h0.view _) (h3.view _) hm).ad (fk 0) fun _ _ ⟨u0_0, u0_1, e, f0, f1⟩ => ⟨u0_0, u0_1, e, f0.back rfl, f1.back rfl⟩

theorem c79 {V : CW} {x0 : Vm.Repo} {v0_0_ : Value} {v0_1_ : Value} {x1 : Vm.Op} {v1_6_ : Value} {x2 : List Vm.File} {v2_ : Value} {x3 : Bool} {r : Vm.Repo × Int} (h0 : Rd V [0] [v0_0_, v0_1_] x0) (h1 : Rd V [0] [vI x1.Kind, vS x1.Branch, vS x1.Who, vS x1.Path, vS x1.To, vI x1.At, v1_6_] x1) (h2 : Rd V [0] [v2_] x2) (hm : Vm.spec_l19Tree x0 x1 x2 x3 = some r) : CallR Tryz.prog 79 [.agg [v0_0_, v0_1_].toArray, .agg [vI x1.Kind, vS x1.Branch, vS x1.Who, vS x1.Path, vS x1.To, vI x1.At, v1_6_].toArray, v2_, vB x3].toArray V.w (Res V LL fun Wf v => ∃ (u0_0 : Value) (u0_1 : Value), v = .tuple [.agg [u0_0, u0_1].toArray, vI r.2].toArray ∧ Rd Wf [0] [u0_0] r.1.Commits ∧ Rd Wf [0] [u0_1] r.1.Heads) := by
 unfold Vm.spec_l19Tree at hm
 obtain ⟨w0_0, w0_1, he0, h0_0, h0_1⟩ := Repo.split h0
 simp only [List.cons.injEq, and_true, true_and] at he0
 obtain ⟨rfl, rfl⟩ := he0
 obtain ⟨w1_0, he1, h1_6⟩ := Op.split h1
 simp only [List.cons.injEq, and_true, true_and] at he1
 obtain rfl := he1
 obtain ⟨W0, hW0⟩ : ∃ W, W = V := ⟨V, rfl⟩
 subst hW0
 refine CallR.of Tryz.func79 rfl rfl rfl rfl (Cw.seq (Cw.region (Lw.t rfl (T.box 2 (v := .agg [v0_0_, v0_1_].toArray) (cs := [v0_0_, v0_1_]) rfl rfl) ?_)))
 rintro _ _ ⟨g1, W1, rfl, rfl, l1, b1⟩
 have a2 := l1.o
 refine Lw.t rfl (T.box 3 (v := .agg [vI x1.Kind, vS x1.Branch, vS x1.Who, vS x1.Path, vS x1.To, vI x1.At, v1_6_].toArray) (cs := [vI x1.Kind, vS x1.Branch, vS x1.Who, vS x1.Path, vS x1.To, vI x1.At, v1_6_]) rfl rfl) ?_
 rintro _ _ ⟨g3, W3, rfl, rfl, l3, b3⟩
 have a4 := a2.n l3
 refine Lw.t rfl (T.alloc 4 (cs := [.slice none 0 0, .slice none 0 0]) rfl) ?_
 rintro _ _ ⟨g6, W6, rfl, rfl, l6, b6⟩
 have a7 := a4.n l6
 have b8 := (b1.up l3 rfl).up l6 rfl
 refine Lw.g (vI 0) rfl (Lw.nil (Cw.seq (Cw.seq (Cw.region (Lw.m (vB x3) rfl (Lw.r rfl (R.not rfl) (Lw.nil (Cw.cond (b := (!x3)) rfl (fun hc10 => ?_) (fun hc10 => ?_)))))))))
 ·replace hm := bt hm hc10
  refine Cw.seq (Cw.region (Lw.r rfl (R.lda (cs := [v0_0_, v0_1_]) b8.cells rfl rfl) (Lw.u (T.sta (vs := [v0_0_, v0_1_]) b6 rfl rfl (oc_cons h0_0.oc (oc_cons h0_1.oc oc_nil)) rfl rfl) ?_)))
  rintro _ _ ⟨W11, rfl, l11, b11⟩
  have a12 := a7.t l11 rfl
  refine Lw.g (vI 1) rfl (Lw.nil ?_)
  cases hm
  exact Cw.ret (retA2 rfl b11 rfl (Res.mk a12 ⟨v0_0_, v0_1_, rfl, (h0_0.ul a12), (h0_1.ul a12)⟩))
 ·replace hm := bf hm hc10
  refine Cw.skip (Cw.seq (Cw.region (Lw.r rfl (R.lda (cs := [v0_0_, v0_1_]) b8.cells rfl rfl) (Lw.fa rfl (Lw.r rfl (R.ld (v := vS x1.Branch) rfl rfl ((b3.up l6 rfl).cell rfl)) (Lw.fa rfl (Lw.r rfl (R.ld (v := vS x1.Who) rfl rfl ((b3.up l6 rfl).cell rfl)) (Lw.m v2_ rfl ?_))))))))
  obtain ⟨z20, e21, hm⟩ := ob hm
  refine Lw.t rfl (T.call rfl (p95 (K := [0])  (Repo.rd (K := [0]) x0.Commits x0.Heads (h0_0.ul a7) (h0_1.ul a7)) (h2.ul a7) e21)) ?_
  rintro _ _ ⟨W22, rfl, l22, ⟨v0_0_22, v0_1_22, rfl, f22_0, f22_1⟩⟩
  have s23 := f22_0.sub (M := [0]) rfl
  have s24 := f22_1.sub (M := [0]) rfl
  have a25 := a7.n l22
  refine Lw.m (.tuple [.agg [v0_0_22, v0_1_22].toArray, vB z20.2].toArray) rfl (Lw.r rfl (R.ext (vs := [.agg [v0_0_22, v0_1_22].toArray, vB z20.2]) (v := .agg [v0_0_22, v0_1_22].toArray) rfl rfl) (Lw.r rfl (R.ext (vs := [.agg [v0_0_22, v0_1_22].toArray, vB z20.2]) (v := vB z20.2) rfl rfl) (Lw.t rfl (T.alloc 5 (cs := [.slice none 0 0, .slice none 0 0]) rfl) ?_)))
  rintro _ _ ⟨g29, W29, rfl, rfl, l29, b29⟩
  have a30 := l29.o
  refine Lw.u (T.sta (vs := [v0_0_22, v0_1_22]) b29 rfl rfl (oc_cons s23.oc (oc_cons s24.oc oc_nil)) rfl rfl) ?_
  rintro _ _ ⟨W34, rfl, l34, b34⟩
  have a35 := l34.s rfl
  have b38 := ((b6.up l22 rfl).up l29 rfl).up l34 rfl
  refine Lw.g (vB z20.2) rfl (Lw.nil (Cw.seq (Cw.seq (Cw.region (Lw.m (vB z20.2) rfl (Lw.r rfl (R.not rfl) (Lw.nil (Cw.cond (b := (!z20.2)) rfl (fun hc39 => ?_) (fun hc39 => ?_)))))))))
  ·replace hm := bt hm hc39
   refine Cw.seq (Cw.region (Lw.r rfl (R.lda (cs := [v0_0_, v0_1_]) (((b8.up l22 rfl).up l29 rfl).up l34 rfl).cells rfl rfl) (Lw.u (T.sta (vs := [v0_0_, v0_1_]) b38 rfl rfl (oc_cons h0_0.oc (oc_cons h0_1.oc oc_nil)) rfl rfl) ?_)))
   rintro _ _ ⟨W40, rfl, l40, b40⟩
   have a41 := ((a25.trans a30).trans a35).t l40 rfl
   refine Lw.g (vI 5) rfl (Lw.nil ?_)
   cases hm
   exact Cw.ret (retA2 rfl b40 rfl (Res.mk a41 ⟨v0_0_, v0_1_, rfl, (h0_0.ul a41), (h0_1.ul a41)⟩))
  ·replace hm := bf hm hc39
   refine Cw.skip (Cw.seq (Cw.region (Lw.r rfl (R.lda (cs := [v0_0_22, v0_1_22]) b34.cells rfl rfl) (Lw.u (T.sta (vs := [v0_0_22, v0_1_22]) b38 rfl rfl (oc_cons s23.oc (oc_cons s24.oc oc_nil)) rfl rfl) ?_))))
   rintro _ _ ⟨W47, rfl, l47, b47⟩
   have a48 := l47.s rfl
   refine Lw.g (vI 0) rfl (Lw.nil ?_)
   cases hm
   exact Cw.ret (retA2 rfl b47 rfl (Res.mk (((a25.trans a30).trans a35).trans a48) ⟨v0_0_22, v0_1_22, rfl, (s23.ul ((a30.trans a35).trans a48)), (s24.ul ((a30.trans a35).trans a48))⟩))

theorem p79 {W : CW} {K : List Nat} {x0 : Vm.Repo} {v0_0_ : Value} {v0_1_ : Value} {x1 : Vm.Op} {v1_6_ : Value} {x2 : List Vm.File} {v2_ : Value} {x3 : Bool} {r : Vm.Repo × Int} (h0 : Rd W K [v0_0_, v0_1_] x0) (h1 : Rd W K [vI x1.Kind, vS x1.Branch, vS x1.Who, vS x1.Path, vS x1.To, vI x1.At, v1_6_] x1) (h2 : Rd W K [v2_] x2) (hm : Vm.spec_l19Tree x0 x1 x2 x3 = some r) : CallR Tryz.prog 79 [.agg [v0_0_, v0_1_].toArray, .agg [vI x1.Kind, vS x1.Branch, vS x1.Who, vS x1.Path, vS x1.To, vI x1.At, v1_6_].toArray, v2_, vB x3].toArray W.w (Res W [] fun W' v => ∃ (u0_0 : Value) (u0_1 : Value), v = .tuple [.agg [u0_0, u0_1].toArray, vI r.2].toArray ∧ Rd W' (0 :: K) [u0_0] r.1.Commits ∧ Rd W' (0 :: K) [u0_1] r.1.Heads) :=
 (c79 (V := W.view K []) (h0.view _) (h1.view _) (h2.view _) hm).ad (fk 0) fun _ _ ⟨u0_0, u0_1, e, f0, f1⟩ => ⟨u0_0, u0_1, e, f0.back rfl, f1.back rfl⟩

end Go.Sx
