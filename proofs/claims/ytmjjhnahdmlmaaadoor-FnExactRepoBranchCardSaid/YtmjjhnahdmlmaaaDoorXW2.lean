/- Walks: each function answers as its model, printed by a program of ours. Conditions: the arguments read as they are given. -/
import Derived.Test.YtmjjhnahdmlmaaaDoorXTs
import Derived.Test.YtmjjhnahdmlmaaaDoorXMd
import Derived.Test.YtmjjhnahdmlmaaaDoorXW1
import Derived.Test.YtmjjhnahdmlmaaaDoorXE
namespace Go.Sx
open Go Go.Proofs Go.Vm Rp
set_option linter.unusedVariables false
set_option linter.unusedSimpArgs false

theorem c71 {V : CW} {x0 : List Vm.File} {v0_ : Value} {r : (List Vm.File)} (h0 : Rd V [0] [v0_] x0) (hm : Vm.spec_l4Copy x0 = some r) : CallR Tryd.prog 71 [v0_].toArray V.w (Res V LL fun Wf v => ∃ (u0 : Value), v = u0 ∧ OwS Wf LL [] [u0] r) := by
 unfold Vm.spec_l4Copy at hm
 obtain ⟨W0, hW0⟩ : ∃ W, W = V := ⟨V, rfl⟩
 subst hW0
 refine CallR.of Tryd.func71 rfl rfl rfl rfl (Cw.seq (Cw.region (Lw.g (.slice none 0 0) rfl (Lw.nil (Cw.seq (Cw.region (Lw.t rfl (T.lit0 (α := File) 2 []) ?_)))))))
 rintro v1 _ ⟨W1, rfl, l1, o1⟩
 have a2 := l1.o
 refine Lw.g v1 rfl (Lw.nil (Cw.seq (Cw.seq (Cw.region (Lw.g (vI 0) rfl (Lw.nil (Cw.block ?_)))))))
 obtain ⟨K8, hK8, hm⟩ := jn_e hm
 refine Cw.loop 6 27 [3, 4] (fun m l w => ∃ (y3 : List Vm.File) (y6 : Int) (v4 : Value) (W7 : CW), W7.w = w ∧ Le [2, 3] W1 W7 ∧ l = [v4, vI y6] ∧ Ow W7 2 [] [v4] y3 ∧ Vm.spec_l4Copy_l1 x0 K8 m y3 y6 = some r) (((x0.length : Int) - 0).toNat + 1) ⟨([] : List File), 0, v1, W1, rfl, Le.refl _ _, rfl, o1, hm⟩ ?_
 rintro m9 _ _ σ ⟨y3, y6, v4, W7, rfl, l7, rfl, o5, hm⟩
 obtain _ | m9 := m9
 ·cases hm
 unfold Vm.spec_l4Copy_l1 at hm
 have a10 := a2.t l7 rfl
 refine Cw.seq (Cw.seq (Cw.region (Lw.m (vI y6) rfl (Lw.m v0_ rfl (Lw.ln x0 (h0.ul a10) rfl (Lw.lt rfl (Lw.nil (Cw.cond (b := decide ((y6 : Int) < ((x0.length : Int) : Int))) rfl (fun hc12 => ?_) (fun hc12 => ?_)))))))))
 ·replace hm := bt hm hc12
  refine Cw.skip (Cw.seq (Cw.block (Cw.draw [2, 3] [(0, 0), (1, 0), (2, 0), (3, 0), (4, 0), (5, 1), (7, 0), (8, 0), (9, 0), (10, 0), (11, 1), (6, 2), (12, 2), (13, 0), (14, 2), (15, 2), (16, 0)] mixed (by kernel_rfl) fun W13 l13 => ?_)))
  have a14 := a10.n l13
  refine Mw.p rfl rfl (fun _ => R.mv (v := v4) rfl) (Mw.p rfl rfl (fun _ => R.mv (v := v0_) rfl) (Mw.p rfl rfl (fun _ => R.mv (v := vI y6) rfl) ?_))
  obtain ⟨u16, e17, hm⟩ := ob hm
  have s18 := h0.ul a14
  refine Mw.p rfl rfl (fun _ => R.ix (α := File) s18 e17 rfl rfl rfl) (Mw.p rfl rfl (fun _ => R.fa rfl) (Mw.q rfl rfl (fun _ c => R.ld rfl rfl (cl_cell (File.at0 (s18.at_ e17)).1 rfl (File.at0 (s18.at_ e17)).str c)) (Mw.p rfl rfl (fun _ => R.mv (v := v0_) rfl) (Mw.p rfl rfl (fun _ => R.mv (v := vI y6) rfl) ?_))))
  obtain ⟨u19, e20, hm⟩ := ob hm
  refine Mw.p rfl rfl (fun _ => R.ix (α := File) s18 e20 rfl rfl rfl) (Mw.p rfl rfl (fun _ => R.fa rfl) ?_)
  obtain ⟨v21, c22, r23⟩ := (File.at1 (s18.at_ e20)).cell rfl
  refine Mw.q rfl rfl (fun _ c => R.ld rfl rfl (cl_cell (File.at1 (s18.at_ e20)).1 rfl c22 c)) (Mw.t rfl rfl (T.lit0 (α := Str) 3 []) ?_)
  rintro v24 _ ⟨W24, rfl, l24, o24⟩
  have a25 := l24.o
  refine ⟨⟨_, rfl, (l24.sub (M := [2, 3]) rfl)⟩, ?_⟩
  obtain ⟨q27, e28, hm⟩ := ob hm
  refine Mw.t rfl rfl (T.appP (α := Str) o24 (r23.ul a25) rfl rfl e28) ?_
  rintro v29 _ ⟨W29, rfl, l29, o29⟩
  refine ⟨⟨_, rfl, ((l24.sub (M := [2, 3]) rfl).trans (l29.sub (M := [2, 3]) rfl))⟩, ?_⟩
  refine Mw.p rfl rfl (fun _ => R.bd (zs := [vS ([] : Str), .slice none 0 0]) (cs := [vS u16.Path, v29]) [(0, vS u16.Path), (1, v29)] rfl rfl rfl (bp_cons rfl rfl (bp_cons o29.oc rfl bp_nil))) (Mw.t rfl rfl (T.bs 4 [.agg [vS u16.Path, v29].toArray] (cs := [vS u16.Path, v29]) rfl rfl (bsA rfl)) ?_)
  rintro _ _ ⟨g33, W33, rfl, rfl, l33, b33⟩
  refine ⟨⟨_, rfl, ((l24.sub (M := [2, 3]) rfl).trans ((l29.sub (M := [2, 3]) rfl).trans (l33.sub (M := [2, 3]) rfl)))⟩, ?_⟩
  obtain ⟨q37, e38, hm⟩ := ob hm
  refine Mw.t rfl rfl (T.app1 (α := File) (J := [3]) (K' := []) ((((o5.up l13 rfl).up l24 rfl).up l29 rfl).up l33 rfl) b33 (File.own u16.Path q27 (o29.up l33 rfl).s) rfl rfl e38) ?_
  rintro v39 _ ⟨W39, rfl, l39, o39⟩
  refine ⟨⟨_, rfl, ((l24.sub (M := [2, 3]) rfl).trans ((l29.sub (M := [2, 3]) rfl).trans ((l33.sub (M := [2, 3]) rfl).trans (l39.sub (M := [2, 3]) rfl))))⟩, ?_⟩
  refine Mw.p rfl rfl (fun _ => R.as (v := v39) rfl) (Mw.nil (Cw.region (Lw.m (vI y6) rfl (Lw.add rfl (Lw.g (vI (w64 (y6 + 1))) rfl (Lw.nil (⟨?_, m9, Nat.lt_succ_self m9, ⟨q37, w64 (y6 + 1), v39, W39, rfl, (l7.trans ((l13.sub rfl).trans ((l24.sub rfl).trans ((l29.sub rfl).trans ((l33.sub rfl).trans l39))))), rfl, o39, hm⟩⟩)))))))
  iterate 26 (refine .u ?_)
  exact Agree.base
 ·replace hm := bf hm hc12
  refine Cw.exit ?_
  rw [hK8] at hm
  refine Cw.seq (Cw.region (Lw.m v4 rfl (Lw.g v4 rfl (Lw.nil ?_))))
  cases hm
  exact Cw.ret (ret1 rfl (Res.mk a10 ⟨v4, rfl, o5.s.sub rfl rfl⟩))

theorem p71 {W : CW} {K : List Nat} {x0 : List Vm.File} {v0_ : Value} {k0 : Nat} {r : (List Vm.File)} (h0 : Rd W K [v0_] x0) (hm : Vm.spec_l4Copy x0 = some r) : CallR Tryd.prog 71 [v0_].toArray W.w (Res W [] fun W' v => ∃ (u0 : Value), v = u0 ∧ Ow W' k0 [] [u0] r) :=
 (c71 (V := W.view K []) (h0.view _) hm).ad (fk k0) fun _ _ ⟨u0, e, f0⟩ => ⟨u0, e, f0.back (fk_LL _)⟩

theorem c86 {V : CW} {x0 : Vm.Commit} {v0_0_ : Value} {v0_2_ : Value} {r : Vm.Commit} (h0 : Rd V [0] [v0_0_, vS x0.Who, v0_2_] x0) (hm : Vm.spec_l7CopyCommit x0 = some r) : CallR Tryd.prog 86 [.agg [v0_0_, vS x0.Who, v0_2_].toArray].toArray V.w (Res V LL fun Wf v => ∃ (u0_0 : Value) (u0_2 : Value), v = .agg [u0_0, vS r.Who, u0_2].toArray ∧ OwS Wf [31] [] [u0_0] r.Parents ∧ OwS Wf [32] [] [u0_2] r.Tree) := by
 unfold Vm.spec_l7CopyCommit at hm
 obtain ⟨w0_0, w0_1, he0, h0_0, h0_2⟩ := Commit.split h0
 simp only [List.cons.injEq, and_true, true_and] at he0
 obtain ⟨rfl, rfl⟩ := he0
 obtain ⟨W0, hW0⟩ : ∃ W, W = V := ⟨V, rfl⟩
 subst hW0
 refine CallR.of Tryd.func86 rfl rfl rfl rfl (Cw.seq (Cw.region (Lw.t rfl (T.box 2 (v := .agg [v0_0_, vS x0.Who, v0_2_].toArray) (cs := [v0_0_, vS x0.Who, v0_2_]) rfl rfl) ?_)))
 rintro _ _ ⟨g1, W1, rfl, rfl, l1, b1⟩
 have a2 := l1.o
 refine Lw.t rfl (T.alloc 3 (cs := [.slice none 0 0, vS ([] : Str), .slice none 0 0]) rfl) ?_
 rintro _ _ ⟨g3, W3, rfl, rfl, l3, b3⟩
 have a4 := a2.n l3
 refine Lw.nil (Cw.seq (Cw.draw [4] [(1, 0), (2, 1), (4, 0), (5, 1), (6, 0), (7, 1), (0, 2), (3, 2), (8, 2), (9, 0), (10, 3)] mixed (by kernel_rfl) fun W6 l6 => ?_))
 have a7 := a4.n l6
 have b8 := (b1.up l3 rfl).up l6 rfl
 refine Mw.p rfl rfl (fun _ => R.fa rfl) (Mw.q rfl rfl (fun _ c => R.ld (v := v0_0_) rfl rfl (b8.clc rfl rfl c)) (Mw.p rfl rfl (fun _ => R.fa rfl) (Mw.q rfl rfl (fun _ c => R.ld (v := vS x0.Who) rfl rfl (b8.clc rfl rfl c)) (Mw.p rfl rfl (fun _ => R.fa rfl) (Mw.q rfl rfl (fun _ c => R.ld (v := v0_2_) rfl rfl (b8.clc rfl rfl c)) (Mw.t rfl rfl (T.lit0 (α := Int) 4 []) ?_))))))
 rintro v10 _ ⟨W10, rfl, l10, o10⟩
 have a11 := a7.n l10
 refine ⟨⟨_, rfl, (l10.sub (M := [4]) rfl)⟩, ?_⟩
 obtain ⟨q14, e15, hm⟩ := ob hm
 refine Mw.t rfl rfl (T.appP (α := Int) o10 (h0_0.ul a11) rfl rfl e15) ?_
 rintro v16 _ ⟨W16, rfl, l16, o16⟩
 have a18 := a11.t l16 rfl
 refine ⟨⟨_, rfl, ((l10.sub (M := [4]) rfl).trans (l16.sub (M := [4]) rfl))⟩, ?_⟩
 obtain ⟨z22, e23, hm⟩ := ob hm
 refine Mw.t rfl rfl (T.call rfl (p71 (K := [0]) (k0 := 5) (h0_2.ul a18) e23)) ?_
 rintro v0_24 _ ⟨W24, rfl, l24, ⟨_, rfl, f24_0⟩⟩
 have a25 := a18.n l24
 have o26 := o16.up l24 rfl
 refine ⟨⟨_, rfl, ((l10.sub (M := [4]) rfl).trans ((l16.sub (M := [4]) rfl).trans (l24.sub (M := [4]) rfl)))⟩, ?_⟩
 refine Mw.p rfl rfl (fun _ => R.bd (zs := [.slice none 0 0, vS ([] : Str), .slice none 0 0]) (cs := [v16, vS x0.Who, v0_24]) [(0, v16), (1, vS x0.Who), (2, v0_24)] rfl rfl rfl (bp_cons o26.oc rfl (bp_cons rfl rfl (bp_cons f24_0.oc rfl bp_nil)))) (Mw.lu rfl (T.sta (vs := [v16, vS x0.Who, v0_24]) ((((b3.up l6 rfl).up l10 rfl).up l16 rfl).up l24 rfl) rfl rfl (oc_cons o26.oc (oc_cons rfl (oc_cons f24_0.oc oc_nil))) rfl rfl) ?_)
 rintro _ _ ⟨W29, rfl, l29, b29⟩
 have a30 := a25.t l29 rfl
 refine Mw.nil ?_
 obtain ⟨W34, ew34, l34, o34⟩ := (o26.up l29 rfl).dyeO 31
 have a35 := a30.t l34 rfl
 obtain ⟨W39, ew39, l39, o39⟩ := ((f24_0.up l29 rfl).up l34 rfl).dyeO 32
 have a40 := a35.t l39 rfl
 cases hm
 rw [← ew39.trans (ew34)]
 exact Cw.ret (retA1 rfl ((b29.up l34 rfl).up l39 rfl) (Res.mk a40 ⟨v16, v0_24, rfl, (o34.up l39 rfl).s, o39.s⟩))

theorem p86 {W : CW} {K : List Nat} {x0 : Vm.Commit} {v0_0_ : Value} {v0_2_ : Value} {k0 : Nat} {k1 : Nat} {r : Vm.Commit} (h0 : Rd W K [v0_0_, vS x0.Who, v0_2_] x0) (hm : Vm.spec_l7CopyCommit x0 = some r) : CallR Tryd.prog 86 [.agg [v0_0_, vS x0.Who, v0_2_].toArray].toArray W.w (Res W [] fun W' v => ∃ (u0_0 : Value) (u0_2 : Value), v = .agg [u0_0, vS r.Who, u0_2].toArray ∧ Ow W' k0 [] [u0_0] r.Parents ∧ Ow W' k1 [] [u0_2] r.Tree) :=
 CallR.adJ (J := []) (fun c => bif Nat.beq c 0 then 0 else bif Nat.beq c 31 then k0 else bif Nat.beq c 32 then k1 else 0) (c86 (V := W.view K []) (h0.view _) hm) fun _ _ ⟨u0_0, u0_2, e, f0, f1⟩ => ⟨u0_0, u0_2, e, f0.one1.backN rfl, f1.one1.backN rfl⟩

theorem c56 {V : CW} {x0 : Vm.Repo} {v0_0_ : Value} {v0_1_ : Value} {r : Vm.Repo} (h0 : Rd V [0] [v0_0_, v0_1_] x0) (hm : Vm.spec_l7Copy x0 = some r) : CallR Tryd.prog 56 [.agg [v0_0_, v0_1_].toArray].toArray V.w (Res V LL fun Wf v => ∃ (u0_0 : Value) (u0_1 : Value), v = .agg [u0_0, u0_1].toArray ∧ OwS Wf [31] [] [u0_0] r.Commits ∧ OwS Wf [32] [] [u0_1] r.Heads) := by
 unfold Vm.spec_l7Copy at hm
 obtain ⟨w0_0, w0_1, he0, h0_0, h0_1⟩ := Repo.split h0
 simp only [List.cons.injEq, and_true, true_and] at he0
 obtain ⟨rfl, rfl⟩ := he0
 obtain ⟨W0, hW0⟩ : ∃ W, W = V := ⟨V, rfl⟩
 subst hW0
 refine CallR.of Tryd.func56 rfl rfl rfl rfl (Cw.seq (Cw.region (Lw.t rfl (T.box 2 (v := .agg [v0_0_, v0_1_].toArray) (cs := [v0_0_, v0_1_]) rfl rfl) ?_)))
 rintro _ _ ⟨g1, W1, rfl, rfl, l1, b1⟩
 have a2 := l1.o
 refine Lw.t rfl (T.alloc 3 (cs := [.slice none 0 0, .slice none 0 0]) rfl) ?_
 rintro _ _ ⟨g3, W3, rfl, rfl, l3, b3⟩
 have a4 := a2.n l3
 refine Lw.nil (Cw.seq (Cw.region (Lw.t rfl (T.lit0 (α := Head) 4 []) ?_)))
 rintro v6 _ ⟨W6, rfl, l6, o6⟩
 have a7 := a4.n l6
 have b8 := (b1.up l3 rfl).up l6 rfl
 refine Lw.fa rfl (Lw.r rfl (R.ld (v := v0_1_) rfl rfl (b8.cell rfl)) ?_)
 obtain ⟨q10, e11, hm⟩ := ob hm
 refine Lw.t rfl (T.appP (α := Head) o6 (h0_1.ul a7) rfl rfl e11) ?_
 rintro v12 _ ⟨W12, rfl, l12, o12⟩
 have a14 := a7.t l12 rfl
 refine Lw.r rfl (R.bd (zs := [.slice none 0 0, .slice none 0 0]) (cs := [.slice none 0 0, v12]) [(1, v12)] rfl rfl rfl (bp_cons o12.oc rfl bp_nil)) (Lw.t rfl (T.alloc 5 (cs := [.slice none 0 0, .slice none 0 0]) rfl) ?_)
 rintro _ _ ⟨g17, W17, rfl, rfl, l17, b17⟩
 have a18 := a14.n l17
 refine Lw.u (T.sta (vs := [.slice none 0 0, v12]) b17 rfl rfl (oc_cons rfl (oc_cons (o12.up l17 rfl).oc oc_nil)) rfl rfl) ?_
 rintro _ _ ⟨W22, rfl, l22, b22⟩
 have a23 := a18.t l22 rfl
 refine Lw.nil (Cw.seq (Cw.seq (Cw.region (Lw.g (vI 0) rfl (Lw.nil (Cw.block ?_))))))
 obtain ⟨K36, hK36, hm⟩ := jn_e hm
 refine Cw.loop 10 27 [4] (fun m l w => ∃ (y27 : Int) (y28 : List Vm.Commit) (y31 : List Vm.Head) (v29 v32 : Value) (W35 : CW), W35.w = w ∧ Le [5, 6, 7, 8] W22 W35 ∧ l = [vI y27] ∧ Ow W35 6 [] [v29] y28 ∧ Ow W35 4 [] [v32] y31 ∧ Bx W35 5 g17 [v29, v32] ∧ Vm.spec_l7Copy_l1 x0 K36 m y27 y28 y31 = some r) (((x0.Commits.length : Int) - 0).toNat + 1) ⟨0, ([] : List Commit), q10, .slice none 0 0, v12, W22, rfl, Le.refl _ _, rfl, owN 6 [], ((o12.up l17 rfl).up l22 rfl), b22, hm⟩ ?_
 rintro m37 _ _ σ ⟨y27, y28, y31, v29, v32, W35, rfl, l35, rfl, o30, o33, b34, hm⟩
 obtain _ | m37 := m37
 ·cases hm
 unfold Vm.spec_l7Copy_l1 at hm
 have a38 := a23.t l35 rfl
 have b39 := (((b8.up l12 rfl).up l17 rfl).up l22 rfl).up l35 rfl
 refine Cw.seq (Cw.seq (Cw.region (Lw.m (vI y27) rfl (Lw.fa rfl (Lw.r rfl (R.ld (v := v0_0_) rfl rfl (b39.cell rfl)) (Lw.ln x0.Commits (h0_0.ul a38) rfl (Lw.lt rfl (Lw.nil (Cw.cond (b := decide ((y27 : Int) < ((x0.Commits.length : Int) : Int))) rfl (fun hc42 => ?_) (fun hc42 => ?_))))))))))
 ·replace hm := bt hm hc42
  refine Cw.skip (Cw.seq (Cw.block (Cw.draw [6, 7, 8] [(0, 0), (1, 1), (2, 0), (3, 1), (4, 0), (5, 0), (6, 1), (7, 2), (8, 2), (9, 2), (10, 0), (11, 3)] mixed (by kernel_rfl) fun W43 l43 => ?_)))
  have a44 := a38.n l43
  refine Mw.p rfl rfl (fun _ => R.fa rfl) (Mw.q rfl rfl (fun _ c => R.ld (v := v29) rfl rfl ((b34.up l43 rfl).clc rfl rfl c)) (Mw.p rfl rfl (fun _ => R.fa rfl) (Mw.q rfl rfl (fun _ c => R.ld (v := v0_0_) rfl rfl ((b39.up l43 rfl).clc rfl rfl c)) (Mw.p rfl rfl (fun _ => R.mv (v := vI y27) rfl) ?_))))
  obtain ⟨u50, e51, hm⟩ := ob hm
  have s52 := h0_0.ul a44
  refine Mw.p rfl rfl (fun _ => R.ix (α := Commit) s52 e51 rfl rfl rfl) ?_
  obtain ⟨x53, c54, _, r55⟩ := (s52.at_ e51).cells
  obtain ⟨v56, v58, rfl, r57, r59⟩ := Commit.split r55
  refine Mw.q rfl rfl (fun _ c => R.lda (cl_cells (s52.at_ e51).1 rfl c54 c) rfl rfl) ?_
  obtain ⟨z60, e61, hm⟩ := ob hm
  refine Mw.t rfl rfl (T.call rfl (p86 (K := [0]) (k0 := 7) (k1 := 8) (Commit.rd (K := [0]) u50.Parents u50.Who u50.Tree r57 r59) e61)) ?_
  rintro _ _ ⟨W62, rfl, l62, ⟨v0_0_62, v0_2_62, rfl, f62_0, f62_1⟩⟩
  refine ⟨⟨_, rfl, (l62.sub (M := [6, 7, 8]) rfl)⟩, ?_⟩
  refine Mw.t rfl rfl (T.bs 9 [.agg [v0_0_62, vS z60.Who, v0_2_62].toArray] (cs := [v0_0_62, vS z60.Who, v0_2_62]) rfl rfl (bsA rfl)) ?_
  rintro _ _ ⟨g69, W69, rfl, rfl, l69, b69⟩
  refine ⟨⟨_, rfl, ((l62.sub (M := [6, 7, 8]) rfl).trans (l69.sub (M := [6, 7, 8]) rfl))⟩, ?_⟩
  obtain ⟨q78, e79, hm⟩ := ob hm
  refine Mw.t rfl rfl (T.app1 (α := Commit) (J := [7, 8]) (K' := []) (((o30.up l43 rfl).up l62 rfl).up l69 rfl) b69 (Commit.own z60.Parents z60.Who z60.Tree (f62_0.up l69 rfl).s (f62_1.up l69 rfl).s) rfl rfl e79) ?_
  rintro v80 _ ⟨W80, rfl, l80, o80⟩
  refine ⟨⟨_, rfl, ((l62.sub (M := [6, 7, 8]) rfl).trans ((l69.sub (M := [6, 7, 8]) rfl).trans (l80.sub (M := [6, 7, 8]) rfl)))⟩, ?_⟩
  refine Mw.p rfl rfl (fun _ => R.fa rfl) (Mw.lu rfl (T.st (j := 0) (v := v80) ((((b34.up l43 rfl).up l62 rfl).up l69 rfl).up l80 rfl) rfl rfl o80.oc rfl rfl) ?_)
  rintro _ _ ⟨W87, rfl, l87, b87⟩
  refine Mw.nil (Cw.region (Lw.m (vI y27) rfl (Lw.add rfl (Lw.g (vI (w64 (y27 + 1))) rfl (Lw.nil (⟨?_, m37, Nat.lt_succ_self m37, ⟨w64 (y27 + 1), q78, y31, v80, v32, W87, rfl, (l35.trans ((l43.sub rfl).trans ((l62.sub rfl).trans ((l69.sub rfl).trans ((l80.sub rfl).trans (l87.sub rfl)))))), rfl, (o80.up l87 rfl), (((((o33.up l43 rfl).up l62 rfl).up l69 rfl).up l80 rfl).up l87 rfl), b87, hm⟩⟩))))))
  iterate 20 (refine .u ?_)
  exact Agree.base
 ·replace hm := bf hm hc42
  refine Cw.exit ?_
  rw [hK36] at hm
  refine Cw.seq (Cw.region (Lw.r rfl (R.lda (cs := [v29, v32]) b34.cells rfl rfl) (Lw.u (T.sta (vs := [v29, v32]) (((((b3.up l6 rfl).up l12 rfl).up l17 rfl).up l22 rfl).up l35 rfl) rfl rfl (oc_cons o30.oc (oc_cons o33.oc oc_nil)) rfl rfl) ?_)))
  rintro _ _ ⟨W94, rfl, l94, b94⟩
  have a95 := a38.t l94 rfl
  refine Lw.nil ?_
  obtain ⟨W100, ew100, l100, o100⟩ := (o30.up l94 rfl).dyeO 31
  have a101 := a95.t l100 rfl
  obtain ⟨W106, ew106, l106, o106⟩ := ((o33.up l94 rfl).up l100 rfl).dyeO 32
  have a107 := a101.t l106 rfl
  cases hm
  rw [← ew106.trans (ew100)]
  exact Cw.ret (retA1 rfl ((b94.up l100 rfl).up l106 rfl) (Res.mk a107 ⟨v29, v32, rfl, (o100.up l106 rfl).s, o106.s⟩))

theorem p56 {W : CW} {K : List Nat} {x0 : Vm.Repo} {v0_0_ : Value} {v0_1_ : Value} {k0 : Nat} {k1 : Nat} {r : Vm.Repo} (h0 : Rd W K [v0_0_, v0_1_] x0) (hm : Vm.spec_l7Copy x0 = some r) : CallR Tryd.prog 56 [.agg [v0_0_, v0_1_].toArray].toArray W.w (Res W [] fun W' v => ∃ (u0_0 : Value) (u0_1 : Value), v = .agg [u0_0, u0_1].toArray ∧ Ow W' k0 [] [u0_0] r.Commits ∧ Ow W' k1 [] [u0_1] r.Heads) :=
 CallR.adJ (J := []) (fun c => bif Nat.beq c 0 then 0 else bif Nat.beq c 31 then k0 else bif Nat.beq c 32 then k1 else 0) (c56 (V := W.view K []) (h0.view _) hm) fun _ _ ⟨u0_0, u0_1, e, f0, f1⟩ => ⟨u0_0, u0_1, e, f0.one1.backN rfl, f1.one1.backN rfl⟩

theorem c65 {V : CW} {x0 : Vm.Repo} {v0_0_ : Value} {v0_1_ : Value} {x1 : Str} {x2 : Int} {r : Vm.Repo} (h0 : Rd V [0] [v0_0_, v0_1_] x0) (hm : Vm.spec_l7Head x0 x1 x2 = some r) : CallR Tryd.prog 65 [.agg [v0_0_, v0_1_].toArray, vS x1, vI x2].toArray V.w (Res V LL fun Wf v => ∃ (u0_0 : Value) (u0_1 : Value), v = .agg [u0_0, u0_1].toArray ∧ Rd Wf [0] [u0_0] r.Commits ∧ Rd Wf [0] [u0_1] r.Heads) := by
 unfold Vm.spec_l7Head at hm
 obtain ⟨w0_0, w0_1, he0, h0_0, h0_1⟩ := Repo.split h0
 simp only [List.cons.injEq, and_true, true_and] at he0
 obtain ⟨rfl, rfl⟩ := he0
 obtain ⟨W0, hW0⟩ : ∃ W, W = V := ⟨V, rfl⟩
 subst hW0
 refine CallR.of Tryd.func65 rfl rfl rfl rfl (Cw.seq (Cw.region (Lw.t rfl (T.box 2 (v := .agg [v0_0_, v0_1_].toArray) (cs := [v0_0_, v0_1_]) rfl rfl) ?_)))
 rintro _ _ ⟨g1, W1, rfl, rfl, l1, b1⟩
 have a2 := l1.o
 refine Lw.t rfl (T.alloc 3 (cs := [.slice none 0 0, .slice none 0 0]) rfl) ?_
 rintro _ _ ⟨g3, W3, rfl, rfl, l3, b3⟩
 have a4 := a2.n l3
 refine Lw.nil (Cw.seq (Cw.region (Lw.fa rfl (Lw.r rfl (R.ld (v := v0_0_) rfl rfl ((b1.up l3 rfl).cell rfl)) (Lw.r rfl (R.bd (zs := [.slice none 0 0, .slice none 0 0]) (cs := [v0_0_, .slice none 0 0]) [(0, v0_0_)] rfl rfl rfl (bp_cons h0_0.oc rfl bp_nil)) (Lw.t rfl (T.alloc 4 (cs := [.slice none 0 0, .slice none 0 0]) rfl) ?_))))))
 rintro _ _ ⟨g6, W6, rfl, rfl, l6, b6⟩
 have a7 := a4.n l6
 refine Lw.u (T.sta (vs := [v0_0_, .slice none 0 0]) b6 rfl rfl (oc_cons h0_0.oc (oc_cons rfl oc_nil)) rfl rfl) ?_
 rintro _ _ ⟨W10, rfl, l10, b10⟩
 have a11 := a7.t l10 rfl
 refine Lw.nil (Cw.seq (Cw.region (Lw.g (vB false) rfl (Lw.nil (Cw.seq (Cw.seq (Cw.region (Lw.g (vI 0) rfl (Lw.nil (Cw.block ?_))))))))))
 obtain ⟨K24, hK24, hm⟩ := jn_e hm
 refine Cw.loop 13 57 [8, 9] (fun m l w => ∃ (y14 : Bool) (y15 : Int) (y16 : List Vm.Commit) (y19 : List Vm.Head) (v17 v20 : Value) (W23 : CW), W23.w = w ∧ Le [4, 5] W10 W23 ∧ l = [vB y14, vI y15] ∧ Rd W23 [0] [v17] y16 ∧ Ow W23 5 [] [v20] y19 ∧ Bx W23 4 g6 [v17, v20] ∧ Vm.spec_l7Head_l1 x0 x1 x2 K24 m y14 y15 y16 y19 = some r) (((x0.Heads.length : Int) - 0).toNat + 1) ⟨false, 0, x0.Commits, ([] : List Head), v0_0_, .slice none 0 0, W10, rfl, Le.refl _ _, rfl, (h0_0.ul a11), owN 5 [], b10, hm⟩ ?_
 rintro m26 _ _ σ ⟨y14, y15, y16, y19, v17, v20, W23, rfl, l23, rfl, r18, o21, b22, hm⟩
 obtain _ | m26 := m26
 ·cases hm
 unfold Vm.spec_l7Head_l1 at hm
 have a27 := a11.t l23 rfl
 have b28 := (((b1.up l3 rfl).up l6 rfl).up l10 rfl).up l23 rfl
 refine Cw.seq (Cw.seq (Cw.region ?_))
 have s30 := h0_1.ul a27
 refine Lw.m (vI y15) rfl (Lw.fa rfl (Lw.r rfl (R.ld (v := v0_1_) rfl rfl (b28.cell rfl)) (Lw.ln x0.Heads s30 rfl (Lw.lt rfl (Lw.nil (Cw.cond (b := decide ((y15 : Int) < ((x0.Heads.length : Int) : Int))) rfl (fun hc31 => ?_) (fun hc31 => ?_)))))))
 ·replace hm := bt hm hc31
  refine Cw.skip ?_
  obtain ⟨K41, hK41, hm⟩ := jn_e hm
  refine Cw.join 20 57 [8] (fun l w => ∃ (y32 : Bool) (y33 : List Vm.Commit) (y36 : List Vm.Head) (v34 v37 : Value) (W40 : CW), W40.w = w ∧ Le [4, 5] W23 W40 ∧ l = [vB y32] ∧ Rd W40 [0] [v34] y33 ∧ Ow W40 5 [] [v37] y36 ∧ Bx W40 4 g6 [v34, v37] ∧ K41 y32 y33 y36 = some r) ?_ ?_
  ·rintro _ _ σ ⟨y32, y33, y36, v34, v37, W40, rfl, l40, rfl, r35, o38, b39, hm⟩
   rw [hK41] at hm
   refine Cw.region (Lw.m (vI y15) rfl (Lw.add rfl (Lw.g (vI (w64 (y15 + 1))) rfl (Lw.nil (⟨?_, m26, Nat.lt_succ_self m26, ⟨y32, w64 (y15 + 1), y33, y36, v34, v37, W40, rfl, (l23.trans l40), rfl, r35, o38, b39, hm⟩⟩)))))
   iterate 4 (refine .u ?_)
   refine Agree.ov0 rfl ?_
   iterate 7 (refine .u ?_)
   exact Agree.base
  ·refine Cw.block ?_
   obtain ⟨K54, hK54, hm⟩ := jn_e hm
   refine Cw.join 20 39 [8] (fun l w => ∃ (y45 : Bool) (y46 : List Vm.Commit) (y49 : List Vm.Head) (v47 v50 : Value) (W53 : CW), W53.w = w ∧ Le [4, 5] W23 W53 ∧ l = [vB y45] ∧ Rd W53 [0] [v47] y46 ∧ Ow W53 5 [] [v50] y49 ∧ Bx W53 4 g6 [v47, v50] ∧ K54 y45 y46 y49 = some r) ?_ ?_
   ·rintro _ _ σ ⟨y45, y46, y49, v47, v50, W53, rfl, l53, rfl, r48, o51, b52, hm⟩
    rw [hK54] at hm
    have a55 := a27.t l53 rfl
    refine Cw.seq (Cw.region (Lw.fa rfl (Lw.r rfl (R.ld (v := v0_1_) rfl rfl ((b28.up l53 rfl).cell rfl)) (Lw.m (vI y15) rfl ?_))))
    obtain ⟨u58, e59, hm⟩ := ob hm
    refine Lw.r rfl (R.ix (α := Head) (h0_1.ul a55) e59 rfl rfl rfl) (Lw.fa rfl (Lw.r rfl (R.ld rfl rfl (Head.at0 ((h0_1.ul a55).at_ e59)).str) (Lw.m (vS x1) rfl (Lw.sne rfl (Lw.nil (Cw.cond (b := (u58.Name != x1)) rfl (fun hc61 => ?_) (fun hc61 => ?_)))))))
    ·replace hm := bt hm hc61
     refine Cw.draw [5] [(0, 0), (1, 1), (2, 0), (3, 1), (4, 0), (5, 0), (6, 1), (7, 2), (8, 2), (9, 0), (10, 3)] mixed (by kernel_rfl) fun W62 l62 => ?_
     have a63 := l62.o
     refine Mw.p rfl rfl (fun _ => R.fa rfl) (Mw.q rfl rfl (fun _ c => R.ld (v := v50) rfl rfl ((b52.up l62 rfl).clc rfl rfl c)) (Mw.p rfl rfl (fun _ => R.fa rfl) (Mw.q rfl rfl (fun _ c => R.ld (v := v0_1_) rfl rfl (((b28.up l53 rfl).up l62 rfl).clc rfl rfl c)) (Mw.p rfl rfl (fun _ => R.mv (v := vI y15) rfl) ?_))))
     obtain ⟨u68, e69, hm⟩ := ob hm
     have s70 := h0_1.ul (a55.trans a63)
     refine Mw.p rfl rfl (fun _ => R.ix (α := Head) s70 e69 rfl rfl rfl) ?_
     obtain ⟨x71, c72, _, r73⟩ := (s70.at_ e69).cells
     obtain rfl := Head.split r73
     refine Mw.q rfl rfl (fun _ c => R.lda (cl_cells (s70.at_ e69).1 rfl c72 c) rfl rfl) (Mw.t rfl rfl (T.bs 6 [.agg [vS u68.Name, vI u68.At].toArray] (cs := [vS u68.Name, vI u68.At]) rfl rfl (bsA rfl)) ?_)
     rintro _ _ ⟨g74, W74, rfl, rfl, l74, b74⟩
     have a75 := a63.n l74
     refine ⟨⟨_, rfl, (l74.sub (M := [5]) rfl)⟩, ?_⟩
     obtain ⟨q80, e81, hm⟩ := ob hm
     refine Mw.t rfl rfl (T.app1S (α := Head) (K' := []) ((o51.up l62 rfl).up l74 rfl) b74 (Head.rd (K := []) u68.Name u68.At) rfl rfl e81) ?_
     rintro v82 _ ⟨W82, rfl, l82, o82⟩
     have a83 := a75.t l82 rfl
     refine ⟨⟨_, rfl, ((l74.sub (M := [5]) rfl).trans (l82.sub (M := [5]) rfl))⟩, ?_⟩
     refine Mw.p rfl rfl (fun _ => R.fa rfl) (Mw.lu rfl (T.st (j := 1) (v := v82) (((b52.up l62 rfl).up l74 rfl).up l82 rfl) rfl rfl o82.oc rfl rfl) ?_)
     rintro _ _ ⟨W88, rfl, l88, b88⟩
     have a89 := a83.t l88 rfl
     refine Mw.nil (⟨?_, ⟨y45, y46, q80, v47, v82, W88, rfl, (l53.trans ((l62.sub rfl).trans ((l74.sub rfl).trans ((l82.sub rfl).trans (l88.sub rfl))))), rfl, (r48.ul a89), (o82.up l88 rfl), b88, hm⟩⟩)
     iterate 19 (refine .u ?_)
     refine Agree.ov0 rfl ?_
     exact Agree.refl _
    ·replace hm := bf hm hc61
     refine Cw.skip (⟨?_, ⟨y45, y46, y49, v47, v50, W53, rfl, l53, rfl, r48, o51, b52, hm⟩⟩)
     iterate 9 (refine .u ?_)
     refine Agree.ov0 rfl ?_
     exact Agree.refl _
   ·obtain ⟨K97, hK97, hm⟩ := jn_e hm
    refine Cw.join 20 31 [31] (fun l w => ∃ (y95 : Bool) (W96 : CW), W96.w = w ∧ Le [] W23 W96 ∧ l = [vB y95] ∧ K97 y95 = some r) ?_ ?_
    ·rintro _ _ σ ⟨y95, W96, rfl, l96, rfl, hm⟩
     rw [hK97] at hm
     have a98 := l96.o
     have b102 := b22.up l96 rfl
     refine Cw.cond (b := y95) rfl (fun hc103 => ?_) (fun hc103 => ?_)
     ·replace hm := bt hm hc103
      refine Cw.seq (Cw.region (Lw.fa rfl (Lw.r rfl (R.ld (v := v20) rfl rfl (b102.cell rfl)) (Lw.m (vS x1) rfl (Lw.m (vI x2) rfl (Lw.r rfl (R.bd (zs := [vS ([] : Str), vI 0]) (cs := [vS x1, vI x2]) [(0, vS x1), (1, vI x2)] rfl rfl rfl (bp_cons rfl rfl (bp_cons rfl rfl bp_nil))) (Lw.t rfl (T.bs 7 [.agg [vS x1, vI x2].toArray] (cs := [vS x1, vI x2]) rfl rfl (bsA rfl)) ?_)))))))
      rintro _ _ ⟨g104, W104, rfl, rfl, l104, b104⟩
      have a105 := a98.n l104
      obtain ⟨q110, e111, hm⟩ := ob hm
      refine Lw.t rfl (T.app1S (α := Head) (K' := []) ((o21.up l96 rfl).up l104 rfl) b104 (Head.rd (K := []) x1 x2) rfl rfl e111) ?_
      rintro v112 _ ⟨W112, rfl, l112, o112⟩
      have a113 := a105.t l112 rfl
      refine Lw.fa rfl (Lw.u (T.st (j := 1) (v := v112) ((b102.up l104 rfl).up l112 rfl) rfl rfl o112.oc rfl rfl) ?_)
      rintro _ _ ⟨W118, rfl, l118, b118⟩
      have a119 := a113.t l118 rfl
      refine Lw.nil (Cw.region (Lw.g (vB true) rfl (Lw.nil (⟨?_, ⟨true, y16, q110, v17, v112, W118, rfl, ((l96.sub rfl).trans ((l104.sub rfl).trans ((l112.sub rfl).trans (l118.sub rfl)))), rfl, (r18.ul a119), (o112.up l118 rfl), b118, hm⟩⟩))))
      iterate 10 (refine .u ?_)
      refine Agree.ov0 rfl ?_
      exact Agree.refl _
     ·replace hm := bf hm hc103
      refine Cw.skip (⟨?_, ⟨y14, y16, y19, v17, v20, W96, rfl, (l96.sub rfl), rfl, (r18.ul a98), (o21.up l96 rfl), b102, hm⟩⟩)
      iterate 1 (refine .u ?_)
      refine Agree.ov0 rfl ?_
      exact Agree.refl _
    ·refine Cw.region (Lw.m (vB y14) rfl (Lw.r rfl (R.not rfl) (Lw.m (vB (!y14)) rfl (bsplit (!y14) (fun hc126 => ?_) (fun hc126 => ?_)))))
     ·replace hm := bt hm hc126
      refine Lw.wa hc126 rfl (Lw.fa rfl (Lw.wa hc126 rfl (Lw.r rfl (R.ld (v := v0_1_) rfl rfl (b28.cell rfl)) (Lw.wa hc126 rfl (Lw.m (vI y15) rfl (Lw.wa hc126 rfl ?_))))))
      obtain ⟨u127, e128, hm⟩ := ob hm
      refine Lw.r rfl (R.ix (α := Head) s30 e128 rfl rfl rfl) (Lw.wa hc126 rfl (Lw.fa rfl (Lw.wa hc126 rfl (Lw.r rfl (R.ld rfl rfl (Head.at0 (s30.at_ e128)).str) (Lw.wa hc126 rfl (Lw.m (vS x1) rfl (Lw.wa hc126 rfl (Lw.r rfl (R.sge rfl rfl) (Lw.p hc126 (vB (!Op.bytesLess u127.Name x1)) rfl (Lw.nil (⟨?_, ⟨(!Op.bytesLess u127.Name x1), W23, rfl, Le.refl _ _, rfl, hm⟩⟩)))))))))))
      iterate 12 (refine .u ?_)
      exact Agree.refl _
     ·replace hm := bf hm hc126
      refine Lw.ps hc126 rfl (Lw.ps hc126 rfl (Lw.ps hc126 rfl (Lw.ps hc126 rfl (Lw.ps hc126 rfl (Lw.ps hc126 rfl (Lw.ps hc126 rfl (Lw.ps hc126 rfl (Lw.p hc126 (vB false) rfl (Lw.nil (⟨?_, ⟨false, W23, rfl, Le.refl _ _, rfl, hm⟩⟩))))))))))
      iterate 12 (refine .u ?_)
      exact Agree.refl _
 ·replace hm := bf hm hc31
  refine Cw.exit ?_
  rw [hK24] at hm
  obtain ⟨K137, hK137, hm⟩ := jn_e hm
  refine Cw.join 58 67 [] (fun l w => ∃ (y129 : List Vm.Commit) (y132 : List Vm.Head) (v130 v133 : Value) (W136 : CW), W136.w = w ∧ Le [4, 5] W23 W136 ∧ l = [] ∧ Rd W136 [0] [v130] y129 ∧ Ow W136 5 [] [v133] y132 ∧ Bx W136 4 g6 [v130, v133] ∧ K137 y129 y132 = some r) ?_ ?_
  ·rintro _ _ σ ⟨y129, y132, v130, v133, W136, rfl, l136, rfl, r131, o134, b135, hm⟩
   rw [hK137] at hm
   have a138 := a27.t l136 rfl
   refine Cw.seq (Cw.region (Lw.r rfl (R.lda (cs := [v130, v133]) b135.cells rfl rfl) (Lw.u (T.sta (vs := [v130, v133]) ((((b3.up l6 rfl).up l10 rfl).up l23 rfl).up l136 rfl) rfl rfl (oc_cons r131.oc (oc_cons o134.oc oc_nil)) rfl rfl) ?_)))
   rintro _ _ ⟨W141, rfl, l141, b141⟩
   have a142 := l141.s rfl
   refine Lw.nil ?_
   obtain ⟨W146, ew146, l146, dj146⟩ := dyeE _ 5
   have s147 : Rd (α := List Vm.Head) W146 [0] [v133] y132 := by rw [dj146]; exact ((o134.up l141 rfl).rd.dye 5).sub (M := [0]) rfl
   have a148 := l146.s rfl
   cases hm
   rw [← ew146]
   exact Cw.ret (retA1 rfl (b141.up l146 rfl) (Res.mk ((a138.trans a142).trans a148) ⟨v130, v133, rfl, (r131.ul (a142.trans a148)), s147⟩))
  ·refine Cw.seq (Cw.region (Lw.m (vB y14) rfl (Lw.r rfl (R.not rfl) (Lw.nil (Cw.cond (b := (!y14)) rfl (fun hc153 => ?_) (fun hc153 => ?_))))))
   ·replace hm := bt hm hc153
    refine Cw.region (Lw.fa rfl (Lw.r rfl (R.ld (v := v20) rfl rfl (b22.cell rfl)) (Lw.m (vS x1) rfl (Lw.m (vI x2) rfl (Lw.r rfl (R.bd (zs := [vS ([] : Str), vI 0]) (cs := [vS x1, vI x2]) [(0, vS x1), (1, vI x2)] rfl rfl rfl (bp_cons rfl rfl (bp_cons rfl rfl bp_nil))) (Lw.t rfl (T.bs 8 [.agg [vS x1, vI x2].toArray] (cs := [vS x1, vI x2]) rfl rfl (bsA rfl)) ?_))))))
    rintro _ _ ⟨g154, W154, rfl, rfl, l154, b154⟩
    have a155 := l154.o
    obtain ⟨q160, e161, hm⟩ := ob hm
    refine Lw.t rfl (T.app1S (α := Head) (K' := []) (o21.up l154 rfl) b154 (Head.rd (K := []) x1 x2) rfl rfl e161) ?_
    rintro v162 _ ⟨W162, rfl, l162, o162⟩
    have a163 := a155.t l162 rfl
    refine Lw.fa rfl (Lw.u (T.st (j := 1) (v := v162) ((b22.up l154 rfl).up l162 rfl) rfl rfl o162.oc rfl rfl) ?_)
    rintro _ _ ⟨W168, rfl, l168, b168⟩
    have a169 := a163.t l168 rfl
    refine Lw.nil (⟨?_, ⟨y16, q160, v17, v162, W168, rfl, ((l154.sub rfl).trans ((l162.sub rfl).trans (l168.sub rfl))), rfl, (r18.ul a169), (o162.up l168 rfl), b168, hm⟩⟩)
    iterate 10 (refine .u ?_)
    exact Agree.refl _
   ·replace hm := bf hm hc153
    refine Cw.skip (⟨?_, ⟨y16, y19, v17, v20, W23, rfl, Le.refl _ _, rfl, r18, o21, b22, hm⟩⟩)
    iterate 2 (refine .u ?_)
    exact Agree.refl _

theorem p65 {W : CW} {K : List Nat} {x0 : Vm.Repo} {v0_0_ : Value} {v0_1_ : Value} {x1 : Str} {x2 : Int} {r : Vm.Repo} (h0 : Rd W K [v0_0_, v0_1_] x0) (hm : Vm.spec_l7Head x0 x1 x2 = some r) : CallR Tryd.prog 65 [.agg [v0_0_, v0_1_].toArray, vS x1, vI x2].toArray W.w (Res W [] fun W' v => ∃ (u0_0 : Value) (u0_1 : Value), v = .agg [u0_0, u0_1].toArray ∧ Rd W' (0 :: K) [u0_0] r.Commits ∧ Rd W' (0 :: K) [u0_1] r.Heads) :=
 (c65 (V := W.view K []) (h0.view _) hm).ad (fk 0) fun _ _ ⟨u0_0, u0_1, e, f0, f1⟩ => ⟨u0_0, u0_1, e, f0.back rfl, f1.back rfl⟩

theorem c66 {V : CW} {x0 : Vm.Repo} {v0_0_ : Value} {v0_1_ : Value} {x1 : Str} {r : Int} (h0 : Rd V [0] [v0_0_, v0_1_] x0) (hm : Vm.spec_l7At x0 x1 = some r) : CallR Tryd.prog 66 [.agg [v0_0_, v0_1_].toArray, vS x1].toArray V.w (Res V LL fun Wf v => v = vI r) := by
 unfold Vm.spec_l7At at hm
 obtain ⟨w0_0, w0_1, he0, h0_0, h0_1⟩ := Repo.split h0
 simp only [List.cons.injEq, and_true, true_and] at he0
 obtain ⟨rfl, rfl⟩ := he0
 obtain ⟨W0, hW0⟩ : ∃ W, W = V := ⟨V, rfl⟩
 subst hW0
 refine CallR.of Tryd.func66 rfl rfl rfl rfl (Cw.seq (Cw.region (Lw.t rfl (T.box 2 (v := .agg [v0_0_, v0_1_].toArray) (cs := [v0_0_, v0_1_]) rfl rfl) ?_)))
 rintro _ _ ⟨g1, W1, rfl, rfl, l1, b1⟩
 have a2 := l1.o
 refine Lw.g (vI 0) rfl (Lw.nil (Cw.seq (Cw.seq (Cw.region (Lw.g (vI 0) rfl (Lw.nil (Cw.block ?_)))))))
 obtain ⟨K6, hK6, hm⟩ := jn_e hm
 refine Cw.loop 6 26 [4, 5] (fun m l w => ∃ (y3 : Int) (y4 : Int) (W5 : CW), W5.w = w ∧ Le [] W1 W5 ∧ l = [vI y3, vI y4] ∧ Vm.spec_l7At_l1 x0 x1 K6 m y3 y4 = some r) (((x0.Heads.length : Int) - 0).toNat + 1) ⟨0, 0, W1, rfl, Le.refl _ _, rfl, hm⟩ ?_
 rintro m7 _ _ σ ⟨y3, y4, W5, rfl, l5, rfl, hm⟩
 obtain _ | m7 := m7
 ·cases hm
 unfold Vm.spec_l7At_l1 at hm
 have a8 := a2.n l5
 have b9 := b1.up l5 rfl
 refine Cw.seq (Cw.seq (Cw.region ?_))
 have s10 := h0_1.ul a8
 refine Lw.m (vI y4) rfl (Lw.fa rfl (Lw.r rfl (R.ld (v := v0_1_) rfl rfl (b9.cell rfl)) (Lw.ln x0.Heads s10 rfl (Lw.lt rfl (Lw.nil (Cw.cond (b := decide ((y4 : Int) < ((x0.Heads.length : Int) : Int))) rfl (fun hc11 => ?_) (fun hc11 => ?_)))))))
 ·replace hm := bt hm hc11
  refine Cw.skip (Cw.seq (Cw.block (Cw.seq (Cw.region (Lw.fa rfl (Lw.r rfl (R.ld (v := v0_1_) rfl rfl (b9.cell rfl)) (Lw.m (vI y4) rfl ?_)))))))
  obtain ⟨u12, e13, hm⟩ := ob hm
  refine Lw.r rfl (R.ix (α := Head) s10 e13 rfl rfl rfl) (Lw.fa rfl (Lw.r rfl (R.ld rfl rfl (Head.at0 (s10.at_ e13)).str) (Lw.m (vS x1) rfl (Lw.seq rfl (Lw.nil (Cw.cond (b := (u12.Name == x1)) rfl (fun hc14 => ?_) (fun hc14 => ?_)))))))
  ·replace hm := bt hm hc14
   refine Cw.seq (Cw.region (Lw.fa rfl (Lw.r rfl (R.ld (v := v0_1_) rfl rfl (b9.cell rfl)) (Lw.m (vI y4) rfl ?_))))
   obtain ⟨u15, e16, hm⟩ := ob hm
   refine Lw.r rfl (R.ix (α := Head) s10 e16 rfl rfl rfl) (Lw.fa rfl (Lw.r rfl (R.ld rfl rfl (Head.at1 (s10.at_ e16)).int) (Lw.g (vI u15.At) rfl (Lw.nil ?_))))
   cases hm
   exact Cw.ret (ret1 rfl (Res.mk a8 rfl))
  ·replace hm := bf hm hc14
   refine Cw.skip (Cw.region (Lw.m (vI y4) rfl (Lw.add rfl (Lw.g (vI (w64 (y4 + 1))) rfl (Lw.nil (⟨?_, m7, Nat.lt_succ_self m7, ⟨y3, w64 (y4 + 1), W5, rfl, l5, rfl, hm⟩⟩))))))
   iterate 18 (refine .u ?_)
   exact Agree.base
 ·replace hm := bf hm hc11
  refine Cw.exit ?_
  rw [hK6] at hm
  refine Cw.seq (Cw.region (Lw.g (vI (-1)) rfl (Lw.nil ?_)))
  cases hm
  exact Cw.ret (ret1 rfl (Res.mk a8 rfl))

theorem p66 {W : CW} {K : List Nat} {x0 : Vm.Repo} {v0_0_ : Value} {v0_1_ : Value} {x1 : Str} {r : Int} (h0 : Rd W K [v0_0_, v0_1_] x0) (hm : Vm.spec_l7At x0 x1 = some r) : CallR Tryd.prog 66 [.agg [v0_0_, v0_1_].toArray, vS x1].toArray W.w (Res W [] fun W' v => v = vI r) :=
 (c66 (V := W.view K []) (h0.view _) hm).ad (fk 0) fun _ _ e => e

theorem c22 {V : CW} {x0 : Vm.Repo} {v0_0_ : Value} {v0_1_ : Value} {x1 : Str} {x2 : Int} {r : Vm.Repo × Bool} (h0 : Rd V [0] [v0_0_, v0_1_] x0) (hm : Vm.spec_RepoBranch x0 x1 x2 = some r) : CallR Tryd.prog 22 [.agg [v0_0_, v0_1_].toArray, vS x1, vI x2].toArray V.w (Res V LL fun Wf v => ∃ (u0_0 : Value) (u0_1 : Value), v = .tuple [.agg [u0_0, u0_1].toArray, vB r.2].toArray ∧ Rd Wf [0] [u0_0] r.1.Commits ∧ Rd Wf [0] [u0_1] r.1.Heads) := by
 unfold Vm.spec_RepoBranch at hm
 obtain ⟨w0_0, w0_1, he0, h0_0, h0_1⟩ := Repo.split h0
 simp only [List.cons.injEq, and_true, true_and] at he0
 obtain ⟨rfl, rfl⟩ := he0
 obtain ⟨W0, hW0⟩ : ∃ W, W = V := ⟨V, rfl⟩
 subst hW0
 refine CallR.of Tryd.func22 rfl rfl rfl rfl (Cw.seq (Cw.region (Lw.t rfl (T.box 2 (v := .agg [v0_0_, v0_1_].toArray) (cs := [v0_0_, v0_1_]) rfl rfl) ?_)))
 rintro _ _ ⟨g1, W1, rfl, rfl, l1, b1⟩
 have a2 := l1.o
 refine Lw.t rfl (T.alloc 3 (cs := [.slice none 0 0, .slice none 0 0]) rfl) ?_
 rintro _ _ ⟨g3, W3, rfl, rfl, l3, b3⟩
 have a4 := a2.n l3
 refine Lw.g (vB false) rfl (Lw.nil (Cw.seq (Cw.seq (Cw.region (Lw.r rfl (R.lda (cs := [v0_0_, v0_1_]) (b1.up l3 rfl).cells rfl rfl) ?_)))))
 obtain ⟨z8, e9, hm⟩ := ob hm
 refine Lw.t rfl (T.call rfl (p55 (K := [0])  (Repo.rd (K := [0]) x0.Commits x0.Heads (h0_0.ul a4) (h0_1.ul a4)) e9)) ?_
 rintro _ _ ⟨W10, rfl, l10, rfl⟩
 have a11 := a4.n l10
 have b12 := (b1.up l3 rfl).up l10 rfl
 refine Lw.r rfl (R.not rfl) (Lw.nil (Cw.cond (b := (!z8)) rfl (fun hc14 => ?_) (fun hc14 => ?_)))
 ·replace hm := bt hm hc14
  refine Cw.seq (Cw.region (Lw.r rfl (R.bd (zs := [.slice none 0 0, .slice none 0 0]) (cs := [.slice none 0 0, .slice none 0 0]) [] rfl rfl rfl bp_nil) (Lw.u (T.sta (vs := [.slice none 0 0, .slice none 0 0]) (b3.up l10 rfl) rfl rfl (oc_cons rfl (oc_cons rfl oc_nil)) rfl rfl) ?_)))
  rintro _ _ ⟨W15, rfl, l15, b15⟩
  have a16 := a11.t l15 rfl
  refine Lw.g (vB false) rfl (Lw.nil ?_)
  cases hm
  exact Cw.ret (retA2 rfl b15 rfl (Res.mk a16 ⟨.slice none 0 0, .slice none 0 0, rfl, (rdN (K := [0])), (rdN (K := [0]))⟩))
 ·replace hm := bf hm hc14
  refine Cw.skip (Cw.seq (Cw.region (Lw.r rfl (R.lda (cs := [v0_0_, v0_1_]) b12.cells rfl rfl) ?_)))
  obtain ⟨z20, e21, hm⟩ := ob hm
  refine Lw.t rfl (T.call rfl (p56 (K := [0]) (k0 := 4) (k1 := 5) (Repo.rd (K := [0]) x0.Commits x0.Heads (h0_0.ul a11) (h0_1.ul a11)) e21)) ?_
  rintro _ _ ⟨W22, rfl, l22, ⟨v0_0_22, v0_1_22, rfl, f22_0, f22_1⟩⟩
  have a23 := a11.n l22
  refine Lw.m (vS x1) rfl (Lw.m (vI x2) rfl ?_)
  obtain ⟨z26, e27, hm⟩ := ob hm
  refine Lw.t rfl (T.call rfl (p65 (K := [4, 5])  (x0 := (Vm.Repo.mk z20.Commits z20.Heads)) (Repo.rd (K := [4, 5]) z20.Commits z20.Heads (f22_0.rd.sub (M := [4, 5]) rfl) (f22_1.rd.sub (M := [4, 5]) rfl)) e27)) ?_
  rintro _ _ ⟨W28, rfl, l28, ⟨v0_0_28, v0_1_28, rfl, f28_0, f28_1⟩⟩
  have s29 := f28_0.sub (M := [0, 4, 5]) rfl
  have s30 := f28_1.sub (M := [0, 4, 5]) rfl
  have a31 := a23.n l28
  refine Lw.t rfl (T.alloc 6 (cs := [.slice none 0 0, .slice none 0 0]) rfl) ?_
  rintro _ _ ⟨g36, W36, rfl, rfl, l36, b36⟩
  have a37 := a31.n l36
  refine Lw.u (T.sta (vs := [v0_0_28, v0_1_28]) b36 rfl rfl (oc_cons s29.oc (oc_cons s30.oc oc_nil)) rfl rfl) ?_
  rintro _ _ ⟨W42, rfl, l42, b42⟩
  have a43 := a37.t l42 rfl
  have b46 := (((b12.up l22 rfl).up l28 rfl).up l36 rfl).up l42 rfl
  refine Lw.nil (Cw.seq ?_)
  obtain ⟨K50, hK50, hm⟩ := jn_e hm
  refine Cw.join 18 26 [26] (fun l w => ∃ (y48 : Bool) (W49 : CW), W49.w = w ∧ Le [] W42 W49 ∧ l = [vB y48] ∧ K50 y48 = some r) ?_ ?_
  ·rintro _ _ σ ⟨y48, W49, rfl, l49, rfl, hm⟩
   rw [hK50] at hm
   have a51 := a43.n l49
   have b55 := (((((b3.up l10 rfl).up l22 rfl).up l28 rfl).up l36 rfl).up l42 rfl).up l49 rfl
   refine Cw.cond (b := y48) rfl (fun hc57 => ?_) (fun hc57 => ?_)
   ·replace hm := bt hm hc57
    refine Cw.seq (Cw.region (Lw.r rfl (R.lda (cs := [v0_0_, v0_1_]) (b46.up l49 rfl).cells rfl rfl) ?_))
    obtain ⟨z60, e61, hm⟩ := ob hm
    refine Lw.t rfl (T.call rfl (p56 (K := [0]) (k0 := 7) (k1 := 8) (Repo.rd (K := [0]) x0.Commits x0.Heads (h0_0.ul a51) (h0_1.ul a51)) e61)) ?_
    rintro _ _ ⟨W62, rfl, l62, ⟨v0_0_62, v0_1_62, rfl, f62_0, f62_1⟩⟩
    have a63 := a51.n l62
    refine Lw.u (T.sta (vs := [v0_0_62, v0_1_62]) (b55.up l62 rfl) rfl rfl (oc_cons f62_0.oc (oc_cons f62_1.oc oc_nil)) rfl rfl) ?_
    rintro _ _ ⟨W69, rfl, l69, b69⟩
    have a70 := a63.t l69 rfl
    refine Lw.g (vB false) rfl (Lw.nil ?_)
    obtain ⟨W77, ew77, l77, dj77⟩ := dyeE _ 7
    have s78 : Rd (α := List Vm.Commit) W77 [0] [v0_0_62] z60.Commits := by rw [dj77]; exact ((f62_0.up l69 rfl).rd.dye 7).sub (M := [0]) rfl
    have a79 := a70.t l77 rfl
    obtain ⟨W86, ew86, l86, dj86⟩ := dyeE _ 8
    have s87 : Rd (α := List Vm.Head) W86 [0] [v0_1_62] z60.Heads := by rw [dj86]; exact (((f62_1.up l69 rfl).up l77 rfl).rd.dye 8).sub (M := [0]) rfl
    have a88 := l86.s rfl
    cases hm
    rw [← ew86.trans (ew77)]
    exact Cw.ret (retA2 rfl ((b69.up l77 rfl).up l86 rfl) rfl (Res.mk (a79.trans a88) ⟨v0_0_62, v0_1_62, rfl, (s78.ul a88), s87⟩))
   ·replace hm := bf hm hc57
    refine Cw.skip (Cw.seq (Cw.region (Lw.r rfl (R.lda (cs := [v0_0_28, v0_1_28]) (b42.up l49 rfl).cells rfl rfl) (Lw.u (T.sta (vs := [v0_0_28, v0_1_28]) b55 rfl rfl (oc_cons s29.oc (oc_cons s30.oc oc_nil)) rfl rfl) ?_))))
    rintro _ _ ⟨W95, rfl, l95, b95⟩
    have a96 := a51.t l95 rfl
    refine Lw.g (vB true) rfl (Lw.nil ?_)
    have s101 := s29.up ((l36.sub (M := [3, 6]) rfl).trans ((l42.sub (M := [3, 6]) rfl).trans ((l49.sub (M := [3, 6]) rfl).trans (l95.sub (M := [3, 6]) rfl)))) rfl
    have s102 := s30.up ((l36.sub (M := [3, 6]) rfl).trans ((l42.sub (M := [3, 6]) rfl).trans ((l49.sub (M := [3, 6]) rfl).trans (l95.sub (M := [3, 6]) rfl)))) rfl
    obtain ⟨W103, ew103, l103, dj103⟩ := dyeE _ 4
    have s104 : Rd W103 [0, 5] [v0_0_28] z26.Commits := by rw [dj103]; exact (s101.dye 4).sub (M := [0, 5]) rfl
    have s105 : Rd W103 [0, 5] [v0_1_28] z26.Heads := by rw [dj103]; exact (s102.dye 4).sub (M := [0, 5]) rfl
    have s106 : Rd (α := List Vm.Commit) W103 [0] [v0_0_22] z20.Commits := by rw [dj103]; exact ((((((f22_0.up l28 rfl).up l36 rfl).up l42 rfl).up l49 rfl).up l95 rfl).rd.dye 4).sub (M := [0]) rfl
    have a107 := a96.t l103 rfl
    obtain ⟨W112, ew112, l112, dj112⟩ := dyeE _ 5
    have s113 : Rd W112 [0] [v0_0_28] z26.Commits := by rw [dj112]; exact (s104.dye 5).sub (M := [0]) rfl
    have s114 : Rd W112 [0] [v0_1_28] z26.Heads := by rw [dj112]; exact (s105.dye 5).sub (M := [0]) rfl
    have s115 : Rd (α := List Vm.Head) W112 [0] [v0_1_22] z20.Heads := by rw [dj112]; exact (((((((f22_1.up l28 rfl).up l36 rfl).up l42 rfl).up l49 rfl).up l95 rfl).up l103 rfl).rd.dye 5).sub (M := [0]) rfl
    have a116 := a107.t l112 rfl
    cases hm
    rw [← ew112.trans (ew103)]
    exact Cw.ret (retA2 rfl ((b95.up l103 rfl).up l112 rfl) rfl (Res.mk a116 ⟨v0_0_28, v0_1_28, rfl, s113, s114⟩))
  ·refine Cw.region (Lw.r rfl (R.lda (cs := [v0_0_, v0_1_]) b46.cells rfl rfl) (Lw.m (vS x1) rfl ?_))
   obtain ⟨z122, e123, hm⟩ := ob hm
   refine Lw.t rfl (T.call rfl (p66 (K := [0])  (Repo.rd (K := [0]) x0.Commits x0.Heads (h0_0.ul a43) (h0_1.ul a43)) e123)) ?_
   rintro _ _ ⟨W124, rfl, l124, rfl⟩
   refine Lw.ge rfl (Lw.m (vB (decide ((0 : Int) ≤ (z122 : Int)))) rfl (bsplit (decide ((0 : Int) ≤ (z122 : Int))) (fun hc131 => ?_) (fun hc131 => ?_)))
   ·replace hm := bt hm hc131
    refine Lw.ps hc131 rfl (Lw.ps hc131 rfl (Lw.ps hc131 rfl (Lw.p hc131 (vB true) rfl (Lw.nil (⟨?_, ⟨true, W124, rfl, l124, rfl, hm⟩⟩)))))
    iterate 9 (refine .u ?_)
    exact Agree.refl _
   ·replace hm := bf hm hc131
    refine Lw.wa hc131 rfl (Lw.r rfl (R.lda (cs := [v0_0_28, v0_1_28]) (b42.up l124 rfl).cells rfl rfl) (Lw.wa hc131 rfl ?_))
    have s132 := s29.up ((l36.sub (M := [6]) rfl).trans ((l42.sub (M := [6]) rfl).trans (l124.sub (M := [6]) rfl))) rfl
    have s133 := s30.up ((l36.sub (M := [6]) rfl).trans ((l42.sub (M := [6]) rfl).trans (l124.sub (M := [6]) rfl))) rfl
    obtain ⟨z134, e135, hm⟩ := ob hm
    refine Lw.t rfl (T.call rfl (p55 (K := [0, 4, 5])  (Repo.rd (K := [0, 4, 5]) z26.Commits z26.Heads s132 s133) e135)) ?_
    rintro _ _ ⟨W136, rfl, l136, rfl⟩
    refine Lw.wa hc131 rfl (Lw.r rfl (R.not rfl) (Lw.p hc131 (vB (!z134)) rfl (Lw.nil (⟨?_, ⟨(!z134), W136, rfl, (l124.trans l136), rfl, hm⟩⟩))))
    iterate 9 (refine .u ?_)
    exact Agree.refl _

theorem p22 {W : CW} {K : List Nat} {x0 : Vm.Repo} {v0_0_ : Value} {v0_1_ : Value} {x1 : Str} {x2 : Int} {r : Vm.Repo × Bool} (h0 : Rd W K [v0_0_, v0_1_] x0) (hm : Vm.spec_RepoBranch x0 x1 x2 = some r) : CallR Tryd.prog 22 [.agg [v0_0_, v0_1_].toArray, vS x1, vI x2].toArray W.w (Res W [] fun W' v => ∃ (u0_0 : Value) (u0_1 : Value), v = .tuple [.agg [u0_0, u0_1].toArray, vB r.2].toArray ∧ Rd W' (0 :: K) [u0_0] r.1.Commits ∧ Rd W' (0 :: K) [u0_1] r.1.Heads) :=
 (c22 (V := W.view K []) (h0.view _) hm).ad (fk 0) fun _ _ ⟨u0_0, u0_1, e, f0, f1⟩ => ⟨u0_0, u0_1, e, f0.back rfl, f1.back rfl⟩

theorem c83 {V : CW} {x0 : Int} {x1 : Int} {x2 : Int} {r : Bool}  (hm : Vm.impl_within x0 x1 x2 = some r) : CallR Tryd.prog 83 [vI x0, vI x1, vI x2].toArray V.w (Res V LL fun Wf v => v = vB r) := by
 unfold Vm.impl_within at hm
 obtain ⟨W0, hW0⟩ : ∃ W, W = V := ⟨V, rfl⟩
 subst hW0
 refine CallR.of Tryd.func83 rfl rfl rfl rfl (Cw.seq (Cw.region (Lw.g (vB false) rfl (Lw.nil ?_))))
 obtain ⟨K3, hK3, hm⟩ := jn_e hm
 refine Cw.join 7 14 [6] (fun l w => ∃ (y1 : Bool) (W2 : CW), W2.w = w ∧ Le [] W0 W2 ∧ l = [vB y1] ∧ K3 y1 = some r) ?_ ?_
 ·rintro _ _ σ ⟨y1, W2, rfl, l2, rfl, hm⟩
  rw [hK3] at hm
  have a4 := l2.o
  cases hm
  exact Cw.ret (ret1 rfl (Res.mk a4 rfl))
 ·refine Cw.region (Lw.m (vI x1) rfl (Lw.m (vI x0) rfl (Lw.le rfl (Lw.m (vB (decide ((x1 : Int) ≤ (x0 : Int)))) rfl (bsplit (decide ((x1 : Int) ≤ (x0 : Int))) (fun hc5 => ?_) (fun hc5 => ?_))))))
  ·replace hm := bt hm hc5
   refine Lw.wa hc5 rfl (Lw.m (vI x0) rfl (Lw.wa hc5 rfl (Lw.m (vI x2) rfl (Lw.wa hc5 rfl (Lw.le rfl (Lw.p hc5 (vB (decide ((x0 : Int) ≤ (x2 : Int)))) rfl (Lw.g (vB (decide ((x0 : Int) ≤ (x2 : Int)))) rfl (Lw.nil (⟨?_, ⟨decide ((x0 : Int) ≤ (x2 : Int)), W0, rfl, Le.refl _ _, rfl, hm⟩⟩)))))))))
   iterate 9 (refine .u ?_)
   exact Agree.refl _
  ·replace hm := bf hm hc5
   refine Lw.ps hc5 rfl (Lw.ps hc5 rfl (Lw.ps hc5 rfl (Lw.p hc5 (vB false) rfl (Lw.g (vB false) rfl (Lw.nil (⟨?_, ⟨false, W0, rfl, Le.refl _ _, rfl, hm⟩⟩))))))
   iterate 9 (refine .u ?_)
   exact Agree.refl _

theorem p83 {W : CW} {K : List Nat} {x0 : Int} {x1 : Int} {x2 : Int} {r : Bool}  (hm : Vm.impl_within x0 x1 x2 = some r) : CallR Tryd.prog 83 [vI x0, vI x1, vI x2].toArray W.w (Res W [] fun W' v => v = vB r) :=
 (c83 (V := W.view K [])  hm).ad (fk 0) fun _ _ e => e

theorem c123 {V : CW} {x0 : Byte} {r : Bool}  (hm : Vm.impl_wordByte x0 = some r) : CallR Tryd.prog 123 [.int .u8 (UInt8.toNat x0 : Int)].toArray V.w (Res V LL fun Wf v => v = vB r) := by
 unfold Vm.impl_wordByte at hm
 obtain ⟨W0, hW0⟩ : ∃ W, W = V := ⟨V, rfl⟩
 subst hW0
 refine CallR.of Tryd.func123 rfl rfl rfl rfl (Cw.seq (Cw.region (Lw.g (vB false) rfl (Lw.nil ?_))))
 obtain ⟨K3, hK3, hm⟩ := jn_e hm
 refine Cw.join 3 16 [2] (fun l w => ∃ (y1 : Bool) (W2 : CW), W2.w = w ∧ Le [] W0 W2 ∧ l = [vB y1] ∧ K3 y1 = some r) ?_ ?_
 ·rintro _ _ σ ⟨y1, W2, rfl, l2, rfl, hm⟩
  rw [hK3] at hm
  have a4 := l2.o
  cases hm
  exact Cw.ret (ret1 rfl (Res.mk a4 rfl))
 ·refine Cw.region (Lw.m (.int .u8 (UInt8.toNat x0 : Int)) rfl (Lw.ge rfl (Lw.m (vB (decide ((97 : Int) ≤ ((UInt8.toNat x0 : Int) : Int)))) rfl (bsplit (decide ((97 : Int) ≤ ((UInt8.toNat x0 : Int) : Int))) (fun hc5 => ?_) (fun hc5 => ?_)))))
  ·replace hm := bt hm hc5
   refine Lw.wa hc5 rfl (Lw.m (.int .u8 (UInt8.toNat x0 : Int)) rfl (Lw.wa hc5 rfl (Lw.le rfl (Lw.p hc5 (vB (decide (((UInt8.toNat x0 : Int) : Int) ≤ (122 : Int)))) rfl (Lw.m (vB (decide (((UInt8.toNat x0 : Int) : Int) ≤ (122 : Int)))) rfl (bsplit (decide (((UInt8.toNat x0 : Int) : Int) ≤ (122 : Int))) (fun hc6 => ?_) (fun hc6 => ?_)))))))
   ·replace hm := bt hm hc6
    refine Lw.ps hc6 rfl (Lw.ps hc6 rfl (Lw.ps hc6 rfl (Lw.pu rfl (Lw.pu rfl (Lw.ps hc6 rfl (Lw.p hc6 (vB true) rfl (Lw.g (vB true) rfl (Lw.nil (⟨?_, ⟨true, W0, rfl, Le.refl _ _, rfl, hm⟩⟩)))))))))
    iterate 15 (refine .u ?_)
    exact Agree.refl _
   ·replace hm := bf hm hc6
    refine Lw.wa hc6 rfl (Lw.m (.int .u8 (UInt8.toNat x0 : Int)) rfl (Lw.wa hc6 rfl (Lw.ge rfl (Lw.wa hc6 rfl (Lw.m (vB (decide ((48 : Int) ≤ ((UInt8.toNat x0 : Int) : Int)))) rfl (bsplit (decide ((48 : Int) ≤ ((UInt8.toNat x0 : Int) : Int))) (fun hc7 => ?_) (fun hc7 => ?_)))))))
    ·replace hm := bt hm hc7
     refine Lw.wa hc7 rfl (Lw.m (.int .u8 (UInt8.toNat x0 : Int)) rfl (Lw.wa hc7 rfl (Lw.le rfl (Lw.wa hc6 rfl (Lw.p hc7 (vB (decide (((UInt8.toNat x0 : Int) : Int) ≤ (57 : Int)))) rfl (Lw.p hc6 (vB (decide (((UInt8.toNat x0 : Int) : Int) ≤ (57 : Int)))) rfl (Lw.g (vB (decide (((UInt8.toNat x0 : Int) : Int) ≤ (57 : Int)))) rfl (Lw.nil (⟨?_, ⟨decide (((UInt8.toNat x0 : Int) : Int) ≤ (57 : Int)), W0, rfl, Le.refl _ _, rfl, hm⟩⟩)))))))))
     iterate 15 (refine .u ?_)
     exact Agree.refl _
    ·replace hm := bf hm hc7
     refine Lw.ps hc7 rfl (Lw.ps hc7 rfl (Lw.wa hc6 rfl (Lw.p hc7 (vB false) rfl (Lw.p hc6 (vB false) rfl (Lw.g (vB false) rfl (Lw.nil (⟨?_, ⟨false, W0, rfl, Le.refl _ _, rfl, hm⟩⟩)))))))
     iterate 15 (refine .u ?_)
     exact Agree.refl _
  ·replace hm := bf hm hc5
   refine Lw.ps hc5 rfl (Lw.ps hc5 rfl (Lw.p hc5 (vB false) rfl (Lw.m (vB false) rfl (Lw.wa rfl rfl (Lw.m (.int .u8 (UInt8.toNat x0 : Int)) rfl (Lw.wa rfl rfl (Lw.ge rfl (Lw.wa rfl rfl (Lw.m (vB (decide ((48 : Int) ≤ ((UInt8.toNat x0 : Int) : Int)))) rfl (bsplit (decide ((48 : Int) ≤ ((UInt8.toNat x0 : Int) : Int))) (fun hc8 => ?_) (fun hc8 => ?_)))))))))))
   ·replace hm := bt hm hc8
    refine Lw.wa hc8 rfl (Lw.m (.int .u8 (UInt8.toNat x0 : Int)) rfl (Lw.wa hc8 rfl (Lw.le rfl (Lw.wa rfl rfl (Lw.p hc8 (vB (decide (((UInt8.toNat x0 : Int) : Int) ≤ (57 : Int)))) rfl (Lw.p rfl (vB (decide (((UInt8.toNat x0 : Int) : Int) ≤ (57 : Int)))) rfl (Lw.g (vB (decide (((UInt8.toNat x0 : Int) : Int) ≤ (57 : Int)))) rfl (Lw.nil (⟨?_, ⟨decide (((UInt8.toNat x0 : Int) : Int) ≤ (57 : Int)), W0, rfl, Le.refl _ _, rfl, hm⟩⟩)))))))))
    iterate 15 (refine .u ?_)
    exact Agree.refl _
   ·replace hm := bf hm hc8
    refine Lw.ps hc8 rfl (Lw.ps hc8 rfl (Lw.wa rfl rfl (Lw.p hc8 (vB false) rfl (Lw.p rfl (vB false) rfl (Lw.g (vB false) rfl (Lw.nil (⟨?_, ⟨false, W0, rfl, Le.refl _ _, rfl, hm⟩⟩)))))))
    iterate 15 (refine .u ?_)
    exact Agree.refl _

theorem p123 {W : CW} {K : List Nat} {x0 : Byte} {r : Bool}  (hm : Vm.impl_wordByte x0 = some r) : CallR Tryd.prog 123 [.int .u8 (UInt8.toNat x0 : Int)].toArray W.w (Res W [] fun W' v => v = vB r) :=
 (c123 (V := W.view K [])  hm).ad (fk 0) fun _ _ e => e

theorem c81 {V : CW} {x0 : Str} {r : Bool}  (hm : Vm.impl_nameOk x0 = some r) : CallR Tryd.prog 81 [vS x0].toArray V.w (Res V LL fun Wf v => v = vB r) := by
 unfold Vm.impl_nameOk at hm
 obtain ⟨W0, hW0⟩ : ∃ W, W = V := ⟨V, rfl⟩
 subst hW0
 refine CallR.of Tryd.func81 rfl rfl rfl rfl (Cw.seq (Cw.region (Lw.g (vB false) rfl (Lw.nil (Cw.seq (Cw.seq (Cw.region (Lw.m (vS x0) rfl (Lw.r rfl (R.lenS rfl) ?_)))))))))
 obtain ⟨z1, e2, hm⟩ := ob hm
 refine Lw.t rfl (T.call rfl (p83 (K := [0])   e2)) ?_
 rintro _ _ ⟨W3, rfl, l3, rfl⟩
 have a4 := l3.o
 refine Lw.r rfl (R.not rfl) (Lw.nil (Cw.cond (b := (!z1)) rfl (fun hc5 => ?_) (fun hc5 => ?_)))
 ·replace hm := bt hm hc5
  refine Cw.seq (Cw.region (Lw.g (vB false) rfl (Lw.nil ?_)))
  cases hm
  exact Cw.ret (ret1 rfl (Res.mk a4 rfl))
 ·replace hm := bf hm hc5
  refine Cw.skip (Cw.seq (Cw.seq (Cw.region (Lw.g (vI 0) rfl (Lw.nil (Cw.block ?_))))))
  obtain ⟨K9, hK9, hm⟩ := jn_e hm
  refine Cw.loop 8 18 [2, 3] (fun m l w => ∃ (y6 : Bool) (y7 : Int) (W8 : CW), W8.w = w ∧ Le [] W3 W8 ∧ l = [vB y6, vI y7] ∧ Vm.impl_nameOk_l1 x0 K9 m y6 y7 = some r) (((x0.length : Int) - 0).toNat + 1) ⟨false, 0, W3, rfl, Le.refl _ _, rfl, hm⟩ ?_
  rintro m10 _ _ σ ⟨y6, y7, W8, rfl, l8, rfl, hm⟩
  obtain _ | m10 := m10
  ·cases hm
  unfold Vm.impl_nameOk_l1 at hm
  have a11 := a4.n l8
  refine Cw.seq (Cw.seq (Cw.region (Lw.m (vI y7) rfl (Lw.m (vS x0) rfl (Lw.r rfl (R.lenS rfl) (Lw.lt rfl (Lw.nil (Cw.cond (b := decide ((y7 : Int) < ((x0.length : Int) : Int))) rfl (fun hc12 => ?_) (fun hc12 => ?_)))))))))
  ·replace hm := bt hm hc12
   refine Cw.skip (Cw.seq (Cw.block (Cw.seq (Cw.region (Lw.m (vS x0) rfl (Lw.m (vI y7) rfl ?_))))))
   obtain ⟨u13, e14, hm⟩ := ob hm
   refine Lw.r rfl (R.chm e14 rfl rfl) ?_
   obtain ⟨z15, e16, hm⟩ := ob hm
   refine Lw.t rfl (T.call rfl (p123 (K := [0])   e16)) ?_
   rintro _ _ ⟨W17, rfl, l17, rfl⟩
   have a18 := a11.n l17
   refine Lw.r rfl (R.not rfl) (Lw.nil (Cw.cond (b := (!z15)) rfl (fun hc19 => ?_) (fun hc19 => ?_)))
   ·replace hm := bt hm hc19
    refine Cw.seq (Cw.region (Lw.g (vB false) rfl (Lw.nil ?_)))
    cases hm
    exact Cw.ret (ret1 rfl (Res.mk a18 rfl))
   ·replace hm := bf hm hc19
    refine Cw.skip (Cw.region (Lw.m (vI y7) rfl (Lw.add rfl (Lw.g (vI (w64 (y7 + 1))) rfl (Lw.nil (⟨?_, m10, Nat.lt_succ_self m10, ⟨y6, w64 (y7 + 1), W17, rfl, (l8.trans l17), rfl, hm⟩⟩))))))
    iterate 14 (refine .u ?_)
    exact Agree.base
  ·replace hm := bf hm hc12
   refine Cw.exit ?_
   rw [hK9] at hm
   refine Cw.seq (Cw.region (Lw.g (vB true) rfl (Lw.nil ?_)))
   cases hm
   exact Cw.ret (ret1 rfl (Res.mk a11 rfl))

theorem p81 {W : CW} {K : List Nat} {x0 : Str} {r : Bool}  (hm : Vm.impl_nameOk x0 = some r) : CallR Tryd.prog 81 [vS x0].toArray W.w (Res W [] fun W' v => v = vB r) :=
 (c81 (V := W.view K [])  hm).ad (fk 0) fun _ _ e => e

theorem c132 {V : CW} {x0 : Str} {r : Bool}  (hm : Vm.impl_lineOk x0 = some r) : CallR Tryd.prog 132 [vS x0].toArray V.w (Res V LL fun Wf v => v = vB r) := by
 unfold Vm.impl_lineOk at hm
 obtain ⟨W0, hW0⟩ : ∃ W, W = V := ⟨V, rfl⟩
 subst hW0
 refine CallR.of Tryd.func132 rfl rfl rfl rfl (Cw.seq (Cw.region (Lw.g (vB false) rfl (Lw.nil (Cw.seq (Cw.seq (Cw.region (Lw.m (vS x0) rfl (Lw.r rfl (R.lenS rfl) (Lw.gt rfl (Lw.nil (Cw.cond (b := decide ((12 : Int) < ((x0.length : Int) : Int))) rfl (fun hc1 => ?_) (fun hc1 => ?_)))))))))))))
 ·replace hm := bt hm hc1
  refine Cw.seq (Cw.region (Lw.g (vB false) rfl (Lw.nil ?_)))
  cases hm
  exact Cw.ret (ret1 rfl (Res.mk (Le.refl _ _) rfl))
 ·replace hm := bf hm hc1
  refine Cw.skip (Cw.seq (Cw.seq (Cw.region (Lw.g (vI 0) rfl (Lw.nil (Cw.block ?_))))))
  obtain ⟨K5, hK5, hm⟩ := jn_e hm
  refine Cw.loop 7 22 [2, 3] (fun m l w => ∃ (y2 : Bool) (y3 : Int) (W4 : CW), W4.w = w ∧ Le [] W0 W4 ∧ l = [vB y2, vI y3] ∧ Vm.impl_lineOk_l1 x0 K5 m y2 y3 = some r) (((x0.length : Int) - 0).toNat + 1) ⟨false, 0, W0, rfl, Le.refl _ _, rfl, hm⟩ ?_
  rintro m6 _ _ σ ⟨y2, y3, W4, rfl, l4, rfl, hm⟩
  obtain _ | m6 := m6
  ·cases hm
  unfold Vm.impl_lineOk_l1 at hm
  have a7 := l4.o
  refine Cw.seq (Cw.seq (Cw.region (Lw.m (vI y3) rfl (Lw.m (vS x0) rfl (Lw.r rfl (R.lenS rfl) (Lw.lt rfl (Lw.nil (Cw.cond (b := decide ((y3 : Int) < ((x0.length : Int) : Int))) rfl (fun hc8 => ?_) (fun hc8 => ?_)))))))))
  ·replace hm := bt hm hc8
   refine Cw.skip (Cw.seq (Cw.block ?_))
   obtain ⟨K11, hK11, hm⟩ := jn_e hm
   refine Cw.join 13 22 [22] (fun l w => ∃ (y9 : Bool) (W10 : CW), W10.w = w ∧ Le [] W4 W10 ∧ l = [vB y9] ∧ K11 y9 = some r) ?_ ?_
   ·rintro _ _ σ ⟨y9, W10, rfl, l10, rfl, hm⟩
    rw [hK11] at hm
    have a12 := a7.n l10
    refine Cw.cond (b := y9) rfl (fun hc13 => ?_) (fun hc13 => ?_)
    ·replace hm := bt hm hc13
     refine Cw.seq (Cw.region (Lw.g (vB false) rfl (Lw.nil ?_)))
     cases hm
     exact Cw.ret (ret1 rfl (Res.mk a12 rfl))
    ·replace hm := bf hm hc13
     refine Cw.skip (Cw.region (Lw.m (vI y3) rfl (Lw.add rfl (Lw.g (vI (w64 (y3 + 1))) rfl (Lw.nil (⟨?_, m6, Nat.lt_succ_self m6, ⟨y2, w64 (y3 + 1), W10, rfl, (l4.trans l10), rfl, hm⟩⟩))))))
     iterate 4 (refine .u ?_)
     refine Agree.ov0 rfl ?_
     iterate 6 (refine .u ?_)
     exact Agree.base
   ·refine Cw.region (Lw.m (vS x0) rfl (Lw.m (vI y3) rfl ?_))
    obtain ⟨u14, e15, hm⟩ := ob hm
    refine Lw.r rfl (R.chm e15 rfl rfl) (Lw.lt rfl (Lw.m (vB (decide (((UInt8.toNat u14 : Int) : Int) < (32 : Int)))) rfl (bsplit (decide (((UInt8.toNat u14 : Int) : Int) < (32 : Int))) (fun hc16 => ?_) (fun hc16 => ?_))))
    ·replace hm := bt hm hc16
     refine Lw.ps hc16 rfl (Lw.ps hc16 rfl (Lw.ps hc16 rfl (Lw.ps hc16 rfl (Lw.p hc16 (vB true) rfl (Lw.nil (⟨?_, ⟨true, W4, rfl, Le.refl _ _, rfl, hm⟩⟩))))))
     iterate 10 (refine .u ?_)
     exact Agree.refl _
    ·replace hm := bf hm hc16
     refine Lw.wa hc16 rfl (Lw.m (vS x0) rfl (Lw.wa hc16 rfl (Lw.m (vI y3) rfl (Lw.wa hc16 rfl ?_))))
     obtain ⟨u17, e18, hm⟩ := ob hm
     refine Lw.r rfl (R.chm e18 rfl rfl) (Lw.wa hc16 rfl (Lw.gt rfl (Lw.p hc16 (vB (decide ((126 : Int) < ((UInt8.toNat u17 : Int) : Int)))) rfl (Lw.nil (⟨?_, ⟨decide ((126 : Int) < ((UInt8.toNat u17 : Int) : Int)), W4, rfl, Le.refl _ _, rfl, hm⟩⟩)))))
     iterate 10 (refine .u ?_)
     exact Agree.refl _
  ·replace hm := bf hm hc8
   refine Cw.exit ?_
   rw [hK5] at hm
   refine Cw.seq (Cw.region (Lw.g (vB true) rfl (Lw.nil ?_)))
   cases hm
   exact Cw.ret (ret1 rfl (Res.mk a7 rfl))

theorem p132 {W : CW} {K : List Nat} {x0 : Str} {r : Bool}  (hm : Vm.impl_lineOk x0 = some r) : CallR Tryd.prog 132 [vS x0].toArray W.w (Res W [] fun W' v => v = vB r) :=
 (c132 (V := W.view K [])  hm).ad (fk 0) fun _ _ e => e

theorem c108 {V : CW} {x0 : List Str} {v0_ : Value} {r : Bool} (h0 : Rd V [0] [v0_] x0) (hm : Vm.impl_TextOk x0 = some r) : CallR Tryd.prog 108 [v0_].toArray V.w (Res V LL fun Wf v => v = vB r) := by
 unfold Vm.impl_TextOk at hm
 obtain ⟨W0, hW0⟩ : ∃ W, W = V := ⟨V, rfl⟩
 subst hW0
 refine CallR.of Tryd.func108 rfl rfl rfl rfl (Cw.seq (Cw.region (Lw.g (vB false) rfl (Lw.nil (Cw.seq (Cw.seq (Cw.region (Lw.m v0_ rfl (Lw.ln x0 h0 rfl (Lw.gt rfl (Lw.nil (Cw.cond (b := decide ((10 : Int) < ((x0.length : Int) : Int))) rfl (fun hc1 => ?_) (fun hc1 => ?_)))))))))))))
 ·replace hm := bt hm hc1
  refine Cw.seq (Cw.region (Lw.g (vB false) rfl (Lw.nil ?_)))
  cases hm
  exact Cw.ret (ret1 rfl (Res.mk (Le.refl _ _) rfl))
 ·replace hm := bf hm hc1
  refine Cw.skip (Cw.seq (Cw.seq (Cw.region (Lw.m v0_ rfl (Lw.ln x0 h0 rfl (Lw.m (vI 0) rfl (Lw.nil (Cw.block ?_))))))))
  obtain ⟨K6, hK6, hm⟩ := jn_e hm
  refine Cw.loop 10 17 [2, 4, 10] (fun m l w => ∃ (y2 : Bool) (y4 : Int) (j3 : Value) (W5 : CW), W5.w = w ∧ Le [] W0 W5 ∧ l = [vB y2, j3, vI y4] ∧ Vm.impl_TextOk_l1 x0 K6 m y2 y4 = some r) (((x0.length : Int) - 0).toNat + 1) ⟨false, 0, undef, W0, rfl, Le.refl _ _, rfl, hm⟩ ?_
  rintro m7 _ _ σ ⟨y2, y4, j3, W5, rfl, l5, rfl, hm⟩
  obtain _ | m7 := m7
  ·cases hm
  unfold Vm.impl_TextOk_l1 at hm
  have a8 := l5.o
  refine Cw.seq (Cw.region (Lw.lt rfl (Lw.nil (Cw.seq (Cw.cond (b := decide ((y4 : Int) < ((x0.length : Int) : Int))) rfl (fun hc9 => ?_) (fun hc9 => ?_))))))
  ·replace hm := bt hm hc9
   refine Cw.skip (Cw.seq (Cw.block (Cw.seq (Cw.region ?_))))
   obtain ⟨u10, e11, hm⟩ := ob hm
   refine Lw.r rfl (R.ix (α := Str) (h0.ul a8) e11 rfl rfl rfl) (Lw.r rfl (R.ld rfl rfl ((h0.ul a8).at_ e11).str) (Lw.g (vS u10) rfl (Lw.nil (Cw.seq (Cw.region (Lw.m (vS u10) rfl ?_))))))
   obtain ⟨z13, e14, hm⟩ := ob hm
   refine Lw.t rfl (T.call rfl (p132 (K := [0])   e14)) ?_
   rintro _ _ ⟨W15, rfl, l15, rfl⟩
   have a16 := a8.n l15
   refine Lw.r rfl (R.not rfl) (Lw.nil (Cw.cond (b := (!z13)) rfl (fun hc17 => ?_) (fun hc17 => ?_)))
   ·replace hm := bt hm hc17
    refine Cw.seq (Cw.region (Lw.g (vB false) rfl (Lw.nil ?_)))
    cases hm
    exact Cw.ret (ret1 rfl (Res.mk a16 rfl))
   ·replace hm := bf hm hc17
    refine Cw.skip (Cw.region (Lw.add rfl (Lw.m (vI (w64 (y4 + 1))) rfl (Lw.nil (⟨?_, m7, Nat.lt_succ_self m7, ⟨y2, w64 (y4 + 1), vS u10, W15, rfl, (l5.trans l15), rfl, hm⟩⟩)))))
    iterate 12 (refine .u ?_)
    exact Agree.base
  ·replace hm := bf hm hc9
   refine Cw.exit ?_
   rw [hK6] at hm
   refine Cw.seq (Cw.region (Lw.g (vB true) rfl (Lw.nil ?_)))
   cases hm
   exact Cw.ret (ret1 rfl (Res.mk a8 rfl))

theorem p108 {W : CW} {K : List Nat} {x0 : List Str} {v0_ : Value} {r : Bool} (h0 : Rd W K [v0_] x0) (hm : Vm.impl_TextOk x0 = some r) : CallR Tryd.prog 108 [v0_].toArray W.w (Res W [] fun W' v => v = vB r) :=
 (c108 (V := W.view K []) (h0.view _) hm).ad (fk 0) fun _ _ e => e

theorem c107 {V : CW} {x0 : Str} {r : Bool} (h99 : Gl 2 V [0]) (hm : Vm.impl_PathOk x0 = some r) : CallR Tryd.prog 107 [vS x0].toArray V.w (Res V LL fun Wf v => v = vB r) := by
 unfold Vm.impl_PathOk at hm
 obtain ⟨W0, hW0⟩ : ∃ W, W = V := ⟨V, rfl⟩
 subst hW0
 refine CallR.of Tryd.func107 rfl rfl rfl rfl (Cw.seq (Cw.region (Lw.g (vB false) rfl (Lw.nil (Cw.seq (Cw.region (Lw.m (vS x0) rfl ?_)))))))
 obtain ⟨z1, e2, hm⟩ := ob hm
 refine Lw.t rfl (T.call rfl (p99 (K := [0]) (k0 := 2) h99 e2)) ?_
 rintro v0_3 _ ⟨W3, rfl, l3, ⟨_, rfl, f3_0⟩⟩
 have a4 := l3.o
 refine Lw.g v0_3 rfl (Lw.nil (Cw.seq (Cw.seq (Cw.region (Lw.m v0_3 rfl (Lw.ln z1 f3_0.rd rfl (Lw.gt rfl (Lw.nil (Cw.cond (b := decide ((3 : Int) < ((z1.length : Int) : Int))) rfl (fun hc5 => ?_) (fun hc5 => ?_))))))))))
 ·replace hm := bt hm hc5
  refine Cw.seq (Cw.region (Lw.g (vB false) rfl (Lw.nil ?_)))
  cases hm
  exact Cw.ret (ret1 rfl (Res.mk a4 rfl))
 ·replace hm := bf hm hc5
  refine Cw.skip (Cw.seq (Cw.seq (Cw.region (Lw.m v0_3 rfl (Lw.ln z1 f3_0.rd rfl (Lw.m (vI 0) rfl (Lw.nil (Cw.block ?_))))))))
  obtain ⟨K10, hK10, hm⟩ := jn_e hm
  refine Cw.loop 13 20 [2, 5, 13] (fun m l w => ∃ (y6 : Bool) (y8 : Int) (j7 : Value) (W9 : CW), W9.w = w ∧ Le [] W3 W9 ∧ l = [vB y6, j7, vI y8] ∧ Vm.impl_PathOk_l1 z1 K10 m y6 y8 = some r) (((z1.length : Int) - 0).toNat + 1) ⟨false, 0, undef, W3, rfl, Le.refl _ _, rfl, hm⟩ ?_
  rintro m11 _ _ σ ⟨y6, y8, j7, W9, rfl, l9, rfl, hm⟩
  obtain _ | m11 := m11
  ·cases hm
  unfold Vm.impl_PathOk_l1 at hm
  have a12 := a4.n l9
  refine Cw.seq (Cw.region (Lw.lt rfl (Lw.nil (Cw.seq (Cw.cond (b := decide ((y8 : Int) < ((z1.length : Int) : Int))) rfl (fun hc14 => ?_) (fun hc14 => ?_))))))
  ·replace hm := bt hm hc14
   refine Cw.skip (Cw.seq (Cw.block (Cw.seq (Cw.region ?_))))
   obtain ⟨u15, e16, hm⟩ := ob hm
   refine Lw.r rfl (R.ix (α := Str) (f3_0.up l9 rfl).rd e16 rfl rfl rfl) (Lw.r rfl (R.ld rfl rfl ((f3_0.up l9 rfl).rd.at_ e16).str) (Lw.g (vS u15) rfl (Lw.nil (Cw.seq (Cw.region (Lw.m (vS u15) rfl ?_))))))
   obtain ⟨z17, e18, hm⟩ := ob hm
   refine Lw.t rfl (T.call rfl (p81 (K := [0])   e18)) ?_
   rintro _ _ ⟨W19, rfl, l19, rfl⟩
   have a20 := a12.n l19
   refine Lw.r rfl (R.not rfl) (Lw.nil (Cw.cond (b := (!z17)) rfl (fun hc22 => ?_) (fun hc22 => ?_)))
   ·replace hm := bt hm hc22
    refine Cw.seq (Cw.region (Lw.g (vB false) rfl (Lw.nil ?_)))
    cases hm
    exact Cw.ret (ret1 rfl (Res.mk a20 rfl))
   ·replace hm := bf hm hc22
    refine Cw.skip (Cw.region (Lw.add rfl (Lw.m (vI (w64 (y8 + 1))) rfl (Lw.nil (⟨?_, m11, Nat.lt_succ_self m11, ⟨y6, w64 (y8 + 1), vS u15, W19, rfl, (l9.trans l19), rfl, hm⟩⟩)))))
    iterate 12 (refine .u ?_)
    exact Agree.base
  ·replace hm := bf hm hc14
   refine Cw.exit ?_
   rw [hK10] at hm
   refine Cw.seq (Cw.region (Lw.g (vB true) rfl (Lw.nil ?_)))
   cases hm
   exact Cw.ret (ret1 rfl (Res.mk a12 rfl))

theorem p107 {W : CW} {K : List Nat} {x0 : Str} {r : Bool} (h99 : Gl 2 W K) (hm : Vm.impl_PathOk x0 = some r) : CallR Tryd.prog 107 [vS x0].toArray W.w (Res W [] fun W' v => v = vB r) :=
 (c107 (V := W.view K []) (h99.view _) hm).ad (fk 0) fun _ _ e => e

end Go.Sx
