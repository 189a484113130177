/- Walks: each function answers as its model, printed by a program of ours. Conditions: the arguments read as they are given. -/
import Derived.Test.YtmjjhnahdmlmaaaDoorXTs
import Derived.Test.YtmjjhnahdmlmaaaDoorXMd
import Derived.Test.YtmjjhnahdmlmaaaDoorXW1
import Derived.Test.YtmjjhnahdmlmaaaDoorXE
namespace Go.Sx
open Go Go.Proofs Go.Vm Rp
set_option linter.unusedVariables false
set_option linter.unusedSimpArgs false

theorem c71 {V : CW} {x0 : List Vm.File} {v0_ : Value} {r : (List Vm.File)} (h0 : Rd V [0] [v0_] x0) (hm : Vm.spec_l4Copy x0 = some r) : CallR Tryd.prog 71 [v0_].toArray V.w (Res V LL fun Wf v => ∃ (u0 : Value), v = u0 ∧ OwS Wf LL [] [u0] r) := by
 unfold Vm.spec_l4Copy at hm
 obtain ⟨W0, hW0⟩ : ∃ W, W = V := ⟨V, rfl⟩
 subst hW0
 refine CallR.of Tryd.func71 rfl rfl rfl rfl (Cw.seq (Cw.region (Lw.g (.slice none 0 0) rfl (Lw.nil (Cw.seq (Cw.region (Lw.t rfl (T.lit0 (α := File) 2 []) ?_)))))))
 rintro v1 _ ⟨W1, rfl, l1, o1⟩
 have a2 := l1.o
 refine Lw.g v1 rfl (Lw.nil (Cw.seq (Cw.seq (Cw.region (Lw.g (vI 0) rfl (Lw.nil (Cw.block ?_)))))))
 obtain ⟨K8, hK8, hm⟩ := jn_e hm
 refine Cw.loop 6 27 [3, 4] (fun m l w => ∃ (y3 : List Vm.File) (y6 : Int) (v4 : Value) (W7 : CW), W7.w = w ∧ Le [2, 3] W1 W7 ∧ l = [v4, vI y6] ∧ Ow W7 2 [] [v4] y3 ∧ Vm.spec_l4Copy_l1 x0 K8 m y3 y6 = some r) (((x0.length : Int) - 0).toNat + 1) ⟨([] : List File), 0, v1, W1, rfl, Le.refl _ _, rfl, o1, hm⟩ ?_
 rintro m9 _ _ σ ⟨y3, y6, v4, W7, rfl, l7, rfl, o5, hm⟩
 obtain _ | m9 := m9
 ·cases hm
 unfold Vm.spec_l4Copy_l1 at hm
 have a10 := a2.t l7 rfl
 refine Cw.seq (Cw.seq (Cw.region (Lw.m (vI y6) rfl (Lw.m v0_ rfl (Lw.ln x0 (h0.ul a10) rfl (Lw.lt rfl (Lw.nil (Cw.cond (b := decide ((y6 : Int) < ((x0.length : Int) : Int))) rfl (fun hc12 => ?_) (fun hc12 => ?_)))))))))
 ·replace hm := bt hm hc12
  refine Cw.skip (Cw.seq (Cw.block (Cw.draw [2, 3] [(0, 0), (1, 0), (2, 0), (3, 0), (4, 0), (5, 1), (7, 0), (8, 0), (9, 0), (10, 0), (11, 1), (6, 2), (12, 2), (13, 0), (14, 2), (15, 2), (16, 0)] mixed (by kernel_rfl) fun W13 l13 => ?_)))
  have a14 := a10.n l13
  refine Mw.p rfl rfl (fun _ => R.mv (v := v4) rfl) (Mw.p rfl rfl (fun _ => R.mv (v := v0_) rfl) (Mw.p rfl rfl (fun _ => R.mv (v := vI y6) rfl) ?_))
  obtain ⟨u16, e17, hm⟩ := ob hm
  have s18 := h0.ul a14
  refine Mw.p rfl rfl (fun _ => R.ix (α := File) s18 e17 rfl rfl rfl) (Mw.p rfl rfl (fun _ => R.fa rfl) (Mw.q rfl rfl (fun _ c => R.ld rfl rfl (cl_cell (File.at0 (s18.at_ e17)).1 rfl (File.at0 (s18.at_ e17)).str c)) (Mw.p rfl rfl (fun _ => R.mv (v := v0_) rfl) (Mw.p rfl rfl (fun _ => R.mv (v := vI y6) rfl) ?_))))
  obtain ⟨u19, e20, hm⟩ := ob hm
  refine Mw.p rfl rfl (fun _ => R.ix (α := File) s18 e20 rfl rfl rfl) (Mw.p rfl rfl (fun _ => R.fa rfl) ?_)
  obtain ⟨v21, c22, r23⟩ := (File.at1 (s18.at_ e20)).cell rfl
  refine Mw.q rfl rfl (fun _ c => R.ld rfl rfl (cl_cell (File.at1 (s18.at_ e20)).1 rfl c22 c)) (Mw.t rfl rfl (T.lit0 (α := Str) 3 []) ?_)
  rintro v24 _ ⟨W24, rfl, l24, o24⟩
  have a25 := l24.o
  refine ⟨⟨_, rfl, (l24.sub (M := [2, 3]) rfl)⟩, ?_⟩
  obtain ⟨q27, e28, hm⟩ := ob hm
  refine Mw.t rfl rfl (T.appP (α := Str) o24 (r23.ul a25) rfl rfl e28) ?_
  rintro v29 _ ⟨W29, rfl, l29, o29⟩
  refine ⟨⟨_, rfl, ((l24.sub (M := [2, 3]) rfl).trans (l29.sub (M := [2, 3]) rfl))⟩, ?_⟩
  refine Mw.p rfl rfl (fun _ => R.bd (zs := [vS ([] : Str), .slice none 0 0]) (cs := [vS u16.Path, v29]) [(0, vS u16.Path), (1, v29)] rfl rfl rfl (bp_cons rfl rfl (bp_cons o29.oc rfl bp_nil))) (Mw.t rfl rfl (T.bs 4 [.agg [vS u16.Path, v29].toArray] (cs := [vS u16.Path, v29]) rfl rfl (bsA rfl)) ?_)
  rintro _ _ ⟨g33, W33, rfl, rfl, l33, b33⟩
  refine ⟨⟨_, rfl, ((l24.sub (M := [2, 3]) rfl).trans ((l29.sub (M := [2, 3]) rfl).trans (l33.sub (M := [2, 3]) rfl)))⟩, ?_⟩
  obtain ⟨q37, e38, hm⟩ := ob hm
  refine Mw.t rfl rfl (T.app1 (α := File) (J := [3]) (K' := []) ((((o5.up l13 rfl).up l24 rfl).up l29 rfl).up l33 rfl) b33 (File.own u16.Path q27 (o29.up l33 rfl).s) rfl rfl e38) ?_
  rintro v39 _ ⟨W39, rfl, l39, o39⟩
  refine ⟨⟨_, rfl, ((l24.sub (M := [2, 3]) rfl).trans ((l29.sub (M := [2, 3]) rfl).trans ((l33.sub (M := [2, 3]) rfl).trans (l39.sub (M := [2, 3]) rfl))))⟩, ?_⟩
  refine Mw.p rfl rfl (fun _ => R.as (v := v39) rfl) (Mw.nil (Cw.region (Lw.m (vI y6) rfl (Lw.add rfl (Lw.g (vI (w64 (y6 + 1))) rfl (Lw.nil (⟨?_, m9, Nat.lt_succ_self m9, ⟨q37, w64 (y6 + 1), v39, W39, rfl, (l7.trans ((l13.sub rfl).trans ((l24.sub rfl).trans ((l29.sub rfl).trans ((l33.sub rfl).trans l39))))), rfl, o39, hm⟩⟩)))))))
  iterate 26 (refine .u ?_)
  exact Agree.base
 ·replace hm := bf hm hc12
  refine Cw.exit ?_
  rw [hK8] at hm
  refine Cw.seq (Cw.region (Lw.m v4 rfl (Lw.g v4 rfl (Lw.nil ?_))))
  cases hm
  exact Cw.ret (ret1 rfl (Res.mk a10 ⟨v4, rfl, o5.s.sub rfl rfl⟩))

theorem p71 {W : CW} {K : List Nat} {x0 : List Vm.File} {v0_ : Value} {k0 : Nat} {r : (List Vm.File)} (h0 : Rd W K [v0_] x0) (hm : Vm.spec_l4Copy x0 = some r) : CallR Tryd.prog 71 [v0_].toArray W.w (Res W [] fun W' v => ∃ (u0 : Value), v = u0 ∧ Ow W' k0 [] [u0] r) :=
 (c71 (V := W.view K []) (h0.view _) hm).ad (fk k0) fun _ _ ⟨u0, e, f0⟩ => ⟨u0, e, f0.back (fk_LL _)⟩

theorem c86 {V : CW} {x0 : Vm.Commit} {v0_0_ : Value} {v0_2_ : Value} {r : Vm.Commit} (h0 : Rd V [0] [v0_0_, vS x0.Who, v0_2_] x0) (hm : Vm.spec_l7CopyCommit x0 = some r) : CallR Tryd.prog 86 [.agg [v0_0_, vS x0.Who, v0_2_].toArray].toArray V.w (Res V LL fun Wf v => ∃ (u0_0 : Value) (u0_2 : Value), v = .agg [u0_0, vS r.Who, u0_2].toArray ∧ OwS Wf [31] [] [u0_0] r.Parents ∧ OwS Wf [32] [] [u0_2] r.Tree) := by
 unfold Vm.spec_l7CopyCommit at hm
 obtain ⟨w0_0, w0_1, he0, h0_0, h0_2⟩ := Commit.split h0
 simp only [List.cons.injEq, and_true, true_and] at he0
 obtain ⟨rfl, rfl⟩ := he0
 obtain ⟨W0, hW0⟩ : ∃ W, W = V := ⟨V, rfl⟩
 subst hW0
 refine CallR.of Tryd.func86 rfl rfl rfl rfl (Cw.seq (Cw.region (Lw.t rfl (T.box 2 (v := .agg [v0_0_, vS x0.Who, v0_2_].toArray) (cs := [v0_0_, vS x0.Who, v0_2_]) rfl rfl) ?_)))
 rintro _ _ ⟨g1, W1, rfl, rfl, l1, b1⟩
 have a2 := l1.o
 refine Lw.t rfl (T.alloc 3 (cs := [.slice none 0 0, vS ([] : Str), .slice none 0 0]) rfl) ?_
 rintro _ _ ⟨g3, W3, rfl, rfl, l3, b3⟩
 have a4 := a2.n l3
 refine Lw.nil (Cw.seq (Cw.draw [4] [(1, 0), (2, 1), (4, 0), (5, 1), (6, 0), (7, 1), (0, 2), (3, 2), (8, 2), (9, 0), (10, 3)] mixed (by kernel_rfl) fun W6 l6 => ?_))
 have a7 := a4.n l6
 have b8 := (b1.up l3 rfl).up l6 rfl
 refine Mw.p rfl rfl (fun _ => R.fa rfl) (Mw.q rfl rfl (fun _ c => R.ld (v := v0_0_) rfl rfl (b8.clc rfl rfl c)) (Mw.p rfl rfl (fun _ => R.fa rfl) (Mw.q rfl rfl (fun _ c => R.ld (v := vS x0.Who) rfl rfl (b8.clc rfl rfl c)) (Mw.p rfl rfl (fun _ => R.fa rfl) (Mw.q rfl rfl (fun _ c => R.ld (v := v0_2_) rfl rfl (b8.clc rfl rfl c)) (Mw.t rfl rfl (T.lit0 (α := Int) 4 []) ?_))))))
 rintro v10 _ ⟨W10, rfl, l10, o10⟩
 have a11 := a7.n l10
 refine ⟨⟨_, rfl, (l10.sub (M := [4]) rfl)⟩, ?_⟩
 obtain ⟨q14, e15, hm⟩ := ob hm
 refine Mw.t rfl rfl (T.appP (α := Int) o10 (h0_0.ul a11) rfl rfl e15) ?_
 rintro v16 _ ⟨W16, rfl, l16, o16⟩
 have a18 := a11.t l16 rfl
 refine ⟨⟨_, rfl, ((l10.sub (M := [4]) rfl).trans (l16.sub (M := [4]) rfl))⟩, ?_⟩
 obtain ⟨z22, e23, hm⟩ := ob hm
 refine Mw.t rfl rfl (T.call rfl (p71 (K := [0]) (k0 := 5) (h0_2.ul a18) e23)) ?_
 rintro v0_24 _ ⟨W24, rfl, l24, ⟨_, rfl, f24_0⟩⟩
 have a25 := a18.n l24
 have o26 := o16.up l24 rfl
 refine ⟨⟨_, rfl, ((l10.sub (M := [4]) rfl).trans ((l16.sub (M := [4]) rfl).trans (l24.sub (M := [4]) rfl)))⟩, ?_⟩
 refine Mw.p rfl rfl (fun _ => R.bd (zs := [.slice none 0 0, vS ([] : Str), .slice none 0 0]) (cs := [v16, vS x0.Who, v0_24]) [(0, v16), (1, vS x0.Who), (2, v0_24)] rfl rfl rfl (bp_cons o26.oc rfl (bp_cons rfl rfl (bp_cons f24_0.oc rfl bp_nil)))) (Mw.lu rfl (T.sta (vs := [v16, vS x0.Who, v0_24]) ((((b3.up l6 rfl).up l10 rfl).up l16 rfl).up l24 rfl) rfl rfl (oc_cons o26.oc (oc_cons rfl (oc_cons f24_0.oc oc_nil))) rfl rfl) ?_)
 rintro _ _ ⟨W29, rfl, l29, b29⟩
 have a30 := a25.t l29 rfl
 refine Mw.nil ?_
 obtain ⟨W34, ew34, l34, o34⟩ := (o26.up l29 rfl).dyeO 31
 have a35 := a30.t l34 rfl
 obtain ⟨W39, ew39, l39, o39⟩ := ((f24_0.up l29 rfl).up l34 rfl).dyeO 32
 have a40 := a35.t l39 rfl
 cases hm
 rw [← ew39.trans (ew34)]
 exact Cw.ret (retA1 rfl ((b29.up l34 rfl).up l39 rfl) (Res.mk a40 ⟨v16, v0_24, rfl, (o34.up l39 rfl).s, o39.s⟩))

theorem p86 {W : CW} {K : List Nat} {x0 : Vm.Commit} {v0_0_ : Value} {v0_2_ : Value} {k0 : Nat} {k1 : Nat} {r : Vm.Commit} (h0 : Rd W K [v0_0_, vS x0.Who, v0_2_] x0) (hm : Vm.spec_l7CopyCommit x0 = some r) : CallR Tryd.prog 86 [.agg [v0_0_, vS x0.Who, v0_2_].toArray].toArray W.w (Res W [] fun W' v => ∃ (u0_0 : Value) (u0_2 : Value), v = .agg [u0_0, vS r.Who, u0_2].toArray ∧ Ow W' k0 [] [u0_0] r.Parents ∧ Ow W' k1 [] [u0_2] r.Tree) :=
 CallR.adJ (J := []) (fun c => bif Nat.beq c 0 then 0 else bif Nat.beq c 31 then k0 else bif Nat.beq c 32 then k1 else 0) (c86 (V := W.view K []) (h0.view _) hm) fun _ _ ⟨u0_0, u0_2, e, f0, f1⟩ => ⟨u0_0, u0_2, e, f0.one1.backN rfl, f1.one1.backN rfl⟩

theorem c56 {V : CW} {x0 : Vm.Repo} {v0_0_ : Value} {v0_1_ : Value} {r : Vm.Repo} (h0 : Rd V [0] [v0_0_, v0_1_] x0) (hm : Vm.spec_l7Copy x0 = some r) : CallR Tryd.prog 56 [.agg [v0_0_, v0_1_].toArray].toArray V.w (Res V LL fun Wf v => ∃ (u0_0 : Value) (u0_1 : Value), v = .agg [u0_0, u0_1].toArray ∧ OwS Wf [31] [] [u0_0] r.Commits ∧ OwS Wf [32] [] [u0_1] r.Heads) := by
 unfold Vm.spec_l7Copy at hm
 obtain ⟨w0_0, w0_1, he0, h0_0, h0_1⟩ := Repo.split h0
 simp only [List.cons.injEq, and_true, true_and] at he0
 obtain ⟨rfl, rfl⟩ := he0
 obtain ⟨W0, hW0⟩ : ∃ W, W = V := ⟨V, rfl⟩
 subst hW0
 refine CallR.of Tryd.func56 rfl rfl rfl rfl (Cw.seq (Cw.region (Lw.t rfl (T.box 2 (v := .agg [v0_0_, v0_1_].toArray) (cs := [v0_0_, v0_1_]) rfl rfl) ?_)))
 rintro _ _ ⟨g1, W1, rfl, rfl, l1, b1⟩
 have a2 := l1.o
 refine Lw.t rfl (T.alloc 3 (cs := [.slice none 0 0, .slice none 0 0]) rfl) ?_
 rintro _ _ ⟨g3, W3, rfl, rfl, l3, b3⟩
 have a4 := a2.n l3
 refine Lw.nil (Cw.seq (Cw.region (Lw.t rfl (T.lit0 (α := Head) 4 []) ?_)))
 rintro v6 _ ⟨W6, rfl, l6, o6⟩
 have a7 := a4.n l6
 have b8 := (b1.up l3 rfl).up l6 rfl
 refine Lw.fa rfl (Lw.r rfl (R.ld (v := v0_1_) rfl rfl (b8.cell rfl)) ?_)
 obtain ⟨q10, e11, hm⟩ := ob hm
 refine Lw.t rfl (T.appP (α := Head) o6 (h0_1.ul a7) rfl rfl e11) ?_
 rintro v12 _ ⟨W12, rfl, l12, o12⟩
 have a14 := a7.t l12 rfl
 refine Lw.r rfl (R.bd (zs := [.slice none 0 0, .slice none 0 0]) (cs := [.slice none 0 0, v12]) [(1, v12)] rfl rfl rfl (bp_cons o12.oc rfl bp_nil)) (Lw.t rfl (T.alloc 5 (cs := [.slice none 0 0, .slice none 0 0]) rfl) ?_)
 rintro _ _ ⟨g17, W17, rfl, rfl, l17, b17⟩
 have a18 := a14.n l17
 refine Lw.u (T.sta (vs := [.slice none 0 0, v12]) b17 rfl rfl (oc_cons rfl (oc_cons (o12.up l17 rfl).oc oc_nil)) rfl rfl) ?_
 rintro _ _ ⟨W22, rfl, l22, b22⟩
 have a23 := a18.t l22 rfl
 refine Lw.nil (Cw.seq (Cw.seq (Cw.region (Lw.g (vI 0) rfl (Lw.nil (Cw.block ?_))))))
 obtain ⟨K36, hK36, hm⟩ := jn_e hm
 refine Cw.loop 10 27 [4] (fun m l w => ∃ (y27 : Int) (y28 : List Vm.Commit) (y31 : List Vm.Head) (v29 v32 : Value) (W35 : CW), W35.w = w ∧ Le [5, 6, 7, 8] W22 W35 ∧ l = [vI y27] ∧ Ow W35 6 [] [v29] y28 ∧ Ow W35 4 [] [v32] y31 ∧ Bx W35 5 g17 [v29, v32] ∧ Vm.spec_l7Copy_l1 x0 K36 m y27 y28 y31 = some r) (((x0.Commits.length : Int) - 0).toNat + 1) ⟨0, ([] : List Commit), q10, .slice none 0 0, v12, W22, rfl, Le.refl _ _, rfl, owN 6 [], ((o12.up l17 rfl).up l22 rfl), b22, hm⟩ ?_
 rintro m37 _ _ σ ⟨y27, y28, y31, v29, v32, W35, rfl, l35, rfl, o30, o33, b34, hm⟩
 obtain _ | m37 := m37
 ·cases hm
 unfold Vm.spec_l7Copy_l1 at hm
 have a38 := a23.t l35 rfl
 have b39 := (((b8.up l12 rfl).up l17 rfl).up l22 rfl).up l35 rfl
 refine Cw.seq (Cw.seq (Cw.region (Lw.m (vI y27) rfl (Lw.fa rfl (Lw.r rfl (R.ld (v := v0_0_) rfl rfl (b39.cell rfl)) (Lw.ln x0.Commits (h0_0.ul a38) rfl (Lw.lt rfl (Lw.nil (Cw.cond (b := decide ((y27 : Int) < ((x0.Commits.length : Int) : Int))) rfl (fun hc42 => ?_) (fun hc42 => ?_))))))))))
 ·replace hm := bt hm hc42
  refine Cw.skip (Cw.seq (Cw.block (Cw.draw [6, 7, 8] [(0, 0), (1, 1), (2, 0), (3, 1), (4, 0), (5, 0), (6, 1), (7, 2), (8, 2), (9, 2), (10, 0), (11, 3)] mixed (by kernel_rfl) fun W43 l43 => ?_)))
  have a44 := a38.n l43
  refine Mw.p rfl rfl (fun _ => R.fa rfl) (Mw.q rfl rfl (fun _ c => R.ld (v := v29) rfl rfl ((b34.up l43 rfl).clc rfl rfl c)) (Mw.p rfl rfl (fun _ => R.fa rfl) (Mw.q rfl rfl (fun _ c => R.ld (v := v0_0_) rfl rfl ((b39.up l43 rfl).clc rfl rfl c)) (Mw.p rfl rfl (fun _ => R.mv (v := vI y27) rfl) ?_))))
  obtain ⟨u50, e51, hm⟩ := ob hm
  have s52 := h0_0.ul a44
  refine Mw.p rfl rfl (fun _ => R.ix (α := Commit) s52 e51 rfl rfl rfl) ?_
  obtain ⟨x53, c54, _, r55⟩ := (s52.at_ e51).cells
  obtain ⟨v56, v58, rfl, r57, r59⟩ := Commit.split r55
  refine Mw.q rfl rfl (fun _ c => R.lda (cl_cells (s52.at_ e51).1 rfl c54 c) rfl rfl) ?_
  obtain ⟨z60, e61, hm⟩ := ob hm
  refine Mw.t rfl rfl (T.call rfl (p86 (K := [0]) (k0 := 7) (k1 := 8) (Commit.rd (K := [0]) u50.Parents u50.Who u50.Tree r57 r59) e61)) ?_
  rintro _ _ ⟨W62, rfl, l62, ⟨v0_0_62, v0_2_62, rfl, f62_0, f62_1⟩⟩
  refine ⟨⟨_, rfl, (l62.sub (M := [6, 7, 8]) rfl)⟩, ?_⟩
  refine Mw.t rfl rfl (T.bs 9 [.agg [v0_0_62, vS z60.Who, v0_2_62].toArray] (cs := [v0_0_62, vS z60.Who, v0_2_62]) rfl rfl (bsA rfl)) ?_
  rintro _ _ ⟨g69, W69, rfl, rfl, l69, b69⟩
  refine ⟨⟨_, rfl, ((l62.sub (M := [6, 7, 8]) rfl).trans (l69.sub (M := [6, 7, 8]) rfl))⟩, ?_⟩
  obtain ⟨q78, e79, hm⟩ := ob hm
  refine Mw.t rfl rfl (T.app1 (α := Commit) (J := [7, 8]) (K' := []) (((o30.up l43 rfl).up l62 rfl).up l69 rfl) b69 (Commit.own z60.Parents z60.Who z60.Tree (f62_0.up l69 rfl).s (f62_1.up l69 rfl).s) rfl rfl e79) ?_
  rintro v80 _ ⟨W80, rfl, l80, o80⟩
  refine ⟨⟨_, rfl, ((l62.sub (M := [6, 7, 8]) rfl).trans ((l69.sub (M := [6, 7, 8]) rfl).trans (l80.sub (M := [6, 7, 8]) rfl)))⟩, ?_⟩
  refine Mw.p rfl rfl (fun _ => R.fa rfl) (Mw.lu rfl (T.st (j := 0) (v := v80) ((((b34.up l43 rfl).up l62 rfl).up l69 rfl).up l80 rfl) rfl rfl o80.oc rfl rfl) ?_)
  rintro _ _ ⟨W87, rfl, l87, b87⟩
  refine Mw.nil (Cw.region (Lw.m (vI y27) rfl (Lw.add rfl (Lw.g (vI (w64 (y27 + 1))) rfl (Lw.nil (⟨?_, m37, Nat.lt_succ_self m37, ⟨w64 (y27 + 1), q78, y31, v80, v32, W87, rfl, (l35.trans ((l43.sub rfl).trans ((l62.sub rfl).trans ((l69.sub rfl).trans ((l80.sub rfl).trans (l87.sub rfl)))))), rfl, (o80.up l87 rfl), (((((o33.up l43 rfl).up l62 rfl).up l69 rfl).up l80 rfl).up l87 rfl), b87, hm⟩⟩))))))
  iterate 20 (refine .u ?_)
  exact Agree.base
 ·replace hm := bf hm hc42
  refine Cw.exit ?_
  rw [hK36] at hm
  refine Cw.seq (Cw.region (Lw.r rfl (R.lda (cs := [v29, v32]) b34.cells rfl rfl) (Lw.u (T.sta (vs := [v29, v32]) (((((b3.up l6 rfl).up l12 rfl).up l17 rfl).up l22 rfl).up l35 rfl) rfl rfl (oc_cons o30.oc (oc_cons o33.oc oc_nil)) rfl rfl) ?_)))
  rintro _ _ ⟨W94, rfl, l94, b94⟩
  have a95 := a38.t l94 rfl
  refine Lw.nil ?_
  obtain ⟨W100, ew100, l100, o100⟩ := (o30.up l94 rfl).dyeO 31
  have a101 := a95.t l100 rfl
  obtain ⟨W106, ew106, l106, o106⟩ := ((o33.up l94 rfl).up l100 rfl).dyeO 32
  have a107 := a101.t l106 rfl
  cases hm
  rw [← ew106.trans (ew100)]
  exact Cw.ret (retA1 rfl ((b94.up l100 rfl).up l106 rfl) (Res.mk a107 ⟨v29, v32, rfl, (o100.up l106 rfl).s, o106.s⟩))

theorem p56 {W : CW} {K : List Nat} {x0 : Vm.Repo} {v0_0_ : Value} {v0_1_ : Value} {k0 : Nat} {k1 : Nat} {r : Vm.Repo} (h0 : Rd W K [v0_0_, v0_1_] x0) (hm : Vm.spec_l7Copy x0 = some r) : CallR Tryd.prog 56 [.agg [v0_0_, v0_1_].toArray].toArray W.w (Res W [] fun W' v => ∃ (u0_0 : Value) (u0_1 : Value), v = .agg [u0_0, u0_1].toArray ∧ Ow W' k0 [] [u0_0] r.Commits ∧ Ow W' k1 [] [u0_1] r.Heads) :=
 CallR.adJ (J := []) (fun c => bif Nat.beq c 0 then 0 else bif Nat.beq c 31 then k0 else bif Nat.beq c 32 then k1 else 0) (c56 (V := W.view K []) (h0.view _) hm) fun _ _ ⟨u0_0, u0_1, e, f0, f1⟩ => ⟨u0_0, u0_1, e, f0.one1.backN rfl, f1.one1.backN rfl⟩

theorem c16 {V : CW} {x0 : Vm.Repo} {v0_0_ : Value} {v0_1_ : Value} {x1 : Str} {r : Vm.Repo × Bool} (h0 : Rd V [0] [v0_0_, v0_1_] x0) (hm : Vm.spec_RepoDrop x0 x1 = some r) : CallR Tryd.prog 16 [.agg [v0_0_, v0_1_].toArray, vS x1].toArray V.w (Res V LL fun Wf v => ∃ (u0_0 : Value) (u0_1 : Value), v = .tuple [.agg [u0_0, u0_1].toArray, vB r.2].toArray ∧ OwS Wf [31] [] [u0_0] r.1.Commits ∧ OwS Wf [32] [] [u0_1] r.1.Heads) := by
 unfold Vm.spec_RepoDrop at hm
 obtain ⟨w0_0, w0_1, he0, h0_0, h0_1⟩ := Repo.split h0
 simp only [List.cons.injEq, and_true, true_and] at he0
 obtain ⟨rfl, rfl⟩ := he0
 obtain ⟨W0, hW0⟩ : ∃ W, W = V := ⟨V, rfl⟩
 subst hW0
 refine CallR.of Tryd.func16 rfl rfl rfl rfl (Cw.seq (Cw.region (Lw.t rfl (T.box 2 (v := .agg [v0_0_, v0_1_].toArray) (cs := [v0_0_, v0_1_]) rfl rfl) ?_)))
 rintro _ _ ⟨g1, W1, rfl, rfl, l1, b1⟩
 have a2 := l1.o
 refine Lw.t rfl (T.alloc 3 (cs := [.slice none 0 0, .slice none 0 0]) rfl) ?_
 rintro _ _ ⟨g3, W3, rfl, rfl, l3, b3⟩
 have a4 := a2.n l3
 refine Lw.g (vB false) rfl (Lw.nil (Cw.seq (Cw.seq (Cw.region (Lw.r rfl (R.lda (cs := [v0_0_, v0_1_]) (b1.up l3 rfl).cells rfl rfl) ?_)))))
 obtain ⟨z8, e9, hm⟩ := ob hm
 refine Lw.t rfl (T.call rfl (p55 (K := [0])  (Repo.rd (K := [0]) x0.Commits x0.Heads (h0_0.ul a4) (h0_1.ul a4)) e9)) ?_
 rintro _ _ ⟨W10, rfl, l10, rfl⟩
 have a11 := a4.n l10
 have b12 := (b1.up l3 rfl).up l10 rfl
 refine Lw.r rfl (R.not rfl) (Lw.nil (Cw.cond (b := (!z8)) rfl (fun hc14 => ?_) (fun hc14 => ?_)))
 ·replace hm := bt hm hc14
  refine Cw.seq (Cw.region (Lw.r rfl (R.bd (zs := [.slice none 0 0, .slice none 0 0]) (cs := [.slice none 0 0, .slice none 0 0]) [] rfl rfl rfl bp_nil) (Lw.u (T.sta (vs := [.slice none 0 0, .slice none 0 0]) (b3.up l10 rfl) rfl rfl (oc_cons rfl (oc_cons rfl oc_nil)) rfl rfl) ?_)))
  rintro _ _ ⟨W15, rfl, l15, b15⟩
  have a16 := a11.t l15 rfl
  refine Lw.g (vB false) rfl (Lw.nil ?_)
  cases hm
  exact Cw.ret (retA2 rfl b15 rfl (Res.mk a16 ⟨.slice none 0 0, .slice none 0 0, rfl, (owsN []).sub rfl rfl, (owsN []).sub rfl rfl⟩))
 ·replace hm := bf hm hc14
  refine Cw.skip (Cw.seq (Cw.region (Lw.r rfl (R.lda (cs := [v0_0_, v0_1_]) b12.cells rfl rfl) ?_)))
  obtain ⟨z20, e21, hm⟩ := ob hm
  refine Lw.t rfl (T.call rfl (p56 (K := [0]) (k0 := 4) (k1 := 5) (Repo.rd (K := [0]) x0.Commits x0.Heads (h0_0.ul a11) (h0_1.ul a11)) e21)) ?_
  rintro _ _ ⟨W22, rfl, l22, ⟨v0_0_22, v0_1_22, rfl, f22_0, f22_1⟩⟩
  have a23 := a11.n l22
  refine Lw.t rfl (T.alloc 6 (cs := [.slice none 0 0, .slice none 0 0]) rfl) ?_
  rintro _ _ ⟨g26, W26, rfl, rfl, l26, b26⟩
  have a27 := a23.n l26
  refine Lw.u (T.sta (vs := [v0_0_22, v0_1_22]) b26 rfl rfl (oc_cons (f22_0.up l26 rfl).oc (oc_cons (f22_1.up l26 rfl).oc oc_nil)) rfl rfl) ?_
  rintro _ _ ⟨W32, rfl, l32, b32⟩
  have a33 := a27.t l32 rfl
  have o34 := (f22_0.up l26 rfl).up l32 rfl
  refine Lw.nil (Cw.seq (Cw.region (Lw.fa rfl (Lw.r rfl (R.ld (v := v0_0_22) rfl rfl (b32.cell rfl)) (Lw.r rfl (R.bd (zs := [.slice none 0 0, .slice none 0 0]) (cs := [v0_0_22, .slice none 0 0]) [(0, v0_0_22)] rfl rfl rfl (bp_cons o34.oc rfl bp_nil)) (Lw.t rfl (T.alloc 7 (cs := [.slice none 0 0, .slice none 0 0]) rfl) ?_))))))
  rintro _ _ ⟨g38, W38, rfl, rfl, l38, b38⟩
  have a39 := a33.n l38
  refine Lw.u (T.sta (vs := [v0_0_22, .slice none 0 0]) b38 rfl rfl (oc_cons (o34.up l38 rfl).oc (oc_cons rfl oc_nil)) rfl rfl) ?_
  rintro _ _ ⟨W45, rfl, l45, b45⟩
  have a46 := a39.t l45 rfl
  refine Lw.nil (Cw.seq (Cw.seq (Cw.region (Lw.g (vI 0) rfl (Lw.nil (Cw.block ?_))))))
  obtain ⟨K61, hK61, hm⟩ := jn_e hm
  refine Cw.loop 18 42 [8] (fun m l w => ∃ (y52 : Int) (y53 : List Vm.Commit) (y56 : List Vm.Head) (v54 v57 : Value) (W60 : CW), W60.w = w ∧ Le [7, 8] W45 W60 ∧ l = [vI y52] ∧ Ow W60 4 [] [v54] y53 ∧ Ow W60 8 [] [v57] y56 ∧ Bx W60 7 g38 [v54, v57] ∧ Vm.spec_RepoDrop_l1 x0 x1 K61 m y52 y53 y56 = some r) (((x0.Heads.length : Int) - 0).toNat + 1) ⟨0, z20.Commits, ([] : List Head), v0_0_22, .slice none 0 0, W45, rfl, Le.refl _ _, rfl, ((o34.up l38 rfl).up l45 rfl), owN 8 [], b45, hm⟩ ?_
  rintro m62 _ _ σ ⟨y52, y53, y56, v54, v57, W60, rfl, l60, rfl, o55, o58, b59, hm⟩
  obtain _ | m62 := m62
  ·cases hm
  unfold Vm.spec_RepoDrop_l1 at hm
  have a63 := a46.t l60 rfl
  have b65 := (((((b12.up l22 rfl).up l26 rfl).up l32 rfl).up l38 rfl).up l45 rfl).up l60 rfl
  refine Cw.seq (Cw.seq (Cw.region ?_))
  have s68 := h0_1.ul a63
  refine Lw.m (vI y52) rfl (Lw.fa rfl (Lw.r rfl (R.ld (v := v0_1_) rfl rfl (b65.cell rfl)) (Lw.ln x0.Heads s68 rfl (Lw.lt rfl (Lw.nil (Cw.cond (b := decide ((y52 : Int) < ((x0.Heads.length : Int) : Int))) rfl (fun hc69 => ?_) (fun hc69 => ?_)))))))
  ·replace hm := bt hm hc69
   refine Cw.skip ?_
   obtain ⟨K78, hK78, hm⟩ := jn_e hm
   refine Cw.join 25 42 [] (fun l w => ∃ (y70 : List Vm.Commit) (y73 : List Vm.Head) (v71 v74 : Value) (W77 : CW), W77.w = w ∧ Le [7, 8] W60 W77 ∧ l = [] ∧ Ow W77 4 [] [v71] y70 ∧ Ow W77 8 [] [v74] y73 ∧ Bx W77 7 g38 [v71, v74] ∧ K78 y70 y73 = some r) ?_ ?_
   ·rintro _ _ σ ⟨y70, y73, v71, v74, W77, rfl, l77, rfl, o72, o75, b76, hm⟩
    rw [hK78] at hm
    refine Cw.region (Lw.m (vI y52) rfl (Lw.add rfl (Lw.g (vI (w64 (y52 + 1))) rfl (Lw.nil (⟨?_, m62, Nat.lt_succ_self m62, ⟨w64 (y52 + 1), y70, y73, v71, v74, W77, rfl, (l60.trans l77), rfl, o72, o75, b76, hm⟩⟩)))))
    iterate 3 (refine .u ?_)
    refine Agree.ov0 rfl ?_
    iterate 6 (refine .u ?_)
    exact Agree.base
   ·refine Cw.block (Cw.seq (Cw.region (Lw.fa rfl (Lw.r rfl (R.ld (v := v0_1_) rfl rfl (b65.cell rfl)) (Lw.m (vI y52) rfl ?_)))))
    obtain ⟨u84, e85, hm⟩ := ob hm
    refine Lw.r rfl (R.ix (α := Head) s68 e85 rfl rfl rfl) (Lw.fa rfl (Lw.r rfl (R.ld rfl rfl (Head.at0 (s68.at_ e85)).str) (Lw.m (vS x1) rfl (Lw.sne rfl (Lw.nil (Cw.cond (b := (u84.Name != x1)) rfl (fun hc86 => ?_) (fun hc86 => ?_)))))))
    ·replace hm := bt hm hc86
     refine Cw.draw [8] [(0, 0), (1, 1), (2, 0), (3, 1), (4, 0), (5, 0), (6, 1), (7, 2), (8, 2), (9, 0), (10, 3)] mixed (by kernel_rfl) fun W87 l87 => ?_
     have a88 := a63.n l87
     refine Mw.p rfl rfl (fun _ => R.fa rfl) (Mw.q rfl rfl (fun _ c => R.ld (v := v57) rfl rfl ((b59.up l87 rfl).clc rfl rfl c)) (Mw.p rfl rfl (fun _ => R.fa rfl) (Mw.q rfl rfl (fun _ c => R.ld (v := v0_1_) rfl rfl ((b65.up l87 rfl).clc rfl rfl c)) (Mw.p rfl rfl (fun _ => R.mv (v := vI y52) rfl) ?_))))
     obtain ⟨u96, e97, hm⟩ := ob hm
     refine Mw.p rfl rfl (fun _ => R.ix (α := Head) (h0_1.ul a88) e97 rfl rfl rfl) ?_
     obtain ⟨x99, c100, _, r101⟩ := ((h0_1.ul a88).at_ e97).cells
     obtain rfl := Head.split r101
     refine Mw.q rfl rfl (fun _ c => R.lda (cl_cells ((h0_1.ul a88).at_ e97).1 rfl c100 c) rfl rfl) (Mw.t rfl rfl (T.bs 9 [.agg [vS u96.Name, vI u96.At].toArray] (cs := [vS u96.Name, vI u96.At]) rfl rfl (bsA rfl)) ?_)
     rintro _ _ ⟨g102, W102, rfl, rfl, l102, b102⟩
     refine ⟨⟨_, rfl, (l102.sub (M := [8]) rfl)⟩, ?_⟩
     obtain ⟨q111, e112, hm⟩ := ob hm
     refine Mw.t rfl rfl (T.app1S (α := Head) (K' := []) ((o58.up l87 rfl).up l102 rfl) b102 (Head.rd (K := []) u96.Name u96.At) rfl rfl e112) ?_
     rintro v113 _ ⟨W113, rfl, l113, o113⟩
     refine ⟨⟨_, rfl, ((l102.sub (M := [8]) rfl).trans (l113.sub (M := [8]) rfl))⟩, ?_⟩
     refine Mw.p rfl rfl (fun _ => R.fa rfl) (Mw.lu rfl (T.st (j := 1) (v := v113) (((b59.up l87 rfl).up l102 rfl).up l113 rfl) rfl rfl o113.oc rfl rfl) ?_)
     rintro _ _ ⟨W122, rfl, l122, b122⟩
     refine Mw.nil (⟨?_, ⟨y53, q111, v54, v113, W122, rfl, ((l87.sub rfl).trans ((l102.sub rfl).trans ((l113.sub rfl).trans (l122.sub rfl)))), rfl, ((((o55.up l87 rfl).up l102 rfl).up l113 rfl).up l122 rfl), (o113.up l122 rfl), b122, hm⟩⟩)
     iterate 18 (refine .u ?_)
     exact Agree.refl _
    ·replace hm := bf hm hc86
     refine Cw.skip (⟨?_, ⟨y53, y56, v54, v57, W60, rfl, Le.refl _ _, rfl, o55, o58, b59, hm⟩⟩)
     iterate 8 (refine .u ?_)
     exact Agree.refl _
  ·replace hm := bf hm hc69
   refine Cw.exit ?_
   rw [hK61] at hm
   refine Cw.seq (Cw.draw [3] [(0, 1), (1, 0), (2, 1), (3, 0), (4, 0), (5, 1), (6, 0), (7, 0), (8, 2), (9, 0)] mixed (by kernel_rfl) fun W131 l131 => ?_)
   have a132 := a63.n l131
   have o135 := o58.up l131 rfl
   refine Mw.q rfl rfl (fun _ c => R.lda (cs := [v54, v57]) ((b59.up l131 rfl).clcs rfl c) rfl rfl) (Mw.p rfl rfl (fun _ => R.fa rfl) (Mw.q rfl rfl (fun _ c => R.ld (v := v57) rfl rfl ((b59.up l131 rfl).clc rfl rfl c)) (Mw.p rfl rfl (fun _ => lenR (xs := y56) o135.rd rfl) (Mw.p rfl rfl (fun _ => R.fa rfl) (Mw.q rfl rfl (fun _ c => R.ld (v := v0_1_) rfl rfl ((b65.up l131 rfl).clc rfl rfl c)) (Mw.p rfl rfl (fun _ => lenR (xs := x0.Heads) (h0_1.ul a132) rfl) (Mw.p rfl rfl (fun _ => R.lt rfl rfl) (Mw.tu rfl (T.sta (vs := [v54, v57]) ((((((((b3.up l10 rfl).up l22 rfl).up l26 rfl).up l32 rfl).up l38 rfl).up l45 rfl).up l60 rfl).up l131 rfl) rfl rfl (oc_cons (o55.up l131 rfl).oc (oc_cons o135.oc oc_nil)) rfl rfl) ?_))))))))
   rintro _ _ ⟨W141, rfl, l141, b141⟩
   have a142 := a132.t l141 rfl
   refine ⟨⟨_, rfl, (l141.sub (M := [3]) rfl)⟩, ?_⟩
   refine Mw.p rfl rfl (fun _ => R.as (v := vB (decide (((y56.length : Int) : Int) < ((x0.Heads.length : Int) : Int)))) rfl) (Mw.nil ?_)
   obtain ⟨W149, ew149, l149, o149⟩ := ((o55.up l131 rfl).up l141 rfl).dyeO 31
   have a150 := a142.t l149 rfl
   obtain ⟨W157, ew157, l157, o157⟩ := ((o135.up l141 rfl).up l149 rfl).dyeO 32
   have a158 := a150.t l157 rfl
   cases hm
   rw [← ew157.trans (ew149)]
   exact Cw.ret (retA2 rfl ((b141.up l149 rfl).up l157 rfl) rfl (Res.mk a158 ⟨v54, v57, rfl, (o149.up l157 rfl).s, o157.s⟩))

theorem p16 {W : CW} {K : List Nat} {x0 : Vm.Repo} {v0_0_ : Value} {v0_1_ : Value} {x1 : Str} {k0 : Nat} {k1 : Nat} {r : Vm.Repo × Bool} (h0 : Rd W K [v0_0_, v0_1_] x0) (hm : Vm.spec_RepoDrop x0 x1 = some r) : CallR Tryd.prog 16 [.agg [v0_0_, v0_1_].toArray, vS x1].toArray W.w (Res W [] fun W' v => ∃ (u0_0 : Value) (u0_1 : Value), v = .tuple [.agg [u0_0, u0_1].toArray, vB r.2].toArray ∧ Ow W' k0 [] [u0_0] r.1.Commits ∧ Ow W' k1 [] [u0_1] r.1.Heads) :=
 CallR.adJ (J := []) (fun c => bif Nat.beq c 0 then 0 else bif Nat.beq c 31 then k0 else bif Nat.beq c 32 then k1 else 0) (c16 (V := W.view K []) (h0.view _) hm) fun _ _ ⟨u0_0, u0_1, e, f0, f1⟩ => ⟨u0_0, u0_1, e, f0.one1.backN rfl, f1.one1.backN rfl⟩

theorem c83 {V : CW} {x0 : Int} {x1 : Int} {x2 : Int} {r : Bool}  (hm : Vm.impl_within x0 x1 x2 = some r) : CallR Tryd.prog 83 [vI x0, vI x1, vI x2].toArray V.w (Res V LL fun Wf v => v = vB r) := by
 unfold Vm.impl_within at hm
 obtain ⟨W0, hW0⟩ : ∃ W, W = V := ⟨V, rfl⟩
 subst hW0
 refine CallR.of Tryd.func83 rfl rfl rfl rfl (Cw.seq (Cw.region (Lw.g (vB false) rfl (Lw.nil ?_))))
 obtain ⟨K3, hK3, hm⟩ := jn_e hm
 refine Cw.join 7 14 [6] (fun l w => ∃ (y1 : Bool) (W2 : CW), W2.w = w ∧ Le [] W0 W2 ∧ l = [vB y1] ∧ K3 y1 = some r) ?_ ?_
 ·rintro _ _ σ ⟨y1, W2, rfl, l2, rfl, hm⟩
  rw [hK3] at hm
  have a4 := l2.o
  cases hm
  exact Cw.ret (ret1 rfl (Res.mk a4 rfl))
 ·refine Cw.region (Lw.m (vI x1) rfl (Lw.m (vI x0) rfl (Lw.le rfl (Lw.m (vB (decide ((x1 : Int) ≤ (x0 : Int)))) rfl (bsplit (decide ((x1 : Int) ≤ (x0 : Int))) (fun hc5 => ?_) (fun hc5 => ?_))))))
  ·replace hm := bt hm hc5
   refine Lw.wa hc5 rfl (Lw.m (vI x0) rfl (Lw.wa hc5 rfl (Lw.m (vI x2) rfl (Lw.wa hc5 rfl (Lw.le rfl (Lw.p hc5 (vB (decide ((x0 : Int) ≤ (x2 : Int)))) rfl (Lw.g (vB (decide ((x0 : Int) ≤ (x2 : Int)))) rfl (Lw.nil (⟨?_, ⟨decide ((x0 : Int) ≤ (x2 : Int)), W0, rfl, Le.refl _ _, rfl, hm⟩⟩)))))))))
   iterate 9 (refine .u ?_)
   exact Agree.refl _
  ·replace hm := bf hm hc5
   refine Lw.ps hc5 rfl (Lw.ps hc5 rfl (Lw.ps hc5 rfl (Lw.p hc5 (vB false) rfl (Lw.g (vB false) rfl (Lw.nil (⟨?_, ⟨false, W0, rfl, Le.refl _ _, rfl, hm⟩⟩))))))
   iterate 9 (refine .u ?_)
   exact Agree.refl _

theorem p83 {W : CW} {K : List Nat} {x0 : Int} {x1 : Int} {x2 : Int} {r : Bool}  (hm : Vm.impl_within x0 x1 x2 = some r) : CallR Tryd.prog 83 [vI x0, vI x1, vI x2].toArray W.w (Res W [] fun W' v => v = vB r) :=
 (c83 (V := W.view K [])  hm).ad (fk 0) fun _ _ e => e

theorem c123 {V : CW} {x0 : Byte} {r : Bool}  (hm : Vm.impl_wordByte x0 = some r) : CallR Tryd.prog 123 [.int .u8 (UInt8.toNat x0 : Int)].toArray V.w (Res V LL fun Wf v => v = vB r) := by
 unfold Vm.impl_wordByte at hm
 obtain ⟨W0, hW0⟩ : ∃ W, W = V := ⟨V, rfl⟩
 subst hW0
 refine CallR.of Tryd.func123 rfl rfl rfl rfl (Cw.seq (Cw.region (Lw.g (vB false) rfl (Lw.nil ?_))))
 obtain ⟨K3, hK3, hm⟩ := jn_e hm
 refine Cw.join 3 16 [2] (fun l w => ∃ (y1 : Bool) (W2 : CW), W2.w = w ∧ Le [] W0 W2 ∧ l = [vB y1] ∧ K3 y1 = some r) ?_ ?_
 ·rintro _ _ σ ⟨y1, W2, rfl, l2, rfl, hm⟩
  rw [hK3] at hm
  have a4 := l2.o
  cases hm
  exact Cw.ret (ret1 rfl (Res.mk a4 rfl))
 ·refine Cw.region (Lw.m (.int .u8 (UInt8.toNat x0 : Int)) rfl (Lw.ge rfl (Lw.m (vB (decide ((97 : Int) ≤ ((UInt8.toNat x0 : Int) : Int)))) rfl (bsplit (decide ((97 : Int) ≤ ((UInt8.toNat x0 : Int) : Int))) (fun hc5 => ?_) (fun hc5 => ?_)))))
  ·replace hm := bt hm hc5
   refine Lw.wa hc5 rfl (Lw.m (.int .u8 (UInt8.toNat x0 : Int)) rfl (Lw.wa hc5 rfl (Lw.le rfl (Lw.p hc5 (vB (decide (((UInt8.toNat x0 : Int) : Int) ≤ (122 : Int)))) rfl (Lw.m (vB (decide (((UInt8.toNat x0 : Int) : Int) ≤ (122 : Int)))) rfl (bsplit (decide (((UInt8.toNat x0 : Int) : Int) ≤ (122 : Int))) (fun hc6 => ?_) (fun hc6 => ?_)))))))
   ·replace hm := bt hm hc6
    refine Lw.ps hc6 rfl (Lw.ps hc6 rfl (Lw.ps hc6 rfl (Lw.pu rfl (Lw.pu rfl (Lw.ps hc6 rfl (Lw.p hc6 (vB true) rfl (Lw.g (vB true) rfl (Lw.nil (⟨?_, ⟨true, W0, rfl, Le.refl _ _, rfl, hm⟩⟩)))))))))
    iterate 15 (refine .u ?_)
    exact Agree.refl _
   ·replace hm := bf hm hc6
    refine Lw.wa hc6 rfl (Lw.m (.int .u8 (UInt8.toNat x0 : Int)) rfl (Lw.wa hc6 rfl (Lw.ge rfl (Lw.wa hc6 rfl (Lw.m (vB (decide ((48 : Int) ≤ ((UInt8.toNat x0 : Int) : Int)))) rfl (bsplit (decide ((48 : Int) ≤ ((UInt8.toNat x0 : Int) : Int))) (fun hc7 => ?_) (fun hc7 => ?_)))))))
    ·replace hm := bt hm hc7
     refine Lw.wa hc7 rfl (Lw.m (.int .u8 (UInt8.toNat x0 : Int)) rfl (Lw.wa hc7 rfl (Lw.le rfl (Lw.wa hc6 rfl (Lw.p hc7 (vB (decide (((UInt8.toNat x0 : Int) : Int) ≤ (57 : Int)))) rfl (Lw.p hc6 (vB (decide (((UInt8.toNat x0 : Int) : Int) ≤ (57 : Int)))) rfl (Lw.g (vB (decide (((UInt8.toNat x0 : Int) : Int) ≤ (57 : Int)))) rfl (Lw.nil (⟨?_, ⟨decide (((UInt8.toNat x0 : Int) : Int) ≤ (57 : Int)), W0, rfl, Le.refl _ _, rfl, hm⟩⟩)))))))))
     iterate 15 (refine .u ?_)
     exact Agree.refl _
    ·replace hm := bf hm hc7
     refine Lw.ps hc7 rfl (Lw.ps hc7 rfl (Lw.wa hc6 rfl (Lw.p hc7 (vB false) rfl (Lw.p hc6 (vB false) rfl (Lw.g (vB false) rfl (Lw.nil (⟨?_, ⟨false, W0, rfl, Le.refl _ _, rfl, hm⟩⟩)))))))
     iterate 15 (refine .u ?_)
     exact Agree.refl _
  ·replace hm := bf hm hc5
   refine Lw.ps hc5 rfl (Lw.ps hc5 rfl (Lw.p hc5 (vB false) rfl (Lw.m (vB false) rfl (Lw.wa rfl rfl (Lw.m (.int .u8 (UInt8.toNat x0 : Int)) rfl (Lw.wa rfl rfl (Lw.ge rfl (Lw.wa rfl rfl (Lw.m (vB (decide ((48 : Int) ≤ ((UInt8.toNat x0 : Int) : Int)))) rfl (bsplit (decide ((48 : Int) ≤ ((UInt8.toNat x0 : Int) : Int))) (fun hc8 => ?_) (fun hc8 => ?_)))))))))))
   ·replace hm := bt hm hc8
    refine Lw.wa hc8 rfl (Lw.m (.int .u8 (UInt8.toNat x0 : Int)) rfl (Lw.wa hc8 rfl (Lw.le rfl (Lw.wa rfl rfl (Lw.p hc8 (vB (decide (((UInt8.toNat x0 : Int) : Int) ≤ (57 : Int)))) rfl (Lw.p rfl (vB (decide (((UInt8.toNat x0 : Int) : Int) ≤ (57 : Int)))) rfl (Lw.g (vB (decide (((UInt8.toNat x0 : Int) : Int) ≤ (57 : Int)))) rfl (Lw.nil (⟨?_, ⟨decide (((UInt8.toNat x0 : Int) : Int) ≤ (57 : Int)), W0, rfl, Le.refl _ _, rfl, hm⟩⟩)))))))))
    iterate 15 (refine .u ?_)
    exact Agree.refl _
   ·replace hm := bf hm hc8
    refine Lw.ps hc8 rfl (Lw.ps hc8 rfl (Lw.wa rfl rfl (Lw.p hc8 (vB false) rfl (Lw.p rfl (vB false) rfl (Lw.g (vB false) rfl (Lw.nil (⟨?_, ⟨false, W0, rfl, Le.refl _ _, rfl, hm⟩⟩)))))))
    iterate 15 (refine .u ?_)
    exact Agree.refl _

theorem p123 {W : CW} {K : List Nat} {x0 : Byte} {r : Bool}  (hm : Vm.impl_wordByte x0 = some r) : CallR Tryd.prog 123 [.int .u8 (UInt8.toNat x0 : Int)].toArray W.w (Res W [] fun W' v => v = vB r) :=
 (c123 (V := W.view K [])  hm).ad (fk 0) fun _ _ e => e

theorem c81 {V : CW} {x0 : Str} {r : Bool}  (hm : Vm.impl_nameOk x0 = some r) : CallR Tryd.prog 81 [vS x0].toArray V.w (Res V LL fun Wf v => v = vB r) := by
 unfold Vm.impl_nameOk at hm
 obtain ⟨W0, hW0⟩ : ∃ W, W = V := ⟨V, rfl⟩
 subst hW0
 refine CallR.of Tryd.func81 rfl rfl rfl rfl (Cw.seq (Cw.region (Lw.g (vB false) rfl (Lw.nil (Cw.seq (Cw.seq (Cw.region (Lw.m (vS x0) rfl (Lw.r rfl (R.lenS rfl) ?_)))))))))
 obtain ⟨z1, e2, hm⟩ := ob hm
 refine Lw.t rfl (T.call rfl (p83 (K := [0])   e2)) ?_
 rintro _ _ ⟨W3, rfl, l3, rfl⟩
 have a4 := l3.o
 refine Lw.r rfl (R.not rfl) (Lw.nil (Cw.cond (b := (!z1)) rfl (fun hc5 => ?_) (fun hc5 => ?_)))
 ·replace hm := bt hm hc5
  refine Cw.seq (Cw.region (Lw.g (vB false) rfl (Lw.nil ?_)))
  cases hm
  exact Cw.ret (ret1 rfl (Res.mk a4 rfl))
 ·replace hm := bf hm hc5
  refine Cw.skip (Cw.seq (Cw.seq (Cw.region (Lw.g (vI 0) rfl (Lw.nil (Cw.block ?_))))))
  obtain ⟨K9, hK9, hm⟩ := jn_e hm
  refine Cw.loop 8 18 [2, 3] (fun m l w => ∃ (y6 : Bool) (y7 : Int) (W8 : CW), W8.w = w ∧ Le [] W3 W8 ∧ l = [vB y6, vI y7] ∧ Vm.impl_nameOk_l1 x0 K9 m y6 y7 = some r) (((x0.length : Int) - 0).toNat + 1) ⟨false, 0, W3, rfl, Le.refl _ _, rfl, hm⟩ ?_
  rintro m10 _ _ σ ⟨y6, y7, W8, rfl, l8, rfl, hm⟩
  obtain _ | m10 := m10
  ·cases hm
  unfold Vm.impl_nameOk_l1 at hm
  have a11 := a4.n l8
  refine Cw.seq (Cw.seq (Cw.region (Lw.m (vI y7) rfl (Lw.m (vS x0) rfl (Lw.r rfl (R.lenS rfl) (Lw.lt rfl (Lw.nil (Cw.cond (b := decide ((y7 : Int) < ((x0.length : Int) : Int))) rfl (fun hc12 => ?_) (fun hc12 => ?_)))))))))
  ·replace hm := bt hm hc12
   refine Cw.skip (Cw.seq (Cw.block (Cw.seq (Cw.region (Lw.m (vS x0) rfl (Lw.m (vI y7) rfl ?_))))))
   obtain ⟨u13, e14, hm⟩ := ob hm
   refine Lw.r rfl (R.chm e14 rfl rfl) ?_
   obtain ⟨z15, e16, hm⟩ := ob hm
   refine Lw.t rfl (T.call rfl (p123 (K := [0])   e16)) ?_
   rintro _ _ ⟨W17, rfl, l17, rfl⟩
   have a18 := a11.n l17
   refine Lw.r rfl (R.not rfl) (Lw.nil (Cw.cond (b := (!z15)) rfl (fun hc19 => ?_) (fun hc19 => ?_)))
   ·replace hm := bt hm hc19
    refine Cw.seq (Cw.region (Lw.g (vB false) rfl (Lw.nil ?_)))
    cases hm
    exact Cw.ret (ret1 rfl (Res.mk a18 rfl))
   ·replace hm := bf hm hc19
    refine Cw.skip (Cw.region (Lw.m (vI y7) rfl (Lw.add rfl (Lw.g (vI (w64 (y7 + 1))) rfl (Lw.nil (⟨?_, m10, Nat.lt_succ_self m10, ⟨y6, w64 (y7 + 1), W17, rfl, (l8.trans l17), rfl, hm⟩⟩))))))
    iterate 14 (refine .u ?_)
    exact Agree.base
  ·replace hm := bf hm hc12
   refine Cw.exit ?_
   rw [hK9] at hm
   refine Cw.seq (Cw.region (Lw.g (vB true) rfl (Lw.nil ?_)))
   cases hm
   exact Cw.ret (ret1 rfl (Res.mk a11 rfl))

theorem p81 {W : CW} {K : List Nat} {x0 : Str} {r : Bool}  (hm : Vm.impl_nameOk x0 = some r) : CallR Tryd.prog 81 [vS x0].toArray W.w (Res W [] fun W' v => v = vB r) :=
 (c81 (V := W.view K [])  hm).ad (fk 0) fun _ _ e => e

theorem c132 {V : CW} {x0 : Str} {r : Bool}  (hm : Vm.impl_lineOk x0 = some r) : CallR Tryd.prog 132 [vS x0].toArray V.w (Res V LL fun Wf v => v = vB r) := by
 unfold Vm.impl_lineOk at hm
 obtain ⟨W0, hW0⟩ : ∃ W, W = V := ⟨V, rfl⟩
 subst hW0
 refine CallR.of Tryd.func132 rfl rfl rfl rfl (Cw.seq (Cw.region (Lw.g (vB false) rfl (Lw.nil (Cw.seq (Cw.seq (Cw.region (Lw.m (vS x0) rfl (Lw.r rfl (R.lenS rfl) (Lw.gt rfl (Lw.nil (Cw.cond (b := decide ((12 : Int) < ((x0.length : Int) : Int))) rfl (fun hc1 => ?_) (fun hc1 => ?_)))))))))))))
 ·replace hm := bt hm hc1
  refine Cw.seq (Cw.region (Lw.g (vB false) rfl (Lw.nil ?_)))
  cases hm
  exact Cw.ret (ret1 rfl (Res.mk (Le.refl _ _) rfl))
 ·replace hm := bf hm hc1
  refine Cw.skip (Cw.seq (Cw.seq (Cw.region (Lw.g (vI 0) rfl (Lw.nil (Cw.block ?_))))))
  obtain ⟨K5, hK5, hm⟩ := jn_e hm
  refine Cw.loop 7 22 [2, 3] (fun m l w => ∃ (y2 : Bool) (y3 : Int) (W4 : CW), W4.w = w ∧ Le [] W0 W4 ∧ l = [vB y2, vI y3] ∧ Vm.impl_lineOk_l1 x0 K5 m y2 y3 = some r) (((x0.length : Int) - 0).toNat + 1) ⟨false, 0, W0, rfl, Le.refl _ _, rfl, hm⟩ ?_
  rintro m6 _ _ σ ⟨y2, y3, W4, rfl, l4, rfl, hm⟩
  obtain _ | m6 := m6
  ·cases hm
  unfold Vm.impl_lineOk_l1 at hm
  have a7 := l4.o
  refine Cw.seq (Cw.seq (Cw.region (Lw.m (vI y3) rfl (Lw.m (vS x0) rfl (Lw.r rfl (R.lenS rfl) (Lw.lt rfl (Lw.nil (Cw.cond (b := decide ((y3 : Int) < ((x0.length : Int) : Int))) rfl (fun hc8 => ?_) (fun hc8 => ?_)))))))))
  ·replace hm := bt hm hc8
   refine Cw.skip (Cw.seq (Cw.block ?_))
   obtain ⟨K11, hK11, hm⟩ := jn_e hm
   refine Cw.join 13 22 [22] (fun l w => ∃ (y9 : Bool) (W10 : CW), W10.w = w ∧ Le [] W4 W10 ∧ l = [vB y9] ∧ K11 y9 = some r) ?_ ?_
   ·rintro _ _ σ ⟨y9, W10, rfl, l10, rfl, hm⟩
    rw [hK11] at hm
    have a12 := a7.n l10
    refine Cw.cond (b := y9) rfl (fun hc13 => ?_) (fun hc13 => ?_)
    ·replace hm := bt hm hc13
     refine Cw.seq (Cw.region (Lw.g (vB false) rfl (Lw.nil ?_)))
     cases hm
     exact Cw.ret (ret1 rfl (Res.mk a12 rfl))
    ·replace hm := bf hm hc13
     refine Cw.skip (Cw.region (Lw.m (vI y3) rfl (Lw.add rfl (Lw.g (vI (w64 (y3 + 1))) rfl (Lw.nil (⟨?_, m6, Nat.lt_succ_self m6, ⟨y2, w64 (y3 + 1), W10, rfl, (l4.trans l10), rfl, hm⟩⟩))))))
     iterate 4 (refine .u ?_)
     refine Agree.ov0 rfl ?_
     iterate 6 (refine .u ?_)
     exact Agree.base
   ·refine Cw.region (Lw.m (vS x0) rfl (Lw.m (vI y3) rfl ?_))
    obtain ⟨u14, e15, hm⟩ := ob hm
    refine Lw.r rfl (R.chm e15 rfl rfl) (Lw.lt rfl (Lw.m (vB (decide (((UInt8.toNat u14 : Int) : Int) < (32 : Int)))) rfl (bsplit (decide (((UInt8.toNat u14 : Int) : Int) < (32 : Int))) (fun hc16 => ?_) (fun hc16 => ?_))))
    ·replace hm := bt hm hc16
     refine Lw.ps hc16 rfl (Lw.ps hc16 rfl (Lw.ps hc16 rfl (Lw.ps hc16 rfl (Lw.p hc16 (vB true) rfl (Lw.nil (⟨?_, ⟨true, W4, rfl, Le.refl _ _, rfl, hm⟩⟩))))))
     iterate 10 (refine .u ?_)
     exact Agree.refl _
    ·replace hm := bf hm hc16
     refine Lw.wa hc16 rfl (Lw.m (vS x0) rfl (Lw.wa hc16 rfl (Lw.m (vI y3) rfl (Lw.wa hc16 rfl ?_))))
     obtain ⟨u17, e18, hm⟩ := ob hm
     refine Lw.r rfl (R.chm e18 rfl rfl) (Lw.wa hc16 rfl (Lw.gt rfl (Lw.p hc16 (vB (decide ((126 : Int) < ((UInt8.toNat u17 : Int) : Int)))) rfl (Lw.nil (⟨?_, ⟨decide ((126 : Int) < ((UInt8.toNat u17 : Int) : Int)), W4, rfl, Le.refl _ _, rfl, hm⟩⟩)))))
     iterate 10 (refine .u ?_)
     exact Agree.refl _
  ·replace hm := bf hm hc8
   refine Cw.exit ?_
   rw [hK5] at hm
   refine Cw.seq (Cw.region (Lw.g (vB true) rfl (Lw.nil ?_)))
   cases hm
   exact Cw.ret (ret1 rfl (Res.mk a7 rfl))

theorem p132 {W : CW} {K : List Nat} {x0 : Str} {r : Bool}  (hm : Vm.impl_lineOk x0 = some r) : CallR Tryd.prog 132 [vS x0].toArray W.w (Res W [] fun W' v => v = vB r) :=
 (c132 (V := W.view K [])  hm).ad (fk 0) fun _ _ e => e

theorem c108 {V : CW} {x0 : List Str} {v0_ : Value} {r : Bool} (h0 : Rd V [0] [v0_] x0) (hm : Vm.impl_TextOk x0 = some r) : CallR Tryd.prog 108 [v0_].toArray V.w (Res V LL fun Wf v => v = vB r) := by
 unfold Vm.impl_TextOk at hm
 obtain ⟨W0, hW0⟩ : ∃ W, W = V := ⟨V, rfl⟩
 subst hW0
 refine CallR.of Tryd.func108 rfl rfl rfl rfl (Cw.seq (Cw.region (Lw.g (vB false) rfl (Lw.nil (Cw.seq (Cw.seq (Cw.region (Lw.m v0_ rfl (Lw.ln x0 h0 rfl (Lw.gt rfl (Lw.nil (Cw.cond (b := decide ((10 : Int) < ((x0.length : Int) : Int))) rfl (fun hc1 => ?_) (fun hc1 => ?_)))))))))))))
 ·replace hm := bt hm hc1
  refine Cw.seq (Cw.region (Lw.g (vB false) rfl (Lw.nil ?_)))
  cases hm
  exact Cw.ret (ret1 rfl (Res.mk (Le.refl _ _) rfl))
 ·replace hm := bf hm hc1
  refine Cw.skip (Cw.seq (Cw.seq (Cw.region (Lw.m v0_ rfl (Lw.ln x0 h0 rfl (Lw.m (vI 0) rfl (Lw.nil (Cw.block ?_))))))))
  obtain ⟨K6, hK6, hm⟩ := jn_e hm
  refine Cw.loop 10 17 [2, 4, 10] (fun m l w => ∃ (y2 : Bool) (y4 : Int) (j3 : Value) (W5 : CW), W5.w = w ∧ Le [] W0 W5 ∧ l = [vB y2, j3, vI y4] ∧ Vm.impl_TextOk_l1 x0 K6 m y2 y4 = some r) (((x0.length : Int) - 0).toNat + 1) ⟨false, 0, undef, W0, rfl, Le.refl _ _, rfl, hm⟩ ?_
  rintro m7 _ _ σ ⟨y2, y4, j3, W5, rfl, l5, rfl, hm⟩
  obtain _ | m7 := m7
  ·cases hm
  unfold Vm.impl_TextOk_l1 at hm
  have a8 := l5.o
  refine Cw.seq (Cw.region (Lw.lt rfl (Lw.nil (Cw.seq (Cw.cond (b := decide ((y4 : Int) < ((x0.length : Int) : Int))) rfl (fun hc9 => ?_) (fun hc9 => ?_))))))
  ·replace hm := bt hm hc9
   refine Cw.skip (Cw.seq (Cw.block (Cw.seq (Cw.region ?_))))
   obtain ⟨u10, e11, hm⟩ := ob hm
   refine Lw.r rfl (R.ix (α := Str) (h0.ul a8) e11 rfl rfl rfl) (Lw.r rfl (R.ld rfl rfl ((h0.ul a8).at_ e11).str) (Lw.g (vS u10) rfl (Lw.nil (Cw.seq (Cw.region (Lw.m (vS u10) rfl ?_))))))
   obtain ⟨z13, e14, hm⟩ := ob hm
   refine Lw.t rfl (T.call rfl (p132 (K := [0])   e14)) ?_
   rintro _ _ ⟨W15, rfl, l15, rfl⟩
   have a16 := a8.n l15
   refine Lw.r rfl (R.not rfl) (Lw.nil (Cw.cond (b := (!z13)) rfl (fun hc17 => ?_) (fun hc17 => ?_)))
   ·replace hm := bt hm hc17
    refine Cw.seq (Cw.region (Lw.g (vB false) rfl (Lw.nil ?_)))
    cases hm
    exact Cw.ret (ret1 rfl (Res.mk a16 rfl))
   ·replace hm := bf hm hc17
    refine Cw.skip (Cw.region (Lw.add rfl (Lw.m (vI (w64 (y4 + 1))) rfl (Lw.nil (⟨?_, m7, Nat.lt_succ_self m7, ⟨y2, w64 (y4 + 1), vS u10, W15, rfl, (l5.trans l15), rfl, hm⟩⟩)))))
    iterate 12 (refine .u ?_)
    exact Agree.base
  ·replace hm := bf hm hc9
   refine Cw.exit ?_
   rw [hK6] at hm
   refine Cw.seq (Cw.region (Lw.g (vB true) rfl (Lw.nil ?_)))
   cases hm
   exact Cw.ret (ret1 rfl (Res.mk a8 rfl))

theorem p108 {W : CW} {K : List Nat} {x0 : List Str} {v0_ : Value} {r : Bool} (h0 : Rd W K [v0_] x0) (hm : Vm.impl_TextOk x0 = some r) : CallR Tryd.prog 108 [v0_].toArray W.w (Res W [] fun W' v => v = vB r) :=
 (c108 (V := W.view K []) (h0.view _) hm).ad (fk 0) fun _ _ e => e

theorem c107 {V : CW} {x0 : Str} {r : Bool} (h99 : Gl 2 V [0]) (hm : Vm.impl_PathOk x0 = some r) : CallR Tryd.prog 107 [vS x0].toArray V.w (Res V LL fun Wf v => v = vB r) := by
 unfold Vm.impl_PathOk at hm
 obtain ⟨W0, hW0⟩ : ∃ W, W = V := ⟨V, rfl⟩
 subst hW0
 refine CallR.of Tryd.func107 rfl rfl rfl rfl (Cw.seq (Cw.region (Lw.g (vB false) rfl (Lw.nil (Cw.seq (Cw.region (Lw.m (vS x0) rfl ?_)))))))
 obtain ⟨z1, e2, hm⟩ := ob hm
 refine Lw.t rfl (T.call rfl (p99 (K := [0]) (k0 := 2) h99 e2)) ?_
 rintro v0_3 _ ⟨W3, rfl, l3, ⟨_, rfl, f3_0⟩⟩
 have a4 := l3.o
 refine Lw.g v0_3 rfl (Lw.nil (Cw.seq (Cw.seq (Cw.region (Lw.m v0_3 rfl (Lw.ln z1 f3_0.rd rfl (Lw.gt rfl (Lw.nil (Cw.cond (b := decide ((3 : Int) < ((z1.length : Int) : Int))) rfl (fun hc5 => ?_) (fun hc5 => ?_))))))))))
 ·replace hm := bt hm hc5
  refine Cw.seq (Cw.region (Lw.g (vB false) rfl (Lw.nil ?_)))
  cases hm
  exact Cw.ret (ret1 rfl (Res.mk a4 rfl))
 ·replace hm := bf hm hc5
  refine Cw.skip (Cw.seq (Cw.seq (Cw.region (Lw.m v0_3 rfl (Lw.ln z1 f3_0.rd rfl (Lw.m (vI 0) rfl (Lw.nil (Cw.block ?_))))))))
  obtain ⟨K10, hK10, hm⟩ := jn_e hm
  refine Cw.loop 13 20 [2, 5, 13] (fun m l w => ∃ (y6 : Bool) (y8 : Int) (j7 : Value) (W9 : CW), W9.w = w ∧ Le [] W3 W9 ∧ l = [vB y6, j7, vI y8] ∧ Vm.impl_PathOk_l1 z1 K10 m y6 y8 = some r) (((z1.length : Int) - 0).toNat + 1) ⟨false, 0, undef, W3, rfl, Le.refl _ _, rfl, hm⟩ ?_
  rintro m11 _ _ σ ⟨y6, y8, j7, W9, rfl, l9, rfl, hm⟩
  obtain _ | m11 := m11
  ·cases hm
  unfold Vm.impl_PathOk_l1 at hm
  have a12 := a4.n l9
  refine Cw.seq (Cw.region (Lw.lt rfl (Lw.nil (Cw.seq (Cw.cond (b := decide ((y8 : Int) < ((z1.length : Int) : Int))) rfl (fun hc14 => ?_) (fun hc14 => ?_))))))
  ·replace hm := bt hm hc14
   refine Cw.skip (Cw.seq (Cw.block (Cw.seq (Cw.region ?_))))
   obtain ⟨u15, e16, hm⟩ := ob hm
   refine Lw.r rfl (R.ix (α := Str) (f3_0.up l9 rfl).rd e16 rfl rfl rfl) (Lw.r rfl (R.ld rfl rfl ((f3_0.up l9 rfl).rd.at_ e16).str) (Lw.g (vS u15) rfl (Lw.nil (Cw.seq (Cw.region (Lw.m (vS u15) rfl ?_))))))
   obtain ⟨z17, e18, hm⟩ := ob hm
   refine Lw.t rfl (T.call rfl (p81 (K := [0])   e18)) ?_
   rintro _ _ ⟨W19, rfl, l19, rfl⟩
   have a20 := a12.n l19
   refine Lw.r rfl (R.not rfl) (Lw.nil (Cw.cond (b := (!z17)) rfl (fun hc22 => ?_) (fun hc22 => ?_)))
   ·replace hm := bt hm hc22
    refine Cw.seq (Cw.region (Lw.g (vB false) rfl (Lw.nil ?_)))
    cases hm
    exact Cw.ret (ret1 rfl (Res.mk a20 rfl))
   ·replace hm := bf hm hc22
    refine Cw.skip (Cw.region (Lw.add rfl (Lw.m (vI (w64 (y8 + 1))) rfl (Lw.nil (⟨?_, m11, Nat.lt_succ_self m11, ⟨y6, w64 (y8 + 1), vS u15, W19, rfl, (l9.trans l19), rfl, hm⟩⟩)))))
    iterate 12 (refine .u ?_)
    exact Agree.base
  ·replace hm := bf hm hc14
   refine Cw.exit ?_
   rw [hK10] at hm
   refine Cw.seq (Cw.region (Lw.g (vB true) rfl (Lw.nil ?_)))
   cases hm
   exact Cw.ret (ret1 rfl (Res.mk a12 rfl))

theorem p107 {W : CW} {K : List Nat} {x0 : Str} {r : Bool} (h99 : Gl 2 W K) (hm : Vm.impl_PathOk x0 = some r) : CallR Tryd.prog 107 [vS x0].toArray W.w (Res W [] fun W' v => v = vB r) :=
 (c107 (V := W.view K []) (h99.view _) hm).ad (fk 0) fun _ _ e => e

theorem c124 {V : CW} {x0 : Str} {x1 : Str} {r : Bool} (h99 : Gl 2 V [0]) (hm : Vm.impl_PathIn x0 x1 = some r) : CallR Tryd.prog 124 [vS x0, vS x1].toArray V.w (Res V LL fun Wf v => v = vB r) := by
 unfold Vm.impl_PathIn at hm
 obtain ⟨W0, hW0⟩ : ∃ W, W = V := ⟨V, rfl⟩
 subst hW0
 refine CallR.of Tryd.func124 rfl rfl rfl rfl (Cw.seq (Cw.region (Lw.g (vB false) rfl (Lw.nil ?_))))
 obtain ⟨K3, hK3, hm⟩ := jn_e hm
 refine Cw.join 5 16 [4] (fun l w => ∃ (y1 : Bool) (W2 : CW), W2.w = w ∧ Le [] W0 W2 ∧ l = [vB y1] ∧ K3 y1 = some r) ?_ ?_
 ·rintro _ _ σ ⟨y1, W2, rfl, l2, rfl, hm⟩
  rw [hK3] at hm
  have a4 := l2.o
  cases hm
  exact Cw.ret (ret1 rfl (Res.mk a4 rfl))
 ·refine Cw.region (Lw.m (vS x0) rfl ?_)
  obtain ⟨z5, e6, hm⟩ := ob hm
  refine Lw.t rfl (T.call rfl (p107 (K := [0])  h99 e6)) ?_
  rintro _ _ ⟨W7, rfl, l7, rfl⟩
  have a8 := l7.o
  refine Lw.m (vB z5) rfl (bsplit z5 (fun hc9 => ?_) (fun hc9 => ?_))
  ·replace hm := bt hm hc9
   refine Lw.wa hc9 rfl (Lw.m (vS x1) rfl (Lw.wa hc9 rfl ?_))
   obtain ⟨z11, e12, hm⟩ := ob hm
   refine Lw.t rfl (T.call rfl (p107 (K := [0])  (h99.ul a8) e12)) ?_
   rintro _ _ ⟨W13, rfl, l13, rfl⟩
   refine Lw.p hc9 (vB z11) rfl (Lw.m (vB z11) rfl (bsplit z11 (fun hc15 => ?_) (fun hc15 => ?_)))
   ·replace hm := bt hm hc15
    refine Lw.wa hc15 rfl (Lw.m (vS x1) rfl (Lw.wa hc15 rfl (Lw.m (vS x0) rfl (Lw.wa hc15 rfl ?_))))
    obtain ⟨q16, e17, hm⟩ := ob hm
    refine Lw.r rfl (R.sad e17 rfl rfl) (Lw.wa hc15 rfl ?_)
    obtain ⟨z18, e19, hm⟩ := ob hm
    refine Lw.t rfl (T.call rfl (p142 (K := [0])   e19)) ?_
    rintro _ _ ⟨W20, rfl, l20, rfl⟩
    refine Lw.p hc15 (vB z18) rfl (Lw.g (vB z18) rfl (Lw.nil (⟨?_, ⟨z18, W20, rfl, (l7.trans (l13.trans l20)), rfl, hm⟩⟩)))
    iterate 13 (refine .u ?_)
    exact Agree.refl _
   ·replace hm := bf hm hc15
    refine Lw.ps hc15 rfl (Lw.ps hc15 rfl (Lw.ps hc15 rfl (Lw.ps hc15 rfl (Lw.p hc15 (vB false) rfl (Lw.g (vB false) rfl (Lw.nil (⟨?_, ⟨false, W13, rfl, (l7.trans l13), rfl, hm⟩⟩)))))))
    iterate 13 (refine .u ?_)
    exact Agree.refl _
  ·replace hm := bf hm hc9
   refine Lw.ps hc9 rfl (Lw.ps hc9 rfl (Lw.p hc9 (vB false) rfl (Lw.m (vB false) rfl (Lw.ps rfl rfl (Lw.ps rfl rfl (Lw.ps rfl rfl (Lw.ps rfl rfl (Lw.p rfl (vB false) rfl (Lw.g (vB false) rfl (Lw.nil (⟨?_, ⟨false, W7, rfl, l7, rfl, hm⟩⟩)))))))))))
   iterate 13 (refine .u ?_)
   exact Agree.refl _

theorem p124 {W : CW} {K : List Nat} {x0 : Str} {x1 : Str} {r : Bool} (h99 : Gl 2 W K) (hm : Vm.impl_PathIn x0 x1 = some r) : CallR Tryd.prog 124 [vS x0, vS x1].toArray W.w (Res W [] fun W' v => v = vB r) :=
 (c124 (V := W.view K []) (h99.view _) hm).ad (fk 0) fun _ _ e => e

theorem c82 {V : CW} {x0 : List Vm.File} {v0_ : Value} {r : Bool} (h0 : Rd V [0] [v0_] x0) (h99 : Gl 2 V [0]) (hm : Vm.impl_TreeOk x0 = some r) : CallR Tryd.prog 82 [v0_].toArray V.w (Res V LL fun Wf v => v = vB r) := by
 unfold Vm.impl_TreeOk at hm
 obtain ⟨W0, hW0⟩ : ∃ W, W = V := ⟨V, rfl⟩
 subst hW0
 refine CallR.of Tryd.func82 rfl rfl rfl rfl (Cw.seq (Cw.region (Lw.g (vB false) rfl (Lw.nil (Cw.seq (Cw.seq (Cw.region (Lw.m v0_ rfl (Lw.ln x0 h0 rfl (Lw.gt rfl (Lw.nil (Cw.cond (b := decide ((8 : Int) < ((x0.length : Int) : Int))) rfl (fun hc1 => ?_) (fun hc1 => ?_)))))))))))))
 ·replace hm := bt hm hc1
  refine Cw.seq (Cw.region (Lw.g (vB false) rfl (Lw.nil ?_)))
  cases hm
  exact Cw.ret (ret1 rfl (Res.mk (Le.refl _ _) rfl))
 ·replace hm := bf hm hc1
  refine Cw.skip (Cw.seq (Cw.seq (Cw.region (Lw.m v0_ rfl (Lw.ln x0 h0 rfl (Lw.m (vI 0) rfl (Lw.nil (Cw.block ?_))))))))
  obtain ⟨K8, hK8, hm⟩ := jn_e hm
  refine Cw.loop 12 56 [2, 3, 4, 6, 12] (fun m l w => ∃ (y2 : Bool) (y6 : Int) (j3 j4 j5 : Value) (W7 : CW), W7.w = w ∧ Le [2, 3] W0 W7 ∧ l = [vB y2, j3, j4, j5, vI y6] ∧ Vm.impl_TreeOk_l1 x0 K8 m y2 y6 = some r) (((x0.length : Int) - 0).toNat + 1) ⟨false, 0, undef, undef, undef, W0, rfl, Le.refl _ _, rfl, hm⟩ ?_
  rintro m9 _ _ σ ⟨y2, y6, j3, j4, j5, W7, rfl, l7, rfl, hm⟩
  obtain _ | m9 := m9
  ·cases hm
  unfold Vm.impl_TreeOk_l1 at hm
  have a10 := l7.s rfl
  refine Cw.seq (Cw.region (Lw.lt rfl (Lw.nil (Cw.seq (Cw.cond (b := decide ((y6 : Int) < ((x0.length : Int) : Int))) rfl (fun hc11 => ?_) (fun hc11 => ?_))))))
  ·replace hm := bt hm hc11
   refine Cw.skip (Cw.seq (Cw.block (Cw.seq (Cw.region (Lw.m (vI y6) rfl ?_)))))
   obtain ⟨u12, e13, hm⟩ := ob hm
   refine Lw.r rfl (R.ix (α := File) (h0.ul a10) e13 rfl rfl rfl) ?_
   obtain ⟨x15, c16, _, r17⟩ := ((h0.ul a10).at_ e13).cells
   obtain ⟨v18, rfl, r19⟩ := File.split r17
   refine Lw.r rfl (R.lda c16 rfl rfl) (Lw.t rfl (T.alloc 2 (cs := [vS ([] : Str), .slice none 0 0]) rfl) ?_)
   rintro _ _ ⟨g20, W20, rfl, rfl, l20, b20⟩
   have a21 := l20.o
   refine Lw.g (vI y6) rfl (Lw.u (T.sta (vs := [vS u12.Path, v18]) b20 rfl rfl (oc_cons rfl (oc_cons r19.oc oc_nil)) rfl rfl) ?_)
   rintro _ _ ⟨W22, rfl, l22, b22⟩
   have a23 := l22.s rfl
   refine Lw.nil (Cw.seq ?_)
   obtain ⟨K26, hK26, hm⟩ := jn_e hm
   refine Cw.join 17 41 [41] (fun l w => ∃ (y24 : Bool) (W25 : CW), W25.w = w ∧ Le [] W22 W25 ∧ l = [vB y24] ∧ K26 y24 = some r) ?_ ?_
   ·rintro _ _ σ ⟨y24, W25, rfl, l25, rfl, hm⟩
    rw [hK26] at hm
    have a27 := ((a10.trans a21).trans a23).n l25
    refine Cw.cond (b := y24) rfl (fun hc29 => ?_) (fun hc29 => ?_)
    ·replace hm := bt hm hc29
     refine Cw.seq (Cw.region (Lw.g (vB false) rfl (Lw.nil ?_)))
     cases hm
     exact Cw.ret (ret1 rfl (Res.mk a27 rfl))
    ·replace hm := bf hm hc29
     refine Cw.skip (Cw.seq (Cw.region (Lw.m v0_ rfl (Lw.m (vI y6) rfl ?_))))
     obtain ⟨q30, e31, hm⟩ := ob hm
     have r34 := (h0.ul a27).cutV e31
     refine Lw.r rfl (R.sl (h0.ul a27) e31 rfl (.inl ⟨rfl, rfl⟩) (.inr rfl)) (Lw.ln q30 r34 rfl (Lw.m (vI 0) rfl (Lw.nil (Cw.block ?_))))
     obtain ⟨K39, hK39, hm⟩ := jn_e hm
     refine Cw.loop 46 55 [2, 6, 46] (fun m l w => ∃ (y35 : Bool) (y37 : Int) (j36 : Value) (W38 : CW), W38.w = w ∧ Le [3] W25 W38 ∧ l = [vB y35, j36, vI y37] ∧ Vm.impl_TreeOk_l2 u12 q30 K39 m y35 y37 = some r) (((q30.length : Int) - 0).toNat + 1) ⟨y2, 0, j5, W25, rfl, Le.refl _ _, rfl, hm⟩ ?_
     rintro m40 _ _ σ ⟨y35, y37, j36, W38, rfl, l38, rfl, hm⟩
     obtain _ | m40 := m40
     ·cases hm
     unfold Vm.impl_TreeOk_l2 at hm
     have a41 := l38.s rfl
     refine Cw.seq (Cw.region (Lw.lt rfl (Lw.nil (Cw.seq (Cw.cond (b := decide ((y37 : Int) < ((q30.length : Int) : Int))) rfl (fun hc43 => ?_) (fun hc43 => ?_))))))
     ·replace hm := bt hm hc43
      refine Cw.skip (Cw.seq (Cw.block (Cw.seq (Cw.region ?_))))
      obtain ⟨u44, e45, hm⟩ := ob hm
      refine Lw.r rfl (R.ix (α := File) (r34.ul a41) e45 rfl rfl rfl) ?_
      obtain ⟨x47, c48, _, r49⟩ := ((r34.ul a41).at_ e45).cells
      obtain ⟨v50, rfl, r51⟩ := File.split r49
      refine Lw.r rfl (R.lda c48 rfl rfl) (Lw.t rfl (T.alloc 3 (cs := [vS ([] : Str), .slice none 0 0]) rfl) ?_)
      rintro _ _ ⟨g52, W52, rfl, rfl, l52, b52⟩
      have a53 := (a27.trans a41).n l52
      refine Lw.u (T.sta (vs := [vS u44.Path, v50]) b52 rfl rfl (oc_cons rfl (oc_cons r51.oc oc_nil)) rfl rfl) ?_
      rintro _ _ ⟨W55, rfl, l55, b55⟩
      have a56 := a53.t l55 rfl
      refine Lw.nil (Cw.seq (Cw.region (Lw.fa rfl (Lw.r rfl (R.ld (v := vS u44.Path) rfl rfl (b55.cell rfl)) (Lw.fa rfl (Lw.r rfl (R.ld (v := vS u12.Path) rfl rfl (((((b22.up l25 rfl).up l38 rfl).up l52 rfl).up l55 rfl).cell rfl)) ?_))))))
      obtain ⟨z59, e60, hm⟩ := ob hm
      refine Lw.t rfl (T.call rfl (p124 (K := [0])  (h99.ul a56) e60)) ?_
      rintro _ _ ⟨W61, rfl, l61, rfl⟩
      have a62 := a56.n l61
      refine Lw.nil (Cw.cond (b := z59) rfl (fun hc65 => ?_) (fun hc65 => ?_))
      ·replace hm := bt hm hc65
       refine Cw.seq (Cw.region (Lw.g (vB false) rfl (Lw.nil ?_)))
       cases hm
       exact Cw.ret (ret1 rfl (Res.mk a62 rfl))
      ·replace hm := bf hm hc65
       refine Cw.skip (Cw.region (Lw.add rfl (Lw.m (vI (w64 (y37 + 1))) rfl (Lw.nil (⟨?_, m40, Nat.lt_succ_self m40, ⟨y35, w64 (y37 + 1), ptr (bx g52), W61, rfl, (l38.trans ((l52.sub rfl).trans (l55.trans (l61.sub rfl)))), rfl, hm⟩⟩)))))
       iterate 14 (refine .u ?_)
       exact Agree.base
     ·replace hm := bf hm hc43
      refine Cw.exit ?_
      rw [hK39] at hm
      refine Cw.region (Lw.add rfl (Lw.m (vI (w64 (y6 + 1))) rfl (Lw.nil (⟨?_, m9, Nat.lt_succ_self m9, ⟨y35, w64 (y6 + 1), vI y6, ptr (bx g20), j36, W38, rfl, (l7.trans ((l20.sub rfl).trans ((l22.sub rfl).trans ((l25.sub rfl).trans (l38.sub rfl))))), rfl, hm⟩⟩))))
      iterate 6 (refine .u ?_)
      refine Agree.ov0 rfl ?_
      iterate 6 (refine .u ?_)
      refine Agree.ov0 rfl ?_
      iterate 11 (refine .u ?_)
      exact Agree.base
   ·refine Cw.draw [] [(0, 0), (1, 1), (2, 2), (3, 0), (4, 0), (5, 0), (6, 1), (7, 2), (8, 0), (9, 0), (10, 0), (11, 0), (12, 0), (13, 0), (14, 0), (15, 0), (16, 0), (17, 0), (18, 0), (19, 1), (20, 0), (21, 1), (22, 0), (23, 0), (24, 0)] mixed (by kernel_rfl) fun W66 l66 => ?_
    have a67 := l66.o
    have b68 := b22.up l66 rfl
    refine Mw.p rfl rfl (fun _ => R.fa rfl) (Mw.q rfl rfl (fun _ c => R.ld (v := v18) rfl rfl (b68.clc rfl rfl c)) ?_)
    obtain ⟨z70, e71, hm⟩ := ob hm
    refine Mw.t rfl rfl (T.call rfl (p108 (K := [0])  (r19.ul ((a21.trans a23).trans a67)) e71)) ?_
    rintro _ _ ⟨W72, rfl, l72, rfl⟩
    have a73 := (((a10.trans a21).trans a23).trans a67).n l72
    refine ⟨⟨_, rfl, (l72.sub (M := []) rfl)⟩, ?_⟩
    refine Mw.p rfl rfl (fun _ => R.not rfl) (Mw.p rfl rfl (fun _ => R.mv (v := vB (!z70)) rfl) (bsplit (!z70) (fun hc75 => ?_) (fun hc75 => ?_)))
    ·replace hm := bt hm hc75
     refine Mw.ps hc75 rfl rfl (Mw.ps hc75 rfl rfl (Mw.ps hc75 rfl rfl (Mw.ps hc75 rfl rfl (Mw.p rfl rfl (fun _ => R.pk hc75 rfl (v := vB true) rfl) (Mw.p rfl rfl (fun _ => R.mv (v := vB true) rfl) (Mw.ps rfl rfl rfl (Mw.ps rfl rfl rfl (Mw.ps rfl rfl rfl (Mw.pu rfl rfl (Mw.pu rfl rfl (Mw.pu rfl rfl (Mw.pu rfl rfl (Mw.pu rfl rfl (Mw.pu rfl rfl (Mw.pu rfl rfl (Mw.pu rfl rfl (Mw.pu rfl rfl (Mw.ps rfl rfl rfl (Mw.p rfl rfl (fun _ => R.pk rfl rfl (v := vB true) rfl) (Mw.nil (⟨?_, ⟨true, W72, rfl, (l66.trans l72), rfl, hm⟩⟩)))))))))))))))))))))
     iterate 25 (refine .u ?_)
     exact Agree.refl _
    ·replace hm := bf hm hc75
     refine Mw.gp hc75 rfl rfl rfl rfl rfl (fun _ => R.fa rfl) (Mw.gq hc75 rfl rfl rfl rfl rfl (fun _ c => R.ld (v := vS u12.Path) rfl rfl (b68.clc rfl rfl c)) ?_)
     obtain ⟨z77, e78, hm⟩ := ob hm
     refine Mw.gt hc75 rfl rfl rfl rfl rfl (T.call rfl (p107 (K := [0])  (h99.ul a73) e78)) ?_
     rintro _ _ ⟨W79, rfl, l79, rfl⟩
     refine ⟨⟨_, rfl, ((l72.sub (M := []) rfl).trans (l79.sub (M := []) rfl))⟩, ?_⟩
     refine Mw.gp hc75 rfl rfl rfl rfl rfl (fun _ => R.not rfl) (Mw.p rfl rfl (fun _ => R.pk hc75 rfl (v := vB (!z77)) rfl) (Mw.p rfl rfl (fun _ => R.mv (v := vB (!z77)) rfl) (bsplit (!z77) (fun hc82 => ?_) (fun hc82 => ?_))))
     ·replace hm := bt hm hc82
      refine Mw.ps hc82 rfl rfl (Mw.ps hc82 rfl rfl (Mw.ps hc82 rfl rfl (Mw.pu rfl rfl (Mw.pu rfl rfl (Mw.pu rfl rfl (Mw.pu rfl rfl (Mw.pu rfl rfl (Mw.pu rfl rfl (Mw.pu rfl rfl (Mw.pu rfl rfl (Mw.pu rfl rfl (Mw.ps hc82 rfl rfl (Mw.p rfl rfl (fun _ => R.pk hc82 rfl (v := vB true) rfl) (Mw.nil (⟨?_, ⟨true, W79, rfl, (l66.trans (l72.trans l79)), rfl, hm⟩⟩)))))))))))))))
      iterate 25 (refine .u ?_)
      exact Agree.refl _
     ·replace hm := bf hm hc82
      refine Mw.gp hc82 rfl rfl rfl rfl rfl (fun _ => R.mv (v := vI y6) rfl) (Mw.gp hc82 rfl rfl rfl rfl rfl (fun _ => R.gt rfl rfl) (Mw.gp hc82 rfl rfl rfl rfl rfl (fun _ => R.mv (v := vB (decide ((0 : Int) < (y6 : Int)))) rfl) (bsplit (decide ((0 : Int) < (y6 : Int))) (fun hc83 => ?_) (fun hc83 => ?_))))
      ·replace hm := bt hm hc83
       refine Mw.gp hc83 rfl rfl rfl rfl rfl (fun _ => R.mv (v := v0_) rfl) (Mw.gp hc83 rfl rfl rfl rfl rfl (fun _ => R.mv (v := vI y6) rfl) (Mw.gp hc83 rfl rfl rfl rfl rfl (fun _ => R.sub rfl rfl) ?_))
       obtain ⟨u84, e85, hm⟩ := ob hm
       have s86 := h0.ul (((a10.trans a21).trans a23).trans a67)
       refine Mw.gp hc83 rfl rfl rfl rfl rfl (fun _ => R.ix (α := File) s86 e85 rfl rfl rfl) (Mw.gp hc83 rfl rfl rfl rfl rfl (fun _ => R.fa rfl) (Mw.gq hc83 rfl rfl rfl rfl rfl (fun _ c => R.ld rfl rfl (cl_cell (File.at0 (s86.at_ e85)).1 rfl (File.at0 (s86.at_ e85)).str c)) (Mw.gp hc83 rfl rfl rfl rfl rfl (fun _ => R.fa rfl) (Mw.gq hc83 rfl rfl rfl rfl rfl (fun _ c => R.ld (v := vS u12.Path) rfl rfl (b68.clc rfl rfl c)) (Mw.gp hc83 rfl rfl rfl rfl rfl (fun _ => R.sge rfl rfl) (Mw.gp hc82 rfl rfl rfl rfl rfl (fun _ => R.pk hc83 rfl (v := vB (!Op.bytesLess u84.Path u12.Path)) rfl) (Mw.p rfl rfl (fun _ => R.pk hc82 rfl (v := vB (!Op.bytesLess u84.Path u12.Path)) rfl) (Mw.nil (⟨?_, ⟨(!Op.bytesLess u84.Path u12.Path), W79, rfl, (l66.trans (l72.trans l79)), rfl, hm⟩⟩)))))))))
       iterate 25 (refine .u ?_)
       exact Agree.refl _
      ·replace hm := bf hm hc83
       refine Mw.ps hc83 rfl rfl (Mw.ps hc83 rfl rfl (Mw.ps hc83 rfl rfl (Mw.ps hc83 rfl rfl (Mw.ps hc83 rfl rfl (Mw.ps hc83 rfl rfl (Mw.ps hc83 rfl rfl (Mw.ps hc83 rfl rfl (Mw.ps hc83 rfl rfl (Mw.gp hc82 rfl rfl rfl rfl rfl (fun _ => R.pk hc83 rfl (v := vB false) rfl) (Mw.p rfl rfl (fun _ => R.pk hc82 rfl (v := vB false) rfl) (Mw.nil (⟨?_, ⟨false, W79, rfl, (l66.trans (l72.trans l79)), rfl, hm⟩⟩))))))))))))
       iterate 25 (refine .u ?_)
       exact Agree.refl _
  ·replace hm := bf hm hc11
   refine Cw.exit ?_
   rw [hK8] at hm
   refine Cw.seq (Cw.region (Lw.g (vB true) rfl (Lw.nil ?_)))
   cases hm
   exact Cw.ret (ret1 rfl (Res.mk a10 rfl))

theorem p82 {W : CW} {K : List Nat} {x0 : List Vm.File} {v0_ : Value} {r : Bool} (h0 : Rd W K [v0_] x0) (h99 : Gl 2 W K) (hm : Vm.impl_TreeOk x0 = some r) : CallR Tryd.prog 82 [v0_].toArray W.w (Res W [] fun W' v => v = vB r) :=
 (c82 (V := W.view K []) (h0.view _) (h99.view _) hm).ad (fk 0) fun _ _ e => e

theorem c125 {V : CW} {x0 : Vm.Repo} {v0_0_ : Value} {v0_1_ : Value} {x1 : Int} {r : Bool} (h0 : Rd V [0] [v0_0_, v0_1_] x0) (hm : Vm.impl_Repo_exists x0 x1 = some r) : CallR Tryd.prog 125 [.agg [v0_0_, v0_1_].toArray, vI x1].toArray V.w (Res V LL fun Wf v => v = vB r) := by
 unfold Vm.impl_Repo_exists at hm
 obtain ⟨w0_0, w0_1, he0, h0_0, h0_1⟩ := Repo.split h0
 simp only [List.cons.injEq, and_true, true_and] at he0
 obtain ⟨rfl, rfl⟩ := he0
 obtain ⟨W0, hW0⟩ : ∃ W, W = V := ⟨V, rfl⟩
 subst hW0
 refine CallR.of Tryd.func125 rfl rfl rfl rfl (Cw.seq (Cw.region (Lw.t rfl (T.box 2 (v := .agg [v0_0_, v0_1_].toArray) (cs := [v0_0_, v0_1_]) rfl rfl) ?_)))
 rintro _ _ ⟨g1, W1, rfl, rfl, l1, b1⟩
 have a2 := l1.o
 refine Lw.g (vB false) rfl (Lw.nil (Cw.seq (Cw.region (Lw.m (vI x1) rfl (Lw.fa rfl (Lw.r rfl (R.ld (v := v0_0_) rfl rfl (b1.cell rfl)) (Lw.ln x0.Commits (h0_0.ul a2) rfl (Lw.sub rfl ?_))))))))
 obtain ⟨z4, e5, hm⟩ := ob hm
 refine Lw.t rfl (T.call rfl (p83 (K := [0])   e5)) ?_
 rintro _ _ ⟨W6, rfl, l6, rfl⟩
 have a7 := a2.n l6
 refine Lw.g (vB z4) rfl (Lw.nil ?_)
 cases hm
 exact Cw.ret (ret1 rfl (Res.mk a7 rfl))

theorem p125 {W : CW} {K : List Nat} {x0 : Vm.Repo} {v0_0_ : Value} {v0_1_ : Value} {x1 : Int} {r : Bool} (h0 : Rd W K [v0_0_, v0_1_] x0) (hm : Vm.impl_Repo_exists x0 x1 = some r) : CallR Tryd.prog 125 [.agg [v0_0_, v0_1_].toArray, vI x1].toArray W.w (Res W [] fun W' v => v = vB r) :=
 (c125 (V := W.view K []) (h0.view _) hm).ad (fk 0) fun _ _ e => e

end Go.Sx
