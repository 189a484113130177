/- Walks: each function answers as its model, printed by a program of ours. Conditions: the arguments read as they are given. -/
import Derived.Test.YtkfeiopifiejgaaGreatDoorXTs
import Derived.Test.YtkfeiopifiejgaaGreatDoorXM11
import Derived.Test.YtkfeiopifiejgaaGreatDoorXW0
import Derived.Test.YtkfeiopifiejgaaGreatDoorXW1
import Derived.Test.YtkfeiopifiejgaaGreatDoorXW13
import Derived.Test.YtkfeiopifiejgaaGreatDoorXW3
import Derived.Test.YtkfeiopifiejgaaGreatDoorXW6
import Derived.Test.YtkfeiopifiejgaaGreatDoorXW7
import Derived.Test.YtkfeiopifiejgaaGreatDoorXW8
import Derived.Test.YtkfeiopifiejgaaGreatDoorXW9
namespace Go.Sx
open Go Go.Proofs Go.Vm Rp
set_option linter.unusedVariables false
set_option linter.unusedSimpArgs false

variable {W W0 : CW} {K : List Nat}
theorem c15 {x0 v0_ r} (h0 : Rd W0 [0] [v0_] x0) (hm : Vm.spec_DrawLogWho x0 = some r) : Q0 15 [v0_] W0 fun Wf v => ∃ u0_0 u0_1, v = .tuple [.agg [u0_0, u0_1].toArray, vI r.2.1, vS r.2.2].toArray ∧ OwS Wf [31] [] [u0_0] r.1.Commits ∧ OwS Wf [32] [] [u0_1] r.1.Heads := by
 unfold Vm.spec_DrawLogWho at hm
 refine CallR.of Tryz.func15 rfl rfl rfl rfl (sr (al 2 [.slice none 0 0, .slice none 0 0] fun g1 W1 l1 b1 => ?_))
 have a2 := l1.o
 refine Gi rfl (Ns rfl (sr (mv v0_ rfl (cr hm (fun _ => p41 (k0 := 3) (h0.ul a2)) ?_))))
 rintro z4 _ W6 hm l6 ⟨g0_6, v0_0_6, rfl, f6_0, f6_1⟩
 have s7 := f6_1.sub (M := [0]) rfl
 have a8 := a2.n l6
 refine Np rfl (sr (mp rfl (cr hm (fun _ => p42 (k0 := 4) (k1 := 5) (c0 := 3) (x0 := z4) f6_0 s7 rfl) ?_)))
 rintro z10 _ W12 hm l12 ⟨v0_0_12, v0_1_12, rfl, f12_0, f12_1, f12_2⟩
 have a13 := l12.s
 refine al 6 [.slice none 0 0, .slice none 0 0] fun g15 W15 l15 b15 => ?_
 have a16 := l15.o
 refine sta b15 (oc_cons (f12_0.up l15).oc (oc_cons (f12_1.up l15).oc oc_nil)) fun W21 l21 b21 => ?_
 have a22 := l21.s
 have o23 := (f12_0.up l15).up l21
 have o24 := (f12_1.up l15).up l21
 refine nl (sr (mp rfl (la b21 (cr hm (fun _ => p43 (K := [0, 4, 5]) (c0 := 3) (x0 := (Vm.l30Rd.mk z4.b z10.2)) (x1 := (Vm.Repo.mk z10.1.Commits z10.1.Heads)) ((f12_2.up l15).up l21) ((s7.ul ((a13.trans a16).trans a22)).sub (M := [0, 4, 5]) rfl) ((Repo.rd (K := [4, 5]) z10.1.Commits z10.1.Heads (o23.rd.sub (M := [4, 5]) rfl) (o24.rd.sub (M := [4, 5]) rfl)).sub (M := [0, 4, 5]) rfl) rfl) ?_))))
 rintro z28 _ W30 hm l30 ⟨rfl, f30_0⟩
 have a31 := l30.s
 refine Ni rfl (Cw.seq (Cw.draw [3] [(0, 1), (1, 0), (2, 0), (3, 2), (4, 2), (5, 3), (6, 0), (7, 0)] mixed (by kernel_rfl) fun W36 l36 => ?_))
 have a37 := l36.o
 refine Mw.q rfl rfl (fun _ c => R.lda (cs := [v0_0_12, v0_1_12]) (((b21.up l30).up l36).clcs rfl c) rfl rfl) (Di rfl (Dp rfl (Mw.t rfl rfl (T.bsS (α := Str) (xs := [([97, 110, 110] : Str), ([98, 111, 98] : Str), ([110, 111, 98, 111, 100, 121] : Str)]) 7 [] (W := W36) [vS ([97, 110, 110] : Str), vS ([98, 111, 98] : Str), vS ([110, 111, 98, 111, 100, 121] : Str)] (Each.cons ((rdS _)) (Each.cons ((rdS _)) (Each.cons ((rdS _)) Each.nil))) rfl) ?_)))
 rintro v43 _ ⟨W43, rfl, l43, o43⟩
 have a44 := l43.o
 refine m0 l43 fun d43 => ?_
 obtain ⟨z51, e52, hm⟩ := ob hm
 refine Mw.t rfl rfl (T.call rfl (p44 (K := [0, 7])  (c0 := 3) (x0 := (Vm.l30Rd.mk z4.b z28.2)) ((f30_0.up l36).up l43) ((s7.ul (((((a13.trans a16).trans a22).trans a31).trans a37).trans a44)).sub (M := [0, 7]) rfl) (o43.rd.sub (M := [0, 7]) rfl) rfl e52)) ?_
 rintro _ _ ⟨W53, rfl, l53, ⟨rfl, f53_0⟩⟩
 have a54 := ((((((a8.trans a13).trans a16).trans a22).trans a31).trans a37).trans a44).t l53
 have o55 := (((o23.up l30).up l36).up l43).up l53
 have o56 := (((o24.up l30).up l36).up l43).up l53
 refine mc d43 l53 fun d53 => Mw.lu rfl (T.sta (vs := [v0_0_12, v0_1_12]) ((((((((b1.up l6).up l12).up l15).up l21).up l30).up l36).up l43).up l53) rfl rfl (oc_cons o55.oc (oc_cons o56.oc oc_nil)) rfl rfl) ?_
 rintro _ _ ⟨W60, rfl, l60, b60⟩
 have a61 := a54.t l60
 refine Hi rfl (Hs rfl (Mw.nil ?_))
 obtain ⟨W67, ew67, l67, o67⟩ := (o55.up l60).dyeO 31
 have a68 := a61.t l67
 obtain ⟨W74, ew74, l74, o74⟩ := ((o56.up l60).up l67).dyeO 32
 have a75 := a68.t l74
 cases hm
 rw [← ew74.trans (ew67)]
 exact Cw.ret (retG (ResOk.c rfl ((b60.up l67).up l74) (ResOk.t rfl (ResOk.t rfl ResOk.n))) (Res.mk a75 ⟨v0_0_12, v0_1_12, rfl, (o67.up l74).s, o74.s⟩))

theorem p15 {x0 v0_ k0 k1 r} (h0 : Rd W K [v0_] x0) (hm : Vm.spec_DrawLogWho x0 = some r) : Q1 15 [v0_] W [] fun W' v => ∃ u0_0 u0_1, v = .tuple [.agg [u0_0, u0_1].toArray, vI r.2.1, vS r.2.2].toArray ∧ Ow W' k0 [] [u0_0] r.1.Commits ∧ Ow W' k1 [] [u0_1] r.1.Heads :=
 CallR.adJ (J := []) (fun c => bif Nat.beq c 0 then 0 else bif Nat.beq c 31 then k0 else bif Nat.beq c 32 then k1 else 0) (c15 (h0.view _) hm) fun _ _ ⟨u0_0, u0_1, e, f0, f1⟩ => ⟨u0_0, u0_1, e, f0.one1.backN rfl, f1.one1.backN rfl⟩

theorem c46 {x0 x1 g1_ v1_0_ v1_1_ x2 g2_ r} (hB1 : Bx W0 2 g1_ [v1_0_, v1_1_]) (h1_0 : Rd W0 [0] [v1_0_] x1.Commits) (h1_1 : Rd W0 [0] [v1_1_] x1.Heads) (hB2 : Bx W0 3 g2_ [vS x2]) (hm : Vm.impl_LogWho_c1 x0 x1 x2 = some r) : Q0 46 [vI x0, ptr (bx g1_), ptr (bx g2_)] W0 fun Wf v => v = vB r ∧ Bx Wf 2 g1_ [v1_0_, v1_1_] ∧ Bx Wf 3 g2_ [vS x2] := by
 unfold Vm.impl_LogWho_c1 at hm
 refine CallR.of Tryz.func46 rfl rfl rfl rfl (sr (Nb rfl (Cw.seq (Cw.draw [] [(0, 0), (1, 1), (2, 0), (3, 0), (4, 0), (5, 1), (6, 1), (7, 0), (8, 0)] mixed (by kernel_rfl) fun W1 l1 => ?_))))
 have a2 := l1.o
 have b3 := hB1.up l1
 have b4 := hB2.up l1
 refine Dfl b3 rfl rfl rfl (Di rfl ?_)
 obtain ⟨u5, e6, hm⟩ := ob hm
 have s7 := h1_0.ul a2
 refine Mw.p rfl rfl (fun _ => R.ix (α := Commit) s7 e6 rfl rfl rfl) (Df rfl (Mw.q rfl rfl (fun _ c => R.ld rfl rfl (cl_cell (Commit.at1 (s7.at_ e6)).1 rfl (Commit.at1 (s7.at_ e6)).str c)) (Mw.q rfl rfl (fun _ c => R.ld (v := vS x2) rfl rfl (b4.clc0 rfl rfl c)) (Mw.p rfl rfl (fun _ => R.seq rfl rfl) (Hb rfl (Mw.nil ?_))))))
 cases hm
 exact Cw.ret (ret1 rfl (Res.mk a2 ⟨rfl, b3, b4⟩))

theorem p46 {x0 x1 g1_ v1_0_ v1_1_ x2 g2_ c0 c1 r} (hB1 : Bx W c0 g1_ [v1_0_, v1_1_]) (h1_0 : Rd W K [v1_0_] x1.Commits) (h1_1 : Rd W K [v1_1_] x1.Heads) (hB2 : Bx W c1 g2_ [vS x2]) (hJ : okJ K [c0, c1] = true) (hm : Vm.impl_LogWho_c1 x0 x1 x2 = some r) : Q1 46 [vI x0, ptr (bx g1_), ptr (bx g2_)] W [c0, c1] fun W' v => v = vB r ∧ Bx W' c0 g1_ [v1_0_, v1_1_] ∧ Bx W' c1 g2_ [vS x2] :=
 CallR.adJ (J := [c0, c1]) (fun c => bif Nat.beq c 0 then 0 else bif Nat.beq c 2 then c0 else bif Nat.beq c 3 then c1 else 0) (c46 (hB1.viewJ 0 hJ) (h1_0.view _) (h1_1.view _) (hB2.viewJ 1 hJ) hm) fun _ _ ⟨e, f0, f1⟩ => ⟨e, Bx.backJ 0 f0 rfl, Bx.backJ 1 f1 rfl⟩

theorem c71 {x0 v0_ r} (h0 : Ow W0 2 [] [v0_] x0) (hm : Vm.slices_Reverse_int_int x0 = some r) : Q0 71 [v0_] W0 fun Wf v => v = .tuple #[] ∧ Ow Wf 2 [] [v0_] r := by
 unfold Vm.slices_Reverse_int_int at hm
 refine CallR.of Tryz.func71 rfl rfl rfl rfl (sr (mv v0_ rfl (Lw.ln x0 h0.rd rfl (Lw.sub rfl (Gi rfl (Ni rfl (Cw.block ?_)))))))
 obtain ⟨K6, hK6, hm⟩ := jn_e hm
 refine Cw.loop 7 27 [2, 3] (fun m l w => ∃ y1 y2 y3 W5, CW.w W5 = w ∧ Le [2] W0 W5 ∧ l = [vI y1, vI y2] ∧ Ow W5 2 [] [v0_] y3 ∧ Vm.slices_Reverse_int_int_l1 K6 m y1 y2 y3 = some r) _ ⟨0, w64 ((x0.length : Int) - 1), x0, W0, rfl, Le.refl _ _, rfl, h0, hm⟩ ?_
 rintro (_ | m7) _ _ σ ⟨y1, y2, y3, W5, rfl, l5, rfl, o4, hm⟩
 ·cases hm
 unfold Vm.slices_Reverse_int_int_l1 at hm
 have a8 := l5.s
 refine ssr (mi rfl (mi rfl (Lw.lt rfl (nl (cn hm (fun hm => ?_) fun hm => ?_)))))
 ·refine sk (Cw.seq (Cw.block (Cw.draw [] [(0, 0), (1, 0), (2, 0), (3, 0), (4, 0), (5, 0), (6, 0), (7, 1), (8, 0), (9, 0), (10, 0), (11, 1), (12, 0), (13, 3), (14, 0), (15, 3)] mixed (by kernel_rfl) fun W10 l10 => ?_)))
  have o12 := o4.up l10
  refine Dv v0_ rfl (Di rfl (Dv v0_ rfl (Di rfl (Dv v0_ rfl (Di rfl ?_)))))
  obtain ⟨u13, e14, hm⟩ := ob hm
  refine Mw.p rfl rfl (fun _ => R.ix (α := Int) o12.rd e14 rfl rfl rfl) (Mw.q rfl rfl (fun _ c => R.ld rfl rfl (cl_cell (o12.rd.at_ e14).1 rfl (o12.rd.at_ e14).int c)) (Dv v0_ rfl (Di rfl ?_)))
  obtain ⟨u15, e16, hm⟩ := ob hm
  refine Mw.p rfl rfl (fun _ => R.ix (α := Int) o12.rd e16 rfl rfl rfl) (Mw.q rfl rfl (fun _ c => R.ld rfl rfl (cl_cell (o12.rd.at_ e16).1 rfl (o12.rd.at_ e16).int c)) ?_)
  obtain ⟨u17, e18, hm⟩ := ob hm
  refine Mw.p rfl rfl (fun _ => R.ix (α := Int) o12.rd e18 rfl rfl rfl) ?_
  obtain ⟨q20, e21, hm⟩ := ob hm
  refine Mw.lu rfl (T.stS (K' := []) o12 (rdI _) e21 rfl rfl rfl) ?_
  rintro _ _ ⟨W19, rfl, l19, o19⟩
  obtain ⟨u23, e24, hm⟩ := ob hm
  refine Mw.p rfl rfl (fun _ => R.ix (α := Int) o12.rd e24 rfl rfl rfl) ?_
  obtain ⟨q26, e27, hm⟩ := ob hm
  refine Mw.lu rfl (T.stS (K' := []) o19 (rdI _) e27 rfl rfl rfl) ?_
  rintro _ _ ⟨W25, rfl, l25, o25⟩
  exact Mw.nil (rg (mi rfl (Lw.add rfl (mi rfl (Lw.sub rfl (Gi rfl (Ni rfl ((agm) ⟨w64 (y1 + 1), w64 (y2 - 1), q26, W25, rfl, (((l5.j l10).j l19).j l25).w, rfl, o25, hm⟩))))))))
 ·refine Cw.exit ?_
  rw [hK6] at hm
  cases hm
  show RetP _ _ _ .ret _ _
  exact ret0 (Res.mk a8 ⟨rfl, o4⟩)

theorem p71 {x0 v0_ c0 r} (h0 : Ow W c0 [] [v0_] x0) (hJ : okJ K [c0] = true) (hm : Vm.slices_Reverse_int_int x0 = some r) : Q1 71 [v0_] W [c0] fun W' v => v = .tuple #[] ∧ Ow W' c0 [] [v0_] r :=
 CallR.adJ (J := [c0]) (fun c => bif Nat.beq c 0 then 0 else bif Nat.beq c 2 then c0 else 0) (c71 (h0.viewJ 0 hJ) hm) fun _ _ ⟨e, f0⟩ => ⟨e, Ow.backJ 0 f0 rfl⟩

theorem c45_46 {x0 v0_0_ v0_1_ x1 x3 g3_ v3_0_ v3_1_ x4 g4_ r} (h0 : Rd W0 [0] [v0_0_, v0_1_] x0) (hB3 : Bx W0 2 g3_ [v3_0_, v3_1_]) (h3_0 : Rd W0 [0] [v3_0_] x3.Commits) (h3_1 : Rd W0 [0] [v3_1_] x3.Heads) (hB4 : Bx W0 3 g4_ [vS x4]) (h99 : Gl 0 W0 [0]) (hm : Vm.impl_Repo_log_at46 x0 x1 x3 x4 = some r) : Q0 45 [.agg [v0_0_, v0_1_].toArray, vI x1, .func (.func 46) #[] [ptr (bx g3_), ptr (bx g4_)].toArray] W0 fun Wf v => ∃ u0, v = u0 ∧ OwS Wf [31] [] [u0] r ∧ Bx Wf 2 g3_ [v3_0_, v3_1_] ∧ Bx Wf 3 g4_ [vS x4] := by
 unfold Vm.impl_Repo_log_at46 at hm
 obtain ⟨w0_0, w0_1, he0, h0_0, h0_1⟩ := Repo.split h0
 simp only [List.cons.injEq, and_true, true_and] at he0
 obtain ⟨rfl, rfl⟩ := he0
 refine CallR.of Tryz.func45 rfl rfl rfl rfl (sr (bo 4 rfl fun g1 W1 l1 b1 => ?_))
 have a2 := l1.o
 have b3 := hB3.up l1
 have b4 := hB4.up l1
 refine Nv (.slice none 0 0) rfl (ssr (la b1 (mi rfl (Lw.t rfl (T.bsS (α := Int) (xs := [x1]) 5 [] (W := W1) [vI x1] (Each.cons ((rdI _)) Each.nil) rfl) ?_))))
 rintro v5 _ ⟨W5, rfl, l5, o5⟩
 have a6 := a2.n l5
 refine ca hm (fun _ => p37 (K := [0, 5]) ((Repo.rd (K := [0]) x0.Commits x0.Heads (h0_0.ul a6) (h0_1.ul a6)).sub (M := [0, 5]) rfl) (o5.rd.sub (M := [0, 5]) rfl) ((h99.ul a6).sub (M := [0, 5]) rfl)) fun z13 W15 hm l15 => ?_
 have a16 := a6.n l15
 have b18 := (b3.up l5).up l15
 have b19 := (b4.up l5).up l15
 refine Lw.r rfl (R.not rfl) (nl (cn hm (fun hm => ?_) fun hm => ?_))
 ·refine sr (Nv (.slice none 0 0) rfl ?_)
  cases hm
  exact Cw.ret (ret1 rfl (Res.mk a16 ⟨.slice none 0 0, rfl, (owsN []).sub rfl rfl, b18, b19⟩))
 ·refine sk (sr (Nv (.slice none 0 0) rfl (ssr (la ((b1.up l5).up l15) (mi rfl (cr hm (fun _ => p40 (k0 := 6) (Repo.rd (K := [0]) x0.Commits x0.Heads (h0_0.ul a16) (h0_1.ul a16))) ?_))))))
  rintro z24 v0_26 W26 hm l26 ⟨_, rfl, f26_0⟩
  have a27 := a16.n l26
  refine cr hm (fun _ => p52 (K := [6]) (k0 := 7) f26_0.rd) ?_
  rintro z32 v0_34 W34 hm l34 ⟨_, rfl, f34_0⟩
  have a35 := a27.n l34
  refine Lw.ln z32 f34_0.rd rfl (mi rfl (nl (Cw.block ?_)))
  obtain ⟨K49, hK49, hm⟩ := jn_e hm
  refine Cw.loop 20 31 [7, 9, 20] (fun m l w => ∃ y41 y45 v42 j44 W48, CW.w W48 = w ∧ Le [2, 3, 8] W34 W48 ∧ l = [v42, j44, vI y45] ∧ Ow W48 8 [] [v42] y41 ∧ Bx W48 2 g3_ [v3_0_, v3_1_] ∧ Bx W48 3 g4_ [vS x4] ∧ Vm.impl_Repo_log_at46_l1 x3 x4 z32 K49 m y41 y45 = some r) _ ⟨([] : List Int), 0, .slice none 0 0, undef, W34, rfl, Le.refl _ _, rfl, owN 8 [], ((b18.up l26).up l34), ((b19.up l26).up l34), hm⟩ ?_
  rintro (_ | m50) _ _ σ ⟨y41, y45, v42, j44, W48, rfl, l48, rfl, o43, b46, b47, hm⟩
  ·cases hm
  unfold Vm.impl_Repo_log_at46_l1 at hm
  have a51 := a35.t l48
  refine sr (Lw.lt rfl (nl (Cw.seq (cn hm (fun hm => ?_) fun hm => ?_))))
  ·refine sk ?_
   obtain ⟨K64, hK64, hm⟩ := jn_e hm
   refine Cw.join 22 30 [7, 9] (fun l w => ∃ y57 v58 j60 W63, CW.w W63 = w ∧ Le [2, 3, 8] W48 W63 ∧ l = [v58, j60] ∧ Ow W63 8 [] [v58] y57 ∧ Bx W63 2 g3_ [v3_0_, v3_1_] ∧ Bx W63 3 g4_ [vS x4] ∧ K64 y57 = some r) ?_ ?_
   ·rintro _ _ σ ⟨y57, v58, j60, W63, rfl, l63, rfl, o59, b61, b62, hm⟩
    rw [hK64] at hm
    exact rg (Lw.add rfl (mi rfl (nl ((agm) ⟨y57, w64 (y45 + 1), v58, j60, W63, rfl, (l48.j l63).w, rfl, o59, b61, b62, hm⟩))))
   ·refine Cw.block (sr ?_)
    obtain ⟨u70, e71, hm⟩ := ob hm
    refine Lw.r rfl (R.ix (α := Int) (f34_0.up l48).rd e71 rfl rfl rfl) (Lw.r rfl (R.ld rfl rfl ((f34_0.up l48).rd.at_ e71).int) (Ni rfl (sr (mv (.func (.func 46) #[] [ptr (bx g3_), ptr (bx g4_)].toArray) rfl (mi rfl ?_)))))
    obtain ⟨z74, e75, hm⟩ := ob hm
    refine Lw.t rfl (T.callV (vals := [vI u70]) (caps := [ptr (bx g3_), ptr (bx g4_)]) rfl rfl (p46  (c0 := 2) (c1 := 3) (x1 := (Vm.Repo.mk x3.Commits x3.Heads)) (x2 := x4) b46 (h3_0.ul a51) (h3_1.ul a51) b47 rfl e75)) ?_
    rintro _ _ ⟨W76, rfl, l76, ⟨rfl, f76_0, f76_1⟩⟩
    refine nl (cn hm (fun hm => ?_) fun hm => ?_)
    ·refine rg (mv v42 rfl (mi rfl (Lw.t rfl (T.bs 9 [vI u70] (cs := [vI u70]) rfl rfl (bsv rfl)) ?_)))
     rintro _ _ ⟨g84, W84, rfl, rfl, l84, b84⟩
     obtain ⟨q93, e94, hm⟩ := ob hm
     refine Lw.t rfl (T.app1S (α := Int) (K' := []) ((o43.up l76).up l84) b84 (rdI _) rfl rfl e94) ?_
     rintro v95 _ ⟨W95, rfl, l95, o95⟩
     exact Nv v95 rfl ((ag) ⟨q93, v95, vI u70, W95, rfl, ((l76.j l84).j l95).w, rfl, o95, ((f76_0.up l84).up l95), ((f76_1.up l84).up l95), hm⟩)
    ·exact sk ((ag) ⟨y41, v42, vI u70, W76, rfl, l76.w, rfl, (o43.up l76), f76_0, f76_1, hm⟩)
  ·refine Cw.exit ?_
   rw [hK49] at hm
   refine sr (mv v42 rfl (cr hm (fun _ => p71 (K := [0]) (c0 := 8) o43 rfl) ?_))
   rintro z104 _ W106 hm l106 ⟨rfl, f106_0⟩
   have a107 := a51.t l106
   refine nl (sr (mv v42 rfl (Nv v42 rfl ?_)))
   obtain ⟨W114, ew114, l114, o114⟩ := f106_0.dyeO 31
   have a115 := a107.t l114
   cases hm
   rw [← ew114]
   exact Cw.ret (ret1 rfl (Res.mk a115 ⟨v42, rfl, o114.s, ((b46.up l106).up l114), ((b47.up l106).up l114)⟩))

theorem p45_46 {x0 v0_0_ v0_1_ x1 x3 g3_ v3_0_ v3_1_ x4 g4_ k0 c0 c1 r} (h0 : Rd W K [v0_0_, v0_1_] x0) (hB3 : Bx W c0 g3_ [v3_0_, v3_1_]) (h3_0 : Rd W K [v3_0_] x3.Commits) (h3_1 : Rd W K [v3_1_] x3.Heads) (hB4 : Bx W c1 g4_ [vS x4]) (h99 : Gl 0 W K) (hJ : okJ K [c0, c1] = true) (hm : Vm.impl_Repo_log_at46 x0 x1 x3 x4 = some r) : Q1 45 [.agg [v0_0_, v0_1_].toArray, vI x1, .func (.func 46) #[] [ptr (bx g3_), ptr (bx g4_)].toArray] W [c0, c1] fun W' v => ∃ u0, v = u0 ∧ Ow W' k0 [] [u0] r ∧ Bx W' c0 g3_ [v3_0_, v3_1_] ∧ Bx W' c1 g4_ [vS x4] :=
 CallR.adJ (J := [c0, c1]) (fun c => bif Nat.beq c 0 then 0 else bif Nat.beq c 2 then c0 else bif Nat.beq c 3 then c1 else bif Nat.beq c 31 then k0 else 0) (c45_46 (h0.view _) (hB3.viewJ 0 hJ) (h3_0.view _) (h3_1.view _) (hB4.viewJ 1 hJ) (h99.view _) hm) fun _ _ ⟨u0, e, f0, f1, f2⟩ => ⟨u0, e, f0.one1.backN rfl, Bx.backJ 0 f1 rfl, Bx.backJ 1 f2 rfl⟩

theorem c16 {x0 v0_0_ v0_1_ x1 x2 r} (h0 : Rd W0 [0] [v0_0_, v0_1_] x0) (h99 : Gl 0 W0 [0]) (hm : Vm.impl_LogWho x0 x1 x2 = some r) : Q0 16 [.agg [v0_0_, v0_1_].toArray, vI x1, vS x2] W0 fun Wf v => ∃ u0, v = u0 ∧ OwS Wf LL [] [u0] r := by
 unfold Vm.impl_LogWho at hm
 obtain ⟨w0_0, w0_1, he0, h0_0, h0_1⟩ := Repo.split h0
 simp only [List.cons.injEq, and_true, true_and] at he0
 obtain ⟨rfl, rfl⟩ := he0
 refine CallR.of Tryz.func16 rfl rfl rfl rfl (sr (bo 2 rfl fun g1 W1 l1 b1 => ?_))
 have a2 := l1.o
 refine Lw.t rfl (T.box 3 (v := vS x2) (cs := [vS x2]) rfl rfl) ?_
 rintro _ _ ⟨g3, W3, rfl, rfl, l3, b3⟩
 have a4 := a2.n l3
 refine Nv (.slice none 0 0) rfl (sr (la (b1.up l3) (mi rfl (Lw.r rfl (R.mkF (vs := [ptr (bx g1), ptr (bx g3)]) rfl) (cr hm (fun _ => p45_46 (k0 := 4) (c0 := 2) (c1 := 3) (x3 := x0) (x4 := x2) (Repo.rd (K := [0]) x0.Commits x0.Heads (h0_0.ul a4) (h0_1.ul a4)) (b1.up l3) (h0_0.ul a4) (h0_1.ul a4) b3 (h99.ul a4) rfl) ?_)))))
 rintro z9 v0_11 W11 hm l11 ⟨_, rfl, f11_0, f11_1, f11_2⟩
 have a12 := a4.t l11
 refine Nv v0_11 rfl ?_
 cases hm
 exact Cw.ret (ret1 rfl (Res.mk a12 ⟨v0_11, rfl, f11_0.s.sub rfl rfl⟩))

theorem p16 {x0 v0_0_ v0_1_ x1 x2 k0 r} (h0 : Rd W K [v0_0_, v0_1_] x0) (h99 : Gl 0 W K) (hm : Vm.impl_LogWho x0 x1 x2 = some r) : Q1 16 [.agg [v0_0_, v0_1_].toArray, vI x1, vS x2] W [] fun W' v => ∃ u0, v = u0 ∧ Ow W' k0 [] [u0] r :=
 (c16 (h0.view _) (h99.view _) hm).ad (fk k0) fun _ _ ⟨u0, e, f0⟩ => ⟨u0, e, f0.back (fk_LL _)⟩

theorem c17 {x0 v0_0_ v0_1_ x1 x2 r} (h0 : Rd W0 [0] [v0_0_, v0_1_] x0) (hm : Vm.spec_LogWho x0 x1 x2 = some r) : Q0 17 [.agg [v0_0_, v0_1_].toArray, vI x1, vS x2] W0 fun Wf v => ∃ u0, v = u0 ∧ OwS Wf LL [] [u0] r := by
 unfold Vm.spec_LogWho at hm
 obtain ⟨w0_0, w0_1, he0, h0_0, h0_1⟩ := Repo.split h0
 simp only [List.cons.injEq, and_true, true_and] at he0
 obtain ⟨rfl, rfl⟩ := he0
 refine CallR.of Tryz.func17 rfl rfl rfl rfl (sr (bo 2 rfl fun g1 W1 l1 b1 => ?_))
 have a2 := l1.o
 refine Nv (.slice none 0 0) rfl (sr (Lw.t rfl (T.lit0 (α := Int) 3 []) ?_))
 rintro v3 _ ⟨W3, rfl, l3, o3⟩
 have a4 := a2.n l3
 have b5 := b1.up l3
 refine Nv v3 rfl (Cw.seq ?_)
 obtain ⟨K8, hK8, hm⟩ := jn_e hm
 refine Cw.join 11 22 [22] (fun l w => ∃ y6 W7, CW.w W7 = w ∧ Le [] W3 W7 ∧ l = [vB y6] ∧ K8 y6 = some r) ?_ ?_
 ·rintro _ _ σ ⟨y6, W7, rfl, l7, rfl, hm⟩
  rw [hK8] at hm
  have a9 := a4.n l7
  refine cn hm (fun hm => ?_) fun hm => ?_
  ·refine sr (Nv (.slice none 0 0) rfl ?_)
   cases hm
   exact Cw.ret (ret1 rfl (Res.mk a9 ⟨.slice none 0 0, rfl, (owsN []).sub rfl rfl⟩))
  ·refine sk (sr (la (b5.up l7) (mi rfl (cr hm (fun _ => p47 (k0 := 4) (Repo.rd (K := [0]) x0.Commits x0.Heads (h0_0.ul a9) (h0_1.ul a9))) ?_))))
   rintro z15 v0_17 W17 hm l17 ⟨_, rfl, f17_0⟩
   have a18 := a9.n l17
   refine Nv v0_17 rfl (ssr (mv v0_17 rfl (Lw.ln z15 f17_0.rd rfl (Lw.sub rfl (Ni rfl (Cw.block ?_))))))
   obtain ⟨K26, hK26, hm⟩ := jn_e hm
   refine Cw.loop 29 50 [7, 9] (fun m l w => ∃ y21 y24 v22 W25, CW.w W25 = w ∧ Le [3] W17 W25 ∧ l = [v22, vI y24] ∧ Ow W25 3 [] [v22] y21 ∧ Vm.spec_LogWho_l1 x0 x2 z15 K26 m y21 y24 = some r) _ ⟨([] : List Int), w64 ((z15.length : Int) - 1), v3, W17, rfl, Le.refl _ _, rfl, ((o3.up l7).up l17), hm⟩ ?_
   rintro (_ | m27) _ _ σ ⟨y21, y24, v22, W25, rfl, l25, rfl, o23, hm⟩
   ·cases hm
   unfold Vm.spec_LogWho_l1 at hm
   have a28 := a18.t l25
   refine ssr (mi rfl (Lw.ge rfl (nl (cn hm (fun hm => ?_) fun hm => ?_))))
   ·refine sk ?_
    obtain ⟨K36, hK36, hm⟩ := jn_e hm
    refine Cw.join 33 50 [7] (fun l w => ∃ y32 v33 W35, CW.w W35 = w ∧ Le [3] W25 W35 ∧ l = [v33] ∧ Ow W35 3 [] [v33] y32 ∧ K36 y32 = some r) ?_ ?_
    ·rintro _ _ σ ⟨y32, v33, W35, rfl, l35, rfl, o34, hm⟩
     rw [hK36] at hm
     exact rg (mi rfl (Lw.sub rfl (Ni rfl ((agm) ⟨y32, w64 (y24 - 1), v33, W35, rfl, (l25.j l35).w, rfl, o34, hm⟩))))
    ·refine Cw.block (Cw.seq (Cw.draw [] [(0, 0), (1, 1), (2, 0), (3, 0), (4, 0), (5, 1), (6, 0), (7, 0), (8, 1), (9, 0), (10, 0)] mixed (by kernel_rfl) fun W40 l40 => ?_))
     have a41 := a28.n l40
     have o43 := (f17_0.up l25).up l40
     refine Dfl ((((b5.up l7).up l17).up l25).up l40) rfl rfl rfl (Dv v0_17 rfl (Di rfl ?_))
     obtain ⟨u45, e46, hm⟩ := ob hm
     refine Mw.p rfl rfl (fun _ => R.ix (α := Int) o43.rd e46 rfl rfl rfl) (Mw.q rfl rfl (fun _ c => R.ld rfl rfl (cl_cell (o43.rd.at_ e46).1 rfl (o43.rd.at_ e46).int c)) ?_)
     obtain ⟨u47, e48, hm⟩ := ob hm
     refine Mw.p rfl rfl (fun _ => R.ix (α := Commit) (h0_0.ul a41) e48 rfl rfl rfl) (Df rfl (Mw.q rfl rfl (fun _ c => R.ld rfl rfl (cl_cell (Commit.at1 ((h0_0.ul a41).at_ e48)).1 rfl (Commit.at1 ((h0_0.ul a41).at_ e48)).str c)) (Ds rfl (Mw.p rfl rfl (fun _ => R.seq rfl rfl) (Mw.nil (cn hm (fun hm => ?_) fun hm => ?_))))))
     ·refine rg (mv v22 rfl (mv v0_17 rfl (mi rfl ?_)))
      obtain ⟨u51, e52, hm⟩ := ob hm
      refine Lw.r rfl (R.ix (α := Int) o43.rd e52 rfl rfl rfl) (Lw.r rfl (R.ld rfl rfl (o43.rd.at_ e52).int) (Lw.t rfl (T.bs 5 [vI u51] (cs := [vI u51]) rfl rfl (bsv rfl)) ?_))
      rintro _ _ ⟨g53, W53, rfl, rfl, l53, b53⟩
      obtain ⟨q58, e59, hm⟩ := ob hm
      refine Lw.t rfl (T.app1S (α := Int) (K' := []) ((o23.up l40).up l53) b53 (rdI _) rfl rfl e59) ?_
      rintro v60 _ ⟨W60, rfl, l60, o60⟩
      exact Nv v60 rfl ((ag) ⟨q58, v60, W60, rfl, ((l40.j l53).j l60).w, rfl, o60, hm⟩)
     ·exact sk ((ag) ⟨y21, v22, W40, rfl, l40.w, rfl, (o23.up l40), hm⟩)
   ·refine Cw.exit ?_
    rw [hK26] at hm
    refine sr (mv v22 rfl (Nv v22 rfl ?_))
    cases hm
    exact Cw.ret (ret1 rfl (Res.mk a28 ⟨v22, rfl, o23.s.sub rfl rfl⟩))
 ·refine rg (la b5 (ca hm (fun _ => p38 (Repo.rd (K := [0]) x0.Commits x0.Heads (h0_0.ul a4) (h0_1.ul a4))) fun z67 W69 hm l69 => ?_))
  have a70 := a4.n l69
  refine Lw.r rfl (R.not rfl) (mb rfl (bs hm (fun hc73 hm => ?_) fun hc73 hm => ?_))
  ·exact psk 7 hc73 rfl (Pb hc73 rfl (nl ((ag) ⟨true, W69, rfl, l69, rfl, hm⟩)))
  ·exact wak 7 hc73 (mi rfl (fl (b5.up l69) rfl (Lw.ln x0.Commits (h0_0.ul a70) rfl (Lw.sub rfl (ca hm (fun _ => p39) fun z75 W77 hm l77 => Lw.r rfl (R.not rfl) (Pb hc73 rfl (nl ((ag) ⟨(!z75), W77, rfl, (l69.j l77).w, rfl, hm⟩))))))))

theorem p17 {x0 v0_0_ v0_1_ x1 x2 k0 r} (h0 : Rd W K [v0_0_, v0_1_] x0) (hm : Vm.spec_LogWho x0 x1 x2 = some r) : Q1 17 [.agg [v0_0_, v0_1_].toArray, vI x1, vS x2] W [] fun W' v => ∃ u0, v = u0 ∧ Ow W' k0 [] [u0] r :=
 (c17 (h0.view _) hm).ad (fk k0) fun _ _ ⟨u0, e, f0⟩ => ⟨u0, e, f0.back (fk_LL _)⟩

theorem c4 {x0 v0_ r} (h0 : Rd W0 [0] [v0_] x0) (h99 : Gl 0 W0 [0]) (hm : Vm.laws_FnLogWho x0 = some r) : Q0 4 [v0_] W0 fun Wf v => v = vB r := by
 unfold Vm.laws_FnLogWho at hm
 refine CallR.of Tryz.func4 rfl rfl rfl rfl (sr (Nb rfl (ssr (mv v0_ rfl (Lw.ln x0 h0 rfl (Lw.gt rfl (nl (cn hm (fun hm => ?_) fun hm => ?_))))))))
 ·exact sr (Nb rfl (.ret (rt hm (Le.refl _ _))))
 ·refine sk (sr (mv v0_ rfl (cr hm (fun _ => p15 (k0 := 2) (k1 := 3) h0) ?_)))
  rintro z2 _ W4 hm l4 ⟨v0_0_4, v0_1_4, rfl, f4_0, f4_1⟩
  have a5 := l4.o
  refine mv (.tuple [.agg [v0_0_4, v0_1_4].toArray, vI z2.2.1, vS z2.2.2].toArray) rfl (Lw.r rfl (R.ext (vs := [.agg [v0_0_4, v0_1_4].toArray, vI z2.2.1, vS z2.2.2]) (v := .agg [v0_0_4, v0_1_4].toArray) rfl rfl) (Lw.r rfl (R.ext (vs := [.agg [v0_0_4, v0_1_4].toArray, vI z2.2.1, vS z2.2.2]) (v := vI z2.2.1) rfl rfl) (Lw.r rfl (R.ext (vs := [.agg [v0_0_4, v0_1_4].toArray, vI z2.2.1, vS z2.2.2]) (v := vS z2.2.2) rfl rfl) (al 4 [.slice none 0 0, .slice none 0 0] fun g6 W6 l6 b6 => ?_))))
  have a7 := a5.n l6
  refine sta b6 (oc_cons (f4_0.up l6).oc (oc_cons (f4_1.up l6).oc oc_nil)) fun W10 l10 b10 => ?_
  have a11 := a7.t l10
  have o12 := (f4_0.up l6).up l10
  have o13 := (f4_1.up l6).up l10
  refine Gi rfl (Ns rfl (sr (la b10 (mi rfl (ms rfl (cr hm (fun _ => p16 (K := [0, 2, 3]) (k0 := 5) (x0 := (Vm.Repo.mk z2.1.Commits z2.1.Heads)) ((Repo.rd (K := [2, 3]) z2.1.Commits z2.1.Heads (o12.rd.sub (M := [2, 3]) rfl) (o13.rd.sub (M := [2, 3]) rfl)).sub (M := [0, 2, 3]) rfl) ((h99.ul a11).sub (M := [0, 2, 3]) rfl)) ?_))))))
  rintro z15 v0_17 W17 hm l17 ⟨_, rfl, f17_0⟩
  have a18 := a11.n l17
  have o19 := o12.up l17
  have o20 := o13.up l17
  have b21 := b10.up l17
  refine Nv v0_17 rfl (Cw.seq ?_)
  obtain ⟨K24, hK24, hm⟩ := jn_e hm
  refine Cw.join 23 45 [45] (fun l w => ∃ y22 W23, CW.w W23 = w ∧ Le [] W17 W23 ∧ l = [vB y22] ∧ K24 y22 = some r) ?_ ?_
  ·rintro _ _ σ ⟨y22, W23, rfl, l23, rfl, hm⟩
   rw [hK24] at hm
   have a25 := a18.n l23
   have o26 := o19.up l23
   have b29 := b21.up l23
   refine cn hm (fun hm => ?_) fun hm => ?_
   ·refine sr (mv v0_17 rfl (la b29 (mi rfl (ms rfl (cr hm (fun _ => p17 (K := [2, 3]) (k0 := 6) (x0 := (Vm.Repo.mk z2.1.Commits z2.1.Heads)) (Repo.rd (K := [2, 3]) z2.1.Commits z2.1.Heads (o26.rd.sub (M := [2, 3]) rfl) ((o20.up l23).rd.sub (M := [2, 3]) rfl))) ?_)))))
    rintro z31 v0_33 W33 hm l33 ⟨_, rfl, f33_0⟩
    have a34 := a25.n l33
    refine ca hm (fun _ => p12 (K := [5, 6]) (((f17_0.up l23).up l33).rd.sub (M := [5, 6]) rfl) (f33_0.rd.sub (M := [5, 6]) rfl)) fun z39 W41 hm l41 => ?_
    have a42 := a34.n l41
    exact Nb rfl (.ret (rt hm a42))
   ·refine sk (sr (la b29 (mi rfl (cr hm (fun _ => p19 (K := [0, 2, 3]) (k0 := 7) (x0 := (Vm.Repo.mk z2.1.Commits z2.1.Heads)) ((Repo.rd (K := [2, 3]) z2.1.Commits z2.1.Heads (o26.rd.sub (M := [2, 3]) rfl) ((o20.up l23).rd.sub (M := [2, 3]) rfl)).sub (M := [0, 2, 3]) rfl) ((h99.ul a25).sub (M := [0, 2, 3]) rfl)) ?_))))
    rintro z49 v0_51 W51 hm l51 ⟨_, rfl, f51_0⟩
    have a52 := a25.n l51
    refine Nv v0_51 rfl (sr (Ni rfl (ssr (mv v0_51 rfl (Lw.ln z49 f51_0.rd rfl (Lw.sub rfl (Ni rfl (Cw.block ?_))))))))
    obtain ⟨K61, hK61, hm⟩ := jn_e hm
    refine Cw.loop 58 89 [2, 8, 9] (fun m l w => ∃ y57 y58 y59 W60, CW.w W60 = w ∧ Le [] W51 W60 ∧ l = [vB y57, vI y58, vI y59] ∧ Vm.laws_FnLogWho_l1 z2 z15 z49 K61 m y57 y58 y59 = some r) _ ⟨false, 0, w64 ((z49.length : Int) - 1), W51, rfl, Le.refl _ _, rfl, hm⟩ ?_
    rintro (_ | m62) _ _ σ ⟨y57, y58, y59, W60, rfl, l60, rfl, hm⟩
    ·cases hm
    unfold Vm.laws_FnLogWho_l1 at hm
    have a63 := a52.n l60
    have o66 := ((f17_0.up l23).up l51).up l60
    refine ssr (mi rfl (Lw.ge rfl (nl (cn hm (fun hm => ?_) fun hm => ?_))))
    ·refine sk ?_
     obtain ⟨K73, hK73, hm⟩ := jn_e hm
     refine Cw.join 62 89 [2, 8] (fun l w => ∃ y70 y71 W72, CW.w W72 = w ∧ Le [] W60 W72 ∧ l = [vB y70, vI y71] ∧ K73 y70 y71 = some r) ?_ ?_
     ·rintro _ _ σ ⟨y70, y71, W72, rfl, l72, rfl, hm⟩
      rw [hK73] at hm
      exact rg (mi rfl (Lw.sub rfl (Ni rfl ((agm) ⟨y70, y71, w64 (y59 - 1), W72, rfl, (l60.j l72).w, rfl, hm⟩))))
     ·refine Cw.block (Cw.seq (Cw.draw [] [(0, 0), (1, 1), (2, 0), (3, 0), (4, 0), (5, 1), (6, 0), (7, 0), (8, 1), (9, 0), (10, 0)] mixed (by kernel_rfl) fun W80 l80 => ?_))
      have a81 := a63.n l80
      have o82 := ((o26.up l51).up l60).up l80
      have o85 := (f51_0.up l60).up l80
      refine Dfl (((b29.up l51).up l60).up l80) rfl rfl rfl (Dv v0_51 rfl (Di rfl ?_))
      obtain ⟨u87, e88, hm⟩ := ob hm
      refine Mw.p rfl rfl (fun _ => R.ix (α := Int) o85.rd e88 rfl rfl rfl) (Mw.q rfl rfl (fun _ c => R.ld rfl rfl (cl_cell (o85.rd.at_ e88).1 rfl (o85.rd.at_ e88).int c)) ?_)
      obtain ⟨u89, e90, hm⟩ := ob hm
      refine Mw.p rfl rfl (fun _ => R.ix (α := Commit) o82.rd e90 rfl rfl rfl) (Df rfl (Mw.q rfl rfl (fun _ c => R.ld rfl rfl (cl_cell (Commit.at1 (o82.rd.at_ e90)).1 rfl (Commit.at1 (o82.rd.at_ e90)).str c)) (Ds rfl (Mw.p rfl rfl (fun _ => R.seq rfl rfl) (Mw.nil (cn hm (fun hm => ?_) fun hm => ?_))))))
      ·refine Cw.seq ?_
       obtain ⟨K94, hK94, hm⟩ := jn_e hm
       refine Cw.join 73 87 [87] (fun l w => ∃ y92 W93, CW.w W93 = w ∧ Le [] W80 W93 ∧ l = [vB y92] ∧ K94 y92 = some r) ?_ ?_
       ·rintro _ _ σ ⟨y92, W93, rfl, l93, rfl, hm⟩
        rw [hK94] at hm
        have a95 := a81.n l93
        refine cn hm (fun hm => ?_) fun hm => ?_
        ·exact sr (Nb rfl (.ret (rt hm a95)))
        ·exact sk (rg (mi rfl (Lw.add rfl (Ni rfl ((ag) ⟨y57, w64 (y58 + 1), W93, rfl, (l80.j l93).w, rfl, hm⟩)))))
       ·refine Cw.draw [] [(0, 0), (1, 0), (2, 0), (3, 0), (4, 0), (5, 0), (6, 0), (7, 0), (8, 1), (9, 0), (10, 0), (11, 0), (12, 1), (13, 0), (14, 0)] mixed (by kernel_rfl) fun W102 l102 => ?_
        have o106 := (o66.up l80).up l102
        have o107 := o85.up l102
        refine Di rfl (Dv v0_17 rfl (Mw.p rfl rfl (fun _ => lenR (xs := z15) o106.rd rfl) (Mw.p rfl rfl (fun _ => R.ge rfl rfl) (Db rfl (bs hm (fun hc109 hm => ?_) fun hc109 hm => ?_)))))
        ·exact dps 9 hc109 rfl (Mw.p rfl rfl (fun _ => R.pk hc109 rfl (v := vB true) rfl) (Mw.nil ((ag) ⟨true, W102, rfl, l102, rfl, hm⟩)))
        ·refine Wp hc109 rfl (fun _ => R.mv (v := v0_17) rfl) (Wp hc109 rfl (fun _ => R.mv (v := vI y58) rfl) ?_)
         obtain ⟨u110, e111, hm⟩ := ob hm
         refine Wp hc109 rfl (fun _ => R.ix (α := Int) o106.rd e111 rfl rfl rfl) (Wq hc109 rfl (fun _ c => R.ld rfl rfl (cl_cell (o106.rd.at_ e111).1 rfl (o106.rd.at_ e111).int c)) (Wp hc109 rfl (fun _ => R.mv (v := v0_51) rfl) (Wp hc109 rfl (fun _ => R.mv (v := vI y59) rfl) ?_)))
         obtain ⟨u112, e113, hm⟩ := ob hm
         exact Wp hc109 rfl (fun _ => R.ix (α := Int) o107.rd e113 rfl rfl rfl) (Wq hc109 rfl (fun _ c => R.ld rfl rfl (cl_cell (o107.rd.at_ e113).1 rfl (o107.rd.at_ e113).int c)) (Wp hc109 rfl (fun _ => R.ne rfl rfl) (Mw.p rfl rfl (fun _ => R.pk hc109 rfl (v := vB ((u110 : Int) != (u112 : Int))) rfl) (Mw.nil ((ag) ⟨((u110 : Int) != (u112 : Int)), W102, rfl, l102, rfl, hm⟩)))))
      ·exact sk ((ag) ⟨y57, y58, W80, rfl, l80, rfl, hm⟩)
    ·refine Cw.exit ?_
     rw [hK61] at hm
     exact sr (mi rfl (mv v0_17 rfl (Lw.ln z15 o66.rd rfl (Lw.eq rfl (Nb rfl (.ret (rt hm a63)))))))
  ·refine rg (mv v0_17 rfl (la b21 (mi rfl (ms rfl (cr hm (fun _ => p17 (K := [2, 3]) (k0 := 8) (x0 := (Vm.Repo.mk z2.1.Commits z2.1.Heads)) (Repo.rd (K := [2, 3]) z2.1.Commits z2.1.Heads (o19.rd.sub (M := [2, 3]) rfl) (o20.rd.sub (M := [2, 3]) rfl))) ?_)))))
   rintro z114 v0_116 W116 hm l116 ⟨_, rfl, f116_0⟩
   have a117 := a18.n l116
   refine ca hm (fun _ => p12 (K := [5, 8]) ((f17_0.up l116).rd.sub (M := [5, 8]) rfl) (f116_0.rd.sub (M := [5, 8]) rfl)) fun z122 W124 hm l124 => ?_
   have a125 := a117.n l124
   have o126 := (o19.up l116).up l124
   have b130 := (b21.up l116).up l124
   refine Lw.r rfl (R.not rfl) (mb rfl (bs hm (fun hc131 hm => ?_) fun hc131 hm => ?_))
   ·exact psk 3 hc131 rfl (Pb hc131 rfl (mb rfl (psk 2 rfl rfl (Pb rfl rfl (mb rfl (psk 5 rfl rfl (Pb rfl rfl (nl ((ag) ⟨true, W124, rfl, (l116.j l124).w, rfl, hm⟩)))))))))
   ·refine wak 3 hc131 (la b130 (ca hm (fun _ => p18 (K := [0, 2, 3]) (x0 := (Vm.Repo.mk z2.1.Commits z2.1.Heads)) ((Repo.rd (K := [2, 3]) z2.1.Commits z2.1.Heads (o126.rd.sub (M := [2, 3]) rfl) (((o20.up l116).up l124).rd.sub (M := [2, 3]) rfl)).sub (M := [0, 2, 3]) rfl) ((h99.ul a125).sub (M := [0, 2, 3]) rfl)) fun z133 W135 hm l135 => Lw.r rfl (R.not rfl) (Pb hc131 rfl (mb rfl (bs hm (fun hc142 hm => ?_) fun hc142 hm => ?_)))))
    ·exact psk 2 hc142 rfl (Pb hc142 rfl (mb rfl (psk 5 rfl rfl (Pb rfl rfl (nl ((ag) ⟨true, W135, rfl, ((l116.j l124).j l135).w, rfl, hm⟩))))))
    ·refine wak 2 hc142 (mi rfl (Lw.lt rfl (Pb hc142 rfl (mb rfl (bs hm (fun hc143 hm => ?_) fun hc143 hm => ?_)))))
     ·exact psk 5 hc143 rfl (Pb hc143 rfl (nl ((ag) ⟨true, W135, rfl, ((l116.j l124).j l135).w, rfl, hm⟩)))
     ·exact wak 5 hc143 (mi rfl (fl (b130.up l135) rfl (Lw.ln z2.1.Commits (o126.up l135).rd rfl (Lw.ge rfl (Pb hc143 rfl (nl ((ag) ⟨decide (((z2.1.Commits.length : Int) : Int) ≤ (z2.2.1 : Int)), W135, rfl, ((l116.j l124).j l135).w, rfl, hm⟩)))))))

theorem p4 {x0 v0_ r} (h0 : Rd W K [v0_] x0) (h99 : Gl 0 W K) (hm : Vm.laws_FnLogWho x0 = some r) : Q1 4 [v0_] W [] fun W' v => v = vB r :=
 (c4 (h0.view _) (h99.view _) hm).ad (fk 0) fun _ _ e => e

end Go.Sx
