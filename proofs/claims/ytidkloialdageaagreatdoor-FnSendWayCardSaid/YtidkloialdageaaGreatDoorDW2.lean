/- Walks: each function answers as its model, printed by a program of ours. Conditions: the arguments read as they are given. -/
import Derived.Test.YtidkloialdageaaGreatDoorDTs
import Derived.Test.YtidkloialdageaaGreatDoorDM0
import Derived.Test.YtidkloialdageaaGreatDoorDW0
import Derived.Test.YtidkloialdageaaGreatDoorDW1
namespace Go.Sx
open Go Go.Proofs Go.Vm Rp
set_option linter.unusedVariables false
set_option linter.unusedSimpArgs false
variable {W W0 : CW} {K : List Nat}
theorem c129 {x0 v0_0_ v0_1_ x1 x2 r} (h0 : Rd W0 [0] [v0_0_, v0_1_] x0) (hm : Vm.spec_l7Head x0 x1 x2 = some r) : Q0 129 [.agg [v0_0_, v0_1_].toArray, vS x1, vI x2] W0 fun Wf v => ∃ u0_0 u0_1, v = .agg [u0_0, u0_1].toArray ∧ Rd Wf [0] [u0_0] r.Commits ∧ Rd Wf [0] [u0_1] r.Heads := by
 unfold Vm.spec_l7Head at hm
 obtain ⟨w0_0, w0_1, he0, h0_0, h0_1⟩ := Repo.split h0
 simp only [List.cons.injEq, and_true, true_and] at he0
 obtain ⟨rfl, rfl⟩ := he0
 refine CallR.of Tryz.func129 rfl rfl rfl rfl (sr (bo 2 rfl fun g1 W1 l1 b1 => ?_))
 have a2 := l1.o
 refine al 3 [.slice none 0 0, .slice none 0 0] fun g3 W3 l3 b3 => ?_
 have a4 := a2.n l3
 refine nl (sr (fl (b1.up l3) rfl (Lw.r rfl (R.bd (zs := [.slice none 0 0, .slice none 0 0]) (cs := [v0_0_, .slice none 0 0]) [(0, v0_0_)] rfl rfl rfl (bp_cons h0_0.oc rfl bp_nil)) (al 4 [.slice none 0 0, .slice none 0 0] fun g6 W6 l6 b6 => ?_))))
 have a7 := a4.n l6
 refine sta b6 (oc_cons h0_0.oc (oc_cons rfl oc_nil)) fun W10 l10 b10 => ?_
 have a11 := a7.t l10
 refine nl (sr (Nb rfl (ssr (Ni rfl (Cw.block ?_)))))
 obtain ⟨K24, hK24, hm⟩ := jn_e hm
 refine Cw.loop 13 57 [8, 9] (fun m l w => ∃ y14 y15 y16 y19 v17 v20 W23, CW.w W23 = w ∧ Le [4, 5] W10 W23 ∧ l = [vB y14, vI y15] ∧ Rd W23 [0] [v17] y16 ∧ Ow W23 5 [] [v20] y19 ∧ Bx W23 4 g6 [v17, v20] ∧ Vm.spec_l7Head_l1 x0 x1 x2 K24 m y14 y15 y16 y19 = some r) _ ⟨false, 0, x0.Commits, ([] : List Head), v0_0_, .slice none 0 0, W10, rfl, Le.refl _ _, rfl, (h0_0.ul a11), owN 5 [], b10, hm⟩ ?_
 rintro (_ | m26) _ _ σ ⟨y14, y15, y16, y19, v17, v20, W23, rfl, l23, rfl, r18, o21, b22, hm⟩
 ·cases hm
 unfold Vm.spec_l7Head_l1 at hm
 have a27 := a11.t l23
 have b28 := (((b1.up l3).up l6).up l10).up l23
 refine ssr ?_
 have s30 := h0_1.ul a27
 refine mi rfl (fl b28 rfl (Lw.ln x0.Heads s30 rfl (Lw.lt rfl (nl (cn hm (fun hm => ?_) fun hm => ?_)))))
 ·refine sk ?_
  obtain ⟨K41, hK41, hm⟩ := jn_e hm
  refine Cw.join 20 57 [8] (fun l w => ∃ y32 y33 y36 v34 v37 W40, CW.w W40 = w ∧ Le [4, 5] W23 W40 ∧ l = [vB y32] ∧ Rd W40 [0] [v34] y33 ∧ Ow W40 5 [] [v37] y36 ∧ Bx W40 4 g6 [v34, v37] ∧ K41 y32 y33 y36 = some r) ?_ ?_
  ·rintro _ _ σ ⟨y32, y33, y36, v34, v37, W40, rfl, l40, rfl, r35, o38, b39, hm⟩
   rw [hK41] at hm
   exact rg (mi rfl (Lw.add rfl (Ni rfl ((agm) ⟨y32, w64 (y15 + 1), y33, y36, v34, v37, W40, rfl, (l23.j l40).w, rfl, r35, o38, b39, hm⟩))))
  ·refine Cw.block ?_
   obtain ⟨K54, hK54, hm⟩ := jn_e hm
   refine Cw.join 20 39 [8] (fun l w => ∃ y45 y46 y49 v47 v50 W53, CW.w W53 = w ∧ Le [4, 5] W23 W53 ∧ l = [vB y45] ∧ Rd W53 [0] [v47] y46 ∧ Ow W53 5 [] [v50] y49 ∧ Bx W53 4 g6 [v47, v50] ∧ K54 y45 y46 y49 = some r) ?_ ?_
   ·rintro _ _ σ ⟨y45, y46, y49, v47, v50, W53, rfl, l53, rfl, r48, o51, b52, hm⟩
    rw [hK54] at hm
    have a55 := a27.t l53
    refine sr (fl (b28.up l53) rfl (mi rfl ?_))
    obtain ⟨u58, e59, hm⟩ := ob hm
    refine Lw.r rfl (R.ix (α := Head) (h0_1.ul a55) e59 rfl rfl rfl) (Lw.fa rfl (Lw.r rfl (R.ld rfl rfl (Head.at0 ((h0_1.ul a55).at_ e59)).str) (ms rfl (Lw.sne rfl (nl (cn hm (fun hm => ?_) fun hm => ?_))))))
    ·refine Cw.draw [5] [(0, 0), (1, 1), (2, 0), (3, 1), (4, 0), (5, 0), (6, 1), (7, 2), (8, 2), (9, 0), (10, 3)] mixed (by kernel_rfl) fun W62 l62 => ?_
     have a63 := l62.o
     refine Dfl (b52.up l62) rfl rfl rfl (Dfl ((b28.up l53).up l62) rfl rfl rfl (Di rfl ?_))
     obtain ⟨u68, e69, hm⟩ := ob hm
     have s70 := h0_1.ul (a55.trans a63)
     refine Mw.p rfl rfl (fun _ => R.ix (α := Head) s70 e69 rfl rfl rfl) ?_
     obtain ⟨x71, c72, _, r73⟩ := (s70.at_ e69).cells
     obtain rfl := Head.split r73
     refine Mw.q rfl rfl (fun _ c => R.lda (cl_cells (s70.at_ e69).1 rfl c72 c) rfl rfl) (Mw.t rfl rfl (T.bs 6 [.agg [vS u68.Name, vI u68.At].toArray] (cs := [vS u68.Name, vI u68.At]) rfl rfl (bsA rfl)) ?_)
     rintro _ _ ⟨g74, W74, rfl, rfl, l74, b74⟩
     have a75 := a63.n l74
     refine m0 l74 fun d74 => ?_
     obtain ⟨q80, e81, hm⟩ := ob hm
     refine Mw.t rfl rfl (T.app1S (α := Head) (K' := []) ((o51.up l62).up l74) b74 (Head.rd (K := []) u68.Name u68.At) rfl rfl e81) ?_
     rintro v82 _ ⟨W82, rfl, l82, o82⟩
     have a83 := a75.t l82
     refine mc d74 l82 fun d82 => Df rfl (Mw.lu rfl (T.st (j := 1) (v := v82) (((b52.up l62).up l74).up l82) rfl rfl o82.oc rfl rfl) ?_)
     rintro _ _ ⟨W88, rfl, l88, b88⟩
     have a89 := a83.t l88
     exact Mw.nil ((ag) ⟨y45, y46, q80, v47, v82, W88, rfl, ((((l53.j l62).j l74).j l82).j l88).w, rfl, (r48.ul a89), (o82.up l88), b88, hm⟩)
    ·exact sk ((ag) ⟨y45, y46, y49, v47, v50, W53, rfl, l53, rfl, r48, o51, b52, hm⟩)
   ·obtain ⟨K97, hK97, hm⟩ := jn_e hm
    refine Cw.join 20 31 [31] (fun l w => ∃ y95 W96, CW.w W96 = w ∧ Le [] W23 W96 ∧ l = [vB y95] ∧ K97 y95 = some r) ?_ ?_
    ·rintro _ _ σ ⟨y95, W96, rfl, l96, rfl, hm⟩
     rw [hK97] at hm
     have a98 := l96.o
     have b102 := b22.up l96
     refine cn hm (fun hm => ?_) fun hm => ?_
     ·refine sr (fl b102 rfl (ms rfl (mi rfl (Lw.r rfl (R.bd (zs := [vS ([] : Str), vI 0]) (cs := [vS x1, vI x2]) [(0, vS x1), (1, vI x2)] rfl rfl rfl (bp_cons rfl rfl (bp_cons rfl rfl bp_nil))) (Lw.t rfl (T.bs 7 [.agg [vS x1, vI x2].toArray] (cs := [vS x1, vI x2]) rfl rfl (bsA rfl)) ?_)))))
      rintro _ _ ⟨g104, W104, rfl, rfl, l104, b104⟩
      have a105 := a98.n l104
      obtain ⟨q110, e111, hm⟩ := ob hm
      refine Lw.t rfl (T.app1S (α := Head) (K' := []) ((o21.up l96).up l104) b104 (Head.rd (K := []) x1 x2) rfl rfl e111) ?_
      rintro v112 _ ⟨W112, rfl, l112, o112⟩
      have a113 := a105.t l112
      refine Lw.fa rfl (Lw.u (T.st (j := 1) (v := v112) ((b102.up l104).up l112) rfl rfl o112.oc rfl rfl) ?_)
      rintro _ _ ⟨W118, rfl, l118, b118⟩
      have a119 := a113.t l118
      exact nl (rg (Nb rfl ((ag) ⟨true, y16, q110, v17, v112, W118, rfl, (((l96.j l104).j l112).j l118).w, rfl, (r18.ul a119), (o112.up l118), b118, hm⟩)))
     ·exact sk ((ag) ⟨y14, y16, y19, v17, v20, W96, rfl, l96.w, rfl, (r18.ul a98), (o21.up l96), b102, hm⟩)
    ·refine rg (mb rfl (Lw.r rfl (R.not rfl) (mb rfl (bs hm (fun hc126 hm => ?_) fun hc126 hm => ?_))))
     ·refine wak 8 hc126 (fl b28 rfl (mi rfl ?_))
      obtain ⟨u127, e128, hm⟩ := ob hm
      exact Lw.r rfl (R.ix (α := Head) s30 e128 rfl rfl rfl) (Lw.fa rfl (Lw.r rfl (R.ld rfl rfl (Head.at0 (s30.at_ e128)).str) (ms rfl (Lw.r rfl (R.sge rfl rfl) (Pb hc126 rfl (nl ((ag) ⟨(!Op.bytesLess u127.Name x1), W23, rfl, Le.refl _ _, rfl, hm⟩)))))))
     ·exact psk 8 hc126 rfl (Pb hc126 rfl (nl ((ag) ⟨false, W23, rfl, Le.refl _ _, rfl, hm⟩)))
 ·refine Cw.exit ?_
  rw [hK24] at hm
  obtain ⟨K137, hK137, hm⟩ := jn_e hm
  refine Cw.join 58 67 [] (fun l w => ∃ y129 y132 v130 v133 W136, CW.w W136 = w ∧ Le [4, 5] W23 W136 ∧ l = [] ∧ Rd W136 [0] [v130] y129 ∧ Ow W136 5 [] [v133] y132 ∧ Bx W136 4 g6 [v130, v133] ∧ K137 y129 y132 = some r) ?_ ?_
  ·rintro _ _ σ ⟨y129, y132, v130, v133, W136, rfl, l136, rfl, r131, o134, b135, hm⟩
   rw [hK137] at hm
   have a138 := a27.t l136
   refine sr (la b135 (sta ((((b3.up l6).up l10).up l23).up l136) (oc_cons r131.oc (oc_cons o134.oc oc_nil)) fun W141 l141 b141 => ?_))
   have a142 := l141.s
   refine nl ?_
   obtain ⟨W146, ew146, l146, dj146⟩ := dyeE _ 5
   have s147 : Rd (α := List Vm.Head) W146 [0] [v133] y132 := by rw [dj146]; exact ((o134.up l141).rd.dye 5).sub (M := [0]) rfl
   have a148 := l146.s
   cases hm
   rw [← ew146]
   exact Cw.ret (retA1 rfl (b141.up l146) (Res.mk ((a138.trans a142).trans a148) ⟨v130, v133, rfl, (r131.ul (a142.trans a148)), s147⟩))
  ·refine sr (mb rfl (Lw.r rfl (R.not rfl) (nl (cn hm (fun hm => ?_) fun hm => ?_))))
   ·refine rg (fl b22 rfl (ms rfl (mi rfl (Lw.r rfl (R.bd (zs := [vS ([] : Str), vI 0]) (cs := [vS x1, vI x2]) [(0, vS x1), (1, vI x2)] rfl rfl rfl (bp_cons rfl rfl (bp_cons rfl rfl bp_nil))) (Lw.t rfl (T.bs 8 [.agg [vS x1, vI x2].toArray] (cs := [vS x1, vI x2]) rfl rfl (bsA rfl)) ?_)))))
    rintro _ _ ⟨g154, W154, rfl, rfl, l154, b154⟩
    have a155 := l154.o
    obtain ⟨q160, e161, hm⟩ := ob hm
    refine Lw.t rfl (T.app1S (α := Head) (K' := []) (o21.up l154) b154 (Head.rd (K := []) x1 x2) rfl rfl e161) ?_
    rintro v162 _ ⟨W162, rfl, l162, o162⟩
    have a163 := a155.t l162
    refine Lw.fa rfl (Lw.u (T.st (j := 1) (v := v162) ((b22.up l154).up l162) rfl rfl o162.oc rfl rfl) ?_)
    rintro _ _ ⟨W168, rfl, l168, b168⟩
    have a169 := a163.t l168
    exact nl ((ag) ⟨y16, q160, v17, v162, W168, rfl, ((l154.j l162).j l168).w, rfl, (r18.ul a169), (o162.up l168), b168, hm⟩)
   ·exact sk ((ag) ⟨y16, y19, v17, v20, W23, rfl, Le.refl _ _, rfl, r18, o21, b22, hm⟩)
theorem p129 {x0 v0_0_ v0_1_ x1 x2 r} (h0 : Rd W K [v0_0_, v0_1_] x0) (hm : Vm.spec_l7Head x0 x1 x2 = some r) : Q1 129 [.agg [v0_0_, v0_1_].toArray, vS x1, vI x2] W [] fun W' v => ∃ u0_0 u0_1, v = .agg [u0_0, u0_1].toArray ∧ Rd W' (0 :: K) [u0_0] r.Commits ∧ Rd W' (0 :: K) [u0_1] r.Heads :=
 (c129 (h0.view _) hm).ad (fk 0) fun _ _ ⟨u0_0, u0_1, e, f0, f1⟩ => ⟨u0_0, u0_1, e, f0.back rfl, f1.back rfl⟩
theorem c134 {x0 v0_0_ v0_1_ x1 x2 v2_0_ v2_2_ r} (h0 : Rd W0 [0] [v0_0_, v0_1_] x0) (h2 : Rd W0 [0] [v2_0_, vS x2.Who, v2_2_] x2) (hm : Vm.spec_l7Add x0 x1 x2 = some r) : Q0 134 [.agg [v0_0_, v0_1_].toArray, vS x1, .agg [v2_0_, vS x2.Who, v2_2_].toArray] W0 fun Wf v => ∃ u0_0 u0_1, v = .agg [u0_0, u0_1].toArray ∧ Rd Wf [0] [u0_0] r.Commits ∧ Rd Wf [0] [u0_1] r.Heads := by
 unfold Vm.spec_l7Add at hm
 obtain ⟨w0_0, w0_1, he0, h0_0, h0_1⟩ := Repo.split h0
 simp only [List.cons.injEq, and_true, true_and] at he0
 obtain ⟨rfl, rfl⟩ := he0
 obtain ⟨w2_0, w2_1, he2, h2_0, h2_2⟩ := Commit.split h2
 simp only [List.cons.injEq, and_true, true_and] at he2
 obtain ⟨rfl, rfl⟩ := he2
 refine CallR.of Tryz.func134 rfl rfl rfl rfl (sr (bo 2 rfl fun g1 W1 l1 b1 => ?_))
 have a2 := l1.o
 refine bo 3 rfl fun g3 W3 l3 b3 => ?_
 have a4 := a2.n l3
 refine al 4 [.slice none 0 0, .slice none 0 0] fun g6 W6 l6 b6 => ?_
 have a7 := a4.n l6
 refine nl (Cw.seq ?_)
 obtain ⟨q26, e27, hm⟩ := ob hm
 obtain ⟨q41, e42, hm⟩ := ob hm
 refine Cw.par [[], [], [1], [0, 1, 2], [], [4], [0, 1, 2, 3, 4, 5], [], [7], [0, 1, 2, 3, 4, 5, 6, 7, 8], [], [0, 1, 2, 3, 4, 5, 6, 7, 8, 9, 10]] [[], [], [1], [0, 2], [], [4], [3, 5], [], [7], [6, 8], [], [6, 9, 10]] [[], [], [], [5], [], [], [5], [], [], [], [], [7]] [[0], [1], [2], [3], [4], [5], [6], [7], [8], [6, 9], [10], [6, 10]] [[5], [], [], [0, 5], [], [6], [0, 5], [], [], [], [7], [7]] [1, 2, 4, 5, 6, 7, 8, 9, 11] [5, 7] [fun vs W => Ow W 5 [] [(vs 0)] ([] : List Commit), fun vs W => (vs 1) = ptr ((bx g1).add 0), fun vs W => (vs 2) = v0_0_, fun vs W => Ow (α := List (Sh Vm.Commit)) W 5 [0] [(vs 3)] q26, fun vs W => (vs 4) = .agg [v2_0_, vS x2.Who, v2_2_].toArray, fun vs W => (vs 5) = .slice (some (bx (pg (vs 5)))) 1 1 ∧ Bx W 6 (pg (vs 5)) [v2_0_, vS x2.Who, v2_2_], fun vs W => Ow (α := List (Sh Vm.Commit)) W 5 [0] [(vs 6)] q41, fun vs W => (vs 7) = ptr ((bx g1).add 1), fun vs W => (vs 8) = v0_1_, fun vs W => (vs 9) = .agg [(vs 6), v0_1_].toArray, fun vs W => (vs 10) = ptr (bx (pg (vs 10))) ∧ Bx W 7 (pg (vs 10)) [.slice none 0 0, .slice none 0 0], fun vs W => (vs 10) = ptr (bx (pg (vs 10))) ∧ Bx W 7 (pg (vs 10)) [(vs 6), v0_1_]] [] mixed (by kernel_rfl) rfl AllF.nil ?_
 intro W63 l63
 have a64 := a7.n l63
 have b65 := ((b1.up l3).up l6).up l63
 refine ⟨(Steps.cons ?_ (Steps.cons ?_ (Steps.cons ?_ (Steps.cons ?_ (Steps.cons ?_ (Steps.cons ?_ (Steps.cons ?_ (Steps.cons ?_ (Steps.cons ?_ (Steps.cons ?_ (Steps.cons ?_ (Steps.cons ?_ Steps.nil)))))))))))), (Sups.cons (fun vs vs' W W' _ hv l hd h => by (show Ow W' 5 [] [(vs' 0)] ([] : List Commit)); rw [hv 0 (anyb rfl)]; exact h.upv l (disj_mem hd (c := 5) rfl)) (Sups.cons (fun vs vs' W W' _ hv l hd h => by (show (vs' 1) = ptr ((bx g1).add 0)); rw [hv 1 (anyb rfl)]; exact h) (Sups.cons (fun vs vs' W W' _ hv l hd h => by (show (vs' 2) = v0_0_); rw [hv 2 (anyb rfl)]; exact h) (Sups.cons (fun vs vs' W W' _ hv l hd h => by (show Ow (α := List (Sh Vm.Commit)) W' 5 [0] [(vs' 3)] q26); rw [hv 3 (anyb rfl)]; exact h.up l (disj_sub hd (K := [5, 0]) rfl)) (Sups.cons (fun vs vs' W W' _ hv l hd h => by (show (vs' 4) = .agg [v2_0_, vS x2.Who, v2_2_].toArray); rw [hv 4 (anyb rfl)]; exact h) (Sups.cons (fun vs vs' W W' _ hv l hd h => by (show (vs' 5) = .slice (some (bx (pg (vs' 5)))) 1 1 ∧ Bx W' 6 (pg (vs' 5)) [v2_0_, vS x2.Who, v2_2_]); rw [hv 5 (anyb rfl)]; exact ⟨h.1, h.2.up l (disj_mem hd (c := 6) rfl)⟩) (Sups.cons (fun vs vs' W W' _ hv l hd h => by (show Ow (α := List (Sh Vm.Commit)) W' 5 [0] [(vs' 6)] q41); rw [hv 6 (anyb rfl)]; exact h.up l (disj_sub hd (K := [5, 0]) rfl)) (Sups.cons (fun vs vs' W W' _ hv l hd h => by (show (vs' 7) = ptr ((bx g1).add 1)); rw [hv 7 (anyb rfl)]; exact h) (Sups.cons (fun vs vs' W W' _ hv l hd h => by (show (vs' 8) = v0_1_); rw [hv 8 (anyb rfl)]; exact h) (Sups.cons (fun vs vs' W W' _ hv l hd h => by (show (vs' 9) = .agg [(vs' 6), v0_1_].toArray); rw [hv 6 (anyb rfl), hv 9 (anyb rfl)]; exact h) (Sups.cons (fun vs vs' W W' _ hv l hd h => by (show (vs' 10) = ptr (bx (pg (vs' 10))) ∧ Bx W' 7 (pg (vs' 10)) [.slice none 0 0, .slice none 0 0]); rw [hv 10 (anyb rfl)]; exact ⟨h.1, h.2.up l (disj_mem hd (c := 7) rfl)⟩) (Sups.cons (fun vs vs' W W' _ hv l hd h => by (show (vs' 10) = ptr (bx (pg (vs' 10))) ∧ Bx W' 7 (pg (vs' 10)) [(vs' 6), v0_1_]); rw [hv 6 (anyb rfl), hv 10 (anyb rfl)]; exact ⟨h.1, h.2.up l (disj_mem hd (c := 7) rfl)⟩) Sups.nil)))))))))))), ?_⟩
 ·intro vs W lW hN
  obtain ⟨W68, hW68⟩ : ∃ X, X = W := ⟨W, rfl⟩
  subst hW68
  refine Tr.mono (T.lit0 (α := Commit) 5 []) ?_
  rintro v73 _ ⟨W73, rfl, l73, o73⟩
  exact ⟨W73, rfl, l73, (show Ow W73 5 [] [v73] ([] : List Commit) from o73)⟩
 ·intro vs W lW hN
  obtain ⟨W78, hW78⟩ : ∃ X, X = W := ⟨W, rfl⟩
  subst hW78
  refine Tr.mono (Run.tr (R.fa rfl)) ?_
  rintro _ _ ⟨hu, rfl⟩
  obtain rfl := hu.symm
  exact ⟨W78, rfl, Le.refl _ _, (show (ptr ((bx g1).add 0) : Value) = ptr ((bx g1).add 0) from rfl)⟩
 ·intro vs W lW hN
  obtain ⟨W83, hW83⟩ : ∃ X, X = W := ⟨W, rfl⟩
  subst hW83
  have e1_ : vs 1 = ptr ((bx g1).add 0) := (hN 1 (anyb rfl))
  obtain ⟨vs, rfl⟩ := up_eq e1_
  refine Tr.mono (Run.tr (R.ld (v := v0_0_) rfl rfl ((b65.up lW rfl).cell rfl))) ?_
  rintro _ _ ⟨hu, rfl⟩
  obtain rfl := hu.symm
  exact ⟨W83, rfl, Le.refl _ _, (show (v0_0_ : Value) = v0_0_ from rfl)⟩
 ·intro vs W lW hN
  obtain ⟨W88, hW88⟩ : ∃ X, X = W := ⟨W, rfl⟩
  subst hW88
  have a89 := a64.t lW rfl
  obtain ⟨pv0, e0_⟩ : ∃ v, vs 0 = v := ⟨_, rfl⟩
  obtain ⟨vs, rfl⟩ := up_eq e0_
  have o93 : Ow W88 5 [] [pv0] ([] : List Commit) := (hN 0 (anyb rfl))
  have e2_ : vs 2 = v0_0_ := (hN 2 (anyb rfl))
  obtain ⟨vs, rfl⟩ := up_eq e2_
  obtain ⟨W94, ew94, l94, o94⟩ := o93.toSh
  rw [← ew94]
  have a95 := a89.t l94
  refine Tr.mono (T.appS (α := Sh Vm.Commit) (K' := [0]) o94 (h0_0.ul a95).shL rfl rfl e27) ?_
  rintro v100 _ ⟨W100, rfl, l100, o100⟩
  exact ⟨W100, rfl, ((l94.sub (M := [5]) rfl).trans (l100.sub (M := [5]) rfl)), (show Ow (α := List (Sh Vm.Commit)) W100 5 [0] [v100] q26 from o100)⟩
 ·intro vs W lW hN
  obtain ⟨W105, hW105⟩ : ∃ X, X = W := ⟨W, rfl⟩
  subst hW105
  refine Tr.mono (Run.tr (R.lda (cs := [v2_0_, vS x2.Who, v2_2_]) (((b3.up l6).up l63).up lW rfl).cells rfl rfl)) ?_
  rintro _ _ ⟨hu, rfl⟩
  obtain rfl := hu.symm
  exact ⟨W105, rfl, Le.refl _ _, (show (.agg [v2_0_, vS x2.Who, v2_2_].toArray : Value) = .agg [v2_0_, vS x2.Who, v2_2_].toArray from rfl)⟩
 ·intro vs W lW hN
  obtain ⟨W110, hW110⟩ : ∃ X, X = W := ⟨W, rfl⟩
  subst hW110
  have e4_ : vs 4 = .agg [v2_0_, vS x2.Who, v2_2_].toArray := (hN 4 (anyb rfl))
  obtain ⟨vs, rfl⟩ := up_eq e4_
  refine Tr.mono (T.bs 6 [.agg [v2_0_, vS x2.Who, v2_2_].toArray] (cs := [v2_0_, vS x2.Who, v2_2_]) rfl rfl (bsA rfl)) ?_
  rintro _ _ ⟨g115, W115, rfl, rfl, l115, b115⟩
  exact ⟨W115, rfl, l115, (show (.slice (some (bx g115)) 1 1 : Value) = .slice (some (bx g115)) 1 1 ∧ Bx W115 6 g115 [v2_0_, vS x2.Who, v2_2_] from ⟨rfl, b115⟩)⟩
 ·intro vs W lW hN
  obtain ⟨W120, hW120⟩ : ∃ X, X = W := ⟨W, rfl⟩
  subst hW120
  have a121 := a64.t lW rfl
  obtain ⟨pv3, e3_⟩ : ∃ v, vs 3 = v := ⟨_, rfl⟩
  obtain ⟨vs, rfl⟩ := up_eq e3_
  have o125 : Ow (α := List (Sh Vm.Commit)) W120 5 [0] [pv3] q26 := (hN 3 (anyb rfl))
  obtain ⟨pg5, e5_⟩ : ∃ pg5, vs 5 = .slice (some (bx pg5)) 1 1 := ⟨_, ((hN 5 (anyb rfl))).1⟩
  obtain ⟨vs, rfl⟩ := up_eq e5_
  have o126 : Bx W120 6 pg5 [v2_0_, vS x2.Who, v2_2_] := (hN 5 (anyb rfl)).2
  refine Tr.mono (T.app1S (α := Sh Vm.Commit) (K' := [0]) o125 o126 (Commit.rd (K := [0]) x2.Parents x2.Who x2.Tree (h2_0.ul a121) (h2_2.ul a121)).sh1 rfl rfl e42) ?_
  rintro v129 _ ⟨W129, rfl, l129, o129⟩
  exact ⟨W129, rfl, l129, (show Ow (α := List (Sh Vm.Commit)) W129 5 [0] [v129] q41 from o129)⟩
 ·intro vs W lW hN
  obtain ⟨W135, hW135⟩ : ∃ X, X = W := ⟨W, rfl⟩
  subst hW135
  refine Tr.mono (Run.tr (R.fa rfl)) ?_
  rintro _ _ ⟨hu, rfl⟩
  obtain rfl := hu.symm
  exact ⟨W135, rfl, Le.refl _ _, (show (ptr ((bx g1).add 1) : Value) = ptr ((bx g1).add 1) from rfl)⟩
 ·intro vs W lW hN
  obtain ⟨W140, hW140⟩ : ∃ X, X = W := ⟨W, rfl⟩
  subst hW140
  have e7_ : vs 7 = ptr ((bx g1).add 1) := (hN 7 (anyb rfl))
  obtain ⟨vs, rfl⟩ := up_eq e7_
  refine Tr.mono (Run.tr (R.ld (v := v0_1_) rfl rfl ((b65.up lW rfl).cell rfl))) ?_
  rintro _ _ ⟨hu, rfl⟩
  obtain rfl := hu.symm
  exact ⟨W140, rfl, Le.refl _ _, (show (v0_1_ : Value) = v0_1_ from rfl)⟩
 ·intro vs W lW hN
  obtain ⟨W145, hW145⟩ : ∃ X, X = W := ⟨W, rfl⟩
  subst hW145
  obtain ⟨pv6, e6_⟩ : ∃ v, vs 6 = v := ⟨_, rfl⟩
  obtain ⟨vs, rfl⟩ := up_eq e6_
  have o150 : Ow (α := List (Sh Vm.Commit)) W145 5 [0] [pv6] q41 := (hN 6 (anyb rfl))
  have e8_ : vs 8 = v0_1_ := (hN 8 (anyb rfl))
  obtain ⟨vs, rfl⟩ := up_eq e8_
  refine Tr.mono (Run.tr (R.bd (zs := [.slice none 0 0, .slice none 0 0]) (cs := [pv6, v0_1_]) [(0, pv6), (1, v0_1_)] rfl rfl rfl (bp_cons o150.oc rfl (bp_cons h0_1.oc rfl bp_nil)))) ?_
  rintro _ _ ⟨hu, rfl⟩
  obtain rfl := hu.symm
  exact ⟨W145, rfl, Le.refl _ _, (show (.agg [pv6, v0_1_].toArray : Value) = .agg [pv6, v0_1_].toArray from rfl)⟩
 ·intro vs W lW hN
  obtain ⟨W151, hW151⟩ : ∃ X, X = W := ⟨W, rfl⟩
  subst hW151
  refine Tr.mono (T.alloc 7 (cs := [.slice none 0 0, .slice none 0 0]) rfl) ?_
  rintro _ _ ⟨g156, W156, rfl, rfl, l156, b156⟩
  exact ⟨W156, rfl, l156, (show (ptr (bx g156) : Value) = ptr (bx g156) ∧ Bx W156 7 g156 [.slice none 0 0, .slice none 0 0] from ⟨rfl, b156⟩)⟩
 ·intro vs W lW hN
  obtain ⟨W161, hW161⟩ : ∃ X, X = W := ⟨W, rfl⟩
  subst hW161
  obtain ⟨pv6, e6_⟩ : ∃ v, vs 6 = v := ⟨_, rfl⟩
  obtain ⟨vs, rfl⟩ := up_eq e6_
  have o166 : Ow (α := List (Sh Vm.Commit)) W161 5 [0] [pv6] q41 := (hN 6 (anyb rfl))
  have e9_ : vs 9 = .agg [pv6, v0_1_].toArray := (hN 9 (anyb rfl))
  obtain ⟨vs, rfl⟩ := up_eq e9_
  obtain ⟨pg10, e10_⟩ : ∃ pg10, vs 10 = ptr (bx pg10) := ⟨_, ((hN 10 (anyb rfl))).1⟩
  obtain ⟨vs, rfl⟩ := up_eq e10_
  have o167 : Bx W161 7 pg10 [.slice none 0 0, .slice none 0 0] := (hN 10 (anyb rfl)).2
  refine Tr.mono (T.sta (vs := [pv6, v0_1_]) o167 rfl rfl (oc_cons o166.oc (oc_cons h0_1.oc oc_nil)) rfl rfl) ?_
  rintro _ _ ⟨W168, rfl, l168, b168⟩
  exact ⟨W168, rfl, l168, (show (ptr (bx pg10)) = ptr (bx pg10) ∧ Bx W168 7 pg10 [pv6, v0_1_] from ⟨rfl, b168⟩)⟩
 ·intro vs W lW hN
  obtain ⟨W174, hW174⟩ : ∃ X, X = W := ⟨W, rfl⟩
  subst hW174
  have a175 := a64.t lW rfl
  obtain ⟨l174, hl174⟩ : ∃ x, x = lW := ⟨lW, rfl⟩
  have e1_ : vs 1 = ptr ((bx g1).add 0) := (hN 1 (anyb rfl))
  obtain ⟨vs, rfl⟩ := up_eq e1_
  have e2_ : vs 2 = v0_0_ := (hN 2 (anyb rfl))
  obtain ⟨vs, rfl⟩ := up_eq e2_
  have e4_ : vs 4 = .agg [v2_0_, vS x2.Who, v2_2_].toArray := (hN 4 (anyb rfl))
  obtain ⟨vs, rfl⟩ := up_eq e4_
  obtain ⟨pg5, e5_⟩ : ∃ pg5, vs 5 = .slice (some (bx pg5)) 1 1 := ⟨_, ((hN 5 (anyb rfl))).1⟩
  obtain ⟨vs, rfl⟩ := up_eq e5_
  have o179 : Bx W174 6 pg5 [v2_0_, vS x2.Who, v2_2_] := (hN 5 (anyb rfl)).2
  obtain ⟨pv6, e6_⟩ : ∃ v, vs 6 = v := ⟨_, rfl⟩
  obtain ⟨vs, rfl⟩ := up_eq e6_
  have o180 : Ow (α := List (Sh Vm.Commit)) W174 5 [0] [pv6] q41 := (hN 6 (anyb rfl))
  have e7_ : vs 7 = ptr ((bx g1).add 1) := (hN 7 (anyb rfl))
  obtain ⟨vs, rfl⟩ := up_eq e7_
  have e8_ : vs 8 = v0_1_ := (hN 8 (anyb rfl))
  obtain ⟨vs, rfl⟩ := up_eq e8_
  have e9_ : vs 9 = .agg [pv6, v0_1_].toArray := (hN 9 (anyb rfl))
  obtain ⟨vs, rfl⟩ := up_eq e9_
  obtain ⟨pg10, e10_⟩ : ∃ pg10, vs 10 = ptr (bx pg10) := ⟨_, (hN 11 (anyb rfl)).1⟩
  obtain ⟨vs, rfl⟩ := up_eq e10_
  have o181 : Bx W174 7 pg10 [pv6, v0_1_] := (hN 11 (anyb rfl)).2
  refine sr (Lw.r rfl (R.lda (cs := [pv6, v0_1_]) o181.cells rfl rfl) (ms rfl (fl (b65.up lW rfl) rfl (Lw.ln x0.Commits (h0_0.ul a175) rfl ?_))))
  have s183 : Rd (α := List Vm.Commit) W174 [5, 0] [pv6] q41 := Ow.rdSh o180
  refine cr hm (fun _ => p129 (K := [0, 5]) (x0 := (Vm.Repo.mk q41 x0.Heads)) (Repo.rd (K := [0, 5]) q41 x0.Heads (s183.sub (M := [0, 5]) rfl) ((h0_1.ul a175).sub (M := [0, 5]) rfl))) ?_
  rintro z185 _ W187 hm l187 ⟨v0_0_187, v0_1_187, rfl, f187_0, f187_1⟩
  have s188 := f187_0.sub (M := [0, 5]) rfl
  have s189 := f187_1.sub (M := [0, 5]) rfl
  have a190 := a175.n l187
  refine sta (((b6.up l63).up lW rfl).up l187) (oc_cons s188.oc (oc_cons s189.oc oc_nil)) fun W197 l197 b197 => ?_
  have a198 := a190.t l197
  refine nl ?_
  have s204 := s188.up (l197.sub (M := [4]) rfl) rfl
  have s205 := s189.up (l197.sub (M := [4]) rfl) rfl
  obtain ⟨W206, ew206, l206, dj206⟩ := dyeE _ 5
  have s207 : Rd W206 [0] [v0_0_187] z185.Commits := by rw [dj206]; exact (s204.dye 5).sub (M := [0]) rfl
  have s208 : Rd W206 [0] [v0_1_187] z185.Heads := by rw [dj206]; exact (s205.dye 5).sub (M := [0]) rfl
  have s209 : Rd (α := List Vm.Commit) W206 [0] [pv6] q41 := by rw [dj206]; exact (((o180.up l187).up l197).rd.dye 5).sub (M := [0]) rfl
  have a210 := a198.t l206
  cases hm
  rw [← ew206]
  exact Cw.ret (retA1 rfl (b197.up l206) (Res.mk a210 ⟨v0_0_187, v0_1_187, rfl, s207, s208⟩))
theorem p134 {x0 v0_0_ v0_1_ x1 x2 v2_0_ v2_2_ r} (h0 : Rd W K [v0_0_, v0_1_] x0) (h2 : Rd W K [v2_0_, vS x2.Who, v2_2_] x2) (hm : Vm.spec_l7Add x0 x1 x2 = some r) : Q1 134 [.agg [v0_0_, v0_1_].toArray, vS x1, .agg [v2_0_, vS x2.Who, v2_2_].toArray] W [] fun W' v => ∃ u0_0 u0_1, v = .agg [u0_0, u0_1].toArray ∧ Rd W' (0 :: K) [u0_0] r.Commits ∧ Rd W' (0 :: K) [u0_1] r.Heads :=
 (c134 (h0.view _) (h2.view _) hm).ad (fk 0) fun _ _ ⟨u0_0, u0_1, e, f0, f1⟩ => ⟨u0_0, u0_1, e, f0.back rfl, f1.back rfl⟩
theorem c63 {x0 v0_0_ v0_1_ x1 x2 x3 v3_ r} (h0 : Rd W0 [0] [v0_0_, v0_1_] x0) (h3 : Rd W0 [0] [v3_] x3) (hm : Vm.spec_RepoCommit x0 x1 x2 x3 = some r) : Q0 63 [.agg [v0_0_, v0_1_].toArray, vS x1, vS x2, v3_] W0 fun Wf v => ∃ u0_0 u0_1, v = .tuple [.agg [u0_0, u0_1].toArray, vB r.2].toArray ∧ Rd Wf [0] [u0_0] r.1.Commits ∧ Rd Wf [0] [u0_1] r.1.Heads := by
 unfold Vm.spec_RepoCommit at hm
 obtain ⟨w0_0, w0_1, he0, h0_0, h0_1⟩ := Repo.split h0
 simp only [List.cons.injEq, and_true, true_and] at he0
 obtain ⟨rfl, rfl⟩ := he0
 refine CallR.of Tryz.func63 rfl rfl rfl rfl (sr (bo 2 rfl fun g1 W1 l1 b1 => ?_))
 have a2 := l1.o
 refine al 3 [.slice none 0 0, .slice none 0 0] fun g3 W3 l3 b3 => ?_
 have a4 := a2.n l3
 refine Nb rfl (ssr (la (b1.up l3) (ca hm (fun _ => p74 (Repo.rd (K := [0]) x0.Commits x0.Heads (h0_0.ul a4) (h0_1.ul a4))) fun z8 W10 hm l10 => ?_)))
 have a11 := a4.n l10
 refine Lw.r rfl (R.not rfl) (nl (cn hm (fun hm => ?_) fun hm => ?_))
 ·refine sr (Lw.r rfl (R.bd (zs := [.slice none 0 0, .slice none 0 0]) (cs := [.slice none 0 0, .slice none 0 0]) [] rfl rfl rfl bp_nil) (sta (b3.up l10) (oc_cons rfl (oc_cons rfl oc_nil)) fun W15 l15 b15 => ?_))
  have a16 := a11.t l15
  refine Nb rfl ?_
  cases hm
  exact Cw.ret (retA2 rfl b15 rfl (Res.mk a16 ⟨.slice none 0 0, .slice none 0 0, rfl, (rdN (K := [0])), (rdN (K := [0]))⟩))
 ·refine sk (sr (ms rfl (mv v3_ rfl (cr hm (fun _ => p133 (k0 := 4) (h3.ul a11)) ?_))))
  rintro z19 v0_21 W21 hm l21 ⟨_, rfl, f21_0⟩
  have a22 := a11.n l21
  refine Lw.r rfl (R.bd (zs := [.slice none 0 0, vS ([] : Str), .slice none 0 0]) (cs := [.slice none 0 0, vS x2, v0_21]) [(1, vS x2), (2, v0_21)] rfl rfl rfl (bp_cons rfl rfl (bp_cons f21_0.oc rfl bp_nil))) (al 5 [.slice none 0 0, vS ([] : Str), .slice none 0 0] fun g25 W25 l25 b25 => ?_)
  have a26 := a22.n l25
  refine sta b25 (oc_cons rfl (oc_cons rfl (oc_cons (f21_0.up l25).oc oc_nil))) fun W30 l30 b30 => ?_
  have a31 := a26.t l30
  have b33 := ((((b1.up l3).up l10).up l21).up l25).up l30
  refine nl ?_
  obtain ⟨K44, hK44, hm⟩ := jn_e hm
  refine Cw.join 20 28 [] (fun l w => ∃ y35 y38 y39 v36 v40 W43, CW.w W43 = w ∧ Le [5, 12] W30 W43 ∧ l = [] ∧ Ow W43 6 [] [v36] y35 ∧ Ow W43 4 [] [v40] y39 ∧ Bx W43 5 g25 [v36, vS y38, v40] ∧ K44 y35 y38 y39 = some r) ?_ ?_
  ·rintro _ _ σ ⟨y35, y38, y39, v36, v40, W43, rfl, l43, rfl, o37, o41, b42, hm⟩
   rw [hK44] at hm
   have a45 := a31.t l43
   refine Cw.seq ?_
   obtain ⟨z57, e58, hm⟩ := ob hm
   obtain ⟨z66, e67, hm⟩ := ob hm
   refine Cw.par [[], [0], [], [], [0, 1, 2, 3], [], [0, 1, 2, 3, 4, 5]] [[], [0], [], [], [1, 2, 3], [], [4, 5]] [[], [], [], [], [], [], [9]] [[0], [1], [2], [3], [4], [5], [4, 5]] [[], [7, 8], [], [], [0, 4, 6, 7, 8], [9], [9]] [0, 1, 2, 3, 4, 6] [9] [fun vs W => (vs 0) = .agg [v0_0_, v0_1_].toArray, fun vs W => (vs 1) = .agg [(cellOf (vs 1) 0), (cellOf (vs 1) 1)].toArray ∧ Ow W 7 [] [(cellOf (vs 1) 0)] z57.Commits ∧ Ow W 8 [] [(cellOf (vs 1) 1)] z57.Heads, fun vs W => (vs 2) = vS x1, fun vs W => (vs 3) = .agg [v36, vS y38, v40].toArray, fun vs W => (vs 4) = .agg [(cellOf (vs 4) 0), (cellOf (vs 4) 1)].toArray ∧ Rd W [0, 4, 6, 7, 8] [(cellOf (vs 4) 0)] z66.Commits ∧ Rd W [0, 4, 6, 7, 8] [(cellOf (vs 4) 1)] z66.Heads, fun vs W => (vs 5) = ptr (bx (pg (vs 5))) ∧ Bx W 9 (pg (vs 5)) [.slice none 0 0, .slice none 0 0], fun vs W => (vs 5) = ptr (bx (pg (vs 5))) ∧ Bx W 9 (pg (vs 5)) [(cellOf (vs 4) 0), (cellOf (vs 4) 1)]] [] mixed (by kernel_rfl) rfl AllF.nil ?_
   intro W97 l97
   have a98 := a45.n l97
   have b101 := (b33.up l43).up l97
   refine ⟨(Steps.cons ?_ (Steps.cons ?_ (Steps.cons ?_ (Steps.cons ?_ (Steps.cons ?_ (Steps.cons ?_ (Steps.cons ?_ Steps.nil))))))), (Sups.cons (fun vs vs' W W' _ hv l hd h => by (show (vs' 0) = .agg [v0_0_, v0_1_].toArray); rw [hv 0 (anyb rfl)]; exact h) (Sups.cons (fun vs vs' W W' _ hv l hd h => by (show (vs' 1) = .agg [(cellOf (vs' 1) 0), (cellOf (vs' 1) 1)].toArray ∧ Ow W' 7 [] [(cellOf (vs' 1) 0)] z57.Commits ∧ Ow W' 8 [] [(cellOf (vs' 1) 1)] z57.Heads); rw [hv 1 (anyb rfl)]; exact ⟨h.1, h.2.1.upv l (disj_mem hd (c := 7) rfl), h.2.2.upv l (disj_mem hd (c := 8) rfl)⟩) (Sups.cons (fun vs vs' W W' _ hv l hd h => by (show (vs' 2) = vS x1); rw [hv 2 (anyb rfl)]; exact h) (Sups.cons (fun vs vs' W W' _ hv l hd h => by (show (vs' 3) = .agg [v36, vS y38, v40].toArray); rw [hv 3 (anyb rfl)]; exact h) (Sups.cons (fun vs vs' W W' _ hv l hd h => by (show (vs' 4) = .agg [(cellOf (vs' 4) 0), (cellOf (vs' 4) 1)].toArray ∧ Rd W' [0, 4, 6, 7, 8] [(cellOf (vs' 4) 0)] z66.Commits ∧ Rd W' [0, 4, 6, 7, 8] [(cellOf (vs' 4) 1)] z66.Heads); rw [hv 4 (anyb rfl)]; exact ⟨h.1, h.2.1.up l (disj_sub hd (K := [0, 4, 6, 7, 8]) rfl), h.2.2.up l (disj_sub hd (K := [0, 4, 6, 7, 8]) rfl)⟩) (Sups.cons (fun vs vs' W W' _ hv l hd h => by (show (vs' 5) = ptr (bx (pg (vs' 5))) ∧ Bx W' 9 (pg (vs' 5)) [.slice none 0 0, .slice none 0 0]); rw [hv 5 (anyb rfl)]; exact ⟨h.1, h.2.up l (disj_mem hd (c := 9) rfl)⟩) (Sups.cons (fun vs vs' W W' _ hv l hd h => by (show (vs' 5) = ptr (bx (pg (vs' 5))) ∧ Bx W' 9 (pg (vs' 5)) [(cellOf (vs' 4) 0), (cellOf (vs' 4) 1)]); rw [hv 4 (anyb rfl), hv 5 (anyb rfl)]; exact ⟨h.1, h.2.up l (disj_mem hd (c := 9) rfl)⟩) Sups.nil))))))), ?_⟩
   ·intro vs W lW hN
    obtain ⟨W104, hW104⟩ : ∃ X, X = W := ⟨W, rfl⟩
    subst hW104
    refine Tr.mono (Run.tr (R.lda (cs := [v0_0_, v0_1_]) (b101.up lW rfl).cells rfl rfl)) ?_
    rintro _ _ ⟨hu, rfl⟩
    obtain rfl := hu.symm
    exact ⟨W104, rfl, Le.refl _ _, (show (.agg [v0_0_, v0_1_].toArray : Value) = .agg [v0_0_, v0_1_].toArray from rfl)⟩
   ·intro vs W lW hN
    obtain ⟨W111, hW111⟩ : ∃ X, X = W := ⟨W, rfl⟩
    subst hW111
    have a112 := a98.t lW rfl
    have e0_ : vs 0 = .agg [v0_0_, v0_1_].toArray := (hN 0 (anyb rfl))
    obtain ⟨vs, rfl⟩ := up_eq e0_
    refine Tr.mono (T.call rfl (p75 (k0 := 7) (k1 := 8) (Repo.rd (K := [0]) x0.Commits x0.Heads (h0_0.ul a112) (h0_1.ul a112)) e58)) ?_
    rintro _ _ ⟨W120, rfl, l120, ⟨v0_0_120, v0_1_120, rfl, f120_0, f120_1⟩⟩
    exact ⟨W120, rfl, l120, (show (.agg [v0_0_120, v0_1_120].toArray : Value) = .agg [v0_0_120, v0_1_120].toArray ∧ Ow W120 7 [] [v0_0_120] z57.Commits ∧ Ow W120 8 [] [v0_1_120] z57.Heads from ⟨rfl, f120_0, f120_1⟩)⟩
   ·intro vs W lW hN
    obtain ⟨W127, hW127⟩ : ∃ X, X = W := ⟨W, rfl⟩
    subst hW127
    refine Tr.mono (Run.tr (R.mv (v := vS x1) rfl)) ?_
    rintro _ _ ⟨hu, rfl⟩
    obtain rfl := hu.symm
    exact ⟨W127, rfl, Le.refl _ _, (show (vS x1 : Value) = vS x1 from rfl)⟩
   ·intro vs W lW hN
    obtain ⟨W134, hW134⟩ : ∃ X, X = W := ⟨W, rfl⟩
    subst hW134
    refine Tr.mono (Run.tr (R.lda (cs := [v36, vS y38, v40]) ((b42.up l97).up lW rfl).cells rfl rfl)) ?_
    rintro _ _ ⟨hu, rfl⟩
    obtain rfl := hu.symm
    exact ⟨W134, rfl, Le.refl _ _, (show (.agg [v36, vS y38, v40].toArray : Value) = .agg [v36, vS y38, v40].toArray from rfl)⟩
   ·intro vs W lW hN
    obtain ⟨W141, hW141⟩ : ∃ X, X = W := ⟨W, rfl⟩
    subst hW141
    obtain ⟨pc1_0, pc1_1, e1_⟩ : ∃ pc1_0 pc1_1 : Value, vs 1 = .agg [pc1_0, pc1_1].toArray := ⟨_, _, (hN 1 (anyb rfl)).1⟩
    obtain ⟨vs, rfl⟩ := up_eq e1_
    have o148 : Ow W141 7 [] [pc1_0] z57.Commits := (hN 1 (anyb rfl)).2.1
    have o149 : Ow W141 8 [] [pc1_1] z57.Heads := (hN 1 (anyb rfl)).2.2
    have e2_ : vs 2 = vS x1 := (hN 2 (anyb rfl))
    obtain ⟨vs, rfl⟩ := up_eq e2_
    have e3_ : vs 3 = .agg [v36, vS y38, v40].toArray := (hN 3 (anyb rfl))
    obtain ⟨vs, rfl⟩ := up_eq e3_
    refine Tr.mono (T.call rfl (p134 (K := [4, 6, 7, 8])  (x0 := (Vm.Repo.mk z57.Commits z57.Heads)) (x2 := (Vm.Commit.mk y35 y38 y39)) ((Repo.rd (K := [7, 8]) z57.Commits z57.Heads (o148.rd.sub (M := [7, 8]) rfl) (o149.rd.sub (M := [7, 8]) rfl)).sub (M := [4, 6, 7, 8]) rfl) ((Commit.rd (K := [4, 6]) y35 y38 y39 (((o37.up l97).up lW rfl).rd.sub (M := [4, 6]) rfl) (((o41.up l97).up lW rfl).rd.sub (M := [4, 6]) rfl)).sub (M := [4, 6, 7, 8]) rfl) e67)) ?_
    rintro _ _ ⟨W150, rfl, l150, ⟨v0_0_150, v0_1_150, rfl, f150_0, f150_1⟩⟩
    have s151 := f150_0.sub (M := [0, 4, 6, 7, 8]) rfl
    have s152 := f150_1.sub (M := [0, 4, 6, 7, 8]) rfl
    exact ⟨W150, rfl, l150, (show (.agg [v0_0_150, v0_1_150].toArray : Value) = .agg [v0_0_150, v0_1_150].toArray ∧ Rd W150 [0, 4, 6, 7, 8] [v0_0_150] z66.Commits ∧ Rd W150 [0, 4, 6, 7, 8] [v0_1_150] z66.Heads from ⟨rfl, s151, s152⟩)⟩
   ·intro vs W lW hN
    obtain ⟨W161, hW161⟩ : ∃ X, X = W := ⟨W, rfl⟩
    subst hW161
    refine Tr.mono (T.alloc 9 (cs := [.slice none 0 0, .slice none 0 0]) rfl) ?_
    rintro _ _ ⟨g168, W168, rfl, rfl, l168, b168⟩
    exact ⟨W168, rfl, l168, (show (ptr (bx g168) : Value) = ptr (bx g168) ∧ Bx W168 9 g168 [.slice none 0 0, .slice none 0 0] from ⟨rfl, b168⟩)⟩
   ·intro vs W lW hN
    obtain ⟨W175, hW175⟩ : ∃ X, X = W := ⟨W, rfl⟩
    subst hW175
    obtain ⟨pc4_0, pc4_1, e4_⟩ : ∃ pc4_0 pc4_1 : Value, vs 4 = .agg [pc4_0, pc4_1].toArray := ⟨_, _, (hN 4 (anyb rfl)).1⟩
    obtain ⟨vs, rfl⟩ := up_eq e4_
    have o182 : Rd W175 [0, 4, 6, 7, 8] [pc4_0] z66.Commits := (hN 4 (anyb rfl)).2.1
    have o183 : Rd W175 [0, 4, 6, 7, 8] [pc4_1] z66.Heads := (hN 4 (anyb rfl)).2.2
    obtain ⟨pg5, e5_⟩ : ∃ pg5, vs 5 = ptr (bx pg5) := ⟨_, ((hN 5 (anyb rfl))).1⟩
    obtain ⟨vs, rfl⟩ := up_eq e5_
    have o184 : Bx W175 9 pg5 [.slice none 0 0, .slice none 0 0] := (hN 5 (anyb rfl)).2
    refine Tr.mono (T.sta (vs := [pc4_0, pc4_1]) o184 rfl rfl (oc_cons o182.oc (oc_cons o183.oc oc_nil)) rfl rfl) ?_
    rintro _ _ ⟨W185, rfl, l185, b185⟩
    exact ⟨W185, rfl, l185, (show (ptr (bx pg5)) = ptr (bx pg5) ∧ Bx W185 9 pg5 [pc4_0, pc4_1] from ⟨rfl, b185⟩)⟩
   ·intro vs W lW hN
    obtain ⟨W192, hW192⟩ : ∃ X, X = W := ⟨W, rfl⟩
    subst hW192
    have a193 := a98.t lW rfl
    obtain ⟨l192, hl192⟩ : ∃ x, x = lW := ⟨lW, rfl⟩
    have e0_ : vs 0 = .agg [v0_0_, v0_1_].toArray := (hN 0 (anyb rfl))
    obtain ⟨vs, rfl⟩ := up_eq e0_
    obtain ⟨pc1_0, pc1_1, e1_⟩ : ∃ pc1_0 pc1_1 : Value, vs 1 = .agg [pc1_0, pc1_1].toArray := ⟨_, _, (hN 1 (anyb rfl)).1⟩
    obtain ⟨vs, rfl⟩ := up_eq e1_
    have o199 : Ow W192 7 [] [pc1_0] z57.Commits := (hN 1 (anyb rfl)).2.1
    have o200 : Ow W192 8 [] [pc1_1] z57.Heads := (hN 1 (anyb rfl)).2.2
    have e2_ : vs 2 = vS x1 := (hN 2 (anyb rfl))
    obtain ⟨vs, rfl⟩ := up_eq e2_
    have e3_ : vs 3 = .agg [v36, vS y38, v40].toArray := (hN 3 (anyb rfl))
    obtain ⟨vs, rfl⟩ := up_eq e3_
    obtain ⟨pc4_0, pc4_1, e4_⟩ : ∃ pc4_0 pc4_1 : Value, vs 4 = .agg [pc4_0, pc4_1].toArray := ⟨_, _, (hN 4 (anyb rfl)).1⟩
    obtain ⟨vs, rfl⟩ := up_eq e4_
    have o201 : Rd W192 [0, 4, 6, 7, 8] [pc4_0] z66.Commits := (hN 4 (anyb rfl)).2.1
    have o202 : Rd W192 [0, 4, 6, 7, 8] [pc4_1] z66.Heads := (hN 4 (anyb rfl)).2.2
    obtain ⟨pg5, e5_⟩ : ∃ pg5, vs 5 = ptr (bx pg5) := ⟨_, (hN 6 (anyb rfl)).1⟩
    obtain ⟨vs, rfl⟩ := up_eq e5_
    have o203 : Bx W192 9 pg5 [pc4_0, pc4_1] := (hN 6 (anyb rfl)).2
    refine ssr (Lw.r rfl (R.lda (cs := [pc4_0, pc4_1]) o203.cells rfl rfl) (ca hm (fun _ => p74 (K := [0, 4, 6, 7, 8]) (Repo.rd (K := [0, 4, 6, 7, 8]) z66.Commits z66.Heads o201 o202)) fun z204 W206 hm l206 => ?_))
    have a207 := a193.n l206
    have b213 := (((((((b3.up l10).up l21).up l25).up l30).up l43).up l97).up lW rfl).up l206
    refine Lw.r rfl (R.not rfl) (nl (cn hm (fun hm => ?_) fun hm => ?_))
    ·refine sr (la ((b101.up lW rfl).up l206) (cr hm (fun _ => p75 (k0 := 10) (k1 := 11) (Repo.rd (K := [0]) x0.Commits x0.Heads (h0_0.ul a207) (h0_1.ul a207))) ?_))
     rintro z219 _ W221 hm l221 ⟨v0_0_221, v0_1_221, rfl, f221_0, f221_1⟩
     have a222 := a207.n l221
     refine sta (b213.up l221) (oc_cons f221_0.oc (oc_cons f221_1.oc oc_nil)) fun W231 l231 b231 => ?_
     have a232 := a222.t l231
     refine Nb rfl ?_
     obtain ⟨W242, ew242, l242, dj242⟩ := dyeE _ 10
     have s243 : Rd (α := List Vm.Commit) W242 [0] [v0_0_221] z219.Commits := by rw [dj242]; exact ((f221_0.up l231).rd.dye 10).sub (M := [0]) rfl
     have a244 := a232.t l242
     obtain ⟨W254, ew254, l254, dj254⟩ := dyeE _ 11
     have s255 : Rd (α := List Vm.Head) W254 [0] [v0_1_221] z219.Heads := by rw [dj254]; exact (((f221_1.up l231).up l242).rd.dye 11).sub (M := [0]) rfl
     have a256 := l254.s
     cases hm
     rw [← ew254.trans (ew242)]
     exact Cw.ret (retA2 rfl ((b231.up l242).up l254) rfl (Res.mk (a244.trans a256) ⟨v0_0_221, v0_1_221, rfl, (s243.ul a256), s255⟩))
    ·refine sk (sr (la (o203.up l206) (sta b213 (oc_cons o201.oc (oc_cons o202.oc oc_nil)) fun W266 l266 b266 => ?_)))
     have a267 := a207.t l266
     refine Nb rfl ?_
     have s275 := o201.up ((l206.sub (M := [3]) rfl).trans (l266.sub (M := [3]) rfl)) rfl
     have s276 := o202.up ((l206.sub (M := [3]) rfl).trans (l266.sub (M := [3]) rfl)) rfl
     obtain ⟨W277, ew277, l277, dj277⟩ := dyeE _ 4
     have s278 : Rd W277 [0, 6, 7, 8] [pc4_0] z66.Commits := by rw [dj277]; exact (s275.dye 4).sub (M := [0, 6, 7, 8]) rfl
     have s279 : Rd W277 [0, 6, 7, 8] [pc4_1] z66.Heads := by rw [dj277]; exact (s276.dye 4).sub (M := [0, 6, 7, 8]) rfl
     have s280 : Rd (α := List Vm.File) W277 [0] [v40] y39 := by rw [dj277]; exact (((((o41.up l97).up lW rfl).up l206).up l266).rd.dye 4).sub (M := [0]) rfl
     have a281 := a267.t l277
     obtain ⟨W289, ew289, l289, dj289⟩ := dyeE _ 6
     have s290 : Rd W289 [0, 7, 8] [pc4_0] z66.Commits := by rw [dj289]; exact (s278.dye 6).sub (M := [0, 7, 8]) rfl
     have s291 : Rd W289 [0, 7, 8] [pc4_1] z66.Heads := by rw [dj289]; exact (s279.dye 6).sub (M := [0, 7, 8]) rfl
     have s292 : Rd (α := List Int) W289 [0] [v36] y35 := by rw [dj289]; exact ((((((o37.up l97).up lW rfl).up l206).up l266).up l277).rd.dye 6).sub (M := [0]) rfl
     have a293 := a281.t l289
     obtain ⟨W300, ew300, l300, dj300⟩ := dyeE _ 7
     have s301 : Rd W300 [0, 8] [pc4_0] z66.Commits := by rw [dj300]; exact (s290.dye 7).sub (M := [0, 8]) rfl
     have s302 : Rd W300 [0, 8] [pc4_1] z66.Heads := by rw [dj300]; exact (s291.dye 7).sub (M := [0, 8]) rfl
     have s303 : Rd (α := List Vm.Commit) W300 [0] [pc1_0] z57.Commits := by rw [dj300]; exact (((((o199.up l206).up l266).up l277).up l289).rd.dye 7).sub (M := [0]) rfl
     have a304 := a293.t l300
     obtain ⟨W310, ew310, l310, dj310⟩ := dyeE _ 8
     have s311 : Rd W310 [0] [pc4_0] z66.Commits := by rw [dj310]; exact (s301.dye 8).sub (M := [0]) rfl
     have s312 : Rd W310 [0] [pc4_1] z66.Heads := by rw [dj310]; exact (s302.dye 8).sub (M := [0]) rfl
     have s313 : Rd (α := List Vm.Head) W310 [0] [pc1_1] z57.Heads := by rw [dj310]; exact ((((((o200.up l206).up l266).up l277).up l289).up l300).rd.dye 8).sub (M := [0]) rfl
     have a314 := a304.t l310
     cases hm
     rw [← ew310.trans (ew300.trans (ew289.trans (ew277)))]
     exact Cw.ret (retA2 rfl ((((b266.up l277).up l289).up l300).up l310) rfl (Res.mk a314 ⟨pc4_0, pc4_1, rfl, s311, s312⟩))
  ·refine sr (la b33 (ms rfl (ca hm (fun _ => p130 (Repo.rd (K := [0]) x0.Commits x0.Heads (h0_0.ul a31) (h0_1.ul a31))) fun z321 W323 hm l323 => ?_)))
   have a324 := a31.n l323
   have o325 := ((f21_0.up l25).up l30).up l323
   refine Lw.ge rfl (nl (cn hm (fun hm => ?_) fun hm => ?_))
   ·refine rg (la (b33.up l323) (ms rfl (ca hm (fun _ => p130 (Repo.rd (K := [0]) x0.Commits x0.Heads (h0_0.ul a324) (h0_1.ul a324))) fun z332 W334 hm l334 => Lw.t rfl (T.bsS (α := Int) (xs := [z332]) 12 [] (W := W334) [vI z332] (Each.cons ((rdI _)) Each.nil) rfl) ?_)))
    rintro v340 _ ⟨W340, rfl, l340, o340⟩
    refine Lw.fa rfl (Lw.u (T.st (j := 0) (v := v340) (((b30.up l323).up l334).up l340) rfl rfl o340.oc rfl rfl) ?_)
    rintro _ _ ⟨W346, rfl, l346, b346⟩
    refine nl ?_
    obtain ⟨W352, ew352, l352, o352⟩ := (o340.up l346).dyeO 6
    exact (ag) ⟨([z332] : List Int), x2, z19, v340, v0_21, W352, ew352, ((((l323.j l334).j l340).j l346).j l352).w, rfl, o352, ((((o325.up l334).up l340).up l346).up l352), (b346.up l352), hm⟩
   ·exact sk ((ag) ⟨([] : List Int), x2, z19, .slice none 0 0, v0_21, W323, rfl, l323.w, rfl, owN 6 [], o325, (b30.up l323), hm⟩)
theorem p63 {x0 v0_0_ v0_1_ x1 x2 x3 v3_ r} (h0 : Rd W K [v0_0_, v0_1_] x0) (h3 : Rd W K [v3_] x3) (hm : Vm.spec_RepoCommit x0 x1 x2 x3 = some r) : Q1 63 [.agg [v0_0_, v0_1_].toArray, vS x1, vS x2, v3_] W [] fun W' v => ∃ u0_0 u0_1, v = .tuple [.agg [u0_0, u0_1].toArray, vB r.2].toArray ∧ Rd W' (0 :: K) [u0_0] r.1.Commits ∧ Rd W' (0 :: K) [u0_1] r.1.Heads :=
 (c63 (h0.view _) (h3.view _) hm).ad (fk 0) fun _ _ ⟨u0_0, u0_1, e, f0, f1⟩ => ⟨u0_0, u0_1, e, f0.back rfl, f1.back rfl⟩
theorem c188 {x0 v0_0_ v0_1_ x1 v1_6_ x2 v2_ x3 r} (h0 : Rd W0 [0] [v0_0_, v0_1_] x0) (h1 : Rd W0 [0] [vI x1.Kind, vS x1.Branch, vS x1.Who, vS x1.Path, vS x1.To, vI x1.At, v1_6_] x1) (h2 : Rd W0 [0] [v2_] x2) (hm : Vm.spec_l19Tree x0 x1 x2 x3 = some r) : Q0 188 [.agg [v0_0_, v0_1_].toArray, .agg [vI x1.Kind, vS x1.Branch, vS x1.Who, vS x1.Path, vS x1.To, vI x1.At, v1_6_].toArray, v2_, vB x3] W0 fun Wf v => ∃ u0_0 u0_1, v = .tuple [.agg [u0_0, u0_1].toArray, vI r.2].toArray ∧ Rd Wf [0] [u0_0] r.1.Commits ∧ Rd Wf [0] [u0_1] r.1.Heads := by
 unfold Vm.spec_l19Tree at hm
 obtain ⟨w0_0, w0_1, he0, h0_0, h0_1⟩ := Repo.split h0
 simp only [List.cons.injEq, and_true, true_and] at he0
 obtain ⟨rfl, rfl⟩ := he0
 obtain ⟨w1_0, he1, h1_6⟩ := Op.split h1
 simp only [List.cons.injEq, and_true, true_and] at he1
 obtain rfl := he1
 refine CallR.of Tryz.func188 rfl rfl rfl rfl (sr (bo 2 rfl fun g1 W1 l1 b1 => ?_))
 have a2 := l1.o
 refine bo 3 rfl fun g3 W3 l3 b3 => ?_
 have a4 := a2.n l3
 refine al 4 [.slice none 0 0, .slice none 0 0] fun g6 W6 l6 b6 => ?_
 have a7 := a4.n l6
 have b8 := (b1.up l3).up l6
 refine Ni rfl (ssr (mb rfl (Lw.r rfl (R.not rfl) (nl (cn hm (fun hm => ?_) fun hm => ?_)))))
 ·refine sr (la b8 (sta b6 (oc_cons h0_0.oc (oc_cons h0_1.oc oc_nil)) fun W11 l11 b11 => ?_))
  have a12 := a7.t l11
  refine Ni rfl ?_
  cases hm
  exact Cw.ret (retA2 rfl b11 rfl (Res.mk a12 ⟨v0_0_, v0_1_, rfl, (h0_0.ul a12), (h0_1.ul a12)⟩))
 ·refine sk (sr (la b8 (fl (b3.up l6) rfl (fl (b3.up l6) rfl (mv v2_ rfl (cr hm (fun _ => p63 (Repo.rd (K := [0]) x0.Commits x0.Heads (h0_0.ul a7) (h0_1.ul a7)) (h2.ul a7)) ?_))))))
  rintro z20 _ W22 hm l22 ⟨v0_0_22, v0_1_22, rfl, f22_0, f22_1⟩
  have s23 := f22_0.sub (M := [0]) rfl
  have s24 := f22_1.sub (M := [0]) rfl
  have a25 := a7.n l22
  refine mv (.tuple [.agg [v0_0_22, v0_1_22].toArray, vB z20.2].toArray) rfl (Lw.r rfl (R.ext (vs := [.agg [v0_0_22, v0_1_22].toArray, vB z20.2]) (v := .agg [v0_0_22, v0_1_22].toArray) rfl rfl) (Lw.r rfl (R.ext (vs := [.agg [v0_0_22, v0_1_22].toArray, vB z20.2]) (v := vB z20.2) rfl rfl) (al 5 [.slice none 0 0, .slice none 0 0] fun g29 W29 l29 b29 => ?_)))
  have a30 := l29.o
  refine sta b29 (oc_cons s23.oc (oc_cons s24.oc oc_nil)) fun W34 l34 b34 => ?_
  have a35 := l34.s
  have b38 := ((b6.up l22).up l29).up l34
  refine Nb rfl (ssr (mb rfl (Lw.r rfl (R.not rfl) (nl (cn hm (fun hm => ?_) fun hm => ?_)))))
  ·refine sr (la (((b8.up l22).up l29).up l34) (sta b38 (oc_cons h0_0.oc (oc_cons h0_1.oc oc_nil)) fun W40 l40 b40 => ?_))
   have a41 := ((a25.trans a30).trans a35).t l40
   refine Ni rfl ?_
   cases hm
   exact Cw.ret (retA2 rfl b40 rfl (Res.mk a41 ⟨v0_0_, v0_1_, rfl, (h0_0.ul a41), (h0_1.ul a41)⟩))
  ·refine sk (sr (la b34 (sta b38 (oc_cons s23.oc (oc_cons s24.oc oc_nil)) fun W47 l47 b47 => ?_)))
   have a48 := l47.s
   refine Ni rfl ?_
   cases hm
   exact Cw.ret (retA2 rfl b47 rfl (Res.mk (((a25.trans a30).trans a35).trans a48) ⟨v0_0_22, v0_1_22, rfl, (s23.ul ((a30.trans a35).trans a48)), (s24.ul ((a30.trans a35).trans a48))⟩))
theorem p188 {x0 v0_0_ v0_1_ x1 v1_6_ x2 v2_ x3 r} (h0 : Rd W K [v0_0_, v0_1_] x0) (h1 : Rd W K [vI x1.Kind, vS x1.Branch, vS x1.Who, vS x1.Path, vS x1.To, vI x1.At, v1_6_] x1) (h2 : Rd W K [v2_] x2) (hm : Vm.spec_l19Tree x0 x1 x2 x3 = some r) : Q1 188 [.agg [v0_0_, v0_1_].toArray, .agg [vI x1.Kind, vS x1.Branch, vS x1.Who, vS x1.Path, vS x1.To, vI x1.At, v1_6_].toArray, v2_, vB x3] W [] fun W' v => ∃ u0_0 u0_1, v = .tuple [.agg [u0_0, u0_1].toArray, vI r.2].toArray ∧ Rd W' (0 :: K) [u0_0] r.1.Commits ∧ Rd W' (0 :: K) [u0_1] r.1.Heads :=
 (c188 (h0.view _) (h1.view _) (h2.view _) hm).ad (fk 0) fun _ _ ⟨u0_0, u0_1, e, f0, f1⟩ => ⟨u0_0, u0_1, e, f0.back rfl, f1.back rfl⟩
theorem c198 {x0 v0_ x1 r} (h0 : Rd W0 [0] [v0_] x0) (hm : Vm.spec_l4Drop x0 x1 = some r) : Q0 198 [v0_, vS x1] W0 fun Wf v => ∃ u0, v = u0 ∧ OwS (α := List (Sh Vm.File)) Wf LL [0] [u0] r := by
 unfold Vm.spec_l4Drop at hm
 refine CallR.of Tryz.func198 rfl rfl rfl rfl (sr (Nv (.slice none 0 0) rfl (sr (Lw.t rfl (T.lit0 (α := File) 2 []) ?_))))
 rintro v1 _ ⟨W1, rfl, l1, o1⟩
 have a2 := l1.o
 refine Nv v1 rfl (ssr (Ni rfl (Cw.block ?_)))
 obtain ⟨K8, hK8, hm⟩ := jn_e hm
 obtain ⟨W9, ew9, l9, o9⟩ := o1.toSh
 have a10 := a2.t l9
 rw [← ew9]
 refine Cw.loop 8 37 [5, 6] (fun m l w => ∃ (y3 : List Vm.File) (y6 : Int) (v4 : Value) (W7 : CW), W7.w = w ∧ Le [2] W9 W7 ∧ l = [v4, vI y6] ∧ Ow (α := List (Sh Vm.File)) W7 2 [0] [v4] y3 ∧ Vm.spec_l4Drop_l1 x0 x1 K8 m y3 y6 = some r) _ ⟨([] : List File), 0, v1, W9, rfl, Le.refl _ _, rfl, o9, hm⟩ ?_
 rintro (_ | m11) _ _ σ ⟨y3, y6, v4, W7, rfl, l7, rfl, o5, hm⟩
 ·cases hm
 unfold Vm.spec_l4Drop_l1 at hm
 have a12 := a10.t l7
 refine ssr ?_
 have s13 := h0.ul a12
 refine mi rfl (mv v0_ rfl (Lw.ln x0 s13 rfl (Lw.lt rfl (nl (cn hm (fun hm => ?_) fun hm => ?_)))))
 ·refine sk ?_
  obtain ⟨K19, hK19, hm⟩ := jn_e hm
  refine Cw.join 14 37 [5] (fun l w => ∃ (y15 : List Vm.File) (v16 : Value) (W18 : CW), W18.w = w ∧ Le [2] W7 W18 ∧ l = [v16] ∧ Ow (α := List (Sh Vm.File)) W18 2 [0] [v16] y15 ∧ K19 y15 = some r) ?_ ?_
  ·rintro _ _ σ ⟨y15, v16, W18, rfl, l18, rfl, o17, hm⟩
   rw [hK19] at hm
   exact rg (mi rfl (Lw.add rfl (Ni rfl ((agm) ⟨y15, w64 (y6 + 1), v16, W18, rfl, (l7.j l18).w, rfl, o17, hm⟩))))
  ·refine Cw.block ?_
   obtain ⟨K23, hK23, hm⟩ := jn_e hm
   refine Cw.join 14 30 [30] (fun l w => ∃ y21 W22, CW.w W22 = w ∧ Le [] W7 W22 ∧ l = [vB y21] ∧ K23 y21 = some r) ?_ ?_
   ·rintro _ _ σ ⟨y21, W22, rfl, l22, rfl, hm⟩
    rw [hK23] at hm
    have a24 := a12.n l22
    refine cn hm (fun hm => ?_) fun hm => ?_
    ·refine rg (mv v4 rfl (mv v0_ rfl (mi rfl ?_)))
     obtain ⟨u27, e28, hm⟩ := ob hm
     refine Lw.r rfl (R.ix (α := File) (h0.ul a24) e28 rfl rfl rfl) ?_
     obtain ⟨x30, c31, _, r32⟩ := ((h0.ul a24).at_ e28).cells
     obtain ⟨v33, rfl, r34⟩ := File.split r32
     refine Lw.r rfl (R.lda c31 rfl rfl) (Lw.t rfl (T.bs 3 [.agg [vS u27.Path, v33].toArray] (cs := [vS u27.Path, v33]) rfl rfl (bsA rfl)) ?_)
     rintro _ _ ⟨g35, W35, rfl, rfl, l35, b35⟩
     have a36 := l35.o
     obtain ⟨q39, e40, hm⟩ := ob hm
     refine Lw.t rfl (T.app1S (α := Sh Vm.File) (K' := [0]) ((o5.up l22).up l35) b35 (File.rd (K := [0]) u27.Path u27.Text (r34.ul a36)).sh1 rfl rfl e40) ?_
     rintro v41 _ ⟨W41, rfl, l41, o41⟩
     exact Nv v41 rfl ((ag) ⟨q39, v41, W41, rfl, ((l22.j l35).j l41).w, rfl, o41, hm⟩)
    ·exact sk ((ag) ⟨y3, v4, W22, rfl, l22.w, rfl, (o5.up l22), hm⟩)
   ·refine rg (mv v0_ rfl (mi rfl ?_))
    obtain ⟨u44, e45, hm⟩ := ob hm
    refine Lw.r rfl (R.ix (α := File) s13 e45 rfl rfl rfl) (Lw.fa rfl (Lw.r rfl (R.ld rfl rfl (File.at0 (s13.at_ e45)).str) (ms rfl (Lw.sne rfl (mb rfl (bs hm (fun hc46 hm => ?_) fun hc46 hm => ?_))))))
    ·refine wak 8 hc46 (ms rfl (mv v0_ rfl (mi rfl ?_)))
     obtain ⟨u47, e48, hm⟩ := ob hm
     exact Lw.r rfl (R.ix (α := File) s13 e48 rfl rfl rfl) (Lw.fa rfl (Lw.r rfl (R.ld rfl rfl (File.at0 (s13.at_ e48)).str) (ca hm (fun _ => p165) fun z49 W51 hm l51 => Lw.r rfl (R.not rfl) (Pb hc46 rfl (nl ((ag) ⟨(!z49), W51, rfl, l51, rfl, hm⟩))))))
    ·exact psk 8 hc46 rfl (Pb hc46 rfl (nl ((ag) ⟨false, W7, rfl, Le.refl _ _, rfl, hm⟩)))
 ·refine Cw.exit ?_
  rw [hK8] at hm
  refine sr (mv v4 rfl (Nv v4 rfl ?_))
  cases hm
  exact Cw.ret (ret1 rfl (Res.mk a12 ⟨v4, rfl, o5.s.sub rfl rfl⟩))
theorem p198 {x0 v0_ x1 k0 r} (h0 : Rd W K [v0_] x0) (hm : Vm.spec_l4Drop x0 x1 = some r) : Q1 198 [v0_, vS x1] W [] fun W' v => ∃ u0, v = u0 ∧ Ow (α := List (Sh Vm.File)) W' k0 (0 :: K) [u0] r :=
 (c198 (h0.view _) hm).ad (fk k0) fun _ _ ⟨u0, e, f0⟩ => ⟨u0, e, f0.backS (fk_LL _) rfl⟩
theorem c189 {x0 v0_ x1 r} (h0 : Rd W0 [0] [v0_] x0) (hm : Vm.spec_TreeDrop x0 x1 = some r) : Q0 189 [v0_, vS x1] W0 fun Wf v => ∃ u0, v = .tuple [u0, vB r.2].toArray ∧ OwS (α := List (Sh Vm.File)) Wf LL [0] [u0] r.1 := by
 unfold Vm.spec_TreeDrop at hm
 refine CallR.of Tryz.func189 rfl rfl rfl rfl (sr (Gv (.slice none 0 0) rfl (Nb rfl (ssr (mv v0_ rfl (ca hm (fun _ => p139 h0) fun z1 W3 hm l3 => ?_))))))
 have a4 := l3.o
 refine Lw.r rfl (R.not rfl) (nl (cn hm (fun hm => ?_) fun hm => ?_))
 ·refine sr (Gv (.slice none 0 0) rfl (Nb rfl ?_))
  cases hm
  exact Cw.ret (ret2 rfl rfl (Res.mk a4 ⟨.slice none 0 0, rfl, (owsNSh [0]).sub rfl rfl⟩))
 ·refine sk (sr (mv v0_ rfl (cr hm (fun _ => p133 (k0 := 2) (h0.ul a4)) ?_)))
  rintro z7 v0_9 W9 hm l9 ⟨_, rfl, f9_0⟩
  have a10 := a4.n l9
  refine ms rfl (cr hm (fun _ => p198 (K := [2]) (k0 := 3) f9_0.rd) ?_)
  rintro z11 v0_13 W13 hm l13 ⟨_, rfl, f13_0⟩
  have a14 := a10.n l13
  refine Nv v0_13 rfl (sr ?_)
  have s16 : Rd (α := List Vm.File) W13 [3, 0, 2] [v0_13] z11 := Ow.rdSh f13_0
  refine mv v0_13 rfl (mv v0_13 rfl (Lw.ln z11 s16 rfl (mv v0_ rfl (Lw.ln x0 (h0.ul a14) rfl (Lw.lt rfl (Gv v0_13 rfl (Nb rfl ?_)))))))
  obtain ⟨W18, ew18, l18, dj18⟩ := dyeE _ 2
  have s19 : Rd (α := List Vm.File) W18 [0] [v0_9] z7 := by rw [dj18]; exact ((f9_0.up l13).rd.dye 2).sub (M := [0]) rfl
  have o20 : Ow (α := List (Sh Vm.File)) W18 3 [0] [v0_13] z11 := by rw [dj18]; exact (f13_0.dyeA 2 rfl).sub rfl
  have a21 := a14.t l18
  cases hm
  rw [← ew18]
  exact Cw.ret (ret2 rfl rfl (Res.mk a21 ⟨v0_13, rfl, o20.s.sub rfl rfl⟩))
theorem p189 {x0 v0_ x1 k0 r} (h0 : Rd W K [v0_] x0) (hm : Vm.spec_TreeDrop x0 x1 = some r) : Q1 189 [v0_, vS x1] W [] fun W' v => ∃ u0, v = .tuple [u0, vB r.2].toArray ∧ Ow (α := List (Sh Vm.File)) W' k0 (0 :: K) [u0] r.1 :=
 (c189 (h0.view _) hm).ad (fk k0) fun _ _ ⟨u0, e, f0⟩ => ⟨u0, e, f0.backS (fk_LL _) rfl⟩
theorem c190 {x0 v0_ x1 x2 r} (h0 : Rd W0 [0] [v0_] x0) (hm : Vm.spec_TreeMove x0 x1 x2 = some r) : Q0 190 [v0_, vS x1, vS x2] W0 fun Wf v => ∃ u0, v = .tuple [u0, vB r.2].toArray ∧ OwS (α := List (Sh Vm.File)) Wf LL [0] [u0] r.1 := by
 unfold Vm.spec_TreeMove at hm
 refine CallR.of Tryz.func190 rfl rfl rfl rfl (sr (Gv (.slice none 0 0) rfl (Nb rfl (ssr (mv v0_ rfl (ca hm (fun _ => p139 h0) fun z1 W3 hm l3 => ?_))))))
 have a4 := l3.o
 refine Lw.r rfl (R.not rfl) (nl (cn hm (fun hm => ?_) fun hm => ?_))
 ·refine sr (Gv (.slice none 0 0) rfl (Nb rfl ?_))
  cases hm
  exact Cw.ret (ret2 rfl rfl (Res.mk a4 ⟨.slice none 0 0, rfl, (owsNSh [0]).sub rfl rfl⟩))
 ·refine sk (sr (mv v0_ rfl (cr hm (fun _ => p133 (k0 := 2) (h0.ul a4)) ?_)))
  rintro z7 v0_9 W9 hm l9 ⟨_, rfl, f9_0⟩
  have a10 := a4.n l9
  refine ms rfl (cr hm (fun _ => p198 (K := [2]) (k0 := 3) f9_0.rd) ?_)
  rintro z11 v0_13 W13 hm l13 ⟨_, rfl, f13_0⟩
  have a14 := a10.n l13
  refine Nv v0_13 rfl (Cw.seq ?_)
  obtain ⟨K18, hK18, hm⟩ := jn_e hm
  refine Cw.join 18 27 [27] (fun l w => ∃ y16 W17, CW.w W17 = w ∧ Le [] W13 W17 ∧ l = [vB y16] ∧ K18 y16 = some r) ?_ ?_
  ·rintro _ _ σ ⟨y16, W17, rfl, l17, rfl, hm⟩
   rw [hK18] at hm
   have a19 := a14.n l17
   refine cn hm (fun hm => ?_) fun hm => ?_
   ·refine sr (mv v0_ rfl (cr hm (fun _ => p133 (k0 := 4) (h0.ul a19)) ?_))
    rintro z24 v0_26 W26 hm l26 ⟨_, rfl, f26_0⟩
    have a27 := a19.n l26
    refine Gv v0_26 rfl (Nb rfl ?_)
    obtain ⟨W30, ew30, l30, o30⟩ := f26_0.toSh
    have a31 := a27.t l30
    cases hm
    rw [← ew30]
    exact Cw.ret (ret2 rfl rfl (Res.mk a31 ⟨v0_26, rfl, o30.s.sub rfl rfl⟩))
   ·refine sk (sr (mv v0_ rfl (Lw.ln x0 (h0.ul a19) rfl (Ni rfl (ssr (Ni rfl (Cw.block ?_)))))))
    obtain ⟨W35, ew35, l35, dj35⟩ := dyeE _ 2
    rw [← ew35]
    have s36 : Rd (α := List Vm.File) W35 [0] [v0_9] z7 := by rw [dj35]; exact (((f9_0.up l13).up l17).rd.dye 2).sub (M := [0]) rfl
    have o37 : Ow (α := List (Sh Vm.File)) W35 3 [0] [v0_13] z11 := by rw [dj35]; exact ((f13_0.up l17).dyeA 2 rfl).sub rfl
    have a38 := a19.t l35
    obtain ⟨K44, hK44, hm⟩ := jn_e hm
    refine Cw.loop 32 71 [8, 10] (fun m l w => ∃ (y39 : List Vm.File) (y42 : Int) (v40 : Value) (W43 : CW), W43.w = w ∧ Le [3, 5] W35 W43 ∧ l = [v40, vI y42] ∧ Ow (α := List (Sh Vm.File)) W43 3 [0] [v40] y39 ∧ Vm.spec_TreeMove_l1 x0 x1 x2 K44 m y39 y42 = some r) _ ⟨z11, 0, v0_13, W35, rfl, Le.refl _ _, rfl, o37, hm⟩ ?_
    rintro (_ | m45) _ _ σ ⟨y39, y42, v40, W43, rfl, l43, rfl, o41, hm⟩
    ·cases hm
    unfold Vm.spec_TreeMove_l1 at hm
    have a46 := a38.t l43
    refine ssr ?_
    have s47 := h0.ul a46
    refine mi rfl (mv v0_ rfl (Lw.ln x0 s47 rfl (Lw.lt rfl (nl (cn hm (fun hm => ?_) fun hm => ?_)))))
    ·refine sk ?_
     obtain ⟨K53, hK53, hm⟩ := jn_e hm
     refine Cw.join 38 71 [8] (fun l w => ∃ (y49 : List Vm.File) (v50 : Value) (W52 : CW), W52.w = w ∧ Le [3, 5] W43 W52 ∧ l = [v50] ∧ Ow (α := List (Sh Vm.File)) W52 3 [0] [v50] y49 ∧ K53 y49 = some r) ?_ ?_
     ·rintro _ _ σ ⟨y49, v50, W52, rfl, l52, rfl, o51, hm⟩
      rw [hK53] at hm
      exact rg (mi rfl (Lw.add rfl (Ni rfl ((agm) ⟨y49, w64 (y42 + 1), v50, W52, rfl, (l43.j l52).w, rfl, o51, hm⟩))))
     ·refine Cw.block ?_
      obtain ⟨K57, hK57, hm⟩ := jn_e hm
      refine Cw.join 38 53 [53] (fun l w => ∃ y55 W56, CW.w W56 = w ∧ Le [] W43 W56 ∧ l = [vB y55] ∧ K57 y55 = some r) ?_ ?_
      ·rintro _ _ σ ⟨y55, W56, rfl, l56, rfl, hm⟩
       rw [hK57] at hm
       have a58 := a46.n l56
       refine cn hm (fun hm => ?_) fun hm => ?_
       ·refine Cw.draw [] [(0, 0), (1, 0), (2, 0), (3, 0), (4, 0), (5, 0), (6, 1), (7, 0), (8, 0), (9, 0), (10, 0), (11, 0), (12, 0), (13, 0), (14, 0), (15, 1), (16, 0), (17, 2), (18, 0)] mixed (by kernel_rfl) fun W61 l61 => ?_
        have a62 := a58.n l61
        have o63 := (o41.up l56).up l61
        refine Dv v40 rfl (Ds rfl (Dv v0_ rfl (Di rfl ?_)))
        obtain ⟨u64, e65, hm⟩ := ob hm
        have s66 := h0.ul a62
        refine Mw.p rfl rfl (fun _ => R.ix (α := File) s66 e65 rfl rfl rfl) (Df rfl (Mw.q rfl rfl (fun _ c => R.ld rfl rfl (cl_cell (File.at0 (s66.at_ e65)).1 rfl (File.at0 (s66.at_ e65)).str c)) (Ds rfl (Mw.p rfl rfl (fun _ => R.lenS rfl) ?_))))
        obtain ⟨q67, e68, hm⟩ := ob hm
        refine Mw.p rfl rfl (fun _ => R.ss e68 rfl (.inr rfl) (.inl ⟨rfl, rfl⟩)) ?_
        obtain ⟨q69, e70, hm⟩ := ob hm
        refine Mw.p rfl rfl (fun _ => R.sad e70 rfl rfl) (Dv v0_ rfl (Di rfl ?_))
        obtain ⟨u71, e72, hm⟩ := ob hm
        refine Mw.p rfl rfl (fun _ => R.ix (α := File) s66 e72 rfl rfl rfl) (Df rfl ?_)
        obtain ⟨v73, c74, r75⟩ := (File.at1 (s66.at_ e72)).cell rfl
        refine Mw.q rfl rfl (fun _ c => R.ld rfl rfl (cl_cell (File.at1 (s66.at_ e72)).1 rfl c74 c)) (Mw.p rfl rfl (fun _ => R.bd (zs := [vS ([] : Str), .slice none 0 0]) (cs := [vS q69, v73]) [(0, vS q69), (1, v73)] rfl rfl rfl (bp_cons rfl rfl (bp_cons r75.oc rfl bp_nil))) ?_)
        have s76 : Rd (α := List Vm.File) W61 [3, 0] [v40] y39 := Ow.rdSh o63
        obtain ⟨z77, e78, hm⟩ := ob hm
        refine Mw.t rfl rfl (T.call rfl (p184 (K := [0, 3]) (k0 := 5) (x1 := (Vm.File.mk q69 u71.Text)) (s76.sub (M := [0, 3]) rfl) ((File.rd (K := [0]) q69 u71.Text r75).sub (M := [0, 3]) rfl) e78)) ?_
        rintro v0_79 _ ⟨W79, rfl, l79, ⟨_, rfl, f79_0⟩⟩
        have o80 : Ow (α := List (Sh Vm.File)) W79 5 [0, 3] [v0_79] z77 := f79_0.sub rfl
        refine m0 l79 fun d79 => Hv v0_79 rfl (Mw.nil ?_)
        obtain ⟨W83, ew83, l83, dj83⟩ := dyeE _ 3
        have s84 : Rd (α := List Vm.File) W83 [0] [v40] y39 := by rw [dj83]; exact ((o63.up l79).rd.dye 3).sub (M := [0]) rfl
        have o85 : Ow (α := List (Sh Vm.File)) W83 5 [0] [v0_79] z77 := by rw [dj83]; exact (o80.dyeA 3 rfl).sub rfl
        obtain ⟨W87, ew87, l87, o87⟩ := o85.dyeO 3
        exact (ag) ⟨z77, v0_79, W87, ew87.trans (ew83), ((((l56.j l61).j l79).j l83).j l87).w, rfl, o87, hm⟩
       ·exact sk ((ag) ⟨y39, v40, W56, rfl, l56.w, rfl, (o41.up l56), hm⟩)
      ·refine rg (mv v0_ rfl (mi rfl ?_))
       obtain ⟨u89, e90, hm⟩ := ob hm
       refine Lw.r rfl (R.ix (α := File) s47 e90 rfl rfl rfl) (Lw.fa rfl (Lw.r rfl (R.ld rfl rfl (File.at0 (s47.at_ e90)).str) (ms rfl (Lw.seq rfl (mb rfl (bs hm (fun hc91 hm => ?_) fun hc91 hm => ?_))))))
       ·exact psk 7 hc91 rfl (Pb hc91 rfl (nl ((ag) ⟨true, W43, rfl, Le.refl _ _, rfl, hm⟩)))
       ·refine wak 7 hc91 (ms rfl (mv v0_ rfl (mi rfl ?_)))
        obtain ⟨u92, e93, hm⟩ := ob hm
        exact Lw.r rfl (R.ix (α := File) s47 e93 rfl rfl rfl) (Lw.fa rfl (Lw.r rfl (R.ld rfl rfl (File.at0 (s47.at_ e93)).str) (ca hm (fun _ => p165) fun z94 W96 hm l96 => Pb hc91 rfl (nl ((ag) ⟨z94, W96, rfl, l96, rfl, hm⟩)))))
    ·refine Cw.exit ?_
     rw [hK44] at hm
     refine Cw.seq ?_
     obtain ⟨K101, hK101, hm⟩ := jn_e hm
     refine Cw.join 72 80 [80] (fun l w => ∃ y99 W100, CW.w W100 = w ∧ Le [] W43 W100 ∧ l = [vB y99] ∧ K101 y99 = some r) ?_ ?_
     ·rintro _ _ σ ⟨y99, W100, rfl, l100, rfl, hm⟩
      rw [hK101] at hm
      have a102 := a46.n l100
      refine cn hm (fun hm => ?_) fun hm => ?_
      ·refine sr (mv v0_ rfl (cr hm (fun _ => p133 (k0 := 6) (h0.ul a102)) ?_))
       rintro z106 v0_108 W108 hm l108 ⟨_, rfl, f108_0⟩
       have a109 := a102.n l108
       refine Gv v0_108 rfl (Nb rfl ?_)
       obtain ⟨W111, ew111, l111, o111⟩ := f108_0.toSh
       have a112 := a109.t l111
       cases hm
       rw [← ew111]
       exact Cw.ret (ret2 rfl rfl (Res.mk a112 ⟨v0_108, rfl, o111.s.sub rfl rfl⟩))
      ·refine sk (sr (mv v40 rfl (Gv v40 rfl (Nb rfl ?_))))
       cases hm
       exact Cw.ret (ret2 rfl rfl (Res.mk a102 ⟨v40, rfl, (o41.up l100).s.sub rfl rfl⟩))
     ·refine rg (mv v40 rfl ?_)
      have s114 : Rd (α := List Vm.File) W43 [3, 0] [v40] y39 := Ow.rdSh o41
      refine ca hm (fun _ => p139 (K := [0, 3]) (s114.sub (M := [0, 3]) rfl)) fun z115 W117 hm l117 => Lw.r rfl (R.not rfl) (mb rfl (bs hm (fun hc120 hm => ?_) fun hc120 hm => ?_))
      ·exact psk 4 hc120 rfl (Pb hc120 rfl (nl ((ag) ⟨true, W117, rfl, l117, rfl, hm⟩)))
      ·refine wak 4 hc120 (mv v40 rfl ?_)
       have s121 : Rd (α := List Vm.File) W117 [3, 0] [v40] y39 := Ow.rdSh (o41.up l117)
       exact Lw.ln y39 s121 rfl (mi rfl (Lw.ne rfl (Pb hc120 rfl (nl ((ag) ⟨(((y39.length : Int) : Int) != ((x0.length : Int) : Int)), W117, rfl, l117, rfl, hm⟩)))))
  ·refine rg ?_
   have s122 : Rd (α := List Vm.File) W13 [3, 0, 2] [v0_13] z11 := Ow.rdSh f13_0
   refine mv v0_13 rfl (Lw.ln z11 s122 rfl (mv v0_ rfl (Lw.ln x0 (h0.ul a14) rfl (Lw.eq rfl (mb rfl (bs hm (fun hc124 hm => ?_) fun hc124 hm => ?_))))))
   ·exact psk 3 hc124 rfl (Pb hc124 rfl (nl ((ag) ⟨true, W13, rfl, Le.refl _ _, rfl, hm⟩)))
   ·exact wak 3 hc124 (ms rfl (ca hm (fun _ => p163) fun z125 W127 hm l127 => Lw.r rfl (R.not rfl) (Pb hc124 rfl (nl ((ag) ⟨(!z125), W127, rfl, l127, rfl, hm⟩)))))
theorem p190 {x0 v0_ x1 x2 k0 r} (h0 : Rd W K [v0_] x0) (hm : Vm.spec_TreeMove x0 x1 x2 = some r) : Q1 190 [v0_, vS x1, vS x2] W [] fun W' v => ∃ u0, v = .tuple [u0, vB r.2].toArray ∧ Ow (α := List (Sh Vm.File)) W' k0 (0 :: K) [u0] r.1 :=
 (c190 (h0.view _) hm).ad (fk k0) fun _ _ ⟨u0, e, f0⟩ => ⟨u0, e, f0.backS (fk_LL _) rfl⟩
end Go.Sx
