/- Walks: each function answers as its model, printed by a program of ours. Conditions: the arguments read as they are given. -/
import Derived.Test.YtidkloialdageaaGreatDoorXTs
import Derived.Test.YtidkloialdageaaGreatDoorXM3
import Derived.Test.YtidkloialdageaaGreatDoorXW6
import Derived.Test.YtidkloialdageaaGreatDoorXW7
namespace Go.Sx
open Go Go.Proofs Go.Vm Rp
set_option linter.unusedVariables false
set_option linter.unusedSimpArgs false

variable {W W0 : CW} {K : List Nat}
theorem c71 {x0 v0_0_ v0_1_ r} (h0 : Rd W0 [0] [v0_0_, v0_1_] x0) (hm : Vm.impl_Repo_own x0 = some r) : Q0 71 [.agg [v0_0_, v0_1_].toArray] W0 fun Wf v => ∃ u0_0 u0_1, v = .agg [u0_0, u0_1].toArray ∧ OwS Wf [31] [] [u0_0] r.Commits ∧ OwS Wf [32] [] [u0_1] r.Heads := by
 unfold Vm.impl_Repo_own at hm
 obtain ⟨w0_0, w0_1, he0, h0_0, h0_1⟩ := Repo.split h0
 simp only [List.cons.injEq, and_true, true_and] at he0
 obtain ⟨rfl, rfl⟩ := he0
 refine CallR.of Tryz.func71 rfl rfl rfl rfl (sr (bo 2 rfl fun g1 W1 l1 b1 => ?_))
 have a2 := l1.o
 refine al 3 [.slice none 0 0, .slice none 0 0] fun g3 W3 l3 b3 => ?_
 have a4 := a2.n l3
 refine nl (sr (Lw.t rfl (T.lit0 (α := Head) 4 []) ?_))
 rintro v6 _ ⟨W6, rfl, l6, o6⟩
 have a7 := a4.n l6
 have b8 := (b1.up l3).up l6
 refine fl b8 rfl ?_
 obtain ⟨q10, e11, hm⟩ := ob hm
 refine Lw.t rfl (T.appP (α := Head) o6 (h0_1.ul a7) rfl rfl e11) ?_
 rintro v12 _ ⟨W12, rfl, l12, o12⟩
 have a14 := a7.t l12
 refine Lw.r rfl (R.bd (zs := [.slice none 0 0, .slice none 0 0]) (cs := [.slice none 0 0, v12]) [(1, v12)] rfl rfl rfl (bp_cons o12.oc rfl bp_nil)) (al 5 [.slice none 0 0, .slice none 0 0] fun g17 W17 l17 b17 => ?_)
 have a18 := a14.n l17
 refine sta b17 (oc_cons rfl (oc_cons (o12.up l17).oc oc_nil)) fun W22 l22 b22 => ?_
 have a23 := a18.t l22
 refine nl (ssr (fl (((b8.up l12).up l17).up l22) rfl (Lw.ln x0.Commits (h0_0.ul a23) rfl (mi rfl (nl (Cw.block ?_))))))
 obtain ⟨K38, hK38, hm⟩ := jn_e hm
 refine Cw.loop 14 33 [5, 14] (fun m l w => ∃ y29 y30 y33 j28 v31 v34 W37, CW.w W37 = w ∧ Le [5, 6, 7, 8, 9] W22 W37 ∧ l = [j28, vI y29] ∧ Ow W37 6 [] [v31] y30 ∧ Ow W37 4 [] [v34] y33 ∧ Bx W37 5 g17 [v31, v34] ∧ Vm.impl_Repo_own_l1 x0 K38 m y29 y30 y33 = some r) _ ⟨0, ([] : List Commit), q10, undef, .slice none 0 0, v12, W22, rfl, Le.refl _ _, rfl, owN 6 [], ((o12.up l17).up l22), b22, hm⟩ ?_
 rintro (_ | m39) _ _ σ ⟨y29, y30, y33, j28, v31, v34, W37, rfl, l37, rfl, o32, o35, b36, hm⟩
 ·cases hm
 unfold Vm.impl_Repo_own_l1 at hm
 have a40 := a23.t l37
 refine sr (Lw.lt rfl (nl (Cw.seq (cn hm (fun hm => ?_) fun hm => ?_))))
 ·refine sk (Cw.seq (Cw.block (sr ?_)))
  obtain ⟨u44, e45, hm⟩ := ob hm
  refine Lw.r rfl (R.ix (α := Commit) (h0_0.ul a40) e45 rfl rfl rfl) ?_
  obtain ⟨x47, c48, _, r49⟩ := ((h0_0.ul a40).at_ e45).cells
  obtain ⟨v50, v52, rfl, r51, r53⟩ := Commit.split r49
  refine Lw.r rfl (R.lda c48 rfl rfl) (al 7 [.slice none 0 0, vS ([] : Str), .slice none 0 0] fun g54 W54 l54 b54 => ?_)
  have a55 := l54.o
  refine sta b54 (oc_cons r51.oc (oc_cons rfl (oc_cons r53.oc oc_nil))) fun W61 l61 b61 => ?_
  have a62 := a55.t l61
  refine nl (Cw.draw [6, 8, 9] [(0, 0), (1, 1), (3, 0), (4, 1), (6, 0), (7, 1), (8, 0), (9, 1), (2, 2), (5, 2), (10, 2), (11, 0), (12, 2), (13, 2), (14, 0), (15, 3)] mixed (by kernel_rfl) fun W68 l68 => ?_)
  have a69 := a62.n l68
  have b74 := ((b36.up l54).up l61).up l68
  have b75 := b61.up l68
  refine Dfl b74 rfl rfl rfl (Dfl b75 rfl rfl rfl (Dfl b75 rfl rfl rfl (Dfl b75 rfl rfl rfl (Mw.t rfl rfl (T.lit0 (α := Int) 8 []) ?_))))
  rintro v76 _ ⟨W76, rfl, l76, o76⟩
  have a77 := a69.n l76
  refine m0 l76 fun d76 => ?_
  obtain ⟨q84, e85, hm⟩ := ob hm
  refine Mw.t rfl rfl (T.appP (α := Int) o76 (r51.ul a77) rfl rfl e85) ?_
  rintro v86 _ ⟨W86, rfl, l86, o86⟩
  have a88 := a77.t l86
  refine mc d76 l86 fun d86 => Dc hm d86 (fun _ => p114 (k0 := 9) (r53.ul a88)) rfl ?_
  rintro z96 v0_98 W98 hm l98 ⟨_, rfl, f98_0⟩ d98
  refine Mw.p rfl rfl (fun _ => R.bd (zs := [.slice none 0 0, vS ([] : Str), .slice none 0 0]) (cs := [v86, vS u44.Who, v0_98]) [(0, v86), (1, vS u44.Who), (2, v0_98)] rfl rfl rfl (bp_cons (o86.up l98).oc rfl (bp_cons rfl rfl (bp_cons f98_0.oc rfl bp_nil)))) (Mw.t rfl rfl (T.bs 10 [.agg [v86, vS u44.Who, v0_98].toArray] (cs := [v86, vS u44.Who, v0_98]) rfl rfl (bsA rfl)) ?_)
  rintro _ _ ⟨g107, W107, rfl, rfl, l107, b107⟩
  refine mc d98 l107 fun d107 => ?_
  obtain ⟨q117, e118, hm⟩ := ob hm
  refine Mw.t rfl rfl (T.app1 (α := Commit) (J := [8, 9]) (K' := []) (((((((o32.up l54).up l61).up l68).up l76).up l86).up l98).up l107) b107 (Commit.own q84 u44.Who z96 ((o86.up l98).up l107).s (f98_0.up l107).s) rfl rfl e118) ?_
  rintro v119 _ ⟨W119, rfl, l119, o119⟩
  refine mc d107 l119 fun d119 => Df rfl (Mw.lu rfl (T.st (j := 0) (v := v119) (((((b74.up l76).up l86).up l98).up l107).up l119) rfl rfl o119.oc rfl rfl) ?_)
  rintro _ _ ⟨W127, rfl, l127, b127⟩
  exact Mw.nil (rg (Lw.add rfl (mi rfl (nl ((agm) ⟨w64 (y29 + 1), q117, y33, ptr (bx g54), v119, v34, W127, rfl, (((((((((l37.j l54).j l61).j l68).j l76).j l86).j l98).j l107).j l119).j l127).w, rfl, (o119.up l127), (((((((((o35.up l54).up l61).up l68).up l76).up l86).up l98).up l107).up l119).up l127), b127, hm⟩)))))
 ·refine Cw.exit ?_
  rw [hK38] at hm
  refine sr (la b36 (sta (((((b3.up l6).up l12).up l17).up l22).up l37) (oc_cons o32.oc (oc_cons o35.oc oc_nil)) fun W135 l135 b135 => ?_))
  have a136 := a40.t l135
  refine nl ?_
  obtain ⟨W141, ew141, l141, o141⟩ := (o32.up l135).dyeO 31
  have a142 := a136.t l141
  obtain ⟨W147, ew147, l147, o147⟩ := ((o35.up l135).up l141).dyeO 32
  have a148 := a142.t l147
  cases hm
  rw [← ew147.trans (ew141)]
  exact Cw.ret (retA1 rfl ((b135.up l141).up l147) (Res.mk a148 ⟨v31, v34, rfl, (o141.up l147).s, o147.s⟩))

theorem p71 {x0 v0_0_ v0_1_ k0 k1 r} (h0 : Rd W K [v0_0_, v0_1_] x0) (hm : Vm.impl_Repo_own x0 = some r) : Q1 71 [.agg [v0_0_, v0_1_].toArray] W [] fun W' v => ∃ u0_0 u0_1, v = .agg [u0_0, u0_1].toArray ∧ Ow W' k0 [] [u0_0] r.Commits ∧ Ow W' k1 [] [u0_1] r.Heads :=
 CallR.adJ (J := []) (fun c => bif Nat.beq c 0 then 0 else bif Nat.beq c 31 then k0 else bif Nat.beq c 32 then k1 else 0) (c71 (h0.view _) hm) fun _ _ ⟨u0_0, u0_1, e, f0, f1⟩ => ⟨u0_0, u0_1, e, f0.one1.backN rfl, f1.one1.backN rfl⟩

theorem c73 {x0 x1 g1_ r} (h0 : Rd W0 [0] [vS x0.Name, vI x0.At] x0) (hB1 : Bx W0 2 g1_ [vS x1]) (hm : Vm.impl_RepoDrop_c1 x0 x1 = some r) : Q0 73 [.agg [vS x0.Name, vI x0.At].toArray, ptr (bx g1_)] W0 fun Wf v => v = vB r ∧ Bx Wf 2 g1_ [vS x1] := by
 unfold Vm.impl_RepoDrop_c1 at hm
 refine CallR.of Tryz.func73 rfl rfl rfl rfl (sr (bo 3 rfl fun g1 W1 l1 b1 => ?_))
 have a2 := l1.o
 have b3 := hB1.up l1
 refine Nb rfl (sr (fl b1 rfl (lz b3 rfl (Lw.seq rfl (Nb rfl ?_)))))
 cases hm
 exact Cw.ret (ret1 rfl (Res.mk a2 ⟨rfl, b3⟩))

theorem p73 {x0 x1 g1_ c0 r} (h0 : Rd W K [vS x0.Name, vI x0.At] x0) (hB1 : Bx W c0 g1_ [vS x1]) (hJ : okJ K [c0] = true) (hm : Vm.impl_RepoDrop_c1 x0 x1 = some r) : Q1 73 [.agg [vS x0.Name, vI x0.At].toArray, ptr (bx g1_)] W [c0] fun W' v => v = vB r ∧ Bx W' c0 g1_ [vS x1] :=
 CallR.adJ (J := [c0]) (fun c => bif Nat.beq c 0 then 0 else bif Nat.beq c 2 then c0 else 0) (c73 (h0.view _) (hB1.viewJ 0 hJ) hm) fun _ _ ⟨e, f0⟩ => ⟨e, Bx.backJ 0 f0 rfl⟩

theorem c137_73 {x0 v0_ x2 g2_ r} (h0 : Rd W0 [0] [v0_] x0) (hB2 : Bx W0 2 g2_ [vS x2]) (hm : Vm.slices_IndexFunc_impl_Head_impl_Head_at_impl_RepoDrop_c1 x0 x2 = some r) : Q0 137 [v0_, .func (.func 73) #[] [ptr (bx g2_)].toArray] W0 fun Wf v => v = vI r ∧ Bx Wf 2 g2_ [vS x2] := by
 unfold Vm.slices_IndexFunc_impl_Head_impl_Head_at_impl_RepoDrop_c1 at hm
 refine CallR.of Tryz.func137 rfl rfl rfl rfl (sr (Ni rfl (ssr (mv v0_ rfl (Lw.ln x0 h0 rfl (mi rfl (nl (Cw.block ?_))))))))
 obtain ⟨K6, hK6, hm⟩ := jn_e hm
 refine Cw.loop 8 18 [4, 5, 8] (fun m l w => ∃ y1 y3 j2 W5, CW.w W5 = w ∧ Le [2] W0 W5 ∧ l = [vI y1, j2, vI y3] ∧ Bx W5 2 g2_ [vS x2] ∧ Vm.slices_IndexFunc_impl_Head_impl_Head_at_impl_RepoDrop_c1_l1 x0 x2 K6 m y1 y3 = some r) _ ⟨0, 0, undef, W0, rfl, Le.refl _ _, rfl, hB2, hm⟩ ?_
 rintro (_ | m7) _ _ σ ⟨y1, y3, j2, W5, rfl, l5, rfl, b4, hm⟩
 ·cases hm
 unfold Vm.slices_IndexFunc_impl_Head_impl_Head_at_impl_RepoDrop_c1_l1 at hm
 have a8 := l5.s
 refine sr (Lw.lt rfl (nl (Cw.seq (cn hm (fun hm => ?_) fun hm => ?_))))
 ·refine sk (Cw.seq (Cw.block (sr (mi rfl (Ni rfl (sr (mv (.func (.func 73) #[] [ptr (bx g2_)].toArray) rfl (mv v0_ rfl (mi rfl ?_)))))))))
  obtain ⟨u10, e11, hm⟩ := ob hm
  refine Lw.r rfl (R.ix (α := Head) (h0.ul a8) e11 rfl rfl rfl) ?_
  obtain ⟨x13, c14, _, r15⟩ := ((h0.ul a8).at_ e11).cells
  obtain rfl := Head.split r15
  refine Lw.r rfl (R.lda c14 rfl rfl) ?_
  obtain ⟨z16, e17, hm⟩ := ob hm
  refine Lw.t rfl (T.callV (vals := [.agg [vS u10.Name, vI u10.At].toArray]) (caps := [ptr (bx g2_)]) rfl rfl (p73  (c0 := 2) (x1 := x2) (Head.rd (K := [0]) u10.Name u10.At ) b4 rfl e17)) ?_
  rintro _ _ ⟨W18, rfl, l18, ⟨rfl, f18_0⟩⟩
  have a19 := a8.t l18
  refine nl (cn hm (fun hm => ?_) fun hm => ?_)
  ·refine sr (mi rfl (Ni rfl ?_))
   cases hm
   exact Cw.ret (ret1 rfl (Res.mk a19 ⟨rfl, f18_0⟩))
  ·exact sk (rg (Lw.add rfl (mi rfl (nl ((agm) ⟨y1, w64 (y3 + 1), vI y3, W18, rfl, (l5.j l18).w, rfl, f18_0, hm⟩)))))
 ·refine Cw.exit ?_
  rw [hK6] at hm
  refine sr (Ni rfl ?_)
  cases hm
  exact Cw.ret (ret1 rfl (Res.mk a8 ⟨rfl, b4⟩))

theorem p137_73 {x0 v0_ x2 g2_ c0 r} (h0 : Rd W K [v0_] x0) (hB2 : Bx W c0 g2_ [vS x2]) (hJ : okJ K [c0] = true) (hm : Vm.slices_IndexFunc_impl_Head_impl_Head_at_impl_RepoDrop_c1 x0 x2 = some r) : Q1 137 [v0_, .func (.func 73) #[] [ptr (bx g2_)].toArray] W [c0] fun W' v => v = vI r ∧ Bx W' c0 g2_ [vS x2] :=
 CallR.adJ (J := [c0]) (fun c => bif Nat.beq c 0 then 0 else bif Nat.beq c 2 then c0 else 0) (c137_73 (h0.view _) (hB2.viewJ 0 hJ) hm) fun _ _ ⟨e, f0⟩ => ⟨e, Bx.backJ 0 f0 rfl⟩

theorem c72_73 {x0 v0_ x2 g2_ r} (h0 : Ow W0 2 [] [v0_] x0) (hB2 : Bx W0 3 g2_ [vS x2]) (hm : Vm.slices_DeleteFunc_impl_Head_impl_Head_at_impl_RepoDrop_c1 x0 x2 = some r) : Q0 72 [v0_, .func (.func 73) #[] [ptr (bx g2_)].toArray] W0 fun Wf v => ∃ u0, v = u0 ∧ OwS Wf [31] [] [u0] r ∧ Bx Wf 3 g2_ [vS x2] := by
 unfold Vm.slices_DeleteFunc_impl_Head_impl_Head_at_impl_RepoDrop_c1 at hm
 refine CallR.of Tryz.func72 rfl rfl rfl rfl (sr (Nv (.slice none 0 0) rfl (sr (mv v0_ rfl (mv (.func (.func 73) #[] [ptr (bx g2_)].toArray) rfl (cr hm (fun _ => p137_73 (K := [2]) (c0 := 3) (x2 := x2) h0.rd hB2 rfl) ?_))))))
 rintro z1 _ W3 hm l3 ⟨rfl, f3_0⟩
 have a4 := l3.s
 refine Ni rfl (ssr (mi rfl (Lw.eq rfl (nl (cn hm (fun hm => ?_) fun hm => ?_)))))
 ·refine sr (mv v0_ rfl (Nv v0_ rfl ?_))
  obtain ⟨W7, ew7, l7, o7⟩ := (h0.up l3).dyeO 31
  have a8 := a4.t l7
  cases hm
  rw [← ew7]
  exact Cw.ret (ret1 rfl (Res.mk a8 ⟨v0_, rfl, o7.s, (f3_0.up l7)⟩))
 ·refine sk (ssr (mi rfl (Lw.add rfl (Ni rfl (Cw.block ?_)))))
  obtain ⟨K17, hK17, hm⟩ := jn_e hm
  refine Cw.loop 16 35 [5, 6, 7] (fun m l w => ∃ y10 y11 y14 j12 W16, CW.w W16 = w ∧ Le [2, 3, 4] W3 W16 ∧ l = [vI y10, vI y11, j12] ∧ Bx W16 3 g2_ [vS x2] ∧ Ow W16 2 [] [v0_] y14 ∧ Vm.slices_DeleteFunc_impl_Head_impl_Head_at_impl_RepoDrop_c1_l1 x2 K17 m y10 y11 y14 = some r) _ ⟨z1, w64 (z1 + 1), x0, undef, W3, rfl, Le.refl _ _, rfl, f3_0, (h0.up l3), hm⟩ ?_
  rintro (_ | m18) _ _ σ ⟨y10, y11, y14, j12, W16, rfl, l16, rfl, b13, o15, hm⟩
  ·cases hm
  unfold Vm.slices_DeleteFunc_impl_Head_impl_Head_at_impl_RepoDrop_c1_l1 at hm
  have a19 := a4.t l16
  refine ssr (mi rfl (mv v0_ rfl (Lw.ln y14 o15.rd rfl (Lw.lt rfl (nl (cn hm (fun hm => ?_) fun hm => ?_))))))
  ·refine sk ?_
   obtain ⟨K27, hK27, hm⟩ := jn_e hm
   refine Cw.join 22 35 [5, 7] (fun l w => ∃ y21 y24 j22 W26, CW.w W26 = w ∧ Le [2, 3, 4] W16 W26 ∧ l = [vI y21, j22] ∧ Bx W26 3 g2_ [vS x2] ∧ Ow W26 2 [] [v0_] y24 ∧ K27 y21 y24 = some r) ?_ ?_
   ·rintro _ _ σ ⟨y21, y24, j22, W26, rfl, l26, rfl, b23, o25, hm⟩
    rw [hK27] at hm
    exact rg (mi rfl (Lw.add rfl (Ni rfl ((agm) ⟨y21, w64 (y11 + 1), y24, j22, W26, rfl, (l16.j l26).w, rfl, b23, o25, hm⟩))))
   ·refine Cw.block (sr (mv v0_ rfl (mi rfl ?_)))
    obtain ⟨u29, e30, hm⟩ := ob hm
    refine Lw.r rfl (R.ix (α := Head) o15.rd e30 rfl rfl rfl) ?_
    obtain ⟨x31, c32, _, r33⟩ := (o15.rd.at_ e30).cells
    obtain rfl := Head.split r33
    refine Lw.r rfl (R.lda c32 rfl rfl) (al 4 [vS ([] : Str), vI 0] fun g34 W34 l34 b34 => sta b34 (oc_cons rfl (oc_cons rfl oc_nil)) fun W38 l38 b38 => nl (sr (mv (.func (.func 73) #[] [ptr (bx g2_)].toArray) rfl (la b38 ?_))))
    obtain ⟨z42, e43, hm⟩ := ob hm
    refine Lw.t rfl (T.callV (vals := [.agg [vS u29.Name, vI u29.At].toArray]) (caps := [ptr (bx g2_)]) rfl rfl (p73  (c0 := 3) (x1 := x2) (Head.rd (K := [0]) u29.Name u29.At ) ((b13.up l34).up l38) rfl e43)) ?_
    rintro _ _ ⟨W44, rfl, l44, ⟨rfl, f44_0⟩⟩
    have o46 := ((o15.up l34).up l38).up l44
    refine Lw.r rfl (R.not rfl) (nl (cn hm (fun hm => ?_) fun hm => ?_))
    ·refine sr (mv v0_ rfl (mi rfl (la (b38.up l44) ?_)))
     obtain ⟨u49, e50, hm⟩ := ob hm
     refine Lw.r rfl (R.ix (α := Head) o46.rd e50 rfl rfl rfl) ?_
     obtain ⟨q52, e53, hm⟩ := ob hm
     refine Lw.u (T.stS (K' := []) o46 (Head.rd (K := []) u29.Name u29.At) e53 rfl rfl rfl) ?_
     rintro _ _ ⟨W51, rfl, l51, o51⟩
     exact nl (rg (mi rfl (Lw.add rfl (Ni rfl ((ag) ⟨w64 (y10 + 1), q52, ptr (bx g34), W51, rfl, (((l34.j l38).j l44).j l51).w, rfl, (f44_0.up l51), o51, hm⟩)))))
    ·exact sk ((ag) ⟨y10, y14, ptr (bx g34), W44, rfl, ((l34.j l38).j l44).w, rfl, f44_0, o46, hm⟩)
  ·refine Cw.exit ?_
   rw [hK17] at hm
   refine sr (mv v0_ rfl (mi rfl ?_))
   obtain ⟨q57, e58, hm⟩ := ob hm
   have r60 := o15.rd.cutV e58
   refine Lw.r rfl (R.sl o15.rd e58 rfl (.inr rfl) (.inl ⟨rfl, rfl⟩)) (Lw.u (T.clr o15 e58 rfl (Vm.Head.mk ([] : Str) 0 : Vm.Head)) ?_)
   rintro _ _ ⟨W61, rfl, l61, o61⟩
   have a62 := a19.t l61
   refine nl (sr (mv v0_ rfl (mi rfl ?_)))
   obtain ⟨q64, e65, hm⟩ := ob hm
   have r67 := o61.rd.cutV e65
   refine Lw.r rfl (R.sl o61.rd e65 rfl (.inl ⟨rfl, rfl⟩) (.inr rfl)) (Nv (cutV v0_ (0 : Int).toNat (y10 : Int).toNat (Rp.sz (Head))) rfl ?_)
   have o68 := Ow.preM o61 e65
   obtain ⟨W69, ew69, l69, o69⟩ := o68.dyeO 31
   have a70 := a62.t l69
   cases hm
   rw [← ew69]
   exact Cw.ret (ret1 rfl (Res.mk a70 ⟨(cutV v0_ (0 : Int).toNat (y10 : Int).toNat (Rp.sz (Head))), rfl, o69.s, ((b13.up l61).up l69)⟩))

theorem p72_73 {x0 v0_ x2 g2_ k0 c0 c1 r} (h0 : Ow W c0 [] [v0_] x0) (hB2 : Bx W c1 g2_ [vS x2]) (hJ : okJ K [c0, c1] = true) (hm : Vm.slices_DeleteFunc_impl_Head_impl_Head_at_impl_RepoDrop_c1 x0 x2 = some r) : Q1 72 [v0_, .func (.func 73) #[] [ptr (bx g2_)].toArray] W [c0, c1] fun W' v => ∃ u0, v = u0 ∧ Ow W' k0 [] [u0] r ∧ Bx W' c1 g2_ [vS x2] :=
 CallR.adJ (J := [c0, c1]) (fun c => bif Nat.beq c 0 then 0 else bif Nat.beq c 2 then c0 else bif Nat.beq c 3 then c1 else bif Nat.beq c 31 then k0 else 0) (c72_73 (h0.viewJ 0 hJ) (hB2.viewJ 1 hJ) hm) fun _ _ ⟨u0, e, f0, f1⟩ => ⟨u0, e, f0.one1.backN rfl, Bx.backJ 1 f1 rfl⟩

theorem c16 {x0 v0_0_ v0_1_ x1 r} (h0 : Rd W0 [0] [v0_0_, v0_1_] x0) (h99 : Gl 0 W0 [0]) (hm : Vm.impl_RepoDrop x0 x1 = some r) : Q0 16 [.agg [v0_0_, v0_1_].toArray, vS x1] W0 fun Wf v => ∃ u0_0 u0_1, v = .tuple [.agg [u0_0, u0_1].toArray, vB r.2].toArray ∧ OwS Wf [31] [] [u0_0] r.1.Commits ∧ OwS Wf [32] [] [u0_1] r.1.Heads := by
 unfold Vm.impl_RepoDrop at hm
 obtain ⟨w0_0, w0_1, he0, h0_0, h0_1⟩ := Repo.split h0
 simp only [List.cons.injEq, and_true, true_and] at he0
 obtain ⟨rfl, rfl⟩ := he0
 refine CallR.of Tryz.func16 rfl rfl rfl rfl (sr (bo 2 rfl fun g1 W1 l1 b1 => ?_))
 have a2 := l1.o
 refine Lw.t rfl (T.box 3 (v := vS x1) (cs := [vS x1]) rfl rfl) ?_
 rintro _ _ ⟨g3, W3, rfl, rfl, l3, b3⟩
 have a4 := a2.n l3
 refine al 4 [.slice none 0 0, .slice none 0 0] fun g6 W6 l6 b6 => ?_
 have a7 := a4.n l6
 have b8 := (b1.up l3).up l6
 refine Nb rfl (ssr (la b8 (ca hm (fun _ => p19 (Repo.rd (K := [0]) x0.Commits x0.Heads (h0_0.ul a7) (h0_1.ul a7)) (h99.ul a7)) fun z13 W15 hm l15 => ?_)))
 have a16 := a7.n l15
 refine Lw.r rfl (R.not rfl) (nl (cn hm (fun hm => ?_) fun hm => ?_))
 ·refine sr (Lw.r rfl (R.bd (zs := [.slice none 0 0, .slice none 0 0]) (cs := [.slice none 0 0, .slice none 0 0]) [] rfl rfl rfl bp_nil) (sta (b6.up l15) (oc_cons rfl (oc_cons rfl oc_nil)) fun W21 l21 b21 => ?_))
  have a22 := a16.t l21
  refine Nb rfl ?_
  cases hm
  exact Cw.ret (retA2 rfl b21 rfl (Res.mk a22 ⟨.slice none 0 0, .slice none 0 0, rfl, (owsN []).sub rfl rfl, (owsN []).sub rfl rfl⟩))
 ·refine sk (sr (la (b8.up l15) (cr hm (fun _ => p71 (k0 := 5) (k1 := 6) (Repo.rd (K := [0]) x0.Commits x0.Heads (h0_0.ul a16) (h0_1.ul a16))) ?_)))
  rintro z27 _ W29 hm l29 ⟨v0_0_29, v0_1_29, rfl, f29_0, f29_1⟩
  have a30 := a16.n l29
  refine al 7 [.slice none 0 0, .slice none 0 0] fun g34 W34 l34 b34 => ?_
  have a35 := a30.n l34
  refine sta b34 (oc_cons (f29_0.up l34).oc (oc_cons (f29_1.up l34).oc oc_nil)) fun W41 l41 b41 => ?_
  have a42 := a35.t l41
  refine nl (sr (fl b41 rfl (Lw.r rfl (R.mkF (vs := [ptr (bx g3)]) rfl) (cr hm (fun _ => p72_73 (K := [0]) (k0 := 8) (c0 := 6) (c1 := 3) (x2 := x1) ((f29_1.up l34).up l41) (((((b3.up l6).up l15).up l29).up l34).up l41) rfl) ?_))))
  rintro z48 v0_50 W50 hm l50 ⟨_, rfl, f50_0, f50_1⟩
  have a51 := a42.t l50
  refine Lw.fa rfl (Lw.u (T.st (j := 1) (v := v0_50) (b41.up l50) rfl rfl f50_0.oc rfl rfl) ?_)
  rintro _ _ ⟨W56, rfl, l56, b56⟩
  have a57 := a51.t l56
  refine nl (Cw.seq (Cw.draw [4] [(0, 1), (1, 0), (2, 1), (3, 0), (4, 0), (5, 1), (6, 0), (7, 0), (8, 2), (9, 0)] mixed (by kernel_rfl) fun W63 l63 => ?_))
  have a64 := a57.n l63
  have o65 := ((((f29_0.up l34).up l41).up l50).up l56).up l63
  have o66 := (f50_0.up l56).up l63
  refine Mw.q rfl rfl (fun _ c => R.lda (cs := [v0_0_29, v0_50]) ((b56.up l63).clcs rfl c) rfl rfl) (Dfl (b56.up l63) rfl rfl rfl (Mw.p rfl rfl (fun _ => lenR (xs := z48) o66.rd rfl) (Dfl (((((((b8.up l15).up l29).up l34).up l41).up l50).up l56).up l63) rfl rfl rfl (Mw.p rfl rfl (fun _ => lenR (xs := x0.Heads) (h0_1.ul a64) rfl) (Mw.p rfl rfl (fun _ => R.lt rfl rfl) (Mw.tu rfl (T.sta (vs := [v0_0_29, v0_50]) (((((((b6.up l15).up l29).up l34).up l41).up l50).up l56).up l63) rfl rfl (oc_cons o65.oc (oc_cons o66.oc oc_nil)) rfl rfl) ?_))))))
  rintro _ _ ⟨W72, rfl, l72, b72⟩
  have a73 := a64.t l72
  refine m0 l72 fun d72 => Hb rfl (Mw.nil ?_)
  obtain ⟨W79, ew79, l79, o79⟩ := (o65.up l72).dyeO 31
  have a80 := a73.t l79
  obtain ⟨W86, ew86, l86, o86⟩ := ((o66.up l72).up l79).dyeO 32
  have a87 := a80.t l86
  cases hm
  rw [← ew86.trans (ew79)]
  exact Cw.ret (retA2 rfl ((b72.up l79).up l86) rfl (Res.mk a87 ⟨v0_0_29, v0_50, rfl, (o79.up l86).s, o86.s⟩))

theorem p16 {x0 v0_0_ v0_1_ x1 k0 k1 r} (h0 : Rd W K [v0_0_, v0_1_] x0) (h99 : Gl 0 W K) (hm : Vm.impl_RepoDrop x0 x1 = some r) : Q1 16 [.agg [v0_0_, v0_1_].toArray, vS x1] W [] fun W' v => ∃ u0_0 u0_1, v = .tuple [.agg [u0_0, u0_1].toArray, vB r.2].toArray ∧ Ow W' k0 [] [u0_0] r.1.Commits ∧ Ow W' k1 [] [u0_1] r.1.Heads :=
 CallR.adJ (J := []) (fun c => bif Nat.beq c 0 then 0 else bif Nat.beq c 31 then k0 else bif Nat.beq c 32 then k1 else 0) (c16 (h0.view _) (h99.view _) hm) fun _ _ ⟨u0_0, u0_1, e, f0, f1⟩ => ⟨u0_0, u0_1, e, f0.one1.backN rfl, f1.one1.backN rfl⟩

end Go.Sx
