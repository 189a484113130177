/- Walks: each function answers as its model, printed by a program of ours. Conditions: the arguments read as they are given. -/
import Derived.Test.YtidkloialdageaaGreatDoorCTs
import Derived.Test.YtidkloialdageaaGreatDoorCM6
import Derived.Test.YtidkloialdageaaGreatDoorCW10
import Derived.Test.YtidkloialdageaaGreatDoorCW6
import Derived.Test.YtidkloialdageaaGreatDoorCW7
import Derived.Test.YtidkloialdageaaGreatDoorCW8
import Derived.Test.YtidkloialdageaaGreatDoorCE
namespace Go.Sx
open Go Go.Proofs Go.Vm Rp
set_option linter.unusedVariables false
set_option linter.unusedSimpArgs false
variable {W W0 : CW} {K : List Nat}
theorem c168 {x0 v0_1_ x1 r} (h0 : Rd W0 [0] [vS x0.Path, v0_1_] x0) (hm : Vm.impl_isAt x0 x1 = some r) : Q0 168 [.agg [vS x0.Path, v0_1_].toArray, vS x1] W0 fun Wf v => v = vB r := by
 unfold Vm.impl_isAt at hm
 obtain ⟨w0_0, he0, h0_1⟩ := File.split h0
 simp only [List.cons.injEq, and_true, true_and] at he0
 obtain rfl := he0
 refine CallR.of Tryz.func168 rfl rfl rfl rfl (sr (bo 2 rfl fun g1 W1 l1 b1 => ?_))
 have a2 := l1.o
 refine Nb rfl ?_
 obtain ⟨K5, hK5, hm⟩ := jn_e hm
 refine Cw.join 5 15 [4] (fun l w => ∃ y3 W4, CW.w W4 = w ∧ Le [] W1 W4 ∧ l = [vB y3] ∧ K5 y3 = some r) ?_ ?_
 ·rintro _ _ σ ⟨y3, W4, rfl, l4, rfl, hm⟩
  rw [hK5] at hm
  have a6 := a2.n l4
  exact .ret (rt hm a6)
 ·refine rg (fl b1 rfl (ms rfl (Lw.seq rfl (mb rfl (bs hm (fun hc8 hm => ?_) fun hc8 hm => ?_)))))
  ·exact psk 5 hc8 rfl (Pb hc8 rfl (Nb rfl ((ag) ⟨true, W1, rfl, Le.refl _ _, rfl, hm⟩)))
  ·refine wak 5 hc8 (fl b1 rfl (ms rfl ?_))
   obtain ⟨q9, e10, hm⟩ := ob hm
   exact Lw.r rfl (R.sad e10 rfl rfl) (ca hm (fun _ => p153) fun z11 W13 hm l13 => Pb hc8 rfl (Nb rfl ((ag) ⟨z11, W13, rfl, l13, rfl, hm⟩)))
theorem p168 {x0 v0_1_ x1 r} (h0 : Rd W K [vS x0.Path, v0_1_] x0) (hm : Vm.impl_isAt x0 x1 = some r) : Q1 168 [.agg [vS x0.Path, v0_1_].toArray, vS x1] W [] fun W' v => v = vB r :=
 (c168 (h0.view _) hm).ad (fk 0) fun _ _ e => e
theorem c149 {x0 v0_ x1 r} (h0 : Rd W0 [0] [v0_] x0) (hm : Vm.impl_under x0 x1 = some r) : Q0 149 [v0_, vS x1] W0 fun Wf v => ∃ u0, v = u0 ∧ OwS (α := List (Sh Vm.File)) Wf LL [0] [u0] r := by
 unfold Vm.impl_under at hm
 refine CallR.of Tryz.func149 rfl rfl rfl rfl (sr (Nv (.slice none 0 0) rfl (sr (Nv (.slice none 0 0) rfl (ssr (mv v0_ rfl (Lw.ln x0 h0 rfl (mi rfl (nl (Cw.block ?_))))))))))
 obtain ⟨K7, hK7, hm⟩ := jn_e hm
 refine Cw.loop 10 21 [5, 7, 10] (fun m l w => ∃ (y1 : List Vm.File) (y5 : Int) (v2 j4 : Value) (W6 : CW), W6.w = w ∧ Le [2, 3] W0 W6 ∧ l = [v2, j4, vI y5] ∧ Ow (α := List (Sh Vm.File)) W6 2 [0] [v2] y1 ∧ Vm.impl_under_l1 x0 x1 K7 m y1 y5 = some r) _ ⟨([] : List File), 0, .slice none 0 0, undef, W0, rfl, Le.refl _ _, rfl, owNSh 2 [0], hm⟩ ?_
 rintro (_ | m8) _ _ σ ⟨y1, y5, v2, j4, W6, rfl, l6, rfl, o3, hm⟩
 ·cases hm
 unfold Vm.impl_under_l1 at hm
 have a9 := l6.s
 refine sr (Lw.lt rfl (nl (Cw.seq (cn hm (fun hm => ?_) fun hm => ?_))))
 ·refine sk ?_
  obtain ⟨K16, hK16, hm⟩ := jn_e hm
  refine Cw.join 12 20 [5, 7] (fun l w => ∃ (y11 : List Vm.File) (v12 j14 : Value) (W15 : CW), W15.w = w ∧ Le [2, 3] W6 W15 ∧ l = [v12, j14] ∧ Ow (α := List (Sh Vm.File)) W15 2 [0] [v12] y11 ∧ K16 y11 = some r) ?_ ?_
  ·rintro _ _ σ ⟨y11, v12, j14, W15, rfl, l15, rfl, o13, hm⟩
   rw [hK16] at hm
   exact rg (Lw.add rfl (mi rfl (nl ((agm) ⟨y11, w64 (y5 + 1), v12, j14, W15, rfl, (l6.j l15).w, rfl, o13, hm⟩))))
  ·refine Cw.block (sr ?_)
   obtain ⟨u18, e19, hm⟩ := ob hm
   refine Lw.r rfl (R.ix (α := File) (h0.ul a9) e19 rfl rfl rfl) ?_
   obtain ⟨x21, c22, _, r23⟩ := ((h0.ul a9).at_ e19).cells
   obtain ⟨v24, rfl, r25⟩ := File.split r23
   refine Lw.r rfl (R.lda c22 rfl rfl) (al 3 [vS ([] : Str), .slice none 0 0] fun g26 W26 l26 b26 => ?_)
   have a27 := l26.o
   refine sta b26 (oc_cons rfl (oc_cons r25.oc oc_nil)) fun W29 l29 b29 => ?_
   have a30 := a27.t l29
   refine nl (sr (la b29 (ms rfl (ca hm (fun _ => p168 (File.rd (K := [0]) u18.Path u18.Text (r25.ul a30))) fun z33 W35 hm l35 => ?_))))
   have a36 := a30.n l35
   have o37 := ((o3.up l26).up l29).up l35
   refine nl (cn hm (fun hm => ?_) fun hm => ?_)
   ·refine rg (mv v2 rfl (la (b29.up l35) (Lw.t rfl (T.bs 4 [.agg [vS u18.Path, v24].toArray] (cs := [vS u18.Path, v24]) rfl rfl (bsA rfl)) ?_)))
    rintro _ _ ⟨g40, W40, rfl, rfl, l40, b40⟩
    have a41 := a36.n l40
    obtain ⟨q45, e46, hm⟩ := ob hm
    refine Lw.t rfl (T.app1S (α := Sh Vm.File) (K' := [0]) (o37.up l40) b40 (File.rd (K := [0]) u18.Path u18.Text (r25.ul a41)).sh1 rfl rfl e46) ?_
    rintro v47 _ ⟨W47, rfl, l47, o47⟩
    exact Nv v47 rfl ((ag) ⟨q45, v47, ptr (bx g26), W47, rfl, ((((l26.j l29).j l35).j l40).j l47).w, rfl, o47, hm⟩)
   ·exact sk ((ag) ⟨y1, v2, ptr (bx g26), W35, rfl, ((l26.j l29).j l35).w, rfl, o37, hm⟩)
 ·refine Cw.exit ?_
  rw [hK7] at hm
  refine sr (mv v2 rfl (Nv v2 rfl ?_))
  cases hm
  exact Cw.ret (ret1 rfl (Res.mk a9 ⟨v2, rfl, o3.s.sub rfl rfl⟩))
theorem p149 {x0 v0_ x1 k0 r} (h0 : Rd W K [v0_] x0) (hm : Vm.impl_under x0 x1 = some r) : Q1 149 [v0_, vS x1] W [] fun W' v => ∃ u0, v = u0 ∧ Ow (α := List (Sh Vm.File)) W' k0 (0 :: K) [u0] r :=
 (c149 (h0.view _) hm).ad (fk k0) fun _ _ ⟨u0, e, f0⟩ => ⟨u0, e, f0.backS (fk_LL _) rfl⟩
theorem c96 {x0 v0_ x1 v1_ r} (h0 : Rd W0 [0] [v0_] x0) (h1 : Rd W0 [0] [v1_] x1) (hm : Vm.slices_Equal_string_string x0 x1 = some r) : Q0 96 [v0_, v1_] W0 fun Wf v => v = vB r := by
 unfold Vm.slices_Equal_string_string at hm
 refine CallR.of Tryz.func96 rfl rfl rfl rfl (sr (Nb rfl (ssr (mv v0_ rfl (Lw.ln x0 h0 rfl (mv v1_ rfl (Lw.ln x1 h1 rfl (Lw.ne rfl (nl (cn hm (fun hm => ?_) fun hm => ?_))))))))))
 ·exact sr (Nb rfl (.ret (rt hm (Le.refl _ _))))
 ·refine sk (ssr (mv v0_ rfl (Lw.ln x0 h0 rfl (mi rfl (nl (Cw.block ?_))))))
  obtain ⟨K6, hK6, hm⟩ := jn_e hm
  refine Cw.loop 13 25 [4, 5, 13] (fun m l w => ∃ y2 y4 j3 W5, CW.w W5 = w ∧ Le [] W0 W5 ∧ l = [vB y2, j3, vI y4] ∧ Vm.slices_Equal_string_string_l1 x0 x1 K6 m y2 y4 = some r) _ ⟨false, 0, undef, W0, rfl, Le.refl _ _, rfl, hm⟩ ?_
  rintro (_ | m7) _ _ σ ⟨y2, y4, j3, W5, rfl, l5, rfl, hm⟩
  ·cases hm
  unfold Vm.slices_Equal_string_string_l1 at hm
  have a8 := l5.o
  refine sr (Lw.lt rfl (nl (Cw.seq (cn hm (fun hm => ?_) fun hm => ?_))))
  ·refine sk (Cw.seq (Cw.block (sr (mi rfl (Ni rfl (Cw.seq (Cw.draw [] [(0, 0), (1, 0), (2, 0), (3, 1), (4, 0), (5, 0), (6, 0), (7, 1), (8, 0)] mixed (by kernel_rfl) fun W10 l10 => ?_)))))))
   have a11 := a8.n l10
   refine Dv v0_ rfl (Di rfl ?_)
   obtain ⟨u12, e13, hm⟩ := ob hm
   refine Mw.p rfl rfl (fun _ => R.ix (α := Str) (h0.ul a11) e13 rfl rfl rfl) (Mw.q rfl rfl (fun _ c => R.ld rfl rfl (cl_cell ((h0.ul a11).at_ e13).1 rfl ((h0.ul a11).at_ e13).str c)) (Dv v1_ rfl (Di rfl ?_)))
   obtain ⟨u15, e16, hm⟩ := ob hm
   refine Mw.p rfl rfl (fun _ => R.ix (α := Str) (h1.ul a11) e16 rfl rfl rfl) (Mw.q rfl rfl (fun _ c => R.ld rfl rfl (cl_cell ((h1.ul a11).at_ e16).1 rfl ((h1.ul a11).at_ e16).str c)) (Mw.p rfl rfl (fun _ => R.sne rfl rfl) (Mw.nil (cn hm (fun hm => ?_) fun hm => ?_))))
   ·exact sr (Nb rfl (.ret (rt hm a11)))
   ·exact sk (rg (Lw.add rfl (mi rfl (nl ((agm) ⟨y2, w64 (y4 + 1), vI y4, W10, rfl, (l5.j l10).w, rfl, hm⟩)))))
  ·refine Cw.exit ?_
   rw [hK6] at hm
   exact sr (Nb rfl (.ret (rt hm a8)))
theorem p96 {x0 v0_ x1 v1_ r} (h0 : Rd W K [v0_] x0) (h1 : Rd W K [v1_] x1) (hm : Vm.slices_Equal_string_string x0 x1 = some r) : Q1 96 [v0_, v1_] W [] fun W' v => v = vB r :=
 (c96 (h0.view _) (h1.view _) hm).ad (fk 0) fun _ _ e => e
theorem c170 {x0 v0_1_ x1 v1_1_ r} (h0 : Rd W0 [0] [vS x0.Path, v0_1_] x0) (h1 : Rd W0 [0] [vS x1.Path, v1_1_] x1) (hm : Vm.impl_sameTree_c1 x0 x1 = some r) : Q0 170 [.agg [vS x0.Path, v0_1_].toArray, .agg [vS x1.Path, v1_1_].toArray] W0 fun Wf v => v = vB r := by
 unfold Vm.impl_sameTree_c1 at hm
 obtain ⟨w0_0, he0, h0_1⟩ := File.split h0
 simp only [List.cons.injEq, and_true, true_and] at he0
 obtain rfl := he0
 obtain ⟨w1_0, he1, h1_1⟩ := File.split h1
 simp only [List.cons.injEq, and_true, true_and] at he1
 obtain rfl := he1
 refine CallR.of Tryz.func170 rfl rfl rfl rfl (sr (bo 2 rfl fun g1 W1 l1 b1 => ?_))
 have a2 := l1.o
 refine bo 3 rfl fun g3 W3 l3 b3 => ?_
 have a4 := a2.n l3
 refine Nb rfl ?_
 obtain ⟨K8, hK8, hm⟩ := jn_e hm
 refine Cw.join 5 16 [4] (fun l w => ∃ y6 W7, CW.w W7 = w ∧ Le [] W3 W7 ∧ l = [vB y6] ∧ K8 y6 = some r) ?_ ?_
 ·rintro _ _ σ ⟨y6, W7, rfl, l7, rfl, hm⟩
  rw [hK8] at hm
  have a9 := a4.n l7
  exact .ret (rt hm a9)
 ·refine rg (fl (b1.up l3) rfl (fl b3 rfl (Lw.seq rfl (mb rfl (bs hm (fun hc12 hm => ?_) fun hc12 hm => ?_)))))
  ·exact wak 5 hc12 (fl (b1.up l3) rfl (fl b3 rfl (ca hm (fun _ => p96 (h0_1.ul a4) (h1_1.ul a4)) fun z15 W17 hm l17 => Pb hc12 rfl (Nb rfl ((ag) ⟨z15, W17, rfl, l17, rfl, hm⟩)))))
  ·exact psk 5 hc12 rfl (Pb hc12 rfl (Nb rfl ((ag) ⟨false, W3, rfl, Le.refl _ _, rfl, hm⟩)))
theorem p170 {x0 v0_1_ x1 v1_1_ r} (h0 : Rd W K [vS x0.Path, v0_1_] x0) (h1 : Rd W K [vS x1.Path, v1_1_] x1) (hm : Vm.impl_sameTree_c1 x0 x1 = some r) : Q1 170 [.agg [vS x0.Path, v0_1_].toArray, .agg [vS x1.Path, v1_1_].toArray] W [] fun W' v => v = vB r :=
 (c170 (h0.view _) (h1.view _) hm).ad (fk 0) fun _ _ e => e
theorem c169_170 {x0 v0_ x1 v1_ r} (h0 : Rd W0 [0] [v0_] x0) (h1 : Rd W0 [0] [v1_] x1) (hm : Vm.slices_EqualFunc_impl_File_impl_File_impl_File_impl_File_at_impl_sameTree_c1 x0 x1 = some r) : Q0 169 [v0_, v1_, .func (.func 170) #[] [].toArray] W0 fun Wf v => v = vB r := by
 unfold Vm.slices_EqualFunc_impl_File_impl_File_impl_File_impl_File_at_impl_sameTree_c1 at hm
 refine CallR.of Tryz.func169 rfl rfl rfl rfl (sr (Nb rfl (ssr (mv v0_ rfl (Lw.ln x0 h0 rfl (mv v1_ rfl (Lw.ln x1 h1 rfl (Lw.ne rfl (nl (cn hm (fun hm => ?_) fun hm => ?_))))))))))
 ·exact sr (Nb rfl (.ret (rt hm (Le.refl _ _))))
 ·refine sk (ssr (mv v0_ rfl (Lw.ln x0 h0 rfl (mi rfl (nl (Cw.block ?_))))))
  obtain ⟨K8, hK8, hm⟩ := jn_e hm
  refine Cw.loop 17 31 [6, 7, 8, 9, 17] (fun m l w => ∃ y2 y6 j3 j4 j5 W7, CW.w W7 = w ∧ Le [2, 3] W0 W7 ∧ l = [vB y2, j3, j4, j5, vI y6] ∧ Vm.slices_EqualFunc_impl_File_impl_File_impl_File_impl_File_at_impl_sameTree_c1_l1 x0 x1 K8 m y2 y6 = some r) _ ⟨false, 0, undef, undef, undef, W0, rfl, Le.refl _ _, rfl, hm⟩ ?_
  rintro (_ | m9) _ _ σ ⟨y2, y6, j3, j4, j5, W7, rfl, l7, rfl, hm⟩
  ·cases hm
  unfold Vm.slices_EqualFunc_impl_File_impl_File_impl_File_impl_File_at_impl_sameTree_c1_l1 at hm
  have a10 := l7.s
  refine sr (Lw.lt rfl (nl (Cw.seq (cn hm (fun hm => ?_) fun hm => ?_))))
  ·refine sk (Cw.seq (Cw.block (sr (mi rfl ?_))))
   obtain ⟨u12, e13, hm⟩ := ob hm
   refine Lw.r rfl (R.ix (α := File) (h0.ul a10) e13 rfl rfl rfl) ?_
   obtain ⟨x15, c16, _, r17⟩ := ((h0.ul a10).at_ e13).cells
   obtain ⟨v18, rfl, r19⟩ := File.split r17
   refine Lw.r rfl (R.lda c16 rfl rfl) (al 2 [vS ([] : Str), .slice none 0 0] fun g20 W20 l20 b20 => ?_)
   have a21 := l20.o
   refine Gi rfl (sta b20 (oc_cons rfl (oc_cons r19.oc oc_nil)) fun W22 l22 b22 => ?_)
   have a23 := l22.s
   refine nl (sr (mv v1_ rfl (mi rfl ?_)))
   obtain ⟨u24, e25, hm⟩ := ob hm
   have s26 := h1.ul ((a10.trans a21).trans a23)
   refine Lw.r rfl (R.ix (α := File) s26 e25 rfl rfl rfl) ?_
   obtain ⟨x27, c28, _, r29⟩ := (s26.at_ e25).cells
   obtain ⟨v30, rfl, r31⟩ := File.split r29
   refine Lw.r rfl (R.lda c28 rfl rfl) (al 3 [vS ([] : Str), .slice none 0 0] fun g32 W32 l32 b32 => ?_)
   have a33 := l32.o
   refine sta b32 (oc_cons rfl (oc_cons r31.oc oc_nil)) fun W35 l35 b35 => ?_
   have a36 := l35.s
   refine nl (sr (mv (.func (.func 170) #[] [].toArray) rfl (la ((b22.up l32).up l35) (la b35 ?_))))
   obtain ⟨z40, e41, hm⟩ := ob hm
   refine Lw.t rfl (T.callV (vals := [.agg [vS u12.Path, v18].toArray, .agg [vS u24.Path, v30].toArray]) (caps := []) rfl rfl (p170  (File.rd (K := [0]) u12.Path u12.Text (r19.ul (((a21.trans a23).trans a33).trans a36))) (File.rd (K := [0]) u24.Path u24.Text (r31.ul (a33.trans a36))) e41)) ?_
   rintro _ _ ⟨W42, rfl, l42, rfl⟩
   have a43 := ((((a10.trans a21).trans a23).trans a33).trans a36).n l42
   refine Lw.r rfl (R.not rfl) (nl (cn hm (fun hm => ?_) fun hm => ?_))
   ·exact sr (Nb rfl (.ret (rt hm a43)))
   ·exact sk (rg (Lw.add rfl (mi rfl (nl ((agm) ⟨y2, w64 (y6 + 1), vI y6, ptr (bx g20), ptr (bx g32), W42, rfl, (((((l7.j l20).j l22).j l32).j l35).j l42).w, rfl, hm⟩)))))
  ·refine Cw.exit ?_
   rw [hK8] at hm
   exact sr (Nb rfl (.ret (rt hm a10)))
theorem p169_170 {x0 v0_ x1 v1_ r} (h0 : Rd W K [v0_] x0) (h1 : Rd W K [v1_] x1) (hm : Vm.slices_EqualFunc_impl_File_impl_File_impl_File_impl_File_at_impl_sameTree_c1 x0 x1 = some r) : Q1 169 [v0_, v1_, .func (.func 170) #[] [].toArray] W [] fun W' v => v = vB r :=
 (c169_170 (h0.view _) (h1.view _) hm).ad (fk 0) fun _ _ e => e
theorem c150 {x0 v0_ x1 v1_ r} (h0 : Rd W0 [0] [v0_] x0) (h1 : Rd W0 [0] [v1_] x1) (hm : Vm.impl_sameTree x0 x1 = some r) : Q0 150 [v0_, v1_] W0 fun Wf v => v = vB r := by
 unfold Vm.impl_sameTree at hm
 refine CallR.of Tryz.func150 rfl rfl rfl rfl (sr (Nb rfl (sr (mv v0_ rfl (mv v1_ rfl (ca hm (fun _ => p169_170 h0 h1) fun z1 W3 hm l3 => ?_))))))
 have a4 := l3.o
 exact Nb rfl (.ret (rt hm a4))
theorem p150 {x0 v0_ x1 v1_ r} (h0 : Rd W K [v0_] x0) (h1 : Rd W K [v1_] x1) (hm : Vm.impl_sameTree x0 x1 = some r) : Q1 150 [v0_, v1_] W [] fun W' v => v = vB r :=
 (c150 (h0.view _) (h1.view _) hm).ad (fk 0) fun _ _ e => e
theorem c105 {x0 v0_0_ v0_1_ x1 x2 r} (h0 : Rd W0 [0] [v0_0_, v0_1_] x0) (hm : Vm.impl_Repo_changes x0 x1 x2 = some r) : Q0 105 [.agg [v0_0_, v0_1_].toArray, vI x1, vS x2] W0 fun Wf v => v = vB r := by
 unfold Vm.impl_Repo_changes at hm
 obtain ⟨w0_0, w0_1, he0, h0_0, h0_1⟩ := Repo.split h0
 simp only [List.cons.injEq, and_true, true_and] at he0
 obtain ⟨rfl, rfl⟩ := he0
 refine CallR.of Tryz.func105 rfl rfl rfl rfl (sr (bo 2 rfl fun g1 W1 l1 b1 => ?_))
 have a2 := l1.o
 refine Nb rfl (sr (la b1 (mi rfl (cr hm (fun _ => p115 (Repo.rd (K := [0]) x0.Commits x0.Heads (h0_0.ul a2) (h0_1.ul a2))) ?_))))
 rintro z5 v0_7 W7 hm l7 ⟨_, rfl, f7_0⟩
 have s8 := f7_0.sub (M := [0]) rfl
 have a9 := a2.n l7
 refine ms rfl (cr hm (fun _ => p149 (k0 := 3) s8) ?_)
 rintro z11 v0_13 W13 hm l13 ⟨_, rfl, f13_0⟩
 have o14 : Ow (α := List (Sh Vm.File)) W13 3 [0] [v0_13] z11 := f13_0.sub rfl
 have a15 := a9.n l13
 have b16 := (b1.up l7).up l13
 refine Nv v0_13 rfl (ssr (fl b16 rfl (mi rfl ?_)))
 obtain ⟨u17, e18, hm⟩ := ob hm
 have s19 := h0_0.ul a15
 refine Lw.r rfl (R.ix (α := Commit) s19 e18 rfl rfl rfl) (Lw.fa rfl ?_)
 obtain ⟨v20, c21, r22⟩ := (Commit.at0 (s19.at_ e18)).cell rfl
 refine Lw.r rfl (R.ld rfl rfl c21) (Lw.ln u17.Parents r22 rfl (Lw.eq rfl (nl (cn hm (fun hm => ?_) fun hm => ?_))))
 ·refine sr ?_
  have s24 : Rd (α := List Vm.File) W13 [3, 0] [v0_13] z11 := Ow.rdSh o14
  exact mv v0_13 rfl (Lw.ln z11 s24 rfl (Lw.gt rfl (Nb rfl (.ret (rt hm a15)))))
 ·refine sk (ssr (fl b16 rfl (mi rfl ?_)))
  obtain ⟨u25, e26, hm⟩ := ob hm
  refine Lw.r rfl (R.ix (α := Commit) s19 e26 rfl rfl rfl) (Lw.fa rfl ?_)
  obtain ⟨v27, c28, r29⟩ := (Commit.at0 (s19.at_ e26)).cell rfl
  refine Lw.r rfl (R.ld rfl rfl c28) (Lw.ln u25.Parents r29 rfl (mi rfl (nl (Cw.block ?_))))
  obtain ⟨K34, hK34, hm⟩ := jn_e hm
  refine Cw.loop 33 44 [6, 9, 33] (fun m l w => ∃ y30 y32 j31 W33, CW.w W33 = w ∧ Le [] W13 W33 ∧ l = [vB y30, j31, vI y32] ∧ Vm.impl_Repo_changes_l1 x0 x2 z11 u25 K34 m y30 y32 = some r) _ ⟨false, 0, undef, W13, rfl, Le.refl _ _, rfl, hm⟩ ?_
  rintro (_ | m35) _ _ σ ⟨y30, y32, j31, W33, rfl, l33, rfl, hm⟩
  ·cases hm
  unfold Vm.impl_Repo_changes_l1 at hm
  have a36 := l33.o
  refine sr (Lw.lt rfl (nl (Cw.seq (cn hm (fun hm => ?_) fun hm => ?_))))
  ·refine sk (Cw.seq (Cw.block (sr ?_)))
   obtain ⟨u40, e41, hm⟩ := ob hm
   refine Lw.r rfl (R.ix (α := Int) (r29.ul a36) e41 rfl rfl rfl) (Lw.r rfl (R.ld rfl rfl ((r29.ul a36).at_ e41).int) (Ni rfl (sr (mv v0_13 rfl (la (b16.up l33) (mi rfl (cr hm (fun _ => p115 (Repo.rd (K := [0]) x0.Commits x0.Heads (h0_0.ul (a15.trans a36)) (h0_1.ul (a15.trans a36)))) ?_)))))))
   rintro z45 v0_47 W47 hm l47 ⟨_, rfl, f47_0⟩
   have s48 := f47_0.sub (M := [0]) rfl
   have a49 := (a15.trans a36).n l47
   refine ms rfl (cr hm (fun _ => p149 (k0 := 4) s48) ?_)
   rintro z52 v0_54 W54 hm l54 ⟨_, rfl, f54_0⟩
   have o55 : Ow (α := List (Sh Vm.File)) W54 4 [0] [v0_54] z52 := f54_0.sub rfl
   have a56 := a49.n l54
   have s59 : Rd (α := List Vm.File) W54 [3, 0] [v0_13] z11 := Ow.rdSh (((o14.up l33).up l47).up l54)
   have s60 : Rd (α := List Vm.File) W54 [4, 0] [v0_54] z52 := Ow.rdSh o55
   refine ca hm (fun _ => p150 (K := [0, 3, 4]) (s59.sub (M := [0, 3, 4]) rfl) (s60.sub (M := [0, 3, 4]) rfl)) fun z61 W63 hm l63 => ?_
   have a64 := a56.n l63
   refine nl (cn hm (fun hm => ?_) fun hm => ?_)
   ·exact sr (Nb rfl (.ret (rt hm a64)))
   ·exact sk (rg (Lw.add rfl (mi rfl (nl ((agm) ⟨y30, w64 (y32 + 1), vI u40, W63, rfl, (((l33.j l47).j l54).j l63).w, rfl, hm⟩)))))
  ·refine Cw.exit ?_
   rw [hK34] at hm
   exact sr (Nb rfl (.ret (rt hm (a15.trans a36))))
theorem p105 {x0 v0_0_ v0_1_ x1 x2 r} (h0 : Rd W K [v0_0_, v0_1_] x0) (hm : Vm.impl_Repo_changes x0 x1 x2 = some r) : Q1 105 [.agg [v0_0_, v0_1_].toArray, vI x1, vS x2] W [] fun W' v => v = vB r :=
 (c105 (h0.view _) hm).ad (fk 0) fun _ _ e => e
theorem c104 {x0 x1 g1_ v1_0_ v1_1_ x2 g2_ r} (hB1 : Bx W0 2 g1_ [v1_0_, v1_1_]) (h1_0 : Rd W0 [0] [v1_0_] x1.Commits) (h1_1 : Rd W0 [0] [v1_1_] x1.Heads) (hB2 : Bx W0 3 g2_ [vS x2]) (hm : Vm.impl_LogPath_c1 x0 x1 x2 = some r) : Q0 104 [vI x0, ptr (bx g1_), ptr (bx g2_)] W0 fun Wf v => v = vB r ∧ Bx Wf 2 g1_ [v1_0_, v1_1_] ∧ Bx Wf 3 g2_ [vS x2] := by
 unfold Vm.impl_LogPath_c1 at hm
 refine CallR.of Tryz.func104 rfl rfl rfl rfl (sr (Nb rfl (sr (Lw.r rfl (R.lda (cs := [v1_0_, v1_1_]) hB1.cells rfl rfl) (mi rfl (Lw.r rfl (R.ld (v := vS x2) rfl rfl (hB2.cell0 rfl)) (ca hm (fun _ => p105 (Repo.rd (K := [0]) x1.Commits x1.Heads h1_0 h1_1)) fun z1 W3 hm l3 => ?_)))))))
 have a4 := l3.o
 have b5 := hB1.up l3
 have b6 := hB2.up l3
 refine Nb rfl ?_
 cases hm
 exact Cw.ret (ret1 rfl (Res.mk a4 ⟨rfl, b5, b6⟩))
theorem p104 {x0 x1 g1_ v1_0_ v1_1_ x2 g2_ c0 c1 r} (hB1 : Bx W c0 g1_ [v1_0_, v1_1_]) (h1_0 : Rd W K [v1_0_] x1.Commits) (h1_1 : Rd W K [v1_1_] x1.Heads) (hB2 : Bx W c1 g2_ [vS x2]) (hJ : okJ K [c0, c1] = true) (hm : Vm.impl_LogPath_c1 x0 x1 x2 = some r) : Q1 104 [vI x0, ptr (bx g1_), ptr (bx g2_)] W [c0, c1] fun W' v => v = vB r ∧ Bx W' c0 g1_ [v1_0_, v1_1_] ∧ Bx W' c1 g2_ [vS x2] :=
 CallR.adJ (J := [c0, c1]) (fun c => bif Nat.beq c 0 then 0 else bif Nat.beq c 2 then c0 else bif Nat.beq c 3 then c1 else 0) (c104 (hB1.viewJ 0 hJ) (h1_0.view _) (h1_1.view _) (hB2.viewJ 1 hJ) hm) fun _ _ ⟨e, f0, f1⟩ => ⟨e, Bx.backJ 0 f0 rfl, Bx.backJ 1 f1 rfl⟩
theorem c109 {x0 v0_0_ v0_1_ x1 r} (h0 : Rd W0 [0] [v0_0_, v0_1_] x0) (hm : Vm.impl_Repo_ancestors x0 x1 = some r) : Q0 109 [.agg [v0_0_, v0_1_].toArray, vI x1] W0 fun Wf v => ∃ u0, v = u0 ∧ OwS Wf LL [] [u0] r := by
 unfold Vm.impl_Repo_ancestors at hm
 obtain ⟨w0_0, w0_1, he0, h0_0, h0_1⟩ := Repo.split h0
 simp only [List.cons.injEq, and_true, true_and] at he0
 obtain ⟨rfl, rfl⟩ := he0
 refine CallR.of Tryz.func109 rfl rfl rfl rfl (sr (bo 2 rfl fun g1 W1 l1 b1 => ?_))
 have a2 := l1.o
 refine Nv (.slice none 0 0) rfl (sr (fl b1 rfl (Lw.ln x0.Commits (h0_0.ul a2) rfl ?_)))
 obtain ⟨q4, e5, hm⟩ := ob hm
 refine Lw.t rfl (T.mk (α := Bool) 3 [] (n := (x0.Commits.length : Int)) rfl rfl e5) ?_
 rintro v6 _ ⟨W6, rfl, l6, o6⟩
 have a7 := a2.n l6
 refine Nv v6 rfl (sr (mv v6 rfl (mi rfl ?_)))
 obtain ⟨u9, e10, hm⟩ := ob hm
 refine Lw.r rfl (R.ix (α := Bool) o6.rd e10 rfl rfl rfl) ?_
 obtain ⟨q12, e13, hm⟩ := ob hm
 refine Lw.u (T.stS (K' := []) o6 (rdB _) e13 rfl rfl rfl) ?_
 rintro _ _ ⟨W11, rfl, l11, o11⟩
 have a14 := a7.t l11
 refine nl (ssr (mi rfl (Ni rfl (Cw.block ?_))))
 obtain ⟨K21, hK21, hm⟩ := jn_e hm
 refine Cw.loop 17 39 [6, 8] (fun m l w => ∃ y16 y18 j17 W20, CW.w W20 = w ∧ Le [3] W11 W20 ∧ l = [vI y16, j17] ∧ Ow W20 3 [] [v6] y18 ∧ Vm.impl_Repo_ancestors_l1 x0 K21 m y16 y18 = some r) _ ⟨x1, q12, undef, W11, rfl, Le.refl _ _, rfl, o11, hm⟩ ?_
 rintro (_ | m22) _ _ σ ⟨y16, y18, j17, W20, rfl, l20, rfl, o19, hm⟩
 ·cases hm
 unfold Vm.impl_Repo_ancestors_l1 at hm
 have a23 := a14.t l20
 refine ssr (mi rfl (Lw.ge rfl (nl (cn hm (fun hm => ?_) fun hm => ?_))))
 ·refine sk ?_
  obtain ⟨K30, hK30, hm⟩ := jn_e hm
  refine Cw.join 21 39 [8] (fun l w => ∃ y27 j26 W29, CW.w W29 = w ∧ Le [3] W20 W29 ∧ l = [j26] ∧ Ow W29 3 [] [v6] y27 ∧ K30 y27 = some r) ?_ ?_
  ·rintro _ _ σ ⟨y27, j26, W29, rfl, l29, rfl, o28, hm⟩
   rw [hK30] at hm
   exact rg (mi rfl (Lw.sub rfl (Ni rfl ((agm) ⟨w64 (y16 - 1), y27, j26, W29, rfl, (l20.j l29).w, rfl, o28, hm⟩))))
  ·refine Cw.block (sr (mv v6 rfl (mi rfl ?_)))
   obtain ⟨u33, e34, hm⟩ := ob hm
   refine Lw.r rfl (R.ix (α := Bool) o19.rd e34 rfl rfl rfl) (Lw.r rfl (R.ld rfl rfl (o19.rd.at_ e34).bool) (nl (cn hm (fun hm => ?_) fun hm => ?_)))
   ·refine sr (fl (((b1.up l6).up l11).up l20) rfl (mi rfl ?_))
    obtain ⟨u36, e37, hm⟩ := ob hm
    refine Lw.r rfl (R.ix (α := Commit) (h0_0.ul a23) e37 rfl rfl rfl) (Lw.fa rfl ?_)
    obtain ⟨v39, c40, r41⟩ := (Commit.at0 ((h0_0.ul a23).at_ e37)).cell rfl
    refine Lw.r rfl (R.ld rfl rfl c40) (Lw.ln u36.Parents r41 rfl (mi rfl (nl (Cw.block (Cw.loop 32 39 [8, 32] (fun m l w => ∃ y43 y44 j42 W46, CW.w W46 = w ∧ Le [3] W20 W46 ∧ l = [j42, vI y43] ∧ Ow W46 3 [] [v6] y44 ∧ Vm.impl_Repo_ancestors_l2 K30 u36 m y43 y44 = some r) _ ⟨0, y18, j17, W20, rfl, Le.refl _ _, rfl, o19, hm⟩ ?_)))))
    rintro (_ | m48) _ _ σ ⟨y43, y44, j42, W46, rfl, l46, rfl, o45, hm⟩
    ·cases hm
    unfold Vm.impl_Repo_ancestors_l2 at hm
    have a49 := l46.s
    refine sr (Lw.lt rfl (nl (Cw.seq (cn hm (fun hm => ?_) fun hm => ?_))))
    ·refine sk (Cw.seq (Cw.block (sr ?_)))
     obtain ⟨u52, e53, hm⟩ := ob hm
     refine Lw.r rfl (R.ix (α := Int) (r41.ul a49) e53 rfl rfl rfl) (Lw.r rfl (R.ld rfl rfl ((r41.ul a49).at_ e53).int) (Ni rfl (rg (mv v6 rfl (mi rfl ?_)))))
     obtain ⟨u55, e56, hm⟩ := ob hm
     refine Lw.r rfl (R.ix (α := Bool) o45.rd e56 rfl rfl rfl) ?_
     obtain ⟨q58, e59, hm⟩ := ob hm
     refine Lw.u (T.stS (K' := []) o45 (rdB _) e59 rfl rfl rfl) ?_
     rintro _ _ ⟨W57, rfl, l57, o57⟩
     exact nl (rg (Lw.add rfl (mi rfl (nl ((agm) ⟨w64 (y43 + 1), q58, vI u52, W57, rfl, (l46.j l57).w, rfl, o57, hm⟩)))))
    ·exact Cw.exit ((ag) ⟨y44, j42, W46, rfl, l46, rfl, o45, hm⟩)
   ·exact sk ((ag) ⟨y18, j17, W20, rfl, Le.refl _ _, rfl, o19, hm⟩)
 ·refine Cw.exit ?_
  rw [hK21] at hm
  refine sr (mv v6 rfl (Nv v6 rfl ?_))
  cases hm
  exact Cw.ret (ret1 rfl (Res.mk a23 ⟨v6, rfl, o19.s.sub rfl rfl⟩))
theorem p109 {x0 v0_0_ v0_1_ x1 k0 r} (h0 : Rd W K [v0_0_, v0_1_] x0) (hm : Vm.impl_Repo_ancestors x0 x1 = some r) : Q1 109 [.agg [v0_0_, v0_1_].toArray, vI x1] W [] fun W' v => ∃ u0, v = u0 ∧ Ow W' k0 [] [u0] r :=
 (c109 (h0.view _) hm).ad (fk k0) fun _ _ ⟨u0, e, f0⟩ => ⟨u0, e, f0.back (fk_LL _)⟩
theorem c108 {x0 v0_ r} (h0 : Rd W0 [0] [v0_] x0) (hm : Vm.impl_listOf x0 = some r) : Q0 108 [v0_] W0 fun Wf v => ∃ u0, v = u0 ∧ OwS Wf LL [] [u0] r := by
 unfold Vm.impl_listOf at hm
 refine CallR.of Tryz.func108 rfl rfl rfl rfl (sr (Nv (.slice none 0 0) rfl (sr (Nv (.slice none 0 0) rfl (ssr (mv v0_ rfl (Lw.ln x0 h0 rfl (mi rfl (nl (Cw.block ?_))))))))))
 obtain ⟨K8, hK8, hm⟩ := jn_e hm
 refine Cw.loop 8 18 [3, 4, 5, 8] (fun m l w => ∃ y1 y6 v2 j4 j5 W7, CW.w W7 = w ∧ Le [2] W0 W7 ∧ l = [v2, j4, j5, vI y6] ∧ Ow W7 2 [] [v2] y1 ∧ Vm.impl_listOf_l1 x0 K8 m y1 y6 = some r) _ ⟨([] : List Int), 0, .slice none 0 0, undef, undef, W0, rfl, Le.refl _ _, rfl, owN 2 [], hm⟩ ?_
 rintro (_ | m9) _ _ σ ⟨y1, y6, v2, j4, j5, W7, rfl, l7, rfl, o3, hm⟩
 ·cases hm
 unfold Vm.impl_listOf_l1 at hm
 have a10 := l7.s
 refine sr (Lw.lt rfl (nl (Cw.seq (cn hm (fun hm => ?_) fun hm => ?_))))
 ·refine sk ?_
  obtain ⟨K18, hK18, hm⟩ := jn_e hm
  refine Cw.join 10 17 [3, 4, 5] (fun l w => ∃ y12 v13 j15 j16 W17, CW.w W17 = w ∧ Le [2] W7 W17 ∧ l = [v13, j15, j16] ∧ Ow W17 2 [] [v13] y12 ∧ K18 y12 = some r) ?_ ?_
  ·rintro _ _ σ ⟨y12, v13, j15, j16, W17, rfl, l17, rfl, o14, hm⟩
   rw [hK18] at hm
   exact rg (Lw.add rfl (mi rfl (nl ((agm) ⟨y12, w64 (y6 + 1), v13, j15, j16, W17, rfl, (l7.j l17).w, rfl, o14, hm⟩))))
  ·refine Cw.block (sr (mi rfl ?_))
   obtain ⟨u20, e21, hm⟩ := ob hm
   refine Lw.r rfl (R.ix (α := Bool) (h0.ul a10) e21 rfl rfl rfl) (Lw.r rfl (R.ld rfl rfl ((h0.ul a10).at_ e21).bool) (Gi rfl (Nb rfl (sr (mb rfl (nl (cn hm (fun hm => ?_) fun hm => ?_)))))))
   ·refine rg (mv v2 rfl (mi rfl (Lw.t rfl (T.bs 3 [vI y6] (cs := [vI y6]) rfl rfl (bsv rfl)) ?_)))
    rintro _ _ ⟨g24, W24, rfl, rfl, l24, b24⟩
    obtain ⟨q27, e28, hm⟩ := ob hm
    refine Lw.t rfl (T.app1S (α := Int) (K' := []) (o3.up l24) b24 (rdI _) rfl rfl e28) ?_
    rintro v29 _ ⟨W29, rfl, l29, o29⟩
    exact Nv v29 rfl ((ag) ⟨q27, v29, vI y6, vB u20, W29, rfl, (l24.j l29).w, rfl, o29, hm⟩)
   ·exact sk ((ag) ⟨y1, v2, vI y6, vB u20, W7, rfl, Le.refl _ _, rfl, o3, hm⟩)
 ·refine Cw.exit ?_
  rw [hK8] at hm
  refine sr (mv v2 rfl (Nv v2 rfl ?_))
  cases hm
  exact Cw.ret (ret1 rfl (Res.mk a10 ⟨v2, rfl, o3.s.sub rfl rfl⟩))
theorem p108 {x0 v0_ k0 r} (h0 : Rd W K [v0_] x0) (hm : Vm.impl_listOf x0 = some r) : Q1 108 [v0_] W [] fun W' v => ∃ u0, v = u0 ∧ Ow W' k0 [] [u0] r :=
 (c108 (h0.view _) hm).ad (fk k0) fun _ _ ⟨u0, e, f0⟩ => ⟨u0, e, f0.back (fk_LL _)⟩
theorem c148 {x0 v0_ r} (h0 : Ow W0 2 [] [v0_] x0) (hm : Vm.slices_Reverse_int_int x0 = some r) : Q0 148 [v0_] W0 fun Wf v => v = .tuple #[] ∧ Ow Wf 2 [] [v0_] r := by
 unfold Vm.slices_Reverse_int_int at hm
 refine CallR.of Tryz.func148 rfl rfl rfl rfl (sr (mv v0_ rfl (Lw.ln x0 h0.rd rfl (Lw.sub rfl (Gi rfl (Ni rfl (Cw.block ?_)))))))
 obtain ⟨K6, hK6, hm⟩ := jn_e hm
 refine Cw.loop 7 27 [2, 3] (fun m l w => ∃ y1 y2 y3 W5, CW.w W5 = w ∧ Le [2] W0 W5 ∧ l = [vI y1, vI y2] ∧ Ow W5 2 [] [v0_] y3 ∧ Vm.slices_Reverse_int_int_l1 K6 m y1 y2 y3 = some r) _ ⟨0, w64 ((x0.length : Int) - 1), x0, W0, rfl, Le.refl _ _, rfl, h0, hm⟩ ?_
 rintro (_ | m7) _ _ σ ⟨y1, y2, y3, W5, rfl, l5, rfl, o4, hm⟩
 ·cases hm
 unfold Vm.slices_Reverse_int_int_l1 at hm
 have a8 := l5.s
 refine ssr (mi rfl (mi rfl (Lw.lt rfl (nl (cn hm (fun hm => ?_) fun hm => ?_)))))
 ·refine sk (Cw.seq (Cw.block (Cw.draw [] [(0, 0), (1, 0), (2, 0), (3, 0), (4, 0), (5, 0), (6, 0), (7, 1), (8, 0), (9, 0), (10, 0), (11, 1), (12, 0), (13, 3), (14, 0), (15, 3)] mixed (by kernel_rfl) fun W10 l10 => ?_)))
  have o12 := o4.up l10
  refine Dv v0_ rfl (Di rfl (Dv v0_ rfl (Di rfl (Dv v0_ rfl (Di rfl ?_)))))
  obtain ⟨u13, e14, hm⟩ := ob hm
  refine Mw.p rfl rfl (fun _ => R.ix (α := Int) o12.rd e14 rfl rfl rfl) (Mw.q rfl rfl (fun _ c => R.ld rfl rfl (cl_cell (o12.rd.at_ e14).1 rfl (o12.rd.at_ e14).int c)) (Dv v0_ rfl (Di rfl ?_)))
  obtain ⟨u15, e16, hm⟩ := ob hm
  refine Mw.p rfl rfl (fun _ => R.ix (α := Int) o12.rd e16 rfl rfl rfl) (Mw.q rfl rfl (fun _ c => R.ld rfl rfl (cl_cell (o12.rd.at_ e16).1 rfl (o12.rd.at_ e16).int c)) ?_)
  obtain ⟨u17, e18, hm⟩ := ob hm
  refine Mw.p rfl rfl (fun _ => R.ix (α := Int) o12.rd e18 rfl rfl rfl) ?_
  obtain ⟨q20, e21, hm⟩ := ob hm
  refine Mw.lu rfl (T.stS (K' := []) o12 (rdI _) e21 rfl rfl rfl) ?_
  rintro _ _ ⟨W19, rfl, l19, o19⟩
  obtain ⟨u23, e24, hm⟩ := ob hm
  refine Mw.p rfl rfl (fun _ => R.ix (α := Int) o12.rd e24 rfl rfl rfl) ?_
  obtain ⟨q26, e27, hm⟩ := ob hm
  refine Mw.lu rfl (T.stS (K' := []) o19 (rdI _) e27 rfl rfl rfl) ?_
  rintro _ _ ⟨W25, rfl, l25, o25⟩
  exact Mw.nil (rg (mi rfl (Lw.add rfl (mi rfl (Lw.sub rfl (Gi rfl (Ni rfl ((agm) ⟨w64 (y1 + 1), w64 (y2 - 1), q26, W25, rfl, (((l5.j l10).j l19).j l25).w, rfl, o25, hm⟩))))))))
 ·refine Cw.exit ?_
  rw [hK6] at hm
  cases hm
  show RetP _ _ _ .ret _ _
  exact ret0 (Res.mk a8 ⟨rfl, o4⟩)
theorem p148 {x0 v0_ c0 r} (h0 : Ow W c0 [] [v0_] x0) (hJ : okJ K [c0] = true) (hm : Vm.slices_Reverse_int_int x0 = some r) : Q1 148 [v0_] W [c0] fun W' v => v = .tuple #[] ∧ Ow W' c0 [] [v0_] r :=
 CallR.adJ (J := [c0]) (fun c => bif Nat.beq c 0 then 0 else bif Nat.beq c 2 then c0 else 0) (c148 (h0.viewJ 0 hJ) hm) fun _ _ ⟨e, f0⟩ => ⟨e, Ow.backJ 0 f0 rfl⟩
theorem c103_104 {x0 v0_0_ v0_1_ x1 x3 g3_ v3_0_ v3_1_ x4 g4_ r} (h0 : Rd W0 [0] [v0_0_, v0_1_] x0) (hB3 : Bx W0 2 g3_ [v3_0_, v3_1_]) (h3_0 : Rd W0 [0] [v3_0_] x3.Commits) (h3_1 : Rd W0 [0] [v3_1_] x3.Heads) (hB4 : Bx W0 3 g4_ [vS x4]) (h99 : Gl 0 W0 [0]) (hm : Vm.impl_Repo_log_at_impl_LogPath_c1 x0 x1 x3 x4 = some r) : Q0 103 [.agg [v0_0_, v0_1_].toArray, vI x1, .func (.func 104) #[] [ptr (bx g3_), ptr (bx g4_)].toArray] W0 fun Wf v => ∃ u0, v = u0 ∧ OwS Wf [31] [] [u0] r ∧ Bx Wf 2 g3_ [v3_0_, v3_1_] ∧ Bx Wf 3 g4_ [vS x4] := by
 unfold Vm.impl_Repo_log_at_impl_LogPath_c1 at hm
 obtain ⟨w0_0, w0_1, he0, h0_0, h0_1⟩ := Repo.split h0
 simp only [List.cons.injEq, and_true, true_and] at he0
 obtain ⟨rfl, rfl⟩ := he0
 refine CallR.of Tryz.func103 rfl rfl rfl rfl (sr (bo 4 rfl fun g1 W1 l1 b1 => ?_))
 have a2 := l1.o
 have b3 := hB3.up l1
 have b4 := hB4.up l1
 refine Nv (.slice none 0 0) rfl (ssr (la b1 (mi rfl (Lw.t rfl (T.bsS (α := Int) (xs := [x1]) 5 [] (W := W1) [vI x1] (Each.cons ((rdI _)) Each.nil) rfl) ?_))))
 rintro v5 _ ⟨W5, rfl, l5, o5⟩
 have a6 := a2.n l5
 refine ca hm (fun _ => p87 (K := [0, 5]) ((Repo.rd (K := [0]) x0.Commits x0.Heads (h0_0.ul a6) (h0_1.ul a6)).sub (M := [0, 5]) rfl) (o5.rd.sub (M := [0, 5]) rfl) ((h99.ul a6).sub (M := [0, 5]) rfl)) fun z13 W15 hm l15 => ?_
 have a16 := a6.n l15
 have b18 := (b3.up l5).up l15
 have b19 := (b4.up l5).up l15
 refine Lw.r rfl (R.not rfl) (nl (cn hm (fun hm => ?_) fun hm => ?_))
 ·refine sr (Nv (.slice none 0 0) rfl ?_)
  cases hm
  exact Cw.ret (ret1 rfl (Res.mk a16 ⟨.slice none 0 0, rfl, (owsN []).sub rfl rfl, b18, b19⟩))
 ·refine sk (sr (Nv (.slice none 0 0) rfl (ssr (la ((b1.up l5).up l15) (mi rfl (cr hm (fun _ => p109 (k0 := 6) (Repo.rd (K := [0]) x0.Commits x0.Heads (h0_0.ul a16) (h0_1.ul a16))) ?_))))))
  rintro z24 v0_26 W26 hm l26 ⟨_, rfl, f26_0⟩
  have a27 := a16.n l26
  refine cr hm (fun _ => p108 (K := [6]) (k0 := 7) f26_0.rd) ?_
  rintro z32 v0_34 W34 hm l34 ⟨_, rfl, f34_0⟩
  have a35 := a27.n l34
  refine Lw.ln z32 f34_0.rd rfl (mi rfl (nl (Cw.block ?_)))
  obtain ⟨K49, hK49, hm⟩ := jn_e hm
  refine Cw.loop 20 31 [7, 9, 20] (fun m l w => ∃ y41 y45 v42 j44 W48, CW.w W48 = w ∧ Le [2, 3, 8] W34 W48 ∧ l = [v42, j44, vI y45] ∧ Ow W48 8 [] [v42] y41 ∧ Bx W48 2 g3_ [v3_0_, v3_1_] ∧ Bx W48 3 g4_ [vS x4] ∧ Vm.impl_Repo_log_at_impl_LogPath_c1_l1 x3 x4 z32 K49 m y41 y45 = some r) _ ⟨([] : List Int), 0, .slice none 0 0, undef, W34, rfl, Le.refl _ _, rfl, owN 8 [], ((b18.up l26).up l34), ((b19.up l26).up l34), hm⟩ ?_
  rintro (_ | m50) _ _ σ ⟨y41, y45, v42, j44, W48, rfl, l48, rfl, o43, b46, b47, hm⟩
  ·cases hm
  unfold Vm.impl_Repo_log_at_impl_LogPath_c1_l1 at hm
  have a51 := a35.t l48
  refine sr (Lw.lt rfl (nl (Cw.seq (cn hm (fun hm => ?_) fun hm => ?_))))
  ·refine sk ?_
   obtain ⟨K64, hK64, hm⟩ := jn_e hm
   refine Cw.join 22 30 [7, 9] (fun l w => ∃ y57 v58 j60 W63, CW.w W63 = w ∧ Le [2, 3, 8] W48 W63 ∧ l = [v58, j60] ∧ Ow W63 8 [] [v58] y57 ∧ Bx W63 2 g3_ [v3_0_, v3_1_] ∧ Bx W63 3 g4_ [vS x4] ∧ K64 y57 = some r) ?_ ?_
   ·rintro _ _ σ ⟨y57, v58, j60, W63, rfl, l63, rfl, o59, b61, b62, hm⟩
    rw [hK64] at hm
    exact rg (Lw.add rfl (mi rfl (nl ((agm) ⟨y57, w64 (y45 + 1), v58, j60, W63, rfl, (l48.j l63).w, rfl, o59, b61, b62, hm⟩))))
   ·refine Cw.block (sr ?_)
    obtain ⟨u70, e71, hm⟩ := ob hm
    refine Lw.r rfl (R.ix (α := Int) (f34_0.up l48).rd e71 rfl rfl rfl) (Lw.r rfl (R.ld rfl rfl ((f34_0.up l48).rd.at_ e71).int) (Ni rfl (sr (mv (.func (.func 104) #[] [ptr (bx g3_), ptr (bx g4_)].toArray) rfl (mi rfl ?_)))))
    obtain ⟨z74, e75, hm⟩ := ob hm
    refine Lw.t rfl (T.callV (vals := [vI u70]) (caps := [ptr (bx g3_), ptr (bx g4_)]) rfl rfl (p104  (c0 := 2) (c1 := 3) (x1 := (Vm.Repo.mk x3.Commits x3.Heads)) (x2 := x4) b46 (h3_0.ul a51) (h3_1.ul a51) b47 rfl e75)) ?_
    rintro _ _ ⟨W76, rfl, l76, ⟨rfl, f76_0, f76_1⟩⟩
    refine nl (cn hm (fun hm => ?_) fun hm => ?_)
    ·refine rg (mv v42 rfl (mi rfl (Lw.t rfl (T.bs 9 [vI u70] (cs := [vI u70]) rfl rfl (bsv rfl)) ?_)))
     rintro _ _ ⟨g84, W84, rfl, rfl, l84, b84⟩
     obtain ⟨q93, e94, hm⟩ := ob hm
     refine Lw.t rfl (T.app1S (α := Int) (K' := []) ((o43.up l76).up l84) b84 (rdI _) rfl rfl e94) ?_
     rintro v95 _ ⟨W95, rfl, l95, o95⟩
     exact Nv v95 rfl ((ag) ⟨q93, v95, vI u70, W95, rfl, ((l76.j l84).j l95).w, rfl, o95, ((f76_0.up l84).up l95), ((f76_1.up l84).up l95), hm⟩)
    ·exact sk ((ag) ⟨y41, v42, vI u70, W76, rfl, l76.w, rfl, (o43.up l76), f76_0, f76_1, hm⟩)
  ·refine Cw.exit ?_
   rw [hK49] at hm
   refine sr (mv v42 rfl (cr hm (fun _ => p148 (K := [0]) (c0 := 8) o43 rfl) ?_))
   rintro z104 _ W106 hm l106 ⟨rfl, f106_0⟩
   have a107 := a51.t l106
   refine nl (sr (mv v42 rfl (Nv v42 rfl ?_)))
   obtain ⟨W114, ew114, l114, o114⟩ := f106_0.dyeO 31
   have a115 := a107.t l114
   cases hm
   rw [← ew114]
   exact Cw.ret (ret1 rfl (Res.mk a115 ⟨v42, rfl, o114.s, ((b46.up l106).up l114), ((b47.up l106).up l114)⟩))
theorem p103_104 {x0 v0_0_ v0_1_ x1 x3 g3_ v3_0_ v3_1_ x4 g4_ k0 c0 c1 r} (h0 : Rd W K [v0_0_, v0_1_] x0) (hB3 : Bx W c0 g3_ [v3_0_, v3_1_]) (h3_0 : Rd W K [v3_0_] x3.Commits) (h3_1 : Rd W K [v3_1_] x3.Heads) (hB4 : Bx W c1 g4_ [vS x4]) (h99 : Gl 0 W K) (hJ : okJ K [c0, c1] = true) (hm : Vm.impl_Repo_log_at_impl_LogPath_c1 x0 x1 x3 x4 = some r) : Q1 103 [.agg [v0_0_, v0_1_].toArray, vI x1, .func (.func 104) #[] [ptr (bx g3_), ptr (bx g4_)].toArray] W [c0, c1] fun W' v => ∃ u0, v = u0 ∧ Ow W' k0 [] [u0] r ∧ Bx W' c0 g3_ [v3_0_, v3_1_] ∧ Bx W' c1 g4_ [vS x4] :=
 CallR.adJ (J := [c0, c1]) (fun c => bif Nat.beq c 0 then 0 else bif Nat.beq c 2 then c0 else bif Nat.beq c 3 then c1 else bif Nat.beq c 31 then k0 else 0) (c103_104 (h0.view _) (hB3.viewJ 0 hJ) (h3_0.view _) (h3_1.view _) (hB4.viewJ 1 hJ) (h99.view _) hm) fun _ _ ⟨u0, e, f0, f1, f2⟩ => ⟨u0, e, f0.one1.backN rfl, Bx.backJ 0 f1 rfl, Bx.backJ 1 f2 rfl⟩
theorem c38 {x0 v0_0_ v0_1_ x1 x2 r} (h0 : Rd W0 [0] [v0_0_, v0_1_] x0) (h99 : Gl 0 W0 [0]) (hm : Vm.impl_LogPath x0 x1 x2 = some r) : Q0 38 [.agg [v0_0_, v0_1_].toArray, vI x1, vS x2] W0 fun Wf v => ∃ u0, v = u0 ∧ OwS Wf LL [] [u0] r := by
 unfold Vm.impl_LogPath at hm
 obtain ⟨w0_0, w0_1, he0, h0_0, h0_1⟩ := Repo.split h0
 simp only [List.cons.injEq, and_true, true_and] at he0
 obtain ⟨rfl, rfl⟩ := he0
 refine CallR.of Tryz.func38 rfl rfl rfl rfl (sr (bo 2 rfl fun g1 W1 l1 b1 => ?_))
 have a2 := l1.o
 refine Lw.t rfl (T.box 3 (v := vS x2) (cs := [vS x2]) rfl rfl) ?_
 rintro _ _ ⟨g3, W3, rfl, rfl, l3, b3⟩
 have a4 := a2.n l3
 refine Nv (.slice none 0 0) rfl (sr (la (b1.up l3) (mi rfl (Lw.r rfl (R.mkF (vs := [ptr (bx g1), ptr (bx g3)]) rfl) (cr hm (fun _ => p103_104 (k0 := 4) (c0 := 2) (c1 := 3) (x3 := x0) (x4 := x2) (Repo.rd (K := [0]) x0.Commits x0.Heads (h0_0.ul a4) (h0_1.ul a4)) (b1.up l3) (h0_0.ul a4) (h0_1.ul a4) b3 (h99.ul a4) rfl) ?_)))))
 rintro z9 v0_11 W11 hm l11 ⟨_, rfl, f11_0, f11_1, f11_2⟩
 have a12 := a4.t l11
 refine Nv v0_11 rfl ?_
 cases hm
 exact Cw.ret (ret1 rfl (Res.mk a12 ⟨v0_11, rfl, f11_0.s.sub rfl rfl⟩))
theorem p38 {x0 v0_0_ v0_1_ x1 x2 k0 r} (h0 : Rd W K [v0_0_, v0_1_] x0) (h99 : Gl 0 W K) (hm : Vm.impl_LogPath x0 x1 x2 = some r) : Q1 38 [.agg [v0_0_, v0_1_].toArray, vI x1, vS x2] W [] fun W' v => ∃ u0, v = u0 ∧ Ow W' k0 [] [u0] r :=
 (c38 (h0.view _) (h99.view _) hm).ad (fk k0) fun _ _ ⟨u0, e, f0⟩ => ⟨u0, e, f0.back (fk_LL _)⟩
theorem c10 {x0 v0_ r} (h0 : Rd W0 [0] [v0_] x0) (h99 : Gl 0 W0 [0]) (hm : Vm.laws_FnBlameLog x0 = some r) : Q0 10 [v0_] W0 fun Wf v => v = vB r := by
 unfold Vm.laws_FnBlameLog at hm
 refine CallR.of Tryz.func10 rfl rfl rfl rfl (sr (Nb rfl (ssr (mv v0_ rfl (Lw.ln x0 h0 rfl (Lw.gt rfl (nl (cn hm (fun hm => ?_) fun hm => ?_))))))))
 ·exact sr (Nb rfl (.ret (rt hm (Le.refl _ _))))
 ·refine sk (sr (mv v0_ rfl (cr hm (fun _ => p22 (k0 := 2) (k1 := 3) h0) ?_)))
  rintro z2 _ W4 hm l4 ⟨v0_0_4, v0_1_4, rfl, f4_0, f4_1⟩
  have a5 := l4.o
  refine mv (.tuple [.agg [v0_0_4, v0_1_4].toArray, vI z2.2.1, vS z2.2.2].toArray) rfl (Lw.r rfl (R.ext (vs := [.agg [v0_0_4, v0_1_4].toArray, vI z2.2.1, vS z2.2.2]) (v := .agg [v0_0_4, v0_1_4].toArray) rfl rfl) (Lw.r rfl (R.ext (vs := [.agg [v0_0_4, v0_1_4].toArray, vI z2.2.1, vS z2.2.2]) (v := vI z2.2.1) rfl rfl) (Lw.r rfl (R.ext (vs := [.agg [v0_0_4, v0_1_4].toArray, vI z2.2.1, vS z2.2.2]) (v := vS z2.2.2) rfl rfl) (al 4 [.slice none 0 0, .slice none 0 0] fun g6 W6 l6 b6 => ?_))))
  have a7 := a5.n l6
  refine sta b6 (oc_cons (f4_0.up l6).oc (oc_cons (f4_1.up l6).oc oc_nil)) fun W10 l10 b10 => ?_
  have a11 := a7.t l10
  have o12 := (f4_0.up l6).up l10
  have o13 := (f4_1.up l6).up l10
  refine Gi rfl (Ns rfl (sr (la b10 (mi rfl (ms rfl (cr hm (fun _ => p23 (K := [0, 2, 3]) (k0 := 5) (x0 := (Vm.Repo.mk z2.1.Commits z2.1.Heads)) ((Repo.rd (K := [2, 3]) z2.1.Commits z2.1.Heads (o12.rd.sub (M := [2, 3]) rfl) (o13.rd.sub (M := [2, 3]) rfl)).sub (M := [0, 2, 3]) rfl) ((h99.ul a11).sub (M := [0, 2, 3]) rfl)) ?_))))))
  rintro z15 v0_17 W17 hm l17 ⟨_, rfl, f17_0⟩
  have a18 := a11.n l17
  refine Nv v0_17 rfl (Cw.seq ?_)
  obtain ⟨K24, hK24, hm⟩ := jn_e hm
  refine Cw.join 22 33 [33] (fun l w => ∃ y22 W23, CW.w W23 = w ∧ Le [] W17 W23 ∧ l = [vB y22] ∧ K24 y22 = some r) ?_ ?_
  ·rintro _ _ σ ⟨y22, W23, rfl, l23, rfl, hm⟩
   rw [hK24] at hm
   have a25 := a18.n l23
   have o26 := (o12.up l17).up l23
   have o27 := (o13.up l17).up l23
   have b29 := (b10.up l17).up l23
   refine cn hm (fun hm => ?_) fun hm => ?_
   ·refine sr (mv v0_17 rfl (la b29 (mi rfl (ms rfl (cr hm (fun _ => p25 (K := [2, 3]) (k0 := 6) (x0 := (Vm.Repo.mk z2.1.Commits z2.1.Heads)) (Repo.rd (K := [2, 3]) z2.1.Commits z2.1.Heads (o26.rd.sub (M := [2, 3]) rfl) (o27.rd.sub (M := [2, 3]) rfl))) ?_)))))
    rintro z31 v0_33 W33 hm l33 ⟨_, rfl, f33_0⟩
    have a34 := a25.n l33
    refine ca hm (fun _ => p24 (K := [5, 6]) (((f17_0.up l23).up l33).rd.sub (M := [5, 6]) rfl) (f33_0.rd.sub (M := [5, 6]) rfl)) fun z39 W41 hm l41 => ?_
    have a42 := a34.n l41
    exact Nb rfl (.ret (rt hm a42))
   ·refine sk (sr (la b29 (mi rfl (ms rfl (cr hm (fun _ => p38 (K := [0, 2, 3]) (k0 := 7) (x0 := (Vm.Repo.mk z2.1.Commits z2.1.Heads)) ((Repo.rd (K := [2, 3]) z2.1.Commits z2.1.Heads (o26.rd.sub (M := [2, 3]) rfl) (o27.rd.sub (M := [2, 3]) rfl)).sub (M := [0, 2, 3]) rfl) ((h99.ul a25).sub (M := [0, 2, 3]) rfl)) ?_)))))
    rintro z49 v0_51 W51 hm l51 ⟨_, rfl, f51_0⟩
    have a52 := a25.n l51
    refine Nv v0_51 rfl (ssr (Ni rfl (Cw.block ?_)))
    obtain ⟨K60, hK60, hm⟩ := jn_e hm
    refine Cw.loop 44 69 [2, 8] (fun m l w => ∃ y57 y58 W59, CW.w W59 = w ∧ Le [] W51 W59 ∧ l = [vB y57, vI y58] ∧ Vm.laws_FnBlameLog_l1 z2 z15 z49 K60 m y57 y58 = some r) _ ⟨false, 0, W51, rfl, Le.refl _ _, rfl, hm⟩ ?_
    rintro (_ | m61) _ _ σ ⟨y57, y58, W59, rfl, l59, rfl, hm⟩
    ·cases hm
    unfold Vm.laws_FnBlameLog_l1 at hm
    have a62 := a52.n l59
    have o65 := ((f17_0.up l23).up l51).up l59
    refine ssr (mi rfl (mv v0_17 rfl (Lw.ln z15 o65.rd rfl (Lw.lt rfl (nl (cn hm (fun hm => ?_) fun hm => ?_))))))
    ·refine sk (Cw.seq (Cw.block ?_))
     obtain ⟨K71, hK71, hm⟩ := jn_e hm
     refine Cw.join 50 69 [69] (fun l w => ∃ y69 W70, CW.w W70 = w ∧ Le [] W59 W70 ∧ l = [vB y69] ∧ K71 y69 = some r) ?_ ?_
     ·rintro _ _ σ ⟨y69, W70, rfl, l70, rfl, hm⟩
      rw [hK71] at hm
      have a72 := a62.n l70
      refine cn hm (fun hm => ?_) fun hm => ?_
      ·exact sr (Nb rfl (.ret (rt hm a72)))
      ·exact sk (rg (mi rfl (Lw.add rfl (Ni rfl ((agm) ⟨y57, w64 (y58 + 1), W70, rfl, (l59.j l70).w, rfl, hm⟩)))))
     ·refine Cw.draw [] [(0, 0), (1, 1), (2, 0), (3, 0), (4, 0), (5, 1), (6, 0), (7, 0), (8, 1), (9, 0), (10, 0), (11, 0), (12, 0), (13, 0), (14, 0), (15, 0), (16, 1), (17, 2), (18, 0), (19, 0)] mixed (by kernel_rfl) fun W79 l79 => ?_
      have o81 := ((o26.up l51).up l59).up l79
      have o83 := o65.up l79
      refine Dfl (((b29.up l51).up l59).up l79) rfl rfl rfl (Dv v0_17 rfl (Di rfl ?_))
      obtain ⟨u86, e87, hm⟩ := ob hm
      refine Mw.p rfl rfl (fun _ => R.ix (α := Int) o83.rd e87 rfl rfl rfl) (Mw.q rfl rfl (fun _ c => R.ld rfl rfl (cl_cell (o83.rd.at_ e87).1 rfl (o83.rd.at_ e87).int c)) ?_)
      obtain ⟨u88, e89, hm⟩ := ob hm
      refine Mw.p rfl rfl (fun _ => R.ix (α := Commit) o81.rd e89 rfl rfl rfl) (Df rfl ?_)
      obtain ⟨v90, c91, r92⟩ := (Commit.at0 (o81.rd.at_ e89)).cell rfl
      refine Mw.q rfl rfl (fun _ c => R.ld rfl rfl (cl_cell (Commit.at0 (o81.rd.at_ e89)).1 rfl c91 c)) (Mw.p rfl rfl (fun _ => lenR (xs := u88.Parents) r92 rfl) (Mw.p rfl rfl (fun _ => R.lt rfl rfl) (Db rfl (bs hm (fun hc93 hm => ?_) fun hc93 hm => ?_))))
      ·refine Wp hc93 rfl (fun _ => R.mv (v := v0_51) rfl) (Wp hc93 rfl (fun _ => R.mv (v := v0_17) rfl) (Wp hc93 rfl (fun _ => R.mv (v := vI y58) rfl) ?_))
       obtain ⟨u94, e95, hm⟩ := ob hm
       refine Wp hc93 rfl (fun _ => R.ix (α := Int) o83.rd e95 rfl rfl rfl) (Wq hc93 rfl (fun _ c => R.ld rfl rfl (cl_cell (o83.rd.at_ e95).1 rfl (o83.rd.at_ e95).int c)) ?_)
       obtain ⟨z96, e97, hm⟩ := ob hm
       refine Wt hc93 rfl (T.call rfl (p28 (K := [7])  ((f51_0.up l59).up l79).rd e97)) ?_
       rintro _ _ ⟨W98, rfl, l98, rfl⟩
       exact m0 l98 fun d98 => Wp hc93 rfl (fun _ => R.not rfl) (Mw.p rfl rfl (fun _ => R.pk hc93 rfl (v := vB (!z96)) rfl) (Mw.nil ((ag) ⟨(!z96), W98, rfl, (l79.j l98).w, rfl, hm⟩)))
      ·exact dps 7 hc93 rfl (Mw.p rfl rfl (fun _ => R.pk hc93 rfl (v := vB false) rfl) (Mw.nil ((ag) ⟨false, W79, rfl, l79, rfl, hm⟩)))
    ·refine Cw.exit ?_
     rw [hK60] at hm
     exact sr (Nb rfl (.ret (rt hm a62)))
  ·refine rg (mv v0_17 rfl (la (b10.up l17) (mi rfl (ms rfl (cr hm (fun _ => p25 (K := [2, 3]) (k0 := 8) (x0 := (Vm.Repo.mk z2.1.Commits z2.1.Heads)) (Repo.rd (K := [2, 3]) z2.1.Commits z2.1.Heads ((o12.up l17).rd.sub (M := [2, 3]) rfl) ((o13.up l17).rd.sub (M := [2, 3]) rfl))) ?_)))))
   rintro z105 v0_107 W107 hm l107 ⟨_, rfl, f107_0⟩
   refine ca hm (fun _ => p24 (K := [5, 8]) ((f17_0.up l107).rd.sub (M := [5, 8]) rfl) (f107_0.rd.sub (M := [5, 8]) rfl)) fun z113 W115 hm l115 => Lw.r rfl (R.not rfl) (mb rfl (bs hm (fun hc122 hm => ?_) fun hc122 hm => ?_))
   ·exact psk 3 hc122 rfl (Pb hc122 rfl (nl ((ag) ⟨true, W115, rfl, (l107.j l115).w, rfl, hm⟩)))
   ·exact wak 3 hc122 (mv v0_17 rfl (Lw.ln z15 ((f17_0.up l107).up l115).rd rfl (Lw.eq rfl (Pb hc122 rfl (nl ((ag) ⟨(((z15.length : Int) : Int) == (0 : Int)), W115, rfl, (l107.j l115).w, rfl, hm⟩))))))
theorem p10 {x0 v0_ r} (h0 : Rd W K [v0_] x0) (h99 : Gl 0 W K) (hm : Vm.laws_FnBlameLog x0 = some r) : Q1 10 [v0_] W [] fun W' v => v = vB r :=
 (c10 (h0.view _) (h99.view _) hm).ad (fk 0) fun _ _ e => e
end Go.Sx
