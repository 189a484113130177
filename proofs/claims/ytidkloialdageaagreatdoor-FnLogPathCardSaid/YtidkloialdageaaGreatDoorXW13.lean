/- Walks: each function answers as its model, printed by a program of ours. Conditions: the arguments read as they are given. -/
import Derived.Test.YtidkloialdageaaGreatDoorXTs
import Derived.Test.YtidkloialdageaaGreatDoorXM7
import Derived.Test.YtidkloialdageaaGreatDoorXW0
import Derived.Test.YtidkloialdageaaGreatDoorXW1
import Derived.Test.YtidkloialdageaaGreatDoorXW10
import Derived.Test.YtidkloialdageaaGreatDoorXW11
import Derived.Test.YtidkloialdageaaGreatDoorXW3
import Derived.Test.YtidkloialdageaaGreatDoorXW6
import Derived.Test.YtidkloialdageaaGreatDoorXE
namespace Go.Sx
open Go Go.Proofs Go.Vm Rp
set_option linter.unusedVariables false
set_option linter.unusedSimpArgs false

variable {W W0 : CW} {K : List Nat}
theorem c37 {x0 v0_ r} (h0 : Rd W0 [0] [v0_] x0) (hm : Vm.spec_DrawLogPath x0 = some r) : Q0 37 [v0_] W0 fun Wf v => ∃ u0_0 u0_1, v = .tuple [.agg [u0_0, u0_1].toArray, vI r.2.1, vS r.2.2].toArray ∧ OwS Wf [31] [] [u0_0] r.1.Commits ∧ OwS Wf [32] [] [u0_1] r.1.Heads := by
 unfold Vm.spec_DrawLogPath at hm
 refine CallR.of Tryz.func37 rfl rfl rfl rfl (sr (al 2 [.slice none 0 0, .slice none 0 0] fun g1 W1 l1 b1 => ?_))
 have a2 := l1.o
 refine Gi rfl (Ns rfl (sr (mv v0_ rfl (cr hm (fun _ => p81 (k0 := 3) (h0.ul a2)) ?_))))
 rintro z4 _ W6 hm l6 ⟨g0_6, v0_0_6, rfl, f6_0, f6_1⟩
 have s7 := f6_1.sub (M := [0]) rfl
 have a8 := a2.n l6
 refine Np rfl (sr (mp rfl (cr hm (fun _ => p82 (k0 := 4) (k1 := 5) (c0 := 3) (x0 := z4) f6_0 s7 rfl) ?_)))
 rintro z10 _ W12 hm l12 ⟨v0_0_12, v0_1_12, rfl, f12_0, f12_1, f12_2⟩
 have a13 := l12.s
 refine al 6 [.slice none 0 0, .slice none 0 0] fun g15 W15 l15 b15 => ?_
 have a16 := l15.o
 refine sta b15 (oc_cons (f12_0.up l15).oc (oc_cons (f12_1.up l15).oc oc_nil)) fun W21 l21 b21 => ?_
 have a22 := l21.s
 have o23 := (f12_0.up l15).up l21
 have o24 := (f12_1.up l15).up l21
 refine nl (sr (mp rfl (la b21 (cr hm (fun _ => p83 (K := [0, 4, 5]) (c0 := 3) (x0 := (Vm.l30Rd.mk z4.b z10.2)) (x1 := (Vm.Repo.mk z10.1.Commits z10.1.Heads)) ((f12_2.up l15).up l21) ((s7.ul ((a13.trans a16).trans a22)).sub (M := [0, 4, 5]) rfl) ((Repo.rd (K := [4, 5]) z10.1.Commits z10.1.Heads (o23.rd.sub (M := [4, 5]) rfl) (o24.rd.sub (M := [4, 5]) rfl)).sub (M := [0, 4, 5]) rfl) rfl) ?_))))
 rintro z28 _ W30 hm l30 ⟨rfl, f30_0⟩
 have a31 := l30.s
 refine Ni rfl (Cw.seq (Cw.draw [3] [(0, 1), (1, 0), (2, 0), (3, 2), (4, 2), (5, 3), (6, 0), (7, 0)] mixed (by kernel_rfl) fun W36 l36 => ?_))
 have a37 := l36.o
 refine Mw.q rfl rfl (fun _ c => R.lda (cs := [v0_0_12, v0_1_12]) (((b21.up l30).up l36).clcs rfl c) rfl rfl) (Di rfl (Dp rfl (Mw.t rfl rfl (T.bsS (α := Str) (xs := [([97] : Str), ([98] : Str), ([100] : Str), ([100, 47, 101] : Str), ([103] : Str), ([113] : Str)]) 7 [] (W := W36) [vS ([97] : Str), vS ([98] : Str), vS ([100] : Str), vS ([100, 47, 101] : Str), vS ([103] : Str), vS ([113] : Str)] (Each.cons ((rdS _)) (Each.cons ((rdS _)) (Each.cons ((rdS _)) (Each.cons ((rdS _)) (Each.cons ((rdS _)) (Each.cons ((rdS _)) Each.nil)))))) rfl) ?_)))
 rintro v43 _ ⟨W43, rfl, l43, o43⟩
 have a44 := l43.o
 refine m0 l43 fun d43 => ?_
 obtain ⟨z51, e52, hm⟩ := ob hm
 refine Mw.t rfl rfl (T.call rfl (p102 (K := [0, 7])  (c0 := 3) (x0 := (Vm.l30Rd.mk z4.b z28.2)) ((f30_0.up l36).up l43) ((s7.ul (((((a13.trans a16).trans a22).trans a31).trans a37).trans a44)).sub (M := [0, 7]) rfl) (o43.rd.sub (M := [0, 7]) rfl) rfl e52)) ?_
 rintro _ _ ⟨W53, rfl, l53, ⟨rfl, f53_0⟩⟩
 have a54 := ((((((a8.trans a13).trans a16).trans a22).trans a31).trans a37).trans a44).t l53
 have o55 := (((o23.up l30).up l36).up l43).up l53
 have o56 := (((o24.up l30).up l36).up l43).up l53
 refine mc d43 l53 fun d53 => Mw.lu rfl (T.sta (vs := [v0_0_12, v0_1_12]) ((((((((b1.up l6).up l12).up l15).up l21).up l30).up l36).up l43).up l53) rfl rfl (oc_cons o55.oc (oc_cons o56.oc oc_nil)) rfl rfl) ?_
 rintro _ _ ⟨W60, rfl, l60, b60⟩
 have a61 := a54.t l60
 refine Hi rfl (Hs rfl (Mw.nil ?_))
 obtain ⟨W67, ew67, l67, o67⟩ := (o55.up l60).dyeO 31
 have a68 := a61.t l67
 obtain ⟨W74, ew74, l74, o74⟩ := ((o56.up l60).up l67).dyeO 32
 have a75 := a68.t l74
 cases hm
 rw [← ew74.trans (ew67)]
 exact Cw.ret (retG (ResOk.c rfl ((b60.up l67).up l74) (ResOk.t rfl (ResOk.t rfl ResOk.n))) (Res.mk a75 ⟨v0_0_12, v0_1_12, rfl, (o67.up l74).s, o74.s⟩))

theorem p37 {x0 v0_ k0 k1 r} (h0 : Rd W K [v0_] x0) (hm : Vm.spec_DrawLogPath x0 = some r) : Q1 37 [v0_] W [] fun W' v => ∃ u0_0 u0_1, v = .tuple [.agg [u0_0, u0_1].toArray, vI r.2.1, vS r.2.2].toArray ∧ Ow W' k0 [] [u0_0] r.1.Commits ∧ Ow W' k1 [] [u0_1] r.1.Heads :=
 CallR.adJ (J := []) (fun c => bif Nat.beq c 0 then 0 else bif Nat.beq c 31 then k0 else bif Nat.beq c 32 then k1 else 0) (c37 (h0.view _) hm) fun _ _ ⟨u0_0, u0_1, e, f0, f1⟩ => ⟨u0_0, u0_1, e, f0.one1.backN rfl, f1.one1.backN rfl⟩

theorem c168 {x0 v0_1_ x1 r} (h0 : Rd W0 [0] [vS x0.Path, v0_1_] x0) (hm : Vm.impl_isAt x0 x1 = some r) : Q0 168 [.agg [vS x0.Path, v0_1_].toArray, vS x1] W0 fun Wf v => v = vB r := by
 unfold Vm.impl_isAt at hm
 obtain ⟨w0_0, he0, h0_1⟩ := File.split h0
 simp only [List.cons.injEq, and_true, true_and] at he0
 obtain rfl := he0
 refine CallR.of Tryz.func168 rfl rfl rfl rfl (sr (bo 2 rfl fun g1 W1 l1 b1 => ?_))
 have a2 := l1.o
 refine Nb rfl ?_
 obtain ⟨K5, hK5, hm⟩ := jn_e hm
 refine Cw.join 5 15 [4] (fun l w => ∃ y3 W4, CW.w W4 = w ∧ Le [] W1 W4 ∧ l = [vB y3] ∧ K5 y3 = some r) ?_ ?_
 ·rintro _ _ σ ⟨y3, W4, rfl, l4, rfl, hm⟩
  rw [hK5] at hm
  have a6 := a2.n l4
  exact .ret (rt hm a6)
 ·refine rg (fl b1 rfl (ms rfl (Lw.seq rfl (mb rfl (bs hm (fun hc8 hm => ?_) fun hc8 hm => ?_)))))
  ·exact psk 5 hc8 rfl (Pb hc8 rfl (Nb rfl ((ag) ⟨true, W1, rfl, Le.refl _ _, rfl, hm⟩)))
  ·refine wak 5 hc8 (fl b1 rfl (ms rfl ?_))
   obtain ⟨q9, e10, hm⟩ := ob hm
   exact Lw.r rfl (R.sad e10 rfl rfl) (ca hm (fun _ => p153) fun z11 W13 hm l13 => Pb hc8 rfl (Nb rfl ((ag) ⟨z11, W13, rfl, l13, rfl, hm⟩)))

theorem p168 {x0 v0_1_ x1 r} (h0 : Rd W K [vS x0.Path, v0_1_] x0) (hm : Vm.impl_isAt x0 x1 = some r) : Q1 168 [.agg [vS x0.Path, v0_1_].toArray, vS x1] W [] fun W' v => v = vB r :=
 (c168 (h0.view _) hm).ad (fk 0) fun _ _ e => e

theorem c149 {x0 v0_ x1 r} (h0 : Rd W0 [0] [v0_] x0) (hm : Vm.impl_under x0 x1 = some r) : Q0 149 [v0_, vS x1] W0 fun Wf v => ∃ u0, v = u0 ∧ OwS (α := List (Sh Vm.File)) Wf LL [0] [u0] r := by
 unfold Vm.impl_under at hm
 refine CallR.of Tryz.func149 rfl rfl rfl rfl (sr (Nv (.slice none 0 0) rfl (sr (Nv (.slice none 0 0) rfl (ssr (mv v0_ rfl (Lw.ln x0 h0 rfl (mi rfl (nl (Cw.block ?_))))))))))
 obtain ⟨K7, hK7, hm⟩ := jn_e hm
 refine Cw.loop 10 21 [5, 7, 10] (fun m l w => ∃ (y1 : List Vm.File) (y5 : Int) (v2 j4 : Value) (W6 : CW), W6.w = w ∧ Le [2, 3] W0 W6 ∧ l = [v2, j4, vI y5] ∧ Ow (α := List (Sh Vm.File)) W6 2 [0] [v2] y1 ∧ Vm.impl_under_l1 x0 x1 K7 m y1 y5 = some r) _ ⟨([] : List File), 0, .slice none 0 0, undef, W0, rfl, Le.refl _ _, rfl, owNSh 2 [0], hm⟩ ?_
 rintro (_ | m8) _ _ σ ⟨y1, y5, v2, j4, W6, rfl, l6, rfl, o3, hm⟩
 ·cases hm
 unfold Vm.impl_under_l1 at hm
 have a9 := l6.s
 refine sr (Lw.lt rfl (nl (Cw.seq (cn hm (fun hm => ?_) fun hm => ?_))))
 ·refine sk ?_
  obtain ⟨K16, hK16, hm⟩ := jn_e hm
  refine Cw.join 12 20 [5, 7] (fun l w => ∃ (y11 : List Vm.File) (v12 j14 : Value) (W15 : CW), W15.w = w ∧ Le [2, 3] W6 W15 ∧ l = [v12, j14] ∧ Ow (α := List (Sh Vm.File)) W15 2 [0] [v12] y11 ∧ K16 y11 = some r) ?_ ?_
  ·rintro _ _ σ ⟨y11, v12, j14, W15, rfl, l15, rfl, o13, hm⟩
   rw [hK16] at hm
   exact rg (Lw.add rfl (mi rfl (nl ((agm) ⟨y11, w64 (y5 + 1), v12, j14, W15, rfl, (l6.j l15).w, rfl, o13, hm⟩))))
  ·refine Cw.block (sr ?_)
   obtain ⟨u18, e19, hm⟩ := ob hm
   refine Lw.r rfl (R.ix (α := File) (h0.ul a9) e19 rfl rfl rfl) ?_
   obtain ⟨x21, c22, _, r23⟩ := ((h0.ul a9).at_ e19).cells
   obtain ⟨v24, rfl, r25⟩ := File.split r23
   refine Lw.r rfl (R.lda c22 rfl rfl) (al 3 [vS ([] : Str), .slice none 0 0] fun g26 W26 l26 b26 => ?_)
   have a27 := l26.o
   refine sta b26 (oc_cons rfl (oc_cons r25.oc oc_nil)) fun W29 l29 b29 => ?_
   have a30 := a27.t l29
   refine nl (sr (la b29 (ms rfl (ca hm (fun _ => p168 (File.rd (K := [0]) u18.Path u18.Text (r25.ul a30))) fun z33 W35 hm l35 => ?_))))
   have a36 := a30.n l35
   have o37 := ((o3.up l26).up l29).up l35
   refine nl (cn hm (fun hm => ?_) fun hm => ?_)
   ·refine rg (mv v2 rfl (la (b29.up l35) (Lw.t rfl (T.bs 4 [.agg [vS u18.Path, v24].toArray] (cs := [vS u18.Path, v24]) rfl rfl (bsA rfl)) ?_)))
    rintro _ _ ⟨g40, W40, rfl, rfl, l40, b40⟩
    have a41 := a36.n l40
    obtain ⟨q45, e46, hm⟩ := ob hm
    refine Lw.t rfl (T.app1S (α := Sh Vm.File) (K' := [0]) (o37.up l40) b40 (File.rd (K := [0]) u18.Path u18.Text (r25.ul a41)).sh1 rfl rfl e46) ?_
    rintro v47 _ ⟨W47, rfl, l47, o47⟩
    exact Nv v47 rfl ((ag) ⟨q45, v47, ptr (bx g26), W47, rfl, ((((l26.j l29).j l35).j l40).j l47).w, rfl, o47, hm⟩)
   ·exact sk ((ag) ⟨y1, v2, ptr (bx g26), W35, rfl, ((l26.j l29).j l35).w, rfl, o37, hm⟩)
 ·refine Cw.exit ?_
  rw [hK7] at hm
  refine sr (mv v2 rfl (Nv v2 rfl ?_))
  cases hm
  exact Cw.ret (ret1 rfl (Res.mk a9 ⟨v2, rfl, o3.s.sub rfl rfl⟩))

theorem p149 {x0 v0_ x1 k0 r} (h0 : Rd W K [v0_] x0) (hm : Vm.impl_under x0 x1 = some r) : Q1 149 [v0_, vS x1] W [] fun W' v => ∃ u0, v = u0 ∧ Ow (α := List (Sh Vm.File)) W' k0 (0 :: K) [u0] r :=
 (c149 (h0.view _) hm).ad (fk k0) fun _ _ ⟨u0, e, f0⟩ => ⟨u0, e, f0.backS (fk_LL _) rfl⟩

theorem c96 {x0 v0_ x1 v1_ r} (h0 : Rd W0 [0] [v0_] x0) (h1 : Rd W0 [0] [v1_] x1) (hm : Vm.slices_Equal_string_string x0 x1 = some r) : Q0 96 [v0_, v1_] W0 fun Wf v => v = vB r := by
 unfold Vm.slices_Equal_string_string at hm
 refine CallR.of Tryz.func96 rfl rfl rfl rfl (sr (Nb rfl (ssr (mv v0_ rfl (Lw.ln x0 h0 rfl (mv v1_ rfl (Lw.ln x1 h1 rfl (Lw.ne rfl (nl (cn hm (fun hm => ?_) fun hm => ?_))))))))))
 ·exact sr (Nb rfl (.ret (rt hm (Le.refl _ _))))
 ·refine sk (ssr (mv v0_ rfl (Lw.ln x0 h0 rfl (mi rfl (nl (Cw.block ?_))))))
  obtain ⟨K6, hK6, hm⟩ := jn_e hm
  refine Cw.loop 13 25 [4, 5, 13] (fun m l w => ∃ y2 y4 j3 W5, CW.w W5 = w ∧ Le [] W0 W5 ∧ l = [vB y2, j3, vI y4] ∧ Vm.slices_Equal_string_string_l1 x0 x1 K6 m y2 y4 = some r) _ ⟨false, 0, undef, W0, rfl, Le.refl _ _, rfl, hm⟩ ?_
  rintro (_ | m7) _ _ σ ⟨y2, y4, j3, W5, rfl, l5, rfl, hm⟩
  ·cases hm
  unfold Vm.slices_Equal_string_string_l1 at hm
  have a8 := l5.o
  refine sr (Lw.lt rfl (nl (Cw.seq (cn hm (fun hm => ?_) fun hm => ?_))))
  ·refine sk (Cw.seq (Cw.block (sr (mi rfl (Ni rfl (Cw.seq (Cw.draw [] [(0, 0), (1, 0), (2, 0), (3, 1), (4, 0), (5, 0), (6, 0), (7, 1), (8, 0)] mixed (by kernel_rfl) fun W10 l10 => ?_)))))))
   have a11 := a8.n l10
   refine Dv v0_ rfl (Di rfl ?_)
   obtain ⟨u12, e13, hm⟩ := ob hm
   refine Mw.p rfl rfl (fun _ => R.ix (α := Str) (h0.ul a11) e13 rfl rfl rfl) (Mw.q rfl rfl (fun _ c => R.ld rfl rfl (cl_cell ((h0.ul a11).at_ e13).1 rfl ((h0.ul a11).at_ e13).str c)) (Dv v1_ rfl (Di rfl ?_)))
   obtain ⟨u15, e16, hm⟩ := ob hm
   refine Mw.p rfl rfl (fun _ => R.ix (α := Str) (h1.ul a11) e16 rfl rfl rfl) (Mw.q rfl rfl (fun _ c => R.ld rfl rfl (cl_cell ((h1.ul a11).at_ e16).1 rfl ((h1.ul a11).at_ e16).str c)) (Mw.p rfl rfl (fun _ => R.sne rfl rfl) (Mw.nil (cn hm (fun hm => ?_) fun hm => ?_))))
   ·exact sr (Nb rfl (.ret (rt hm a11)))
   ·exact sk (rg (Lw.add rfl (mi rfl (nl ((agm) ⟨y2, w64 (y4 + 1), vI y4, W10, rfl, (l5.j l10).w, rfl, hm⟩)))))
  ·refine Cw.exit ?_
   rw [hK6] at hm
   exact sr (Nb rfl (.ret (rt hm a8)))

theorem p96 {x0 v0_ x1 v1_ r} (h0 : Rd W K [v0_] x0) (h1 : Rd W K [v1_] x1) (hm : Vm.slices_Equal_string_string x0 x1 = some r) : Q1 96 [v0_, v1_] W [] fun W' v => v = vB r :=
 (c96 (h0.view _) (h1.view _) hm).ad (fk 0) fun _ _ e => e

theorem c170 {x0 v0_1_ x1 v1_1_ r} (h0 : Rd W0 [0] [vS x0.Path, v0_1_] x0) (h1 : Rd W0 [0] [vS x1.Path, v1_1_] x1) (hm : Vm.impl_sameTree_c1 x0 x1 = some r) : Q0 170 [.agg [vS x0.Path, v0_1_].toArray, .agg [vS x1.Path, v1_1_].toArray] W0 fun Wf v => v = vB r := by
 unfold Vm.impl_sameTree_c1 at hm
 obtain ⟨w0_0, he0, h0_1⟩ := File.split h0
 simp only [List.cons.injEq, and_true, true_and] at he0
 obtain rfl := he0
 obtain ⟨w1_0, he1, h1_1⟩ := File.split h1
 simp only [List.cons.injEq, and_true, true_and] at he1
 obtain rfl := he1
 refine CallR.of Tryz.func170 rfl rfl rfl rfl (sr (bo 2 rfl fun g1 W1 l1 b1 => ?_))
 have a2 := l1.o
 refine bo 3 rfl fun g3 W3 l3 b3 => ?_
 have a4 := a2.n l3
 refine Nb rfl ?_
 obtain ⟨K8, hK8, hm⟩ := jn_e hm
 refine Cw.join 5 16 [4] (fun l w => ∃ y6 W7, CW.w W7 = w ∧ Le [] W3 W7 ∧ l = [vB y6] ∧ K8 y6 = some r) ?_ ?_
 ·rintro _ _ σ ⟨y6, W7, rfl, l7, rfl, hm⟩
  rw [hK8] at hm
  have a9 := a4.n l7
  exact .ret (rt hm a9)
 ·refine rg (fl (b1.up l3) rfl (fl b3 rfl (Lw.seq rfl (mb rfl (bs hm (fun hc12 hm => ?_) fun hc12 hm => ?_)))))
  ·exact wak 5 hc12 (fl (b1.up l3) rfl (fl b3 rfl (ca hm (fun _ => p96 (h0_1.ul a4) (h1_1.ul a4)) fun z15 W17 hm l17 => Pb hc12 rfl (Nb rfl ((ag) ⟨z15, W17, rfl, l17, rfl, hm⟩)))))
  ·exact psk 5 hc12 rfl (Pb hc12 rfl (Nb rfl ((ag) ⟨false, W3, rfl, Le.refl _ _, rfl, hm⟩)))

theorem p170 {x0 v0_1_ x1 v1_1_ r} (h0 : Rd W K [vS x0.Path, v0_1_] x0) (h1 : Rd W K [vS x1.Path, v1_1_] x1) (hm : Vm.impl_sameTree_c1 x0 x1 = some r) : Q1 170 [.agg [vS x0.Path, v0_1_].toArray, .agg [vS x1.Path, v1_1_].toArray] W [] fun W' v => v = vB r :=
 (c170 (h0.view _) (h1.view _) hm).ad (fk 0) fun _ _ e => e

theorem c169_170 {x0 v0_ x1 v1_ r} (h0 : Rd W0 [0] [v0_] x0) (h1 : Rd W0 [0] [v1_] x1) (hm : Vm.slices_EqualFunc_impl_File_impl_File_impl_File_impl_File_at_impl_sameTree_c1 x0 x1 = some r) : Q0 169 [v0_, v1_, .func (.func 170) #[] [].toArray] W0 fun Wf v => v = vB r := by
 unfold Vm.slices_EqualFunc_impl_File_impl_File_impl_File_impl_File_at_impl_sameTree_c1 at hm
 refine CallR.of Tryz.func169 rfl rfl rfl rfl (sr (Nb rfl (ssr (mv v0_ rfl (Lw.ln x0 h0 rfl (mv v1_ rfl (Lw.ln x1 h1 rfl (Lw.ne rfl (nl (cn hm (fun hm => ?_) fun hm => ?_))))))))))
 ·exact sr (Nb rfl (.ret (rt hm (Le.refl _ _))))
 ·refine sk (ssr (mv v0_ rfl (Lw.ln x0 h0 rfl (mi rfl (nl (Cw.block ?_))))))
  obtain ⟨K8, hK8, hm⟩ := jn_e hm
  refine Cw.loop 17 31 [6, 7, 8, 9, 17] (fun m l w => ∃ y2 y6 j3 j4 j5 W7, CW.w W7 = w ∧ Le [2, 3] W0 W7 ∧ l = [vB y2, j3, j4, j5, vI y6] ∧ Vm.slices_EqualFunc_impl_File_impl_File_impl_File_impl_File_at_impl_sameTree_c1_l1 x0 x1 K8 m y2 y6 = some r) _ ⟨false, 0, undef, undef, undef, W0, rfl, Le.refl _ _, rfl, hm⟩ ?_
  rintro (_ | m9) _ _ σ ⟨y2, y6, j3, j4, j5, W7, rfl, l7, rfl, hm⟩
  ·cases hm
  unfold Vm.slices_EqualFunc_impl_File_impl_File_impl_File_impl_File_at_impl_sameTree_c1_l1 at hm
  have a10 := l7.s
  refine sr (Lw.lt rfl (nl (Cw.seq (cn hm (fun hm => ?_) fun hm => ?_))))
  ·refine sk (Cw.seq (Cw.block (sr (mi rfl ?_))))
   obtain ⟨u12, e13, hm⟩ := ob hm
   refine Lw.r rfl (R.ix (α := File) (h0.ul a10) e13 rfl rfl rfl) ?_
   obtain ⟨x15, c16, _, r17⟩ := ((h0.ul a10).at_ e13).cells
   obtain ⟨v18, rfl, r19⟩ := File.split r17
   refine Lw.r rfl (R.lda c16 rfl rfl) (al 2 [vS ([] : Str), .slice none 0 0] fun g20 W20 l20 b20 => ?_)
   have a21 := l20.o
   refine Gi rfl (sta b20 (oc_cons rfl (oc_cons r19.oc oc_nil)) fun W22 l22 b22 => ?_)
   have a23 := l22.s
   refine nl (sr (mv v1_ rfl (mi rfl ?_)))
   obtain ⟨u24, e25, hm⟩ := ob hm
   have s26 := h1.ul ((a10.trans a21).trans a23)
   refine Lw.r rfl (R.ix (α := File) s26 e25 rfl rfl rfl) ?_
   obtain ⟨x27, c28, _, r29⟩ := (s26.at_ e25).cells
   obtain ⟨v30, rfl, r31⟩ := File.split r29
   refine Lw.r rfl (R.lda c28 rfl rfl) (al 3 [vS ([] : Str), .slice none 0 0] fun g32 W32 l32 b32 => ?_)
   have a33 := l32.o
   refine sta b32 (oc_cons rfl (oc_cons r31.oc oc_nil)) fun W35 l35 b35 => ?_
   have a36 := l35.s
   refine nl (sr (mv (.func (.func 170) #[] [].toArray) rfl (la ((b22.up l32).up l35) (la b35 ?_))))
   obtain ⟨z40, e41, hm⟩ := ob hm
   refine Lw.t rfl (T.callV (vals := [.agg [vS u12.Path, v18].toArray, .agg [vS u24.Path, v30].toArray]) (caps := []) rfl rfl (p170  (File.rd (K := [0]) u12.Path u12.Text (r19.ul (((a21.trans a23).trans a33).trans a36))) (File.rd (K := [0]) u24.Path u24.Text (r31.ul (a33.trans a36))) e41)) ?_
   rintro _ _ ⟨W42, rfl, l42, rfl⟩
   have a43 := ((((a10.trans a21).trans a23).trans a33).trans a36).n l42
   refine Lw.r rfl (R.not rfl) (nl (cn hm (fun hm => ?_) fun hm => ?_))
   ·exact sr (Nb rfl (.ret (rt hm a43)))
   ·exact sk (rg (Lw.add rfl (mi rfl (nl ((agm) ⟨y2, w64 (y6 + 1), vI y6, ptr (bx g20), ptr (bx g32), W42, rfl, (((((l7.j l20).j l22).j l32).j l35).j l42).w, rfl, hm⟩)))))
  ·refine Cw.exit ?_
   rw [hK8] at hm
   exact sr (Nb rfl (.ret (rt hm a10)))

theorem p169_170 {x0 v0_ x1 v1_ r} (h0 : Rd W K [v0_] x0) (h1 : Rd W K [v1_] x1) (hm : Vm.slices_EqualFunc_impl_File_impl_File_impl_File_impl_File_at_impl_sameTree_c1 x0 x1 = some r) : Q1 169 [v0_, v1_, .func (.func 170) #[] [].toArray] W [] fun W' v => v = vB r :=
 (c169_170 (h0.view _) (h1.view _) hm).ad (fk 0) fun _ _ e => e

theorem c150 {x0 v0_ x1 v1_ r} (h0 : Rd W0 [0] [v0_] x0) (h1 : Rd W0 [0] [v1_] x1) (hm : Vm.impl_sameTree x0 x1 = some r) : Q0 150 [v0_, v1_] W0 fun Wf v => v = vB r := by
 unfold Vm.impl_sameTree at hm
 refine CallR.of Tryz.func150 rfl rfl rfl rfl (sr (Nb rfl (sr (mv v0_ rfl (mv v1_ rfl (ca hm (fun _ => p169_170 h0 h1) fun z1 W3 hm l3 => ?_))))))
 have a4 := l3.o
 exact Nb rfl (.ret (rt hm a4))

theorem p150 {x0 v0_ x1 v1_ r} (h0 : Rd W K [v0_] x0) (h1 : Rd W K [v1_] x1) (hm : Vm.impl_sameTree x0 x1 = some r) : Q1 150 [v0_, v1_] W [] fun W' v => v = vB r :=
 (c150 (h0.view _) (h1.view _) hm).ad (fk 0) fun _ _ e => e

theorem c105 {x0 v0_0_ v0_1_ x1 x2 r} (h0 : Rd W0 [0] [v0_0_, v0_1_] x0) (hm : Vm.impl_Repo_changes x0 x1 x2 = some r) : Q0 105 [.agg [v0_0_, v0_1_].toArray, vI x1, vS x2] W0 fun Wf v => v = vB r := by
 unfold Vm.impl_Repo_changes at hm
 obtain ⟨w0_0, w0_1, he0, h0_0, h0_1⟩ := Repo.split h0
 simp only [List.cons.injEq, and_true, true_and] at he0
 obtain ⟨rfl, rfl⟩ := he0
 refine CallR.of Tryz.func105 rfl rfl rfl rfl (sr (bo 2 rfl fun g1 W1 l1 b1 => ?_))
 have a2 := l1.o
 refine Nb rfl (sr (la b1 (mi rfl (cr hm (fun _ => p115 (Repo.rd (K := [0]) x0.Commits x0.Heads (h0_0.ul a2) (h0_1.ul a2))) ?_))))
 rintro z5 v0_7 W7 hm l7 ⟨_, rfl, f7_0⟩
 have s8 := f7_0.sub (M := [0]) rfl
 have a9 := a2.n l7
 refine ms rfl (cr hm (fun _ => p149 (k0 := 3) s8) ?_)
 rintro z11 v0_13 W13 hm l13 ⟨_, rfl, f13_0⟩
 have o14 : Ow (α := List (Sh Vm.File)) W13 3 [0] [v0_13] z11 := f13_0.sub rfl
 have a15 := a9.n l13
 have b16 := (b1.up l7).up l13
 refine Nv v0_13 rfl (ssr (fl b16 rfl (mi rfl ?_)))
 obtain ⟨u17, e18, hm⟩ := ob hm
 have s19 := h0_0.ul a15
 refine Lw.r rfl (R.ix (α := Commit) s19 e18 rfl rfl rfl) (Lw.fa rfl ?_)
 obtain ⟨v20, c21, r22⟩ := (Commit.at0 (s19.at_ e18)).cell rfl
 refine Lw.r rfl (R.ld rfl rfl c21) (Lw.ln u17.Parents r22 rfl (Lw.eq rfl (nl (cn hm (fun hm => ?_) fun hm => ?_))))
 ·refine sr ?_
  have s24 : Rd (α := List Vm.File) W13 [3, 0] [v0_13] z11 := Ow.rdSh o14
  exact mv v0_13 rfl (Lw.ln z11 s24 rfl (Lw.gt rfl (Nb rfl (.ret (rt hm a15)))))
 ·refine sk (ssr (fl b16 rfl (mi rfl ?_)))
  obtain ⟨u25, e26, hm⟩ := ob hm
  refine Lw.r rfl (R.ix (α := Commit) s19 e26 rfl rfl rfl) (Lw.fa rfl ?_)
  obtain ⟨v27, c28, r29⟩ := (Commit.at0 (s19.at_ e26)).cell rfl
  refine Lw.r rfl (R.ld rfl rfl c28) (Lw.ln u25.Parents r29 rfl (mi rfl (nl (Cw.block ?_))))
  obtain ⟨K34, hK34, hm⟩ := jn_e hm
  refine Cw.loop 33 44 [6, 9, 33] (fun m l w => ∃ y30 y32 j31 W33, CW.w W33 = w ∧ Le [] W13 W33 ∧ l = [vB y30, j31, vI y32] ∧ Vm.impl_Repo_changes_l1 x0 x2 z11 u25 K34 m y30 y32 = some r) _ ⟨false, 0, undef, W13, rfl, Le.refl _ _, rfl, hm⟩ ?_
  rintro (_ | m35) _ _ σ ⟨y30, y32, j31, W33, rfl, l33, rfl, hm⟩
  ·cases hm
  unfold Vm.impl_Repo_changes_l1 at hm
  have a36 := l33.o
  refine sr (Lw.lt rfl (nl (Cw.seq (cn hm (fun hm => ?_) fun hm => ?_))))
  ·refine sk (Cw.seq (Cw.block (sr ?_)))
   obtain ⟨u40, e41, hm⟩ := ob hm
   refine Lw.r rfl (R.ix (α := Int) (r29.ul a36) e41 rfl rfl rfl) (Lw.r rfl (R.ld rfl rfl ((r29.ul a36).at_ e41).int) (Ni rfl (sr (mv v0_13 rfl (la (b16.up l33) (mi rfl (cr hm (fun _ => p115 (Repo.rd (K := [0]) x0.Commits x0.Heads (h0_0.ul (a15.trans a36)) (h0_1.ul (a15.trans a36)))) ?_)))))))
   rintro z45 v0_47 W47 hm l47 ⟨_, rfl, f47_0⟩
   have s48 := f47_0.sub (M := [0]) rfl
   have a49 := (a15.trans a36).n l47
   refine ms rfl (cr hm (fun _ => p149 (k0 := 4) s48) ?_)
   rintro z52 v0_54 W54 hm l54 ⟨_, rfl, f54_0⟩
   have o55 : Ow (α := List (Sh Vm.File)) W54 4 [0] [v0_54] z52 := f54_0.sub rfl
   have a56 := a49.n l54
   have s59 : Rd (α := List Vm.File) W54 [3, 0] [v0_13] z11 := Ow.rdSh (((o14.up l33).up l47).up l54)
   have s60 : Rd (α := List Vm.File) W54 [4, 0] [v0_54] z52 := Ow.rdSh o55
   refine ca hm (fun _ => p150 (K := [0, 3, 4]) (s59.sub (M := [0, 3, 4]) rfl) (s60.sub (M := [0, 3, 4]) rfl)) fun z61 W63 hm l63 => ?_
   have a64 := a56.n l63
   refine nl (cn hm (fun hm => ?_) fun hm => ?_)
   ·exact sr (Nb rfl (.ret (rt hm a64)))
   ·exact sk (rg (Lw.add rfl (mi rfl (nl ((agm) ⟨y30, w64 (y32 + 1), vI u40, W63, rfl, (((l33.j l47).j l54).j l63).w, rfl, hm⟩)))))
  ·refine Cw.exit ?_
   rw [hK34] at hm
   exact sr (Nb rfl (.ret (rt hm (a15.trans a36))))

theorem p105 {x0 v0_0_ v0_1_ x1 x2 r} (h0 : Rd W K [v0_0_, v0_1_] x0) (hm : Vm.impl_Repo_changes x0 x1 x2 = some r) : Q1 105 [.agg [v0_0_, v0_1_].toArray, vI x1, vS x2] W [] fun W' v => v = vB r :=
 (c105 (h0.view _) hm).ad (fk 0) fun _ _ e => e

theorem c104 {x0 x1 g1_ v1_0_ v1_1_ x2 g2_ r} (hB1 : Bx W0 2 g1_ [v1_0_, v1_1_]) (h1_0 : Rd W0 [0] [v1_0_] x1.Commits) (h1_1 : Rd W0 [0] [v1_1_] x1.Heads) (hB2 : Bx W0 3 g2_ [vS x2]) (hm : Vm.impl_LogPath_c1 x0 x1 x2 = some r) : Q0 104 [vI x0, ptr (bx g1_), ptr (bx g2_)] W0 fun Wf v => v = vB r ∧ Bx Wf 2 g1_ [v1_0_, v1_1_] ∧ Bx Wf 3 g2_ [vS x2] := by
 unfold Vm.impl_LogPath_c1 at hm
 refine CallR.of Tryz.func104 rfl rfl rfl rfl (sr (Nb rfl (sr (Lw.r rfl (R.lda (cs := [v1_0_, v1_1_]) hB1.cells rfl rfl) (mi rfl (Lw.r rfl (R.ld (v := vS x2) rfl rfl (hB2.cell0 rfl)) (ca hm (fun _ => p105 (Repo.rd (K := [0]) x1.Commits x1.Heads h1_0 h1_1)) fun z1 W3 hm l3 => ?_)))))))
 have a4 := l3.o
 have b5 := hB1.up l3
 have b6 := hB2.up l3
 refine Nb rfl ?_
 cases hm
 exact Cw.ret (ret1 rfl (Res.mk a4 ⟨rfl, b5, b6⟩))

theorem p104 {x0 x1 g1_ v1_0_ v1_1_ x2 g2_ c0 c1 r} (hB1 : Bx W c0 g1_ [v1_0_, v1_1_]) (h1_0 : Rd W K [v1_0_] x1.Commits) (h1_1 : Rd W K [v1_1_] x1.Heads) (hB2 : Bx W c1 g2_ [vS x2]) (hJ : okJ K [c0, c1] = true) (hm : Vm.impl_LogPath_c1 x0 x1 x2 = some r) : Q1 104 [vI x0, ptr (bx g1_), ptr (bx g2_)] W [c0, c1] fun W' v => v = vB r ∧ Bx W' c0 g1_ [v1_0_, v1_1_] ∧ Bx W' c1 g2_ [vS x2] :=
 CallR.adJ (J := [c0, c1]) (fun c => bif Nat.beq c 0 then 0 else bif Nat.beq c 2 then c0 else bif Nat.beq c 3 then c1 else 0) (c104 (hB1.viewJ 0 hJ) (h1_0.view _) (h1_1.view _) (hB2.viewJ 1 hJ) hm) fun _ _ ⟨e, f0, f1⟩ => ⟨e, Bx.backJ 0 f0 rfl, Bx.backJ 1 f1 rfl⟩

theorem c148 {x0 v0_ r} (h0 : Ow W0 2 [] [v0_] x0) (hm : Vm.slices_Reverse_int_int x0 = some r) : Q0 148 [v0_] W0 fun Wf v => v = .tuple #[] ∧ Ow Wf 2 [] [v0_] r := by
 unfold Vm.slices_Reverse_int_int at hm
 refine CallR.of Tryz.func148 rfl rfl rfl rfl (sr (mv v0_ rfl (Lw.ln x0 h0.rd rfl (Lw.sub rfl (Gi rfl (Ni rfl (Cw.block ?_)))))))
 obtain ⟨K6, hK6, hm⟩ := jn_e hm
 refine Cw.loop 7 27 [2, 3] (fun m l w => ∃ y1 y2 y3 W5, CW.w W5 = w ∧ Le [2] W0 W5 ∧ l = [vI y1, vI y2] ∧ Ow W5 2 [] [v0_] y3 ∧ Vm.slices_Reverse_int_int_l1 K6 m y1 y2 y3 = some r) _ ⟨0, w64 ((x0.length : Int) - 1), x0, W0, rfl, Le.refl _ _, rfl, h0, hm⟩ ?_
 rintro (_ | m7) _ _ σ ⟨y1, y2, y3, W5, rfl, l5, rfl, o4, hm⟩
 ·cases hm
 unfold Vm.slices_Reverse_int_int_l1 at hm
 have a8 := l5.s
 refine ssr (mi rfl (mi rfl (Lw.lt rfl (nl (cn hm (fun hm => ?_) fun hm => ?_)))))
 ·refine sk (Cw.seq (Cw.block (Cw.draw [] [(0, 0), (1, 0), (2, 0), (3, 0), (4, 0), (5, 0), (6, 0), (7, 1), (8, 0), (9, 0), (10, 0), (11, 1), (12, 0), (13, 3), (14, 0), (15, 3)] mixed (by kernel_rfl) fun W10 l10 => ?_)))
  have o12 := o4.up l10
  refine Dv v0_ rfl (Di rfl (Dv v0_ rfl (Di rfl (Dv v0_ rfl (Di rfl ?_)))))
  obtain ⟨u13, e14, hm⟩ := ob hm
  refine Mw.p rfl rfl (fun _ => R.ix (α := Int) o12.rd e14 rfl rfl rfl) (Mw.q rfl rfl (fun _ c => R.ld rfl rfl (cl_cell (o12.rd.at_ e14).1 rfl (o12.rd.at_ e14).int c)) (Dv v0_ rfl (Di rfl ?_)))
  obtain ⟨u15, e16, hm⟩ := ob hm
  refine Mw.p rfl rfl (fun _ => R.ix (α := Int) o12.rd e16 rfl rfl rfl) (Mw.q rfl rfl (fun _ c => R.ld rfl rfl (cl_cell (o12.rd.at_ e16).1 rfl (o12.rd.at_ e16).int c)) ?_)
  obtain ⟨u17, e18, hm⟩ := ob hm
  refine Mw.p rfl rfl (fun _ => R.ix (α := Int) o12.rd e18 rfl rfl rfl) ?_
  obtain ⟨q20, e21, hm⟩ := ob hm
  refine Mw.lu rfl (T.stS (K' := []) o12 (rdI _) e21 rfl rfl rfl) ?_
  rintro _ _ ⟨W19, rfl, l19, o19⟩
  obtain ⟨u23, e24, hm⟩ := ob hm
  refine Mw.p rfl rfl (fun _ => R.ix (α := Int) o12.rd e24 rfl rfl rfl) ?_
  obtain ⟨q26, e27, hm⟩ := ob hm
  refine Mw.lu rfl (T.stS (K' := []) o19 (rdI _) e27 rfl rfl rfl) ?_
  rintro _ _ ⟨W25, rfl, l25, o25⟩
  exact Mw.nil (rg (mi rfl (Lw.add rfl (mi rfl (Lw.sub rfl (Gi rfl (Ni rfl ((agm) ⟨w64 (y1 + 1), w64 (y2 - 1), q26, W25, rfl, (((l5.j l10).j l19).j l25).w, rfl, o25, hm⟩))))))))
 ·refine Cw.exit ?_
  rw [hK6] at hm
  cases hm
  show RetP _ _ _ .ret _ _
  exact ret0 (Res.mk a8 ⟨rfl, o4⟩)

theorem p148 {x0 v0_ c0 r} (h0 : Ow W c0 [] [v0_] x0) (hJ : okJ K [c0] = true) (hm : Vm.slices_Reverse_int_int x0 = some r) : Q1 148 [v0_] W [c0] fun W' v => v = .tuple #[] ∧ Ow W' c0 [] [v0_] r :=
 CallR.adJ (J := [c0]) (fun c => bif Nat.beq c 0 then 0 else bif Nat.beq c 2 then c0 else 0) (c148 (h0.viewJ 0 hJ) hm) fun _ _ ⟨e, f0⟩ => ⟨e, Ow.backJ 0 f0 rfl⟩

theorem c103_104 {x0 v0_0_ v0_1_ x1 x3 g3_ v3_0_ v3_1_ x4 g4_ r} (h0 : Rd W0 [0] [v0_0_, v0_1_] x0) (hB3 : Bx W0 2 g3_ [v3_0_, v3_1_]) (h3_0 : Rd W0 [0] [v3_0_] x3.Commits) (h3_1 : Rd W0 [0] [v3_1_] x3.Heads) (hB4 : Bx W0 3 g4_ [vS x4]) (h99 : Gl 0 W0 [0]) (hm : Vm.impl_Repo_log_at_impl_LogPath_c1 x0 x1 x3 x4 = some r) : Q0 103 [.agg [v0_0_, v0_1_].toArray, vI x1, .func (.func 104) #[] [ptr (bx g3_), ptr (bx g4_)].toArray] W0 fun Wf v => ∃ u0, v = u0 ∧ OwS Wf [31] [] [u0] r ∧ Bx Wf 2 g3_ [v3_0_, v3_1_] ∧ Bx Wf 3 g4_ [vS x4] := by
 unfold Vm.impl_Repo_log_at_impl_LogPath_c1 at hm
 obtain ⟨w0_0, w0_1, he0, h0_0, h0_1⟩ := Repo.split h0
 simp only [List.cons.injEq, and_true, true_and] at he0
 obtain ⟨rfl, rfl⟩ := he0
 refine CallR.of Tryz.func103 rfl rfl rfl rfl (sr (bo 4 rfl fun g1 W1 l1 b1 => ?_))
 have a2 := l1.o
 have b3 := hB3.up l1
 have b4 := hB4.up l1
 refine Nv (.slice none 0 0) rfl (ssr (la b1 (mi rfl (Lw.t rfl (T.bsS (α := Int) (xs := [x1]) 5 [] (W := W1) [vI x1] (Each.cons ((rdI _)) Each.nil) rfl) ?_))))
 rintro v5 _ ⟨W5, rfl, l5, o5⟩
 have a6 := a2.n l5
 refine ca hm (fun _ => p87 (K := [0, 5]) ((Repo.rd (K := [0]) x0.Commits x0.Heads (h0_0.ul a6) (h0_1.ul a6)).sub (M := [0, 5]) rfl) (o5.rd.sub (M := [0, 5]) rfl) ((h99.ul a6).sub (M := [0, 5]) rfl)) fun z13 W15 hm l15 => ?_
 have a16 := a6.n l15
 have b18 := (b3.up l5).up l15
 have b19 := (b4.up l5).up l15
 refine Lw.r rfl (R.not rfl) (nl (cn hm (fun hm => ?_) fun hm => ?_))
 ·refine sr (Nv (.slice none 0 0) rfl ?_)
  cases hm
  exact Cw.ret (ret1 rfl (Res.mk a16 ⟨.slice none 0 0, rfl, (owsN []).sub rfl rfl, b18, b19⟩))
 ·refine sk (sr (Nv (.slice none 0 0) rfl (ssr (la ((b1.up l5).up l15) (mi rfl (cr hm (fun _ => p109 (k0 := 6) (Repo.rd (K := [0]) x0.Commits x0.Heads (h0_0.ul a16) (h0_1.ul a16))) ?_))))))
  rintro z24 v0_26 W26 hm l26 ⟨_, rfl, f26_0⟩
  have a27 := a16.n l26
  refine cr hm (fun _ => p108 (K := [6]) (k0 := 7) f26_0.rd) ?_
  rintro z32 v0_34 W34 hm l34 ⟨_, rfl, f34_0⟩
  have a35 := a27.n l34
  refine Lw.ln z32 f34_0.rd rfl (mi rfl (nl (Cw.block ?_)))
  obtain ⟨K49, hK49, hm⟩ := jn_e hm
  refine Cw.loop 20 31 [7, 9, 20] (fun m l w => ∃ y41 y45 v42 j44 W48, CW.w W48 = w ∧ Le [2, 3, 8] W34 W48 ∧ l = [v42, j44, vI y45] ∧ Ow W48 8 [] [v42] y41 ∧ Bx W48 2 g3_ [v3_0_, v3_1_] ∧ Bx W48 3 g4_ [vS x4] ∧ Vm.impl_Repo_log_at_impl_LogPath_c1_l1 x3 x4 z32 K49 m y41 y45 = some r) _ ⟨([] : List Int), 0, .slice none 0 0, undef, W34, rfl, Le.refl _ _, rfl, owN 8 [], ((b18.up l26).up l34), ((b19.up l26).up l34), hm⟩ ?_
  rintro (_ | m50) _ _ σ ⟨y41, y45, v42, j44, W48, rfl, l48, rfl, o43, b46, b47, hm⟩
  ·cases hm
  unfold Vm.impl_Repo_log_at_impl_LogPath_c1_l1 at hm
  have a51 := a35.t l48
  refine sr (Lw.lt rfl (nl (Cw.seq (cn hm (fun hm => ?_) fun hm => ?_))))
  ·refine sk ?_
   obtain ⟨K64, hK64, hm⟩ := jn_e hm
   refine Cw.join 22 30 [7, 9] (fun l w => ∃ y57 v58 j60 W63, CW.w W63 = w ∧ Le [2, 3, 8] W48 W63 ∧ l = [v58, j60] ∧ Ow W63 8 [] [v58] y57 ∧ Bx W63 2 g3_ [v3_0_, v3_1_] ∧ Bx W63 3 g4_ [vS x4] ∧ K64 y57 = some r) ?_ ?_
   ·rintro _ _ σ ⟨y57, v58, j60, W63, rfl, l63, rfl, o59, b61, b62, hm⟩
    rw [hK64] at hm
    exact rg (Lw.add rfl (mi rfl (nl ((agm) ⟨y57, w64 (y45 + 1), v58, j60, W63, rfl, (l48.j l63).w, rfl, o59, b61, b62, hm⟩))))
   ·refine Cw.block (sr ?_)
    obtain ⟨u70, e71, hm⟩ := ob hm
    refine Lw.r rfl (R.ix (α := Int) (f34_0.up l48).rd e71 rfl rfl rfl) (Lw.r rfl (R.ld rfl rfl ((f34_0.up l48).rd.at_ e71).int) (Ni rfl (sr (mv (.func (.func 104) #[] [ptr (bx g3_), ptr (bx g4_)].toArray) rfl (mi rfl ?_)))))
    obtain ⟨z74, e75, hm⟩ := ob hm
    refine Lw.t rfl (T.callV (vals := [vI u70]) (caps := [ptr (bx g3_), ptr (bx g4_)]) rfl rfl (p104  (c0 := 2) (c1 := 3) (x1 := (Vm.Repo.mk x3.Commits x3.Heads)) (x2 := x4) b46 (h3_0.ul a51) (h3_1.ul a51) b47 rfl e75)) ?_
    rintro _ _ ⟨W76, rfl, l76, ⟨rfl, f76_0, f76_1⟩⟩
    refine nl (cn hm (fun hm => ?_) fun hm => ?_)
    ·refine rg (mv v42 rfl (mi rfl (Lw.t rfl (T.bs 9 [vI u70] (cs := [vI u70]) rfl rfl (bsv rfl)) ?_)))
     rintro _ _ ⟨g84, W84, rfl, rfl, l84, b84⟩
     obtain ⟨q93, e94, hm⟩ := ob hm
     refine Lw.t rfl (T.app1S (α := Int) (K' := []) ((o43.up l76).up l84) b84 (rdI _) rfl rfl e94) ?_
     rintro v95 _ ⟨W95, rfl, l95, o95⟩
     exact Nv v95 rfl ((ag) ⟨q93, v95, vI u70, W95, rfl, ((l76.j l84).j l95).w, rfl, o95, ((f76_0.up l84).up l95), ((f76_1.up l84).up l95), hm⟩)
    ·exact sk ((ag) ⟨y41, v42, vI u70, W76, rfl, l76.w, rfl, (o43.up l76), f76_0, f76_1, hm⟩)
  ·refine Cw.exit ?_
   rw [hK49] at hm
   refine sr (mv v42 rfl (cr hm (fun _ => p148 (K := [0]) (c0 := 8) o43 rfl) ?_))
   rintro z104 _ W106 hm l106 ⟨rfl, f106_0⟩
   have a107 := a51.t l106
   refine nl (sr (mv v42 rfl (Nv v42 rfl ?_)))
   obtain ⟨W114, ew114, l114, o114⟩ := f106_0.dyeO 31
   have a115 := a107.t l114
   cases hm
   rw [← ew114]
   exact Cw.ret (ret1 rfl (Res.mk a115 ⟨v42, rfl, o114.s, ((b46.up l106).up l114), ((b47.up l106).up l114)⟩))

theorem p103_104 {x0 v0_0_ v0_1_ x1 x3 g3_ v3_0_ v3_1_ x4 g4_ k0 c0 c1 r} (h0 : Rd W K [v0_0_, v0_1_] x0) (hB3 : Bx W c0 g3_ [v3_0_, v3_1_]) (h3_0 : Rd W K [v3_0_] x3.Commits) (h3_1 : Rd W K [v3_1_] x3.Heads) (hB4 : Bx W c1 g4_ [vS x4]) (h99 : Gl 0 W K) (hJ : okJ K [c0, c1] = true) (hm : Vm.impl_Repo_log_at_impl_LogPath_c1 x0 x1 x3 x4 = some r) : Q1 103 [.agg [v0_0_, v0_1_].toArray, vI x1, .func (.func 104) #[] [ptr (bx g3_), ptr (bx g4_)].toArray] W [c0, c1] fun W' v => ∃ u0, v = u0 ∧ Ow W' k0 [] [u0] r ∧ Bx W' c0 g3_ [v3_0_, v3_1_] ∧ Bx W' c1 g4_ [vS x4] :=
 CallR.adJ (J := [c0, c1]) (fun c => bif Nat.beq c 0 then 0 else bif Nat.beq c 2 then c0 else bif Nat.beq c 3 then c1 else bif Nat.beq c 31 then k0 else 0) (c103_104 (h0.view _) (hB3.viewJ 0 hJ) (h3_0.view _) (h3_1.view _) (hB4.viewJ 1 hJ) (h99.view _) hm) fun _ _ ⟨u0, e, f0, f1, f2⟩ => ⟨u0, e, f0.one1.backN rfl, Bx.backJ 0 f1 rfl, Bx.backJ 1 f2 rfl⟩

theorem c38 {x0 v0_0_ v0_1_ x1 x2 r} (h0 : Rd W0 [0] [v0_0_, v0_1_] x0) (h99 : Gl 0 W0 [0]) (hm : Vm.impl_LogPath x0 x1 x2 = some r) : Q0 38 [.agg [v0_0_, v0_1_].toArray, vI x1, vS x2] W0 fun Wf v => ∃ u0, v = u0 ∧ OwS Wf LL [] [u0] r := by
 unfold Vm.impl_LogPath at hm
 obtain ⟨w0_0, w0_1, he0, h0_0, h0_1⟩ := Repo.split h0
 simp only [List.cons.injEq, and_true, true_and] at he0
 obtain ⟨rfl, rfl⟩ := he0
 refine CallR.of Tryz.func38 rfl rfl rfl rfl (sr (bo 2 rfl fun g1 W1 l1 b1 => ?_))
 have a2 := l1.o
 refine Lw.t rfl (T.box 3 (v := vS x2) (cs := [vS x2]) rfl rfl) ?_
 rintro _ _ ⟨g3, W3, rfl, rfl, l3, b3⟩
 have a4 := a2.n l3
 refine Nv (.slice none 0 0) rfl (sr (la (b1.up l3) (mi rfl (Lw.r rfl (R.mkF (vs := [ptr (bx g1), ptr (bx g3)]) rfl) (cr hm (fun _ => p103_104 (k0 := 4) (c0 := 2) (c1 := 3) (x3 := x0) (x4 := x2) (Repo.rd (K := [0]) x0.Commits x0.Heads (h0_0.ul a4) (h0_1.ul a4)) (b1.up l3) (h0_0.ul a4) (h0_1.ul a4) b3 (h99.ul a4) rfl) ?_)))))
 rintro z9 v0_11 W11 hm l11 ⟨_, rfl, f11_0, f11_1, f11_2⟩
 have a12 := a4.t l11
 refine Nv v0_11 rfl ?_
 cases hm
 exact Cw.ret (ret1 rfl (Res.mk a12 ⟨v0_11, rfl, f11_0.s.sub rfl rfl⟩))

theorem p38 {x0 v0_0_ v0_1_ x1 x2 k0 r} (h0 : Rd W K [v0_0_, v0_1_] x0) (h99 : Gl 0 W K) (hm : Vm.impl_LogPath x0 x1 x2 = some r) : Q1 38 [.agg [v0_0_, v0_1_].toArray, vI x1, vS x2] W [] fun W' v => ∃ u0, v = u0 ∧ Ow W' k0 [] [u0] r :=
 (c38 (h0.view _) (h99.view _) hm).ad (fk k0) fun _ _ ⟨u0, e, f0⟩ => ⟨u0, e, f0.back (fk_LL _)⟩

theorem c151 {x0 v0_ x1 r} (h0 : Rd W0 [0] [v0_] x0) (hm : Vm.spec_l12Under x0 x1 = some r) : Q0 151 [v0_, vS x1] W0 fun Wf v => ∃ u0, v = u0 ∧ OwS (α := List (Sh Vm.File)) Wf LL [0] [u0] r := by
 unfold Vm.spec_l12Under at hm
 refine CallR.of Tryz.func151 rfl rfl rfl rfl (sr (Nv (.slice none 0 0) rfl (sr (Lw.t rfl (T.lit0 (α := File) 2 []) ?_))))
 rintro v1 _ ⟨W1, rfl, l1, o1⟩
 have a2 := l1.o
 refine Nv v1 rfl (ssr (Ni rfl (Cw.block ?_)))
 obtain ⟨K8, hK8, hm⟩ := jn_e hm
 obtain ⟨W9, ew9, l9, o9⟩ := o1.toSh
 have a10 := a2.t l9
 rw [← ew9]
 refine Cw.loop 8 36 [5, 6] (fun m l w => ∃ (y3 : List Vm.File) (y6 : Int) (v4 : Value) (W7 : CW), W7.w = w ∧ Le [2] W9 W7 ∧ l = [v4, vI y6] ∧ Ow (α := List (Sh Vm.File)) W7 2 [0] [v4] y3 ∧ Vm.spec_l12Under_l1 x0 x1 K8 m y3 y6 = some r) _ ⟨([] : List File), 0, v1, W9, rfl, Le.refl _ _, rfl, o9, hm⟩ ?_
 rintro (_ | m11) _ _ σ ⟨y3, y6, v4, W7, rfl, l7, rfl, o5, hm⟩
 ·cases hm
 unfold Vm.spec_l12Under_l1 at hm
 have a12 := a10.t l7
 refine ssr ?_
 have s13 := h0.ul a12
 refine mi rfl (mv v0_ rfl (Lw.ln x0 s13 rfl (Lw.lt rfl (nl (cn hm (fun hm => ?_) fun hm => ?_)))))
 ·refine sk ?_
  obtain ⟨K19, hK19, hm⟩ := jn_e hm
  refine Cw.join 14 36 [5] (fun l w => ∃ (y15 : List Vm.File) (v16 : Value) (W18 : CW), W18.w = w ∧ Le [2] W7 W18 ∧ l = [v16] ∧ Ow (α := List (Sh Vm.File)) W18 2 [0] [v16] y15 ∧ K19 y15 = some r) ?_ ?_
  ·rintro _ _ σ ⟨y15, v16, W18, rfl, l18, rfl, o17, hm⟩
   rw [hK19] at hm
   exact rg (mi rfl (Lw.add rfl (Ni rfl ((agm) ⟨y15, w64 (y6 + 1), v16, W18, rfl, (l7.j l18).w, rfl, o17, hm⟩))))
  ·refine Cw.block ?_
   obtain ⟨K23, hK23, hm⟩ := jn_e hm
   refine Cw.join 14 29 [29] (fun l w => ∃ y21 W22, CW.w W22 = w ∧ Le [] W7 W22 ∧ l = [vB y21] ∧ K23 y21 = some r) ?_ ?_
   ·rintro _ _ σ ⟨y21, W22, rfl, l22, rfl, hm⟩
    rw [hK23] at hm
    have a24 := a12.n l22
    refine cn hm (fun hm => ?_) fun hm => ?_
    ·refine rg (mv v4 rfl (mv v0_ rfl (mi rfl ?_)))
     obtain ⟨u27, e28, hm⟩ := ob hm
     refine Lw.r rfl (R.ix (α := File) (h0.ul a24) e28 rfl rfl rfl) ?_
     obtain ⟨x30, c31, _, r32⟩ := ((h0.ul a24).at_ e28).cells
     obtain ⟨v33, rfl, r34⟩ := File.split r32
     refine Lw.r rfl (R.lda c31 rfl rfl) (Lw.t rfl (T.bs 3 [.agg [vS u27.Path, v33].toArray] (cs := [vS u27.Path, v33]) rfl rfl (bsA rfl)) ?_)
     rintro _ _ ⟨g35, W35, rfl, rfl, l35, b35⟩
     have a36 := l35.o
     obtain ⟨q39, e40, hm⟩ := ob hm
     refine Lw.t rfl (T.app1S (α := Sh Vm.File) (K' := [0]) ((o5.up l22).up l35) b35 (File.rd (K := [0]) u27.Path u27.Text (r34.ul a36)).sh1 rfl rfl e40) ?_
     rintro v41 _ ⟨W41, rfl, l41, o41⟩
     exact Nv v41 rfl ((ag) ⟨q39, v41, W41, rfl, ((l22.j l35).j l41).w, rfl, o41, hm⟩)
    ·exact sk ((ag) ⟨y3, v4, W22, rfl, l22.w, rfl, (o5.up l22), hm⟩)
   ·refine rg (mv v0_ rfl (mi rfl ?_))
    obtain ⟨u44, e45, hm⟩ := ob hm
    refine Lw.r rfl (R.ix (α := File) s13 e45 rfl rfl rfl) (Lw.fa rfl (Lw.r rfl (R.ld rfl rfl (File.at0 (s13.at_ e45)).str) (ms rfl (Lw.seq rfl (mb rfl (bs hm (fun hc46 hm => ?_) fun hc46 hm => ?_))))))
    ·exact psk 7 hc46 rfl (Pb hc46 rfl (nl ((ag) ⟨true, W7, rfl, Le.refl _ _, rfl, hm⟩)))
    ·refine wak 7 hc46 (ms rfl (mv v0_ rfl (mi rfl ?_)))
     obtain ⟨u47, e48, hm⟩ := ob hm
     exact Lw.r rfl (R.ix (α := File) s13 e48 rfl rfl rfl) (Lw.fa rfl (Lw.r rfl (R.ld rfl rfl (File.at0 (s13.at_ e48)).str) (ca hm (fun _ => p165) fun z49 W51 hm l51 => Pb hc46 rfl (nl ((ag) ⟨z49, W51, rfl, l51, rfl, hm⟩)))))
 ·refine Cw.exit ?_
  rw [hK8] at hm
  refine sr (mv v4 rfl (Nv v4 rfl ?_))
  cases hm
  exact Cw.ret (ret1 rfl (Res.mk a12 ⟨v4, rfl, o5.s.sub rfl rfl⟩))

theorem p151 {x0 v0_ x1 k0 r} (h0 : Rd W K [v0_] x0) (hm : Vm.spec_l12Under x0 x1 = some r) : Q1 151 [v0_, vS x1] W [] fun W' v => ∃ u0, v = u0 ∧ Ow (α := List (Sh Vm.File)) W' k0 (0 :: K) [u0] r :=
 (c151 (h0.view _) hm).ad (fk k0) fun _ _ ⟨u0, e, f0⟩ => ⟨u0, e, f0.backS (fk_LL _) rfl⟩

theorem c152 {x0 v0_ x1 v1_ r} (h0 : Rd W0 [0] [v0_] x0) (h1 : Rd W0 [0] [v1_] x1) (hm : Vm.spec_l12Same x0 x1 = some r) : Q0 152 [v0_, v1_] W0 fun Wf v => v = vB r := by
 unfold Vm.spec_l12Same at hm
 refine CallR.of Tryz.func152 rfl rfl rfl rfl (sr (Nb rfl (ssr (mv v0_ rfl (Lw.ln x0 h0 rfl (mv v1_ rfl (Lw.ln x1 h1 rfl (Lw.ne rfl (nl (cn hm (fun hm => ?_) fun hm => ?_))))))))))
 ·exact sr (Nb rfl (.ret (rt hm (Le.refl _ _))))
 ·refine sk (ssr (Ni rfl (Cw.block ?_)))
  obtain ⟨K5, hK5, hm⟩ := jn_e hm
  refine Cw.loop 11 41 [4, 5] (fun m l w => ∃ y2 y3 W4, CW.w W4 = w ∧ Le [] W0 W4 ∧ l = [vB y2, vI y3] ∧ Vm.spec_l12Same_l1 x0 x1 K5 m y2 y3 = some r) _ ⟨false, 0, W0, rfl, Le.refl _ _, rfl, hm⟩ ?_
  rintro (_ | m6) _ _ σ ⟨y2, y3, W4, rfl, l4, rfl, hm⟩
  ·cases hm
  unfold Vm.spec_l12Same_l1 at hm
  have a7 := l4.o
  refine ssr (mi rfl (mv v0_ rfl (Lw.ln x0 (h0.ul a7) rfl (Lw.lt rfl (nl (cn hm (fun hm => ?_) fun hm => ?_))))))
  ·refine sk (Cw.seq (Cw.block ?_))
   obtain ⟨K12, hK12, hm⟩ := jn_e hm
   refine Cw.join 17 41 [41] (fun l w => ∃ y10 W11, CW.w W11 = w ∧ Le [] W4 W11 ∧ l = [vB y10] ∧ K12 y10 = some r) ?_ ?_
   ·rintro _ _ σ ⟨y10, W11, rfl, l11, rfl, hm⟩
    rw [hK12] at hm
    have a13 := a7.n l11
    refine cn hm (fun hm => ?_) fun hm => ?_
    ·exact sr (Nb rfl (.ret (rt hm a13)))
    ·exact sk (rg (mi rfl (Lw.add rfl (Ni rfl ((agm) ⟨y2, w64 (y3 + 1), W11, rfl, (l4.j l11).w, rfl, hm⟩)))))
   ·refine Cw.draw [] [(0, 0), (1, 0), (2, 0), (3, 0), (4, 1), (5, 0), (6, 0), (7, 0), (8, 0), (9, 1), (10, 0), (11, 0), (12, 0), (13, 0), (14, 0), (15, 0), (16, 1), (17, 0), (18, 0), (19, 0), (20, 0), (21, 1), (22, 2), (23, 0), (24, 0)] mixed (by kernel_rfl) fun W15 l15 => ?_
    have a16 := a7.n l15
    refine Dv v0_ rfl (Di rfl ?_)
    obtain ⟨u17, e18, hm⟩ := ob hm
    have s19 := h0.ul a16
    refine Mw.p rfl rfl (fun _ => R.ix (α := File) s19 e18 rfl rfl rfl) (Df rfl (Mw.q rfl rfl (fun _ c => R.ld rfl rfl (cl_cell (File.at0 (s19.at_ e18)).1 rfl (File.at0 (s19.at_ e18)).str c)) (Dv v1_ rfl (Di rfl ?_))))
    obtain ⟨u20, e21, hm⟩ := ob hm
    have s22 := h1.ul a16
    refine Mw.p rfl rfl (fun _ => R.ix (α := File) s22 e21 rfl rfl rfl) (Df rfl (Mw.q rfl rfl (fun _ c => R.ld rfl rfl (cl_cell (File.at0 (s22.at_ e21)).1 rfl (File.at0 (s22.at_ e21)).str c)) (Mw.p rfl rfl (fun _ => R.sne rfl rfl) (Db rfl (bs hm (fun hc23 hm => ?_) fun hc23 hm => ?_)))))
    ·exact dps 12 hc23 rfl (Mw.p rfl rfl (fun _ => R.pk hc23 rfl (v := vB true) rfl) (Mw.nil ((ag) ⟨true, W15, rfl, l15, rfl, hm⟩)))
    ·refine Wp hc23 rfl (fun _ => R.mv (v := v0_) rfl) (Wp hc23 rfl (fun _ => R.mv (v := vI y3) rfl) ?_)
     obtain ⟨u24, e25, hm⟩ := ob hm
     refine Wp hc23 rfl (fun _ => R.ix (α := File) s19 e25 rfl rfl rfl) (Wp hc23 rfl (fun _ => R.fa rfl) ?_)
     obtain ⟨v26, c27, r28⟩ := (File.at1 (s19.at_ e25)).cell rfl
     refine Wq hc23 rfl (fun _ c => R.ld rfl rfl (cl_cell (File.at1 (s19.at_ e25)).1 rfl c27 c)) (Wp hc23 rfl (fun _ => R.mv (v := v1_) rfl) (Wp hc23 rfl (fun _ => R.mv (v := vI y3) rfl) ?_))
     obtain ⟨u29, e30, hm⟩ := ob hm
     refine Wp hc23 rfl (fun _ => R.ix (α := File) s22 e30 rfl rfl rfl) (Wp hc23 rfl (fun _ => R.fa rfl) ?_)
     obtain ⟨v31, c32, r33⟩ := (File.at1 (s22.at_ e30)).cell rfl
     refine Wq hc23 rfl (fun _ c => R.ld rfl rfl (cl_cell (File.at1 (s22.at_ e30)).1 rfl c32 c)) ?_
     obtain ⟨z34, e35, hm⟩ := ob hm
     refine Wt hc23 rfl (T.call rfl (p98  r28 r33 e35)) ?_
     rintro _ _ ⟨W36, rfl, l36, rfl⟩
     exact m0 l36 fun d36 => Wp hc23 rfl (fun _ => R.not rfl) (Mw.p rfl rfl (fun _ => R.pk hc23 rfl (v := vB (!z34)) rfl) (Mw.nil ((ag) ⟨(!z34), W36, rfl, (l15.j l36).w, rfl, hm⟩)))
  ·refine Cw.exit ?_
   rw [hK5] at hm
   exact sr (Nb rfl (.ret (rt hm a7)))

theorem p152 {x0 v0_ x1 v1_ r} (h0 : Rd W K [v0_] x0) (h1 : Rd W K [v1_] x1) (hm : Vm.spec_l12Same x0 x1 = some r) : Q1 152 [v0_, v1_] W [] fun W' v => v = vB r :=
 (c152 (h0.view _) (h1.view _) hm).ad (fk 0) fun _ _ e => e

theorem c107 {x0 v0_0_ v0_1_ x1 x2 r} (h0 : Rd W0 [0] [v0_0_, v0_1_] x0) (hm : Vm.spec_l12Touch x0 x1 x2 = some r) : Q0 107 [.agg [v0_0_, v0_1_].toArray, vI x1, vS x2] W0 fun Wf v => v = vB r := by
 unfold Vm.spec_l12Touch at hm
 obtain ⟨w0_0, w0_1, he0, h0_0, h0_1⟩ := Repo.split h0
 simp only [List.cons.injEq, and_true, true_and] at he0
 obtain ⟨rfl, rfl⟩ := he0
 refine CallR.of Tryz.func107 rfl rfl rfl rfl (sr (bo 2 rfl fun g1 W1 l1 b1 => ?_))
 have a2 := l1.o
 refine Nb rfl (sr (fl b1 rfl (mi rfl ?_)))
 obtain ⟨u3, e4, hm⟩ := ob hm
 refine Lw.r rfl (R.ix (α := Commit) (h0_0.ul a2) e4 rfl rfl rfl) ?_
 obtain ⟨x6, c7, _, r8⟩ := ((h0_0.ul a2).at_ e4).cells
 obtain ⟨v9, v11, rfl, r10, r12⟩ := Commit.split r8
 refine Lw.r rfl (R.lda c7 rfl rfl) (al 3 [.slice none 0 0, vS ([] : Str), .slice none 0 0] fun g13 W13 l13 b13 => ?_)
 have a14 := l13.o
 refine sta b13 (oc_cons r10.oc (oc_cons rfl (oc_cons r12.oc oc_nil))) fun W16 l16 b16 => ?_
 have a17 := l16.s
 refine nl (sr (fl b16 rfl (ms rfl (cr hm (fun _ => p151 (k0 := 4) (r12.ul (a14.trans a17))) ?_))))
 rintro z20 v0_22 W22 hm l22 ⟨_, rfl, f22_0⟩
 have o23 : Ow (α := List (Sh Vm.File)) W22 4 [0] [v0_22] z20 := f22_0.sub rfl
 have a24 := l22.o
 refine Nv v0_22 rfl (ssr (fl (b16.up l22) rfl (Lw.ln u3.Parents (r10.ul ((a14.trans a17).trans a24)) rfl (Lw.eq rfl (nl (cn hm (fun hm => ?_) fun hm => ?_))))))
 ·refine sr ?_
  have s29 : Rd (α := List Vm.File) W22 [4, 0] [v0_22] z20 := Ow.rdSh o23
  exact mv v0_22 rfl (Lw.ln z20 s29 rfl (Lw.gt rfl (Nb rfl (.ret (rt hm (((a2.trans a14).trans a17).trans a24))))))
 ·refine sk (ssr (Ni rfl (Cw.block ?_)))
  obtain ⟨K33, hK33, hm⟩ := jn_e hm
  refine Cw.loop 26 46 [6, 9] (fun m l w => ∃ y30 y31 W32, CW.w W32 = w ∧ Le [] W22 W32 ∧ l = [vB y30, vI y31] ∧ Vm.spec_l12Touch_l1 x0 x2 u3 z20 K33 m y30 y31 = some r) _ ⟨false, 0, W22, rfl, Le.refl _ _, rfl, hm⟩ ?_
  rintro (_ | m34) _ _ σ ⟨y30, y31, W32, rfl, l32, rfl, hm⟩
  ·cases hm
  unfold Vm.spec_l12Touch_l1 at hm
  have a35 := l32.o
  have b38 := (b16.up l22).up l32
  refine ssr (mi rfl (fl b38 rfl (Lw.ln u3.Parents (r10.ul (((a14.trans a17).trans a24).trans a35)) rfl (Lw.lt rfl (nl (cn hm (fun hm => ?_) fun hm => ?_))))))
  ·refine sk (Cw.seq (Cw.block (Cw.seq (Cw.draw [] [(0, 0), (1, 1), (2, 0), (3, 1), (4, 0), (5, 0), (6, 1), (7, 0), (8, 0), (9, 1), (10, 0), (12, 0), (11, 2), (13, 2)] mixed (by kernel_rfl) fun W41 l41 => ?_))))
   have a42 := l41.o
   refine Dfl (((((b1.up l13).up l16).up l22).up l32).up l41) rfl rfl rfl (Dfl (b38.up l41) rfl rfl rfl (Di rfl ?_))
   obtain ⟨u46, e47, hm⟩ := ob hm
   have s48 := r10.ul ((((a14.trans a17).trans a24).trans a35).trans a42)
   refine Mw.p rfl rfl (fun _ => R.ix (α := Int) s48 e47 rfl rfl rfl) (Mw.q rfl rfl (fun _ c => R.ld rfl rfl (cl_cell (s48.at_ e47).1 rfl (s48.at_ e47).int c)) ?_)
   obtain ⟨u49, e50, hm⟩ := ob hm
   have s51 := h0_0.ul (((((a2.trans a14).trans a17).trans a24).trans a35).trans a42)
   refine Mw.p rfl rfl (fun _ => R.ix (α := Commit) s51 e50 rfl rfl rfl) (Df rfl ?_)
   obtain ⟨v52, c53, r54⟩ := (Commit.at2 (s51.at_ e50)).cell rfl
   refine Mw.q rfl rfl (fun _ c => R.ld rfl rfl (cl_cell (Commit.at2 (s51.at_ e50)).1 rfl c53 c)) (Ds rfl (Dv v0_22 rfl ?_))
   obtain ⟨z55, e56, hm⟩ := ob hm
   refine Mw.t rfl rfl (T.call rfl (p151 (k0 := 5) r54 e56)) ?_
   rintro v0_57 _ ⟨W57, rfl, l57, ⟨_, rfl, f57_0⟩⟩
   have o58 : Ow (α := List (Sh Vm.File)) W57 5 [0] [v0_57] z55 := f57_0.sub rfl
   have a59 := (((((a2.trans a14).trans a17).trans a24).trans a35).trans a42).n l57
   refine m0 l57 fun d57 => ?_
   have s63 : Rd (α := List Vm.File) W57 [5, 0] [v0_57] z55 := Ow.rdSh o58
   have s64 : Rd (α := List Vm.File) W57 [4, 0] [v0_22] z20 := Ow.rdSh (((o23.up l32).up l41).up l57)
   obtain ⟨z65, e66, hm⟩ := ob hm
   refine Mw.t rfl rfl (T.call rfl (p152 (K := [0, 4, 5])  (s63.sub (M := [0, 4, 5]) rfl) (s64.sub (M := [0, 4, 5]) rfl) e66)) ?_
   rintro _ _ ⟨W67, rfl, l67, rfl⟩
   have a68 := a59.n l67
   refine mc d57 l67 fun d67 => Mw.nil (cn hm (fun hm => ?_) fun hm => ?_)
   ·exact sr (Nb rfl (.ret (rt hm a68)))
   ·exact sk (rg (mi rfl (Lw.add rfl (Ni rfl ((agm) ⟨y30, w64 (y31 + 1), W67, rfl, (((l32.j l41).j l57).j l67).w, rfl, hm⟩)))))
  ·refine Cw.exit ?_
   rw [hK33] at hm
   exact sr (Nb rfl (.ret (rt hm ((((a2.trans a14).trans a17).trans a24).trans a35))))

theorem p107 {x0 v0_0_ v0_1_ x1 x2 r} (h0 : Rd W K [v0_0_, v0_1_] x0) (hm : Vm.spec_l12Touch x0 x1 x2 = some r) : Q1 107 [.agg [v0_0_, v0_1_].toArray, vI x1, vS x2] W [] fun W' v => v = vB r :=
 (c107 (h0.view _) hm).ad (fk 0) fun _ _ e => e

theorem c39 {x0 v0_0_ v0_1_ x1 x2 r} (h0 : Rd W0 [0] [v0_0_, v0_1_] x0) (hm : Vm.spec_LogPath x0 x1 x2 = some r) : Q0 39 [.agg [v0_0_, v0_1_].toArray, vI x1, vS x2] W0 fun Wf v => ∃ u0, v = u0 ∧ OwS Wf LL [] [u0] r := by
 unfold Vm.spec_LogPath at hm
 obtain ⟨w0_0, w0_1, he0, h0_0, h0_1⟩ := Repo.split h0
 simp only [List.cons.injEq, and_true, true_and] at he0
 obtain ⟨rfl, rfl⟩ := he0
 refine CallR.of Tryz.func39 rfl rfl rfl rfl (sr (bo 2 rfl fun g1 W1 l1 b1 => ?_))
 have a2 := l1.o
 refine Nv (.slice none 0 0) rfl (sr (Lw.t rfl (T.lit0 (α := Int) 3 []) ?_))
 rintro v3 _ ⟨W3, rfl, l3, o3⟩
 have a4 := a2.n l3
 have b5 := b1.up l3
 refine Nv v3 rfl (Cw.seq ?_)
 obtain ⟨K8, hK8, hm⟩ := jn_e hm
 refine Cw.join 11 22 [22] (fun l w => ∃ y6 W7, CW.w W7 = w ∧ Le [] W3 W7 ∧ l = [vB y6] ∧ K8 y6 = some r) ?_ ?_
 ·rintro _ _ σ ⟨y6, W7, rfl, l7, rfl, hm⟩
  rw [hK8] at hm
  have a9 := a4.n l7
  refine cn hm (fun hm => ?_) fun hm => ?_
  ·refine sr (Nv (.slice none 0 0) rfl ?_)
   cases hm
   exact Cw.ret (ret1 rfl (Res.mk a9 ⟨.slice none 0 0, rfl, (owsN []).sub rfl rfl⟩))
  ·refine sk (sr (la (b5.up l7) (mi rfl (cr hm (fun _ => p106 (k0 := 4) (Repo.rd (K := [0]) x0.Commits x0.Heads (h0_0.ul a9) (h0_1.ul a9))) ?_))))
   rintro z15 v0_17 W17 hm l17 ⟨_, rfl, f17_0⟩
   have a18 := a9.n l17
   refine Nv v0_17 rfl (ssr (mv v0_17 rfl (Lw.ln z15 f17_0.rd rfl (Lw.sub rfl (Ni rfl (Cw.block ?_))))))
   obtain ⟨K26, hK26, hm⟩ := jn_e hm
   refine Cw.loop 29 46 [7, 9] (fun m l w => ∃ y21 y24 v22 W25, CW.w W25 = w ∧ Le [3] W17 W25 ∧ l = [v22, vI y24] ∧ Ow W25 3 [] [v22] y21 ∧ Vm.spec_LogPath_l1 x0 x2 z15 K26 m y21 y24 = some r) _ ⟨([] : List Int), w64 ((z15.length : Int) - 1), v3, W17, rfl, Le.refl _ _, rfl, ((o3.up l7).up l17), hm⟩ ?_
   rintro (_ | m27) _ _ σ ⟨y21, y24, v22, W25, rfl, l25, rfl, o23, hm⟩
   ·cases hm
   unfold Vm.spec_LogPath_l1 at hm
   have a28 := a18.t l25
   refine ssr (mi rfl (Lw.ge rfl (nl (cn hm (fun hm => ?_) fun hm => ?_))))
   ·refine sk ?_
    obtain ⟨K36, hK36, hm⟩ := jn_e hm
    refine Cw.join 33 46 [7] (fun l w => ∃ y32 v33 W35, CW.w W35 = w ∧ Le [3] W25 W35 ∧ l = [v33] ∧ Ow W35 3 [] [v33] y32 ∧ K36 y32 = some r) ?_ ?_
    ·rintro _ _ σ ⟨y32, v33, W35, rfl, l35, rfl, o34, hm⟩
     rw [hK36] at hm
     exact rg (mi rfl (Lw.sub rfl (Ni rfl ((agm) ⟨y32, w64 (y24 - 1), v33, W35, rfl, (l25.j l35).w, rfl, o34, hm⟩))))
    ·refine Cw.block (Cw.seq (Cw.draw [] [(0, 1), (1, 0), (2, 0), (3, 0), (4, 1), (5, 0), (6, 3)] mixed (by kernel_rfl) fun W40 l40 => ?_))
     have a41 := a28.n l40
     have o43 := (f17_0.up l25).up l40
     refine Mw.q rfl rfl (fun _ c => R.lda (cs := [v0_0_, v0_1_]) (((((b5.up l7).up l17).up l25).up l40).clcs rfl c) rfl rfl) (Dv v0_17 rfl (Di rfl ?_))
     obtain ⟨u45, e46, hm⟩ := ob hm
     refine Mw.p rfl rfl (fun _ => R.ix (α := Int) o43.rd e46 rfl rfl rfl) (Mw.q rfl rfl (fun _ c => R.ld rfl rfl (cl_cell (o43.rd.at_ e46).1 rfl (o43.rd.at_ e46).int c)) (Ds rfl ?_))
     obtain ⟨z49, e50, hm⟩ := ob hm
     refine Mw.l rfl rfl (T.call rfl (p107  (Repo.rd (K := [0]) x0.Commits x0.Heads (h0_0.ul a41) (h0_1.ul a41)) e50)) ?_
     rintro _ _ ⟨W51, rfl, l51, rfl⟩
     have o53 := (o23.up l40).up l51
     refine Mw.nil (cn hm (fun hm => ?_) fun hm => ?_)
     ·refine rg (mv v22 rfl (mv v0_17 rfl (mi rfl ?_)))
      obtain ⟨u57, e58, hm⟩ := ob hm
      refine Lw.r rfl (R.ix (α := Int) (o43.up l51).rd e58 rfl rfl rfl) (Lw.r rfl (R.ld rfl rfl ((o43.up l51).rd.at_ e58).int) (Lw.t rfl (T.bs 5 [vI u57] (cs := [vI u57]) rfl rfl (bsv rfl)) ?_))
      rintro _ _ ⟨g59, W59, rfl, rfl, l59, b59⟩
      obtain ⟨q64, e65, hm⟩ := ob hm
      refine Lw.t rfl (T.app1S (α := Int) (K' := []) (o53.up l59) b59 (rdI _) rfl rfl e65) ?_
      rintro v66 _ ⟨W66, rfl, l66, o66⟩
      exact Nv v66 rfl ((ag) ⟨q64, v66, W66, rfl, (((l40.j l51).j l59).j l66).w, rfl, o66, hm⟩)
     ·exact sk ((ag) ⟨y21, v22, W51, rfl, (l40.j l51).w, rfl, o53, hm⟩)
   ·refine Cw.exit ?_
    rw [hK26] at hm
    refine sr (mv v22 rfl (Nv v22 rfl ?_))
    cases hm
    exact Cw.ret (ret1 rfl (Res.mk a28 ⟨v22, rfl, o23.s.sub rfl rfl⟩))
 ·refine rg (la b5 (ca hm (fun _ => p74 (Repo.rd (K := [0]) x0.Commits x0.Heads (h0_0.ul a4) (h0_1.ul a4))) fun z73 W75 hm l75 => ?_))
  have a76 := a4.n l75
  refine Lw.r rfl (R.not rfl) (mb rfl (bs hm (fun hc79 hm => ?_) fun hc79 hm => ?_))
  ·exact psk 7 hc79 rfl (Pb hc79 rfl (nl ((ag) ⟨true, W75, rfl, l75, rfl, hm⟩)))
  ·exact wak 7 hc79 (mi rfl (fl (b5.up l75) rfl (Lw.ln x0.Commits (h0_0.ul a76) rfl (Lw.sub rfl (ca hm (fun _ => p84) fun z81 W83 hm l83 => Lw.r rfl (R.not rfl) (Pb hc79 rfl (nl ((ag) ⟨(!z81), W83, rfl, (l75.j l83).w, rfl, hm⟩))))))))

theorem p39 {x0 v0_0_ v0_1_ x1 x2 k0 r} (h0 : Rd W K [v0_0_, v0_1_] x0) (hm : Vm.spec_LogPath x0 x1 x2 = some r) : Q1 39 [.agg [v0_0_, v0_1_].toArray, vI x1, vS x2] W [] fun W' v => ∃ u0, v = u0 ∧ Ow W' k0 [] [u0] r :=
 (c39 (h0.view _) hm).ad (fk k0) fun _ _ ⟨u0, e, f0⟩ => ⟨u0, e, f0.back (fk_LL _)⟩

theorem c41 {x0 v0_ x1 r} (h0 : Rd W0 [0] [v0_] x0) (h99 : Gl 0 W0 [0]) (hm : Vm.laws_smUnder x0 x1 = some r) : Q0 41 [v0_, vS x1] W0 fun Wf v => ∃ u0, v = u0 ∧ OwS (α := List (Sh Vm.File)) Wf LL [0] [u0] r := by
 unfold Vm.laws_smUnder at hm
 refine CallR.of Tryz.func41 rfl rfl rfl rfl (sr (Nv (.slice none 0 0) rfl (sr (Lw.t rfl (T.lit0 (α := File) 2 []) ?_))))
 rintro v1 _ ⟨W1, rfl, l1, o1⟩
 have a2 := l1.o
 refine Nv v1 rfl (ssr (Ni rfl (Cw.block ?_)))
 obtain ⟨K8, hK8, hm⟩ := jn_e hm
 obtain ⟨W9, ew9, l9, o9⟩ := o1.toSh
 have a10 := a2.t l9
 rw [← ew9]
 refine Cw.loop 8 36 [5, 6] (fun m l w => ∃ (y3 : List Vm.File) (y6 : Int) (v4 : Value) (W7 : CW), W7.w = w ∧ Le [2] W9 W7 ∧ l = [v4, vI y6] ∧ Ow (α := List (Sh Vm.File)) W7 2 [0] [v4] y3 ∧ Vm.laws_smUnder_l1 x0 x1 K8 m y3 y6 = some r) _ ⟨([] : List File), 0, v1, W9, rfl, Le.refl _ _, rfl, o9, hm⟩ ?_
 rintro (_ | m11) _ _ σ ⟨y3, y6, v4, W7, rfl, l7, rfl, o5, hm⟩
 ·cases hm
 unfold Vm.laws_smUnder_l1 at hm
 have a12 := a10.t l7
 refine ssr ?_
 have s13 := h0.ul a12
 refine mi rfl (mv v0_ rfl (Lw.ln x0 s13 rfl (Lw.lt rfl (nl (cn hm (fun hm => ?_) fun hm => ?_)))))
 ·refine sk ?_
  obtain ⟨K19, hK19, hm⟩ := jn_e hm
  refine Cw.join 14 36 [5] (fun l w => ∃ (y15 : List Vm.File) (v16 : Value) (W18 : CW), W18.w = w ∧ Le [2] W7 W18 ∧ l = [v16] ∧ Ow (α := List (Sh Vm.File)) W18 2 [0] [v16] y15 ∧ K19 y15 = some r) ?_ ?_
  ·rintro _ _ σ ⟨y15, v16, W18, rfl, l18, rfl, o17, hm⟩
   rw [hK19] at hm
   exact rg (mi rfl (Lw.add rfl (Ni rfl ((agm) ⟨y15, w64 (y6 + 1), v16, W18, rfl, (l7.j l18).w, rfl, o17, hm⟩))))
  ·refine Cw.block ?_
   obtain ⟨K23, hK23, hm⟩ := jn_e hm
   refine Cw.join 14 29 [29] (fun l w => ∃ y21 W22, CW.w W22 = w ∧ Le [] W7 W22 ∧ l = [vB y21] ∧ K23 y21 = some r) ?_ ?_
   ·rintro _ _ σ ⟨y21, W22, rfl, l22, rfl, hm⟩
    rw [hK23] at hm
    have a24 := a12.n l22
    refine cn hm (fun hm => ?_) fun hm => ?_
    ·refine rg (mv v4 rfl (mv v0_ rfl (mi rfl ?_)))
     obtain ⟨u27, e28, hm⟩ := ob hm
     refine Lw.r rfl (R.ix (α := File) (h0.ul a24) e28 rfl rfl rfl) ?_
     obtain ⟨x30, c31, _, r32⟩ := ((h0.ul a24).at_ e28).cells
     obtain ⟨v33, rfl, r34⟩ := File.split r32
     refine Lw.r rfl (R.lda c31 rfl rfl) (Lw.t rfl (T.bs 3 [.agg [vS u27.Path, v33].toArray] (cs := [vS u27.Path, v33]) rfl rfl (bsA rfl)) ?_)
     rintro _ _ ⟨g35, W35, rfl, rfl, l35, b35⟩
     have a36 := l35.o
     obtain ⟨q39, e40, hm⟩ := ob hm
     refine Lw.t rfl (T.app1S (α := Sh Vm.File) (K' := [0]) ((o5.up l22).up l35) b35 (File.rd (K := [0]) u27.Path u27.Text (r34.ul a36)).sh1 rfl rfl e40) ?_
     rintro v41 _ ⟨W41, rfl, l41, o41⟩
     exact Nv v41 rfl ((ag) ⟨q39, v41, W41, rfl, ((l22.j l35).j l41).w, rfl, o41, hm⟩)
    ·exact sk ((ag) ⟨y3, v4, W22, rfl, l22.w, rfl, (o5.up l22), hm⟩)
   ·refine rg (mv v0_ rfl (mi rfl ?_))
    obtain ⟨u44, e45, hm⟩ := ob hm
    refine Lw.r rfl (R.ix (α := File) s13 e45 rfl rfl rfl) (Lw.fa rfl (Lw.r rfl (R.ld rfl rfl (File.at0 (s13.at_ e45)).str) (ms rfl (Lw.seq rfl (mb rfl (bs hm (fun hc46 hm => ?_) fun hc46 hm => ?_))))))
    ·exact psk 7 hc46 rfl (Pb hc46 rfl (nl ((ag) ⟨true, W7, rfl, Le.refl _ _, rfl, hm⟩)))
    ·refine wak 7 hc46 (ms rfl (mv v0_ rfl (mi rfl ?_)))
     obtain ⟨u47, e48, hm⟩ := ob hm
     exact Lw.r rfl (R.ix (α := File) s13 e48 rfl rfl rfl) (Lw.fa rfl (Lw.r rfl (R.ld rfl rfl (File.at0 (s13.at_ e48)).str) (ca hm (fun _ => p110 (h99.ul a12)) fun z50 W52 hm l52 => Pb hc46 rfl (nl ((ag) ⟨z50, W52, rfl, l52, rfl, hm⟩)))))
 ·refine Cw.exit ?_
  rw [hK8] at hm
  refine sr (mv v4 rfl (Nv v4 rfl ?_))
  cases hm
  exact Cw.ret (ret1 rfl (Res.mk a12 ⟨v4, rfl, o5.s.sub rfl rfl⟩))

theorem p41 {x0 v0_ x1 k0 r} (h0 : Rd W K [v0_] x0) (h99 : Gl 0 W K) (hm : Vm.laws_smUnder x0 x1 = some r) : Q1 41 [v0_, vS x1] W [] fun W' v => ∃ u0, v = u0 ∧ Ow (α := List (Sh Vm.File)) W' k0 (0 :: K) [u0] r :=
 (c41 (h0.view _) (h99.view _) hm).ad (fk k0) fun _ _ ⟨u0, e, f0⟩ => ⟨u0, e, f0.backS (fk_LL _) rfl⟩

theorem c28 {x0 v0_ x1 r} (h0 : Rd W0 [0] [v0_] x0) (hm : Vm.laws_smIn x0 x1 = some r) : Q0 28 [v0_, vI x1] W0 fun Wf v => v = vB r := by
 unfold Vm.laws_smIn at hm
 refine CallR.of Tryz.func28 rfl rfl rfl rfl (sr (Nb rfl (ssr (Ni rfl (Cw.block ?_)))))
 obtain ⟨K4, hK4, hm⟩ := jn_e hm
 refine Cw.loop 6 17 [4, 5] (fun m l w => ∃ y1 y2 W3, CW.w W3 = w ∧ Le [] W0 W3 ∧ l = [vB y1, vI y2] ∧ Vm.laws_smIn_l1 x0 x1 K4 m y1 y2 = some r) _ ⟨false, 0, W0, rfl, Le.refl _ _, rfl, hm⟩ ?_
 rintro (_ | m5) _ _ σ ⟨y1, y2, W3, rfl, l3, rfl, hm⟩
 ·cases hm
 unfold Vm.laws_smIn_l1 at hm
 have a6 := l3.o
 refine ssr ?_
 have s7 := h0.ul a6
 refine mi rfl (mv v0_ rfl (Lw.ln x0 s7 rfl (Lw.lt rfl (nl (cn hm (fun hm => ?_) fun hm => ?_)))))
 ·refine sk (Cw.seq (Cw.block (sr (mv v0_ rfl (mi rfl ?_)))))
  obtain ⟨u9, e10, hm⟩ := ob hm
  refine Lw.r rfl (R.ix (α := Int) s7 e10 rfl rfl rfl) (Lw.r rfl (R.ld rfl rfl (s7.at_ e10).int) (mi rfl (Lw.eq rfl (nl (cn hm (fun hm => ?_) fun hm => ?_)))))
  ·exact sr (Nb rfl (.ret (rt hm a6)))
  ·exact sk (rg (mi rfl (Lw.add rfl (Ni rfl ((agm) ⟨y1, w64 (y2 + 1), W3, rfl, l3, rfl, hm⟩)))))
 ·refine Cw.exit ?_
  rw [hK4] at hm
  exact sr (Nb rfl (.ret (rt hm a6)))

theorem p28 {x0 v0_ x1 r} (h0 : Rd W K [v0_] x0) (hm : Vm.laws_smIn x0 x1 = some r) : Q1 28 [v0_, vI x1] W [] fun W' v => v = vB r :=
 (c28 (h0.view _) hm).ad (fk 0) fun _ _ e => e

end Go.Sx
