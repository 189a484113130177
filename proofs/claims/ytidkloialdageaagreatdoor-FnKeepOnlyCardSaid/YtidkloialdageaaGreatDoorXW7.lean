/- Walks: each function answers as its model, printed by a program of ours. Conditions: the arguments read as they are given. -/
import Derived.Test.YtidkloialdageaaGreatDoorXTs
import Derived.Test.YtidkloialdageaaGreatDoorXM1
import Derived.Test.YtidkloialdageaaGreatDoorXW6
namespace Go.Sx
open Go Go.Proofs Go.Vm Rp
set_option linter.unusedVariables false
set_option linter.unusedSimpArgs false

variable {W W0 : CW} {K : List Nat}
theorem c97 {x0 v0_ r} (h0 : Rd W0 [0] [v0_] x0) (hm : Vm.impl_copyText x0 = some r) : Q0 97 [v0_] W0 fun Wf v => ∃ u0, v = u0 ∧ OwS Wf LL [] [u0] r := by
 unfold Vm.impl_copyText at hm
 refine CallR.of Tryz.func97 rfl rfl rfl rfl (sr (Nv (.slice none 0 0) rfl (sr (Lw.t rfl (T.lit0 (α := Str) 2 []) ?_))))
 rintro v1 _ ⟨W1, rfl, l1, o1⟩
 have a2 := l1.o
 refine mv v0_ rfl ?_
 obtain ⟨q3, e4, hm⟩ := ob hm
 refine Lw.t rfl (T.appP (α := Str) o1 (h0.ul a2) rfl rfl e4) ?_
 rintro v5 _ ⟨W5, rfl, l5, o5⟩
 have a7 := a2.t l5
 refine Nv v5 rfl ?_
 cases hm
 exact Cw.ret (ret1 rfl (Res.mk a7 ⟨v5, rfl, o5.s.sub rfl rfl⟩))

theorem p97 {x0 v0_ k0 r} (h0 : Rd W K [v0_] x0) (hm : Vm.impl_copyText x0 = some r) : Q1 97 [v0_] W [] fun W' v => ∃ u0, v = u0 ∧ Ow W' k0 [] [u0] r :=
 (c97 (h0.view _) hm).ad (fk k0) fun _ _ ⟨u0, e, f0⟩ => ⟨u0, e, f0.back (fk_LL _)⟩

theorem c114 {x0 v0_ r} (h0 : Rd W0 [0] [v0_] x0) (hm : Vm.impl_copyTree x0 = some r) : Q0 114 [v0_] W0 fun Wf v => ∃ u0, v = u0 ∧ OwS Wf LL [] [u0] r := by
 unfold Vm.impl_copyTree at hm
 refine CallR.of Tryz.func114 rfl rfl rfl rfl (sr (Nv (.slice none 0 0) rfl (sr (Nv (.slice none 0 0) rfl (ssr (mv v0_ rfl (Lw.ln x0 h0 rfl (mi rfl (nl (Cw.block ?_))))))))))
 obtain ⟨K7, hK7, hm⟩ := jn_e hm
 refine Cw.loop 8 21 [3, 5, 8] (fun m l w => ∃ y1 y5 v2 j4 W6, CW.w W6 = w ∧ Le [2, 3, 4] W0 W6 ∧ l = [v2, j4, vI y5] ∧ Ow W6 2 [] [v2] y1 ∧ Vm.impl_copyTree_l1 x0 K7 m y1 y5 = some r) _ ⟨([] : List File), 0, .slice none 0 0, undef, W0, rfl, Le.refl _ _, rfl, owN 2 [], hm⟩ ?_
 rintro (_ | m8) _ _ σ ⟨y1, y5, v2, j4, W6, rfl, l6, rfl, o3, hm⟩
 ·cases hm
 unfold Vm.impl_copyTree_l1 at hm
 have a9 := l6.s
 refine sr (Lw.lt rfl (nl (Cw.seq (cn hm (fun hm => ?_) fun hm => ?_))))
 ·refine sk (Cw.seq (Cw.block (sr ?_)))
  obtain ⟨u11, e12, hm⟩ := ob hm
  refine Lw.r rfl (R.ix (α := File) (h0.ul a9) e12 rfl rfl rfl) ?_
  obtain ⟨x14, c15, _, r16⟩ := ((h0.ul a9).at_ e12).cells
  obtain ⟨v17, rfl, r18⟩ := File.split r16
  refine Lw.r rfl (R.lda c15 rfl rfl) (al 3 [vS ([] : Str), .slice none 0 0] fun g19 W19 l19 b19 => ?_)
  have a20 := l19.o
  refine sta b19 (oc_cons rfl (oc_cons r18.oc oc_nil)) fun W22 l22 b22 => ?_
  have a23 := a20.t l22
  refine nl (Cw.draw [2, 4] [(0, 0), (1, 0), (2, 1), (3, 0), (4, 1), (5, 2), (6, 0), (7, 2), (8, 2), (9, 0)] mixed (by kernel_rfl) fun W25 l25 => ?_)
  have a26 := a23.n l25
  refine Dv v2 rfl (Dfl (b22.up l25) rfl rfl rfl (Dfl (b22.up l25) rfl rfl rfl (Dc hm (Le.refl _ _) (fun _ => p97 (k0 := 4) (r18.ul a26)) rfl ?_)))
  rintro z30 v0_32 W32 hm l32 ⟨_, rfl, f32_0⟩ d32
  refine Mw.p rfl rfl (fun _ => R.bd (zs := [vS ([] : Str), .slice none 0 0]) (cs := [vS u11.Path, v0_32]) [(0, vS u11.Path), (1, v0_32)] rfl rfl rfl (bp_cons rfl rfl (bp_cons f32_0.oc rfl bp_nil))) (Mw.t rfl rfl (T.bs 5 [.agg [vS u11.Path, v0_32].toArray] (cs := [vS u11.Path, v0_32]) rfl rfl (bsA rfl)) ?_)
  rintro _ _ ⟨g36, W36, rfl, rfl, l36, b36⟩
  refine mc d32 l36 fun d36 => ?_
  obtain ⟨q41, e42, hm⟩ := ob hm
  refine Mw.t rfl rfl (T.app1 (α := File) (J := [4]) (K' := []) (((((o3.up l19).up l22).up l25).up l32).up l36) b36 (File.own u11.Path z30 (f32_0.up l36).s) rfl rfl e42) ?_
  rintro v43 _ ⟨W43, rfl, l43, o43⟩
  exact mc d36 l43 fun d43 => Hv v43 rfl (Mw.nil (rg (Lw.add rfl (mi rfl (nl ((agm) ⟨q41, w64 (y5 + 1), v43, ptr (bx g19), W43, rfl, ((((((l6.j l19).j l22).j l25).j l32).j l36).j l43).w, rfl, o43, hm⟩))))))
 ·refine Cw.exit ?_
  rw [hK7] at hm
  refine sr (mv v2 rfl (Nv v2 rfl ?_))
  cases hm
  exact Cw.ret (ret1 rfl (Res.mk a9 ⟨v2, rfl, o3.s.sub rfl rfl⟩))

theorem p114 {x0 v0_ k0 r} (h0 : Rd W K [v0_] x0) (hm : Vm.impl_copyTree x0 = some r) : Q1 114 [v0_] W [] fun W' v => ∃ u0, v = u0 ∧ Ow W' k0 [] [u0] r :=
 (c114 (h0.view _) hm).ad (fk k0) fun _ _ ⟨u0, e, f0⟩ => ⟨u0, e, f0.back (fk_LL _)⟩

theorem c49 {x0 v0_0_ v0_2_ x1 v1_0_ v1_2_ r} (h0 : Rd W0 [0] [v0_0_, vS x0.Who, v0_2_] x0) (h1 : Rd W0 [0] [v1_0_, vS x1.Who, v1_2_] x1) (hm : Vm.laws_smCommit x0 x1 = some r) : Q0 49 [.agg [v0_0_, vS x0.Who, v0_2_].toArray, .agg [v1_0_, vS x1.Who, v1_2_].toArray] W0 fun Wf v => v = vB r := by
 unfold Vm.laws_smCommit at hm
 obtain ⟨w0_0, w0_1, he0, h0_0, h0_2⟩ := Commit.split h0
 simp only [List.cons.injEq, and_true, true_and] at he0
 obtain ⟨rfl, rfl⟩ := he0
 obtain ⟨w1_0, w1_1, he1, h1_0, h1_2⟩ := Commit.split h1
 simp only [List.cons.injEq, and_true, true_and] at he1
 obtain ⟨rfl, rfl⟩ := he1
 refine CallR.of Tryz.func49 rfl rfl rfl rfl (sr (bo 2 rfl fun g1 W1 l1 b1 => ?_))
 have a2 := l1.o
 refine bo 3 rfl fun g3 W3 l3 b3 => ?_
 have a4 := a2.n l3
 have b5 := b1.up l3
 refine Nb rfl ?_
 obtain ⟨K8, hK8, hm⟩ := jn_e hm
 refine Cw.join 5 23 [4] (fun l w => ∃ y6 W7, CW.w W7 = w ∧ Le [] W3 W7 ∧ l = [vB y6] ∧ K8 y6 = some r) ?_ ?_
 ·rintro _ _ σ ⟨y6, W7, rfl, l7, rfl, hm⟩
  rw [hK8] at hm
  have a9 := a4.n l7
  exact .ret (rt hm a9)
 ·refine rg (fl b5 rfl (fl b3 rfl (Lw.seq rfl (mb rfl (bs hm (fun hc12 hm => ?_) fun hc12 hm => ?_)))))
  ·refine wak 5 hc12 (fl b5 rfl (fl b3 rfl (ca hm (fun _ => p24 (h0_0.ul a4) (h1_0.ul a4)) fun z15 W17 hm l17 => ?_)))
   have a18 := a4.n l17
   refine Pb hc12 rfl (mb rfl (bs hm (fun hc21 hm => ?_) fun hc21 hm => ?_))
   ·exact wak 5 hc21 (fl (b5.up l17) rfl (fl (b3.up l17) rfl (ca hm (fun _ => p42 (h0_2.ul a18) (h1_2.ul a18)) fun z24 W26 hm l26 => Pb hc21 rfl (Nb rfl ((ag) ⟨z24, W26, rfl, (l17.j l26).w, rfl, hm⟩)))))
   ·exact psk 5 hc21 rfl (Pb hc21 rfl (Nb rfl ((ag) ⟨false, W17, rfl, l17, rfl, hm⟩)))
  ·exact psk 5 hc12 rfl (Pb hc12 rfl (mb rfl (psk 5 rfl rfl (Pb rfl rfl (Nb rfl ((ag) ⟨false, W3, rfl, Le.refl _ _, rfl, hm⟩))))))

theorem p49 {x0 v0_0_ v0_2_ x1 v1_0_ v1_2_ r} (h0 : Rd W K [v0_0_, vS x0.Who, v0_2_] x0) (h1 : Rd W K [v1_0_, vS x1.Who, v1_2_] x1) (hm : Vm.laws_smCommit x0 x1 = some r) : Q1 49 [.agg [v0_0_, vS x0.Who, v0_2_].toArray, .agg [v1_0_, vS x1.Who, v1_2_].toArray] W [] fun W' v => v = vB r :=
 (c49 (h0.view _) (h1.view _) hm).ad (fk 0) fun _ _ e => e

theorem c18 {x0 v0_0_ v0_1_ x1 v1_0_ v1_1_ r} (h0 : Rd W0 [0] [v0_0_, v0_1_] x0) (h1 : Rd W0 [0] [v1_0_, v1_1_] x1) (hm : Vm.laws_smRepo x0 x1 = some r) : Q0 18 [.agg [v0_0_, v0_1_].toArray, .agg [v1_0_, v1_1_].toArray] W0 fun Wf v => v = vB r := by
 unfold Vm.laws_smRepo at hm
 obtain ⟨w0_0, w0_1, he0, h0_0, h0_1⟩ := Repo.split h0
 simp only [List.cons.injEq, and_true, true_and] at he0
 obtain ⟨rfl, rfl⟩ := he0
 obtain ⟨w1_0, w1_1, he1, h1_0, h1_1⟩ := Repo.split h1
 simp only [List.cons.injEq, and_true, true_and] at he1
 obtain ⟨rfl, rfl⟩ := he1
 refine CallR.of Tryz.func18 rfl rfl rfl rfl (sr (bo 2 rfl fun g1 W1 l1 b1 => ?_))
 have a2 := l1.o
 refine bo 3 rfl fun g3 W3 l3 b3 => ?_
 have a4 := a2.n l3
 have b5 := b1.up l3
 refine Nb rfl (Cw.seq ?_)
 obtain ⟨K8, hK8, hm⟩ := jn_e hm
 refine Cw.join 7 22 [22] (fun l w => ∃ y6 W7, CW.w W7 = w ∧ Le [] W3 W7 ∧ l = [vB y6] ∧ K8 y6 = some r) ?_ ?_
 ·rintro _ _ σ ⟨y6, W7, rfl, l7, rfl, hm⟩
  rw [hK8] at hm
  have a9 := a4.n l7
  refine cn hm (fun hm => ?_) fun hm => ?_
  ·exact sr (Nb rfl (.ret (rt hm a9)))
  ·refine sk (ssr (Ni rfl (Cw.block ?_)))
   obtain ⟨K16, hK16, hm⟩ := jn_e hm
   refine Cw.loop 23 41 [4, 5] (fun m l w => ∃ y13 y14 W15, CW.w W15 = w ∧ Le [] W7 W15 ∧ l = [vB y13, vI y14] ∧ Vm.laws_smRepo_l1 x0 x1 K16 m y13 y14 = some r) _ ⟨false, 0, W7, rfl, Le.refl _ _, rfl, hm⟩ ?_
   rintro (_ | m17) _ _ σ ⟨y13, y14, W15, rfl, l15, rfl, hm⟩
   ·cases hm
   unfold Vm.laws_smRepo_l1 at hm
   have a18 := a9.n l15
   have b19 := (b5.up l7).up l15
   have b20 := (b3.up l7).up l15
   refine ssr (mi rfl (fl b19 rfl (Lw.ln x0.Commits (h0_0.ul a18) rfl (Lw.lt rfl (nl (cn hm (fun hm => ?_) fun hm => ?_))))))
   ·refine sk (Cw.seq (Cw.block (Cw.seq (Cw.draw [] [(0, 0), (1, 1), (2, 0), (3, 0), (4, 1), (5, 0), (6, 1), (7, 0), (8, 0), (9, 1), (10, 2), (11, 0)] mixed (by kernel_rfl) fun W23 l23 => ?_))))
    have a24 := a18.n l23
    refine Dfl (b19.up l23) rfl rfl rfl (Di rfl ?_)
    obtain ⟨u27, e28, hm⟩ := ob hm
    have s29 := h0_0.ul a24
    refine Mw.p rfl rfl (fun _ => R.ix (α := Commit) s29 e28 rfl rfl rfl) ?_
    obtain ⟨x30, c31, _, r32⟩ := (s29.at_ e28).cells
    obtain ⟨v33, v35, rfl, r34, r36⟩ := Commit.split r32
    refine Mw.q rfl rfl (fun _ c => R.lda (cl_cells (s29.at_ e28).1 rfl c31 c) rfl rfl) (Dfl (b20.up l23) rfl rfl rfl (Di rfl ?_))
    obtain ⟨u37, e38, hm⟩ := ob hm
    have s39 := h1_0.ul a24
    refine Mw.p rfl rfl (fun _ => R.ix (α := Commit) s39 e38 rfl rfl rfl) ?_
    obtain ⟨x40, c41, _, r42⟩ := (s39.at_ e38).cells
    obtain ⟨v43, v45, rfl, r44, r46⟩ := Commit.split r42
    refine Mw.q rfl rfl (fun _ c => R.lda (cl_cells (s39.at_ e38).1 rfl c41 c) rfl rfl) ?_
    obtain ⟨z47, e48, hm⟩ := ob hm
    refine Mw.t rfl rfl (T.call rfl (p49  (Commit.rd (K := [0]) u27.Parents u27.Who u27.Tree r34 r36) (Commit.rd (K := [0]) u37.Parents u37.Who u37.Tree r44 r46) e48)) ?_
    rintro _ _ ⟨W49, rfl, l49, rfl⟩
    have a50 := a24.n l49
    refine m0 l49 fun d49 => Mw.p rfl rfl (fun _ => R.not rfl) (Mw.nil (cn hm (fun hm => ?_) fun hm => ?_))
    ·exact sr (Nb rfl (.ret (rt hm a50)))
    ·exact sk (rg (mi rfl (Lw.add rfl (Ni rfl ((agm) ⟨y13, w64 (y14 + 1), W49, rfl, ((l15.j l23).j l49).w, rfl, hm⟩)))))
   ·refine Cw.exit ?_
    rw [hK16] at hm
    refine ssr (Ni rfl (Cw.block ?_))
    obtain ⟨K57, hK57, hm⟩ := jn_e hm
    refine Cw.loop 42 59 [4, 6] (fun m l w => ∃ y54 y55 W56, CW.w W56 = w ∧ Le [] W15 W56 ∧ l = [vB y54, vI y55] ∧ Vm.laws_smRepo_l2 x0 x1 K57 m y54 y55 = some r) _ ⟨y13, 0, W15, rfl, Le.refl _ _, rfl, hm⟩ ?_
    rintro (_ | m58) _ _ σ ⟨y54, y55, W56, rfl, l56, rfl, hm⟩
    ·cases hm
    unfold Vm.laws_smRepo_l2 at hm
    have a59 := a18.n l56
    refine ssr (mi rfl (fl (b19.up l56) rfl (Lw.ln x0.Heads (h0_1.ul a59) rfl (Lw.lt rfl (nl (cn hm (fun hm => ?_) fun hm => ?_))))))
    ·refine sk (Cw.seq (Cw.block (Cw.seq (Cw.draw [] [(0, 0), (1, 1), (2, 0), (3, 0), (4, 1), (5, 0), (6, 1), (7, 0), (8, 0), (9, 1), (10, 0)] mixed (by kernel_rfl) fun W64 l64 => ?_))))
     have a65 := a59.n l64
     refine Dfl ((b19.up l56).up l64) rfl rfl rfl (Di rfl ?_)
     obtain ⟨u68, e69, hm⟩ := ob hm
     refine Mw.p rfl rfl (fun _ => R.ix (α := Head) (h0_1.ul a65) e69 rfl rfl rfl) ?_
     obtain ⟨x71, c72, _, r73⟩ := ((h0_1.ul a65).at_ e69).cells
     obtain rfl := Head.split r73
     refine Mw.q rfl rfl (fun _ c => R.lda (cl_cells ((h0_1.ul a65).at_ e69).1 rfl c72 c) rfl rfl) (Dfl ((b20.up l56).up l64) rfl rfl rfl (Di rfl ?_))
     obtain ⟨u74, e75, hm⟩ := ob hm
     refine Mw.p rfl rfl (fun _ => R.ix (α := Head) (h1_1.ul a65) e75 rfl rfl rfl) ?_
     obtain ⟨x77, c78, _, r79⟩ := ((h1_1.ul a65).at_ e75).cells
     obtain rfl := Head.split r79
     refine Mw.q rfl rfl (fun _ c => R.lda (cl_cells ((h1_1.ul a65).at_ e75).1 rfl c78 c) rfl rfl) (Mw.p rfl rfl (fun _ => R.hne rfl rfl) (Mw.nil (cn hm (fun hm => ?_) fun hm => ?_)))
     ·exact sr (Nb rfl (.ret (rt hm a65)))
     ·exact sk (rg (mi rfl (Lw.add rfl (Ni rfl ((agm) ⟨y54, w64 (y55 + 1), W64, rfl, (l56.j l64).w, rfl, hm⟩)))))
    ·refine Cw.exit ?_
     rw [hK57] at hm
     exact sr (Nb rfl (.ret (rt hm a59)))
 ·refine rg (fl b5 rfl (Lw.ln x0.Commits (h0_0.ul a4) rfl (fl b3 rfl (Lw.ln x1.Commits (h1_0.ul a4) rfl (Lw.ne rfl (mb rfl (bs hm (fun hc83 hm => ?_) fun hc83 hm => ?_)))))))
  ·exact psk 7 hc83 rfl (Pb hc83 rfl (nl ((ag) ⟨true, W3, rfl, Le.refl _ _, rfl, hm⟩)))
  ·exact wak 7 hc83 (fl b5 rfl (Lw.ln x0.Heads (h0_1.ul a4) rfl (fl b3 rfl (Lw.ln x1.Heads (h1_1.ul a4) rfl (Lw.ne rfl (Pb hc83 rfl (nl ((ag) ⟨(((x0.Heads.length : Int) : Int) != ((x1.Heads.length : Int) : Int)), W3, rfl, Le.refl _ _, rfl, hm⟩))))))))

theorem p18 {x0 v0_0_ v0_1_ x1 v1_0_ v1_1_ r} (h0 : Rd W K [v0_0_, v0_1_] x0) (h1 : Rd W K [v1_0_, v1_1_] x1) (hm : Vm.laws_smRepo x0 x1 = some r) : Q1 18 [.agg [v0_0_, v0_1_].toArray, .agg [v1_0_, v1_1_].toArray] W [] fun W' v => v = vB r :=
 (c18 (h0.view _) (h1.view _) hm).ad (fk 0) fun _ _ e => e

theorem c80 {x0 v0_0_ v0_1_ x1 r} (h0 : Rd W0 [0] [v0_0_, v0_1_] x0) (hm : Vm.impl_Repo_at x0 x1 = some r) : Q0 80 [.agg [v0_0_, v0_1_].toArray, vS x1] W0 fun Wf v => v = vI r := by
 unfold Vm.impl_Repo_at at hm
 obtain ⟨w0_0, w0_1, he0, h0_0, h0_1⟩ := Repo.split h0
 simp only [List.cons.injEq, and_true, true_and] at he0
 obtain ⟨rfl, rfl⟩ := he0
 refine CallR.of Tryz.func80 rfl rfl rfl rfl (sr (bo 2 rfl fun g1 W1 l1 b1 => ?_))
 have a2 := l1.o
 refine Ni rfl (ssr (fl b1 rfl (Lw.ln x0.Heads (h0_1.ul a2) rfl (mi rfl (nl (Cw.block ?_))))))
 obtain ⟨K8, hK8, hm⟩ := jn_e hm
 refine Cw.loop 10 20 [4, 6, 10] (fun m l w => ∃ y4 y6 j5 W7, CW.w W7 = w ∧ Le [3] W1 W7 ∧ l = [vI y4, j5, vI y6] ∧ Vm.impl_Repo_at_l1 x0 x1 K8 m y4 y6 = some r) _ ⟨0, 0, undef, W1, rfl, Le.refl _ _, rfl, hm⟩ ?_
 rintro (_ | m9) _ _ σ ⟨y4, y6, j5, W7, rfl, l7, rfl, hm⟩
 ·cases hm
 unfold Vm.impl_Repo_at_l1 at hm
 have a10 := a2.t l7
 refine sr (Lw.lt rfl (nl (Cw.seq (cn hm (fun hm => ?_) fun hm => ?_))))
 ·refine sk (Cw.seq (Cw.block (sr ?_)))
  obtain ⟨u13, e14, hm⟩ := ob hm
  refine Lw.r rfl (R.ix (α := Head) (h0_1.ul a10) e14 rfl rfl rfl) ?_
  obtain ⟨x16, c17, _, r18⟩ := ((h0_1.ul a10).at_ e14).cells
  obtain rfl := Head.split r18
  refine Lw.r rfl (R.lda c17 rfl rfl) (al 3 [vS ([] : Str), vI 0] fun g19 W19 l19 b19 => ?_)
  have a20 := a10.n l19
  refine sta b19 (oc_cons rfl (oc_cons rfl oc_nil)) fun W22 l22 b22 => ?_
  have a23 := a20.t l22
  refine nl (sr (fl b22 rfl (ms rfl (Lw.seq rfl (nl (cn hm (fun hm => ?_) fun hm => ?_))))))
  ·exact sr (fl b22 rfl (Ni rfl (.ret (rt hm a23))))
  ·exact sk (rg (Lw.add rfl (mi rfl (nl ((agm) ⟨y4, w64 (y6 + 1), ptr (bx g19), W22, rfl, ((l7.j l19).j l22).w, rfl, hm⟩)))))
 ·refine Cw.exit ?_
  rw [hK8] at hm
  exact sr (Ni rfl (.ret (rt hm a10)))

theorem p80 {x0 v0_0_ v0_1_ x1 r} (h0 : Rd W K [v0_0_, v0_1_] x0) (hm : Vm.impl_Repo_at x0 x1 = some r) : Q1 80 [.agg [v0_0_, v0_1_].toArray, vS x1] W [] fun W' v => v = vI r :=
 (c80 (h0.view _) hm).ad (fk 0) fun _ _ e => e

theorem c20 {x0 v0_0_ v0_1_ x1 r} (h0 : Rd W0 [0] [v0_0_, v0_1_] x0) (h99 : Gl 0 W0 [0]) (hm : Vm.impl_RepoAt x0 x1 = some r) : Q0 20 [.agg [v0_0_, v0_1_].toArray, vS x1] W0 fun Wf v => v = vI r := by
 unfold Vm.impl_RepoAt at hm
 obtain ⟨w0_0, w0_1, he0, h0_0, h0_1⟩ := Repo.split h0
 simp only [List.cons.injEq, and_true, true_and] at he0
 obtain ⟨rfl, rfl⟩ := he0
 refine CallR.of Tryz.func20 rfl rfl rfl rfl (sr (bo 2 rfl fun g1 W1 l1 b1 => ?_))
 have a2 := l1.o
 refine Ni rfl (ssr (la b1 (ca hm (fun _ => p19 (Repo.rd (K := [0]) x0.Commits x0.Heads (h0_0.ul a2) (h0_1.ul a2)) (h99.ul a2)) fun z6 W8 hm l8 => ?_)))
 have a9 := a2.n l8
 refine Lw.r rfl (R.not rfl) (nl (cn hm (fun hm => ?_) fun hm => ?_))
 ·exact sr (Ni rfl (.ret (rt hm a9)))
 ·refine sk (sr (la (b1.up l8) (ms rfl (ca hm (fun _ => p80 (Repo.rd (K := [0]) x0.Commits x0.Heads (h0_0.ul a9) (h0_1.ul a9))) fun z14 W16 hm l16 => ?_))))
  have a17 := a9.n l16
  exact Ni rfl (.ret (rt hm a17))

theorem p20 {x0 v0_0_ v0_1_ x1 r} (h0 : Rd W K [v0_0_, v0_1_] x0) (h99 : Gl 0 W K) (hm : Vm.impl_RepoAt x0 x1 = some r) : Q1 20 [.agg [v0_0_, v0_1_].toArray, vS x1] W [] fun W' v => v = vI r :=
 (c20 (h0.view _) (h99.view _) hm).ad (fk 0) fun _ _ e => e

end Go.Sx
