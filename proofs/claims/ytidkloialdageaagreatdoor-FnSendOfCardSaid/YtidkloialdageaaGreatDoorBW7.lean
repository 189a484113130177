/- Walks: each function answers as its model, printed by a program of ours. Conditions: the arguments read as they are given. -/
import Derived.Test.YtidkloialdageaaGreatDoorBTs
import Derived.Test.YtidkloialdageaaGreatDoorBM1
import Derived.Test.YtidkloialdageaaGreatDoorBW0
import Derived.Test.YtidkloialdageaaGreatDoorBW1
import Derived.Test.YtidkloialdageaaGreatDoorBW3
import Derived.Test.YtidkloialdageaaGreatDoorBW6
namespace Go.Sx
open Go Go.Proofs Go.Vm Rp
set_option linter.unusedVariables false
set_option linter.unusedSimpArgs false

variable {W W0 : CW} {K : List Nat}
theorem c117 {x0 v0_0_ v0_1_ x1 v1_ r} (h0 : Rd W0 [0] [v0_0_, v0_1_] x0) (h1 : Rd W0 [0] [v1_] x1) (hm : Vm.spec_l12Any x0 x1 = some r) : Q0 117 [.agg [v0_0_, v0_1_].toArray, v1_] W0 fun Wf v => v = vB r := by
 unfold Vm.spec_l12Any at hm
 obtain ⟨w0_0, w0_1, he0, h0_0, h0_1⟩ := Repo.split h0
 simp only [List.cons.injEq, and_true, true_and] at he0
 obtain ⟨rfl, rfl⟩ := he0
 refine CallR.of Tryz.func117 rfl rfl rfl rfl (sr (bo 2 rfl fun g1 W1 l1 b1 => ?_))
 have a2 := l1.o
 refine Nb rfl (ssr (Ni rfl (Cw.block ?_)))
 obtain ⟨K6, hK6, hm⟩ := jn_e hm
 refine Cw.loop 6 21 [4, 5] (fun m l w => ∃ y3 y4 W5, CW.w W5 = w ∧ Le [] W1 W5 ∧ l = [vB y3, vI y4] ∧ Vm.spec_l12Any_l1 x0 x1 K6 m y3 y4 = some r) _ ⟨false, 0, W1, rfl, Le.refl _ _, rfl, hm⟩ ?_
 rintro (_ | m7) _ _ σ ⟨y3, y4, W5, rfl, l5, rfl, hm⟩
 ·cases hm
 unfold Vm.spec_l12Any_l1 at hm
 have a8 := a2.n l5
 refine ssr (mi rfl (mv v1_ rfl (Lw.ln x1 (h1.ul a8) rfl (Lw.lt rfl (nl (cn hm (fun hm => ?_) fun hm => ?_))))))
 ·refine sk (Cw.seq (Cw.block (Cw.seq (Cw.draw [] [(0, 0), (1, 0), (2, 0), (3, 1), (4, 0), (5, 1), (6, 0), (7, 0), (8, 2), (9, 0)] mixed (by kernel_rfl) fun W12 l12 => ?_))))
  have a13 := a8.n l12
  refine Dv v1_ rfl (Di rfl ?_)
  obtain ⟨u15, e16, hm⟩ := ob hm
  refine Mw.p rfl rfl (fun _ => R.ix (α := Int) (h1.ul a13) e16 rfl rfl rfl) (Mw.q rfl rfl (fun _ c => R.ld rfl rfl (cl_cell ((h1.ul a13).at_ e16).1 rfl ((h1.ul a13).at_ e16).int c)) (Dfl ((b1.up l5).up l12) rfl rfl rfl (Mw.p rfl rfl (fun _ => lenR (xs := x0.Commits) (h0_0.ul a13) rfl) (Mw.p rfl rfl (fun _ => R.sub rfl rfl) ?_))))
  obtain ⟨z19, e20, hm⟩ := ob hm
  refine Mw.t rfl rfl (T.call rfl (p84   e20)) ?_
  rintro _ _ ⟨W21, rfl, l21, rfl⟩
  have a22 := a13.n l21
  refine m0 l21 fun d21 => Mw.p rfl rfl (fun _ => R.not rfl) (Mw.nil (cn hm (fun hm => ?_) fun hm => ?_))
  ·exact sr (Nb rfl (.ret (rt hm a22)))
  ·exact sk (rg (mi rfl (Lw.add rfl (Ni rfl ((agm) ⟨y3, w64 (y4 + 1), W21, rfl, ((l5.j l12).j l21).w, rfl, hm⟩)))))
 ·refine Cw.exit ?_
  rw [hK6] at hm
  exact sr (mv v1_ rfl (Lw.ln x1 (h1.ul a8) rfl (Lw.le rfl (Nb rfl (.ret (rt hm a8))))))

theorem p117 {x0 v0_0_ v0_1_ x1 v1_ r} (h0 : Rd W K [v0_0_, v0_1_] x0) (h1 : Rd W K [v1_] x1) (hm : Vm.spec_l12Any x0 x1 = some r) : Q1 117 [.agg [v0_0_, v0_1_].toArray, v1_] W [] fun W' v => v = vB r :=
 (c117 (h0.view _) (h1.view _) hm).ad (fk 0) fun _ _ e => e

theorem c154 {x0 v0_0_ v0_1_ x1 v1_ x2 r} (h0 : Rd W0 [0] [v0_0_, v0_1_] x0) (h1 : Rd W0 [0] [v1_] x1) (hm : Vm.spec_l12Left x0 x1 x2 = some r) : Q0 154 [.agg [v0_0_, v0_1_].toArray, v1_, vI x2] W0 fun Wf v => ∃ u0, v = u0 ∧ OwS Wf LL [] [u0] r := by
 unfold Vm.spec_l12Left at hm
 obtain ⟨w0_0, w0_1, he0, h0_0, h0_1⟩ := Repo.split h0
 simp only [List.cons.injEq, and_true, true_and] at he0
 obtain ⟨rfl, rfl⟩ := he0
 refine CallR.of Tryz.func154 rfl rfl rfl rfl (sr (bo 2 rfl fun g1 W1 l1 b1 => ?_))
 have a2 := l1.o
 refine Nv (.slice none 0 0) rfl (sr (la b1 (mi rfl (cr hm (fun _ => p106 (k0 := 3) (Repo.rd (K := [0]) x0.Commits x0.Heads (h0_0.ul a2) (h0_1.ul a2))) ?_))))
 rintro z5 v0_7 W7 hm l7 ⟨_, rfl, f7_0⟩
 have a8 := a2.n l7
 refine Nv v0_7 rfl (sr (Lw.t rfl (T.lit0 (α := Int) 4 []) ?_))
 rintro v10 _ ⟨W10, rfl, l10, o10⟩
 have a11 := a8.n l10
 refine Nv v10 rfl (ssr (Ni rfl (Cw.block ?_)))
 obtain ⟨K21, hK21, hm⟩ := jn_e hm
 refine Cw.loop 16 50 [8, 9, 10, 11] (fun m l w => ∃ y14 y17 v15 j18 j19 W20, CW.w W20 = w ∧ Le [4] W10 W20 ∧ l = [v15, vI y17, j18, j19] ∧ Ow W20 4 [] [v15] y14 ∧ Vm.spec_l12Left_l1 x0 x1 z5 K21 m y14 y17 = some r) _ ⟨([] : List Int), 0, v10, undef, undef, W10, rfl, Le.refl _ _, rfl, o10, hm⟩ ?_
 rintro (_ | m22) _ _ σ ⟨y14, y17, v15, j18, j19, W20, rfl, l20, rfl, o16, hm⟩
 ·cases hm
 unfold Vm.spec_l12Left_l1 at hm
 have a23 := a11.t l20
 have o24 := (f7_0.up l10).up l20
 refine ssr (mi rfl (mv v0_7 rfl (Lw.ln z5 o24.rd rfl (Lw.lt rfl (nl (cn hm (fun hm => ?_) fun hm => ?_))))))
 ·refine sk ?_
  obtain ⟨K33, hK33, hm⟩ := jn_e hm
  refine Cw.join 22 50 [8, 10, 11] (fun l w => ∃ y27 v28 j30 j31 W32, CW.w W32 = w ∧ Le [4] W20 W32 ∧ l = [v28, j30, j31] ∧ Ow W32 4 [] [v28] y27 ∧ K33 y27 = some r) ?_ ?_
  ·rintro _ _ σ ⟨y27, v28, j30, j31, W32, rfl, l32, rfl, o29, hm⟩
   rw [hK33] at hm
   exact rg (mi rfl (Lw.add rfl (Ni rfl ((agm) ⟨y27, w64 (y17 + 1), v28, j30, j31, W32, rfl, (l20.j l32).w, rfl, o29, hm⟩))))
  ·refine Cw.block (sr (Nb rfl (ssr (Ni rfl (Cw.block ?_)))))
   obtain ⟨K40, hK40, hm⟩ := jn_e hm
   refine Cw.loop 22 42 [10, 11] (fun m l w => ∃ y37 y38 W39, CW.w W39 = w ∧ Le [] W20 W39 ∧ l = [vB y37, vI y38] ∧ Vm.spec_l12Left_l2 x0 x1 z5 y17 K40 m y37 y38 = some r) _ ⟨true, 0, W20, rfl, Le.refl _ _, rfl, hm⟩ ?_
   rintro (_ | m41) _ _ σ ⟨y37, y38, W39, rfl, l39, rfl, hm⟩
   ·cases hm
   unfold Vm.spec_l12Left_l2 at hm
   have a42 := a23.n l39
   have o43 := o24.up l39
   refine ssr (mi rfl (mv v1_ rfl (Lw.ln x1 (h1.ul a42) rfl (Lw.lt rfl (nl (cn hm (fun hm => ?_) fun hm => ?_))))))
   ·refine sk (Cw.seq (Cw.block (Cw.draw [] [(0, 0), (1, 0), (2, 1), (3, 0), (4, 0), (5, 0), (6, 1), (8, 0), (9, 0), (10, 0), (11, 1), (7, 2), (12, 2), (13, 0), (14, 0), (15, 0)] mixed (by kernel_rfl) fun W48 l48 => ?_)))
    have a49 := a42.n l48
    have o50 := o43.up l48
    refine Db rfl (Db rfl (bs hm (fun hc53 hm => ?_) fun hc53 hm => ?_))
    ·refine Wq hc53 rfl (fun _ c => R.lda (cs := [v0_0_, v0_1_]) ((((((b1.up l7).up l10).up l20).up l39).up l48).clcs rfl c) rfl rfl) (Wp hc53 rfl (fun _ => R.mv (v := v1_) rfl) (Wp hc53 rfl (fun _ => R.mv (v := vI y38) rfl) ?_))
     obtain ⟨u54, e55, hm⟩ := ob hm
     refine Wp hc53 rfl (fun _ => R.ix (α := Int) (h1.ul a49) e55 rfl rfl rfl) (Wq hc53 rfl (fun _ c => R.ld rfl rfl (cl_cell ((h1.ul a49).at_ e55).1 rfl ((h1.ul a49).at_ e55).int c)) (Wp hc53 rfl (fun _ => R.mv (v := v0_7) rfl) (Wp hc53 rfl (fun _ => R.mv (v := vI y17) rfl) ?_)))
     obtain ⟨u57, e58, hm⟩ := ob hm
     refine Wp hc53 rfl (fun _ => R.ix (α := Int) o50.rd e58 rfl rfl rfl) (Wq hc53 rfl (fun _ c => R.ld rfl rfl (cl_cell (o50.rd.at_ e58).1 rfl (o50.rd.at_ e58).int c)) ?_)
     obtain ⟨z61, e62, hm⟩ := ob hm
     refine Wt hc53 rfl (T.call rfl (p106 (k0 := 5) (Repo.rd (K := [0]) x0.Commits x0.Heads (h0_0.ul a49) (h0_1.ul a49)) e62)) ?_
     rintro v0_63 _ ⟨W63, rfl, l63, ⟨_, rfl, f63_0⟩⟩
     refine m0 l63 fun d63 => ?_
     obtain ⟨z68, e69, hm⟩ := ob hm
     refine Wt hc53 rfl (T.call rfl (p172 (K := [5])  f63_0.rd e69)) ?_
     rintro _ _ ⟨W70, rfl, l70, rfl⟩
     exact mc d63 l70 fun d70 => Wp hc53 rfl (fun _ => R.not rfl) (Mw.p rfl rfl (fun _ => R.pk hc53 rfl (v := vB (!z68)) rfl) (Hb rfl (Mw.nil (rg (mi rfl (Lw.add rfl (Ni rfl ((agm) ⟨(!z68), w64 (y38 + 1), W70, rfl, (((l39.j l48).j l63).j l70).w, rfl, hm⟩))))))))
    ·exact dps 12 hc53 rfl (Mw.p rfl rfl (fun _ => R.pk hc53 rfl (v := vB false) rfl) (Hb rfl (Mw.nil (rg (mi rfl (Lw.add rfl (Ni rfl ((agm) ⟨false, w64 (y38 + 1), W48, rfl, (l39.j l48).w, rfl, hm⟩))))))))
   ·refine Cw.exit ?_
    rw [hK40] at hm
    refine sr (mb rfl (nl (cn hm (fun hm => ?_) fun hm => ?_)))
    ·refine rg (mv v15 rfl (mv v0_7 rfl (mi rfl ?_)))
     obtain ⟨u77, e78, hm⟩ := ob hm
     refine Lw.r rfl (R.ix (α := Int) o43.rd e78 rfl rfl rfl) (Lw.r rfl (R.ld rfl rfl (o43.rd.at_ e78).int) (Lw.t rfl (T.bs 6 [vI u77] (cs := [vI u77]) rfl rfl (bsv rfl)) ?_))
     rintro _ _ ⟨g79, W79, rfl, rfl, l79, b79⟩
     obtain ⟨q84, e85, hm⟩ := ob hm
     refine Lw.t rfl (T.app1S (α := Int) (K' := []) ((o16.up l39).up l79) b79 (rdI _) rfl rfl e85) ?_
     rintro v86 _ ⟨W86, rfl, l86, o86⟩
     exact Nv v86 rfl ((ag) ⟨q84, v86, vB y37, vI y38, W86, rfl, ((l39.j l79).j l86).w, rfl, o86, hm⟩)
    ·exact sk ((ag) ⟨y14, v15, vB y37, vI y38, W39, rfl, l39.w, rfl, (o16.up l39), hm⟩)
 ·refine Cw.exit ?_
  rw [hK21] at hm
  refine sr (mv v15 rfl (Nv v15 rfl ?_))
  cases hm
  exact Cw.ret (ret1 rfl (Res.mk a23 ⟨v15, rfl, o16.s.sub rfl rfl⟩))

theorem p154 {x0 v0_0_ v0_1_ x1 v1_ x2 k0 r} (h0 : Rd W K [v0_0_, v0_1_] x0) (h1 : Rd W K [v1_] x1) (hm : Vm.spec_l12Left x0 x1 x2 = some r) : Q1 154 [.agg [v0_0_, v0_1_].toArray, v1_, vI x2] W [] fun W' v => ∃ u0, v = u0 ∧ Ow W' k0 [] [u0] r :=
 (c154 (h0.view _) (h1.view _) hm).ad (fk k0) fun _ _ ⟨u0, e, f0⟩ => ⟨u0, e, f0.back (fk_LL _)⟩

theorem c118 {x0 v0_0_ v0_1_ x1 v1_ x2 r} (h0 : Rd W0 [0] [v0_0_, v0_1_] x0) (h1 : Rd W0 [0] [v1_] x1) (hm : Vm.spec_l15New x0 x1 x2 = some r) : Q0 118 [.agg [v0_0_, v0_1_].toArray, v1_, vI x2] W0 fun Wf v => ∃ u0, v = u0 ∧ OwS Wf LL [] [u0] r := by
 unfold Vm.spec_l15New at hm
 obtain ⟨w0_0, w0_1, he0, h0_0, h0_1⟩ := Repo.split h0
 simp only [List.cons.injEq, and_true, true_and] at he0
 obtain ⟨rfl, rfl⟩ := he0
 refine CallR.of Tryz.func118 rfl rfl rfl rfl (sr (bo 2 rfl fun g1 W1 l1 b1 => ?_))
 have a2 := l1.o
 refine Nv (.slice none 0 0) rfl (sr (la b1 (mv v1_ rfl (mi rfl (cr hm (fun _ => p154 (k0 := 3) (Repo.rd (K := [0]) x0.Commits x0.Heads (h0_0.ul a2) (h0_1.ul a2)) (h1.ul a2)) ?_)))))
 rintro z6 v0_8 W8 hm l8 ⟨_, rfl, f8_0⟩
 have a9 := a2.n l8
 refine Nv v0_8 rfl ?_
 cases hm
 exact Cw.ret (ret1 rfl (Res.mk a9 ⟨v0_8, rfl, f8_0.s.sub rfl rfl⟩))

theorem p118 {x0 v0_0_ v0_1_ x1 v1_ x2 k0 r} (h0 : Rd W K [v0_0_, v0_1_] x0) (h1 : Rd W K [v1_] x1) (hm : Vm.spec_l15New x0 x1 x2 = some r) : Q1 118 [.agg [v0_0_, v0_1_].toArray, v1_, vI x2] W [] fun W' v => ∃ u0, v = u0 ∧ Ow W' k0 [] [u0] r :=
 (c118 (h0.view _) (h1.view _) hm).ad (fk k0) fun _ _ ⟨u0, e, f0⟩ => ⟨u0, e, f0.back (fk_LL _)⟩

theorem c120 {x0 v0_ x1 r} (h0 : Rd W0 [0] [v0_] x0) (hm : Vm.spec_l14Place x0 x1 = some r) : Q0 120 [v0_, vI x1] W0 fun Wf v => v = vI r := by
 unfold Vm.spec_l14Place at hm
 refine CallR.of Tryz.func120 rfl rfl rfl rfl (sr (Ni rfl (ssr (Ni rfl (Cw.block ?_)))))
 obtain ⟨K4, hK4, hm⟩ := jn_e hm
 refine Cw.loop 6 18 [4, 5] (fun m l w => ∃ y1 y2 W3, CW.w W3 = w ∧ Le [] W0 W3 ∧ l = [vI y1, vI y2] ∧ Vm.spec_l14Place_l1 x0 x1 K4 m y1 y2 = some r) _ ⟨0, 0, W0, rfl, Le.refl _ _, rfl, hm⟩ ?_
 rintro (_ | m5) _ _ σ ⟨y1, y2, W3, rfl, l3, rfl, hm⟩
 ·cases hm
 unfold Vm.spec_l14Place_l1 at hm
 have a6 := l3.o
 refine ssr ?_
 have s7 := h0.ul a6
 refine mi rfl (mv v0_ rfl (Lw.ln x0 s7 rfl (Lw.lt rfl (nl (cn hm (fun hm => ?_) fun hm => ?_)))))
 ·refine sk (Cw.seq (Cw.block (sr (mv v0_ rfl (mi rfl ?_)))))
  obtain ⟨u9, e10, hm⟩ := ob hm
  refine Lw.r rfl (R.ix (α := Int) s7 e10 rfl rfl rfl) (Lw.r rfl (R.ld rfl rfl (s7.at_ e10).int) (mi rfl (Lw.eq rfl (nl (cn hm (fun hm => ?_) fun hm => ?_)))))
  ·exact sr (mi rfl (Ni rfl (.ret (rt hm a6))))
  ·exact sk (rg (mi rfl (Lw.add rfl (Ni rfl ((agm) ⟨y1, w64 (y2 + 1), W3, rfl, l3, rfl, hm⟩)))))
 ·refine Cw.exit ?_
  rw [hK4] at hm
  exact sr (Ni rfl (.ret (rt hm a6)))

theorem p120 {x0 v0_ x1 r} (h0 : Rd W K [v0_] x0) (hm : Vm.spec_l14Place x0 x1 = some r) : Q1 120 [v0_, vI x1] W [] fun W' v => v = vI r :=
 (c120 (h0.view _) hm).ad (fk 0) fun _ _ e => e

theorem c45 {x0 v0_0_ v0_1_ x1 v1_ x2 r} (h0 : Rd W0 [0] [v0_0_, v0_1_] x0) (h1 : Rd W0 [0] [v1_] x1) (hm : Vm.spec_SendOf x0 x1 x2 = some r) : Q0 45 [.agg [v0_0_, v0_1_].toArray, v1_, vI x2] W0 fun Wf v => ∃ u0, v = .tuple [u0, vB r.2].toArray ∧ OwS Wf LL [] [u0] r.1 := by
 unfold Vm.spec_SendOf at hm
 obtain ⟨w0_0, w0_1, he0, h0_0, h0_1⟩ := Repo.split h0
 simp only [List.cons.injEq, and_true, true_and] at he0
 obtain ⟨rfl, rfl⟩ := he0
 refine CallR.of Tryz.func45 rfl rfl rfl rfl (sr (bo 2 rfl fun g1 W1 l1 b1 => ?_))
 have a2 := l1.o
 refine Gv (.slice none 0 0) rfl (Nb rfl (sr (Lw.t rfl (T.lit0 (α := Commit) 3 []) ?_)))
 rintro v3 _ ⟨W3, rfl, l3, o3⟩
 have a4 := a2.n l3
 have b5 := b1.up l3
 refine Nv v3 rfl (Cw.seq ?_)
 obtain ⟨K8, hK8, hm⟩ := jn_e hm
 refine Cw.join 16 33 [33] (fun l w => ∃ y6 W7, CW.w W7 = w ∧ Le [] W3 W7 ∧ l = [vB y6] ∧ K8 y6 = some r) ?_ ?_
 ·rintro _ _ σ ⟨y6, W7, rfl, l7, rfl, hm⟩
  rw [hK8] at hm
  have a9 := a4.n l7
  refine cn hm (fun hm => ?_) fun hm => ?_
  ·refine sr (Gv (.slice none 0 0) rfl (Nb rfl ?_))
   cases hm
   exact Cw.ret (ret2 rfl rfl (Res.mk a9 ⟨.slice none 0 0, rfl, (owsN []).sub rfl rfl⟩))
  ·refine sk (sr (la (b5.up l7) (mv v1_ rfl (mi rfl (cr hm (fun _ => p118 (k0 := 4) (Repo.rd (K := [0]) x0.Commits x0.Heads (h0_0.ul a9) (h0_1.ul a9)) (h1.ul a9)) ?_)))))
   rintro z16 v0_18 W18 hm l18 ⟨_, rfl, f18_0⟩
   have a19 := a9.n l18
   refine Nv v0_18 rfl (ssr (Ni rfl (Cw.block ?_)))
   obtain ⟨K35, hK35, hm⟩ := jn_e hm
   refine Cw.loop 38 96 [6, 7, 8, 10, 11, 12, 13, 14] (fun m l w => ∃ y22 y25 y26 y29 v23 v27 j30 j31 j32 j33 W34, CW.w W34 = w ∧ Le [3, 6, 7, 8] W18 W34 ∧ l = [v23, vB y25, v27, vI y29, j30, j31, j32, j33] ∧ Ow W34 5 [] [v23] y22 ∧ Ow W34 3 [] [v27] y26 ∧ Vm.spec_SendOf_l1 x0 x1 z16 K35 m y22 y25 y26 y29 = some r) _ ⟨([] : List Commit), false, ([] : List Commit), 0, .slice none 0 0, v3, undef, undef, undef, undef, W18, rfl, Le.refl _ _, rfl, owN 5 [], ((o3.up l7).up l18), hm⟩ ?_
   rintro (_ | m36) _ _ σ ⟨y22, y25, y26, y29, v23, v27, j30, j31, j32, j33, W34, rfl, l34, rfl, o24, o28, hm⟩
   ·cases hm
   unfold Vm.spec_SendOf_l1 at hm
   have a37 := a19.t l34
   refine ssr (mi rfl (mv v0_18 rfl (Lw.ln z16 (f18_0.up l34).rd rfl (Lw.lt rfl (nl (cn hm (fun hm => ?_) fun hm => ?_))))))
   ·refine sk (Cw.seq (Cw.block (Cw.seq ?_)))
    obtain ⟨u47, e48, hm⟩ := ob hm
    obtain ⟨u49, e50, hm⟩ := ob hm
    obtain ⟨z59, e60, hm⟩ := ob hm
    refine Cw.par [[], [0], [], [], [2, 3], [2, 3, 4], [0, 1, 2, 3, 4, 5], [0, 1, 2, 3, 4, 5, 6], [0, 1, 2, 3, 4, 5, 6, 7], [], [0, 1, 2, 3, 4, 5, 6, 7, 8, 9]] [[], [0], [], [], [2, 3], [4], [1, 5], [6], [7], [], [8, 9]] [[], [], [], [], [], [], [], [], [], [], [8]] [[0], [1], [2], [3], [4], [5], [6], [7], [8], [9], [8, 9]] [[], [], [], [], [], [], [], [0], [6, 7], [8], [8]] [0, 1, 2, 3, 4, 5, 6, 7, 8, 10] [8] [fun vs W => (vs 0) = ptr ((bx g1).add 0), fun vs W => (vs 1) = v0_0_, fun vs W => (vs 2) = v0_18, fun vs W => (vs 3) = vI y29, fun vs W => (vs 4) = ptr ((slA v0_18).add ((y29).toNat * Rp.sz (Int))), fun vs W => (vs 5) = vI u47, fun vs W => (vs 6) = ptr ((slA v0_0_).add ((u47).toNat * Rp.sz (Commit))), fun vs W => (vs 7) = .agg [(cellOf (vs 7) 0), vS u49.Who, (cellOf (vs 7) 2)].toArray ∧ Rd W [0] [(cellOf (vs 7) 0)] u49.Parents ∧ Rd W [0] [(cellOf (vs 7) 2)] u49.Tree, fun vs W => (vs 8) = .agg [(cellOf (vs 8) 0), vS z59.Who, (cellOf (vs 8) 2)].toArray ∧ Ow W 6 [] [(cellOf (vs 8) 0)] z59.Parents ∧ Ow W 7 [] [(cellOf (vs 8) 2)] z59.Tree, fun vs W => (vs 9) = ptr (bx (pg (vs 9))) ∧ Bx W 8 (pg (vs 9)) [.slice none 0 0, vS ([] : Str), .slice none 0 0], fun vs W => (vs 9) = ptr (bx (pg (vs 9))) ∧ Bx W 8 (pg (vs 9)) [(cellOf (vs 8) 0), vS z59.Who, (cellOf (vs 8) 2)]] [] mixed (by kernel_rfl) rfl AllF.nil ?_
    intro W83 l83
    have a84 := a37.n l83
    have o86 := (f18_0.up l34).up l83
    refine ⟨(Steps.cons ?_ (Steps.cons ?_ (Steps.cons ?_ (Steps.cons ?_ (Steps.cons ?_ (Steps.cons ?_ (Steps.cons ?_ (Steps.cons ?_ (Steps.cons ?_ (Steps.cons ?_ (Steps.cons ?_ Steps.nil))))))))))), (Sups.cons (fun vs vs' W W' _ hv l hd h => by (show (vs' 0) = ptr ((bx g1).add 0)); rw [hv 0 (anyb rfl)]; exact h) (Sups.cons (fun vs vs' W W' _ hv l hd h => by (show (vs' 1) = v0_0_); rw [hv 1 (anyb rfl)]; exact h) (Sups.cons (fun vs vs' W W' _ hv l hd h => by (show (vs' 2) = v0_18); rw [hv 2 (anyb rfl)]; exact h) (Sups.cons (fun vs vs' W W' _ hv l hd h => by (show (vs' 3) = vI y29); rw [hv 3 (anyb rfl)]; exact h) (Sups.cons (fun vs vs' W W' _ hv l hd h => by (show (vs' 4) = ptr ((slA v0_18).add ((y29).toNat * Rp.sz (Int)))); rw [hv 4 (anyb rfl)]; exact h) (Sups.cons (fun vs vs' W W' _ hv l hd h => by (show (vs' 5) = vI u47); rw [hv 5 (anyb rfl)]; exact h) (Sups.cons (fun vs vs' W W' _ hv l hd h => by (show (vs' 6) = ptr ((slA v0_0_).add ((u47).toNat * Rp.sz (Commit)))); rw [hv 6 (anyb rfl)]; exact h) (Sups.cons (fun vs vs' W W' _ hv l hd h => by (show (vs' 7) = .agg [(cellOf (vs' 7) 0), vS u49.Who, (cellOf (vs' 7) 2)].toArray ∧ Rd W' [0] [(cellOf (vs' 7) 0)] u49.Parents ∧ Rd W' [0] [(cellOf (vs' 7) 2)] u49.Tree); rw [hv 7 (anyb rfl)]; exact ⟨h.1, h.2.1.up l (disj_sub hd (K := [0]) rfl), h.2.2.up l (disj_sub hd (K := [0]) rfl)⟩) (Sups.cons (fun vs vs' W W' _ hv l hd h => by (show (vs' 8) = .agg [(cellOf (vs' 8) 0), vS z59.Who, (cellOf (vs' 8) 2)].toArray ∧ Ow W' 6 [] [(cellOf (vs' 8) 0)] z59.Parents ∧ Ow W' 7 [] [(cellOf (vs' 8) 2)] z59.Tree); rw [hv 8 (anyb rfl)]; exact ⟨h.1, h.2.1.upv l (disj_mem hd (c := 6) rfl), h.2.2.upv l (disj_mem hd (c := 7) rfl)⟩) (Sups.cons (fun vs vs' W W' _ hv l hd h => by (show (vs' 9) = ptr (bx (pg (vs' 9))) ∧ Bx W' 8 (pg (vs' 9)) [.slice none 0 0, vS ([] : Str), .slice none 0 0]); rw [hv 9 (anyb rfl)]; exact ⟨h.1, h.2.up l (disj_mem hd (c := 8) rfl)⟩) (Sups.cons (fun vs vs' W W' _ hv l hd h => by (show (vs' 9) = ptr (bx (pg (vs' 9))) ∧ Bx W' 8 (pg (vs' 9)) [(cellOf (vs' 8) 0), vS z59.Who, (cellOf (vs' 8) 2)]); rw [hv 8 (anyb rfl), hv 9 (anyb rfl)]; exact ⟨h.1, h.2.up l (disj_mem hd (c := 8) rfl)⟩) Sups.nil))))))))))), ?_⟩
    ·intro vs W lW hN
     obtain ⟨W89, hW89⟩ : ∃ X, X = W := ⟨W, rfl⟩
     subst hW89
     refine Tr.mono (Run.tr (R.fa rfl)) ?_
     rintro _ _ ⟨hu, rfl⟩
     obtain rfl := hu.symm
     exact ⟨W89, rfl, Le.refl _ _, (show (ptr ((bx g1).add 0) : Value) = ptr ((bx g1).add 0) from rfl)⟩
    ·intro vs W lW hN
     obtain ⟨W95, hW95⟩ : ∃ X, X = W := ⟨W, rfl⟩
     subst hW95
     have e0_ : vs 0 = ptr ((bx g1).add 0) := (hN 0 (anyb rfl))
     obtain ⟨vs, rfl⟩ := up_eq e0_
     refine Tr.mono (Run.tr (R.ld (v := v0_0_) rfl rfl ((((((b5.up l7).up l18).up l34).up l83).up lW rfl).cell rfl))) ?_
     rintro _ _ ⟨hu, rfl⟩
     obtain rfl := hu.symm
     exact ⟨W95, rfl, Le.refl _ _, (show (v0_0_ : Value) = v0_0_ from rfl)⟩
    ·intro vs W lW hN
     obtain ⟨W101, hW101⟩ : ∃ X, X = W := ⟨W, rfl⟩
     subst hW101
     refine Tr.mono (Run.tr (R.mv (v := v0_18) rfl)) ?_
     rintro _ _ ⟨hu, rfl⟩
     obtain rfl := hu.symm
     exact ⟨W101, rfl, Le.refl _ _, (show (v0_18 : Value) = v0_18 from rfl)⟩
    ·intro vs W lW hN
     obtain ⟨W107, hW107⟩ : ∃ X, X = W := ⟨W, rfl⟩
     subst hW107
     refine Tr.mono (Run.tr (R.mv (v := vI y29) rfl)) ?_
     rintro _ _ ⟨hu, rfl⟩
     obtain rfl := hu.symm
     exact ⟨W107, rfl, Le.refl _ _, (show (vI y29 : Value) = vI y29 from rfl)⟩
    ·intro vs W lW hN
     obtain ⟨W113, hW113⟩ : ∃ X, X = W := ⟨W, rfl⟩
     subst hW113
     have e2_ : vs 2 = v0_18 := (hN 2 (anyb rfl))
     obtain ⟨vs, rfl⟩ := up_eq e2_
     have e3_ : vs 3 = vI y29 := (hN 3 (anyb rfl))
     obtain ⟨vs, rfl⟩ := up_eq e3_
     refine Tr.mono (Run.tr (R.ix (α := Int) (o86.up lW rfl).rd e48 rfl rfl rfl)) ?_
     rintro _ _ ⟨hu, rfl⟩
     obtain rfl := hu.symm
     exact ⟨W113, rfl, Le.refl _ _, (show (ptr ((slA v0_18).add ((y29).toNat * Rp.sz (Int))) : Value) = ptr ((slA v0_18).add ((y29).toNat * Rp.sz (Int))) from rfl)⟩
    ·intro vs W lW hN
     obtain ⟨W119, hW119⟩ : ∃ X, X = W := ⟨W, rfl⟩
     subst hW119
     have e4_ : vs 4 = ptr ((slA v0_18).add ((y29).toNat * Rp.sz (Int))) := (hN 4 (anyb rfl))
     obtain ⟨vs, rfl⟩ := up_eq e4_
     refine Tr.mono (Run.tr (R.ld rfl rfl ((o86.up lW rfl).rd.at_ e48).int)) ?_
     rintro _ _ ⟨hu, rfl⟩
     obtain rfl := hu.symm
     exact ⟨W119, rfl, Le.refl _ _, (show (vI u47 : Value) = vI u47 from rfl)⟩
    ·intro vs W lW hN
     obtain ⟨W125, hW125⟩ : ∃ X, X = W := ⟨W, rfl⟩
     subst hW125
     have a126 := a84.t lW rfl
     have e1_ : vs 1 = v0_0_ := (hN 1 (anyb rfl))
     obtain ⟨vs, rfl⟩ := up_eq e1_
     have e5_ : vs 5 = vI u47 := (hN 5 (anyb rfl))
     obtain ⟨vs, rfl⟩ := up_eq e5_
     refine Tr.mono (Run.tr (R.ix (α := Commit) (h0_0.ul a126) e50 rfl rfl rfl)) ?_
     rintro _ _ ⟨hu, rfl⟩
     obtain rfl := hu.symm
     exact ⟨W125, rfl, Le.refl _ _, (show (ptr ((slA v0_0_).add ((u47).toNat * Rp.sz (Commit))) : Value) = ptr ((slA v0_0_).add ((u47).toNat * Rp.sz (Commit))) from rfl)⟩
    ·intro vs W lW hN
     obtain ⟨W132, hW132⟩ : ∃ X, X = W := ⟨W, rfl⟩
     subst hW132
     have a133 := a84.t lW rfl
     have e6_ : vs 6 = ptr ((slA v0_0_).add ((u47).toNat * Rp.sz (Commit))) := (hN 6 (anyb rfl))
     obtain ⟨vs, rfl⟩ := up_eq e6_
     obtain ⟨x139, c140, _, r141⟩ := ((h0_0.ul a133).at_ e50).cells
     obtain ⟨v142, v144, rfl, r143, r145⟩ := Commit.split r141
     refine Tr.mono (Run.tr (R.lda c140 rfl rfl)) ?_
     rintro _ _ ⟨hu, rfl⟩
     obtain rfl := hu.symm
     exact ⟨W132, rfl, Le.refl _ _, (show (.agg [v142, vS u49.Who, v144].toArray : Value) = .agg [v142, vS u49.Who, v144].toArray ∧ Rd W132 [0] [v142] u49.Parents ∧ Rd W132 [0] [v144] u49.Tree from ⟨rfl, r143, r145⟩)⟩
    ·intro vs W lW hN
     obtain ⟨W146, hW146⟩ : ∃ X, X = W := ⟨W, rfl⟩
     subst hW146
     obtain ⟨pc7_0, pc7_2, e7_⟩ : ∃ pc7_0 pc7_2 : Value, vs 7 = .agg [pc7_0, vS u49.Who, pc7_2].toArray := ⟨_, _, (hN 7 (anyb rfl)).1⟩
     obtain ⟨vs, rfl⟩ := up_eq e7_
     have o152 : Rd W146 [0] [pc7_0] u49.Parents := (hN 7 (anyb rfl)).2.1
     have o153 : Rd W146 [0] [pc7_2] u49.Tree := (hN 7 (anyb rfl)).2.2
     refine Tr.mono (T.call rfl (p119 (k0 := 6) (k1 := 7) (Commit.rd (K := [0]) u49.Parents u49.Who u49.Tree o152 o153) e60)) ?_
     rintro _ _ ⟨W154, rfl, l154, ⟨v0_0_154, v0_2_154, rfl, f154_0, f154_1⟩⟩
     exact ⟨W154, rfl, l154, (show (.agg [v0_0_154, vS z59.Who, v0_2_154].toArray : Value) = .agg [v0_0_154, vS z59.Who, v0_2_154].toArray ∧ Ow W154 6 [] [v0_0_154] z59.Parents ∧ Ow W154 7 [] [v0_2_154] z59.Tree from ⟨rfl, f154_0, f154_1⟩)⟩
    ·intro vs W lW hN
     obtain ⟨W160, hW160⟩ : ∃ X, X = W := ⟨W, rfl⟩
     subst hW160
     refine Tr.mono (T.alloc 8 (cs := [.slice none 0 0, vS ([] : Str), .slice none 0 0]) rfl) ?_
     rintro _ _ ⟨g166, W166, rfl, rfl, l166, b166⟩
     exact ⟨W166, rfl, l166, (show (ptr (bx g166) : Value) = ptr (bx g166) ∧ Bx W166 8 g166 [.slice none 0 0, vS ([] : Str), .slice none 0 0] from ⟨rfl, b166⟩)⟩
    ·intro vs W lW hN
     obtain ⟨W172, hW172⟩ : ∃ X, X = W := ⟨W, rfl⟩
     subst hW172
     obtain ⟨pc8_0, pc8_2, e8_⟩ : ∃ pc8_0 pc8_2 : Value, vs 8 = .agg [pc8_0, vS z59.Who, pc8_2].toArray := ⟨_, _, (hN 8 (anyb rfl)).1⟩
     obtain ⟨vs, rfl⟩ := up_eq e8_
     have o178 : Ow W172 6 [] [pc8_0] z59.Parents := (hN 8 (anyb rfl)).2.1
     have o179 : Ow W172 7 [] [pc8_2] z59.Tree := (hN 8 (anyb rfl)).2.2
     obtain ⟨pg9, e9_⟩ : ∃ pg9, vs 9 = ptr (bx pg9) := ⟨_, ((hN 9 (anyb rfl))).1⟩
     obtain ⟨vs, rfl⟩ := up_eq e9_
     have o180 : Bx W172 8 pg9 [.slice none 0 0, vS ([] : Str), .slice none 0 0] := (hN 9 (anyb rfl)).2
     refine Tr.mono (T.sta (vs := [pc8_0, vS z59.Who, pc8_2]) o180 rfl rfl (oc_cons o178.oc (oc_cons rfl (oc_cons o179.oc oc_nil))) rfl rfl) ?_
     rintro _ _ ⟨W181, rfl, l181, b181⟩
     exact ⟨W181, rfl, l181, (show (ptr (bx pg9)) = ptr (bx pg9) ∧ Bx W181 8 pg9 [pc8_0, vS z59.Who, pc8_2] from ⟨rfl, b181⟩)⟩
    ·intro vs W lW hN
     obtain ⟨W189, hW189⟩ : ∃ X, X = W := ⟨W, rfl⟩
     subst hW189
     have a190 := a84.t lW rfl
     obtain ⟨l189, hl189⟩ : ∃ x, x = lW := ⟨lW, rfl⟩
     have e0_ : vs 0 = ptr ((bx g1).add 0) := (hN 0 (anyb rfl))
     obtain ⟨vs, rfl⟩ := up_eq e0_
     have e1_ : vs 1 = v0_0_ := (hN 1 (anyb rfl))
     obtain ⟨vs, rfl⟩ := up_eq e1_
     have e2_ : vs 2 = v0_18 := (hN 2 (anyb rfl))
     obtain ⟨vs, rfl⟩ := up_eq e2_
     have e3_ : vs 3 = vI y29 := (hN 3 (anyb rfl))
     obtain ⟨vs, rfl⟩ := up_eq e3_
     have e4_ : vs 4 = ptr ((slA v0_18).add ((y29).toNat * Rp.sz (Int))) := (hN 4 (anyb rfl))
     obtain ⟨vs, rfl⟩ := up_eq e4_
     have e5_ : vs 5 = vI u47 := (hN 5 (anyb rfl))
     obtain ⟨vs, rfl⟩ := up_eq e5_
     have e6_ : vs 6 = ptr ((slA v0_0_).add ((u47).toNat * Rp.sz (Commit))) := (hN 6 (anyb rfl))
     obtain ⟨vs, rfl⟩ := up_eq e6_
     obtain ⟨pc7_0, pc7_2, e7_⟩ : ∃ pc7_0 pc7_2 : Value, vs 7 = .agg [pc7_0, vS u49.Who, pc7_2].toArray := ⟨_, _, (hN 7 (anyb rfl)).1⟩
     obtain ⟨vs, rfl⟩ := up_eq e7_
     have o195 : Rd W189 [0] [pc7_0] u49.Parents := (hN 7 (anyb rfl)).2.1
     have o196 : Rd W189 [0] [pc7_2] u49.Tree := (hN 7 (anyb rfl)).2.2
     obtain ⟨pc8_0, pc8_2, e8_⟩ : ∃ pc8_0 pc8_2 : Value, vs 8 = .agg [pc8_0, vS z59.Who, pc8_2].toArray := ⟨_, _, (hN 8 (anyb rfl)).1⟩
     obtain ⟨vs, rfl⟩ := up_eq e8_
     have o197 : Ow W189 6 [] [pc8_0] z59.Parents := (hN 8 (anyb rfl)).2.1
     have o198 : Ow W189 7 [] [pc8_2] z59.Tree := (hN 8 (anyb rfl)).2.2
     obtain ⟨pg9, e9_⟩ : ∃ pg9, vs 9 = ptr (bx pg9) := ⟨_, (hN 10 (anyb rfl)).1⟩
     obtain ⟨vs, rfl⟩ := up_eq e9_
     have o199 : Bx W189 8 pg9 [pc8_0, vS z59.Who, pc8_2] := (hN 10 (anyb rfl)).2
     refine ssr (Ni rfl (Cw.block ?_))
     obtain ⟨K210, hK210, hm⟩ := jn_e hm
     refine Cw.loop 53 92 [6, 7, 12, 13, 14] (fun m l w => ∃ y200 y203 y204 y207 v201 j205 j206 W209, CW.w W209 = w ∧ Le [6] W189 W209 ∧ l = [v201, vB y203, vI y204, j205, j206] ∧ Ow W209 5 [] [v201] y200 ∧ Ow W209 6 [] [pc8_0] y207 ∧ Vm.spec_SendOf_l2 x1 z16 K210 m y200 y203 y204 y207 = some r) _ ⟨y22, y25, 0, z59.Parents, v23, j32, j33, W189, rfl, Le.refl _ _, rfl, ((o24.up l83).up lW rfl), o197, hm⟩ ?_
     rintro (_ | m211) _ _ σ ⟨y200, y203, y204, y207, v201, j205, j206, W209, rfl, l209, rfl, o202, o208, hm⟩
     ·cases hm
     unfold Vm.spec_SendOf_l2 at hm
     have a212 := a190.t l209
     have b217 := o199.up l209
     refine ssr (mi rfl (fl b217 rfl (Lw.ln y207 o208.rd rfl (Lw.lt rfl (nl (cn hm (fun hm => ?_) fun hm => ?_))))))
     ·refine sk ?_
      obtain ⟨K228, hK228, hm⟩ := jn_e hm
      refine Cw.join 60 92 [6, 7, 13, 14] (fun l w => ∃ y219 y222 y225 v220 j223 j224 W227, CW.w W227 = w ∧ Le [6] W209 W227 ∧ l = [v220, vB y222, j223, j224] ∧ Ow W227 5 [] [v220] y219 ∧ Ow W227 6 [] [pc8_0] y225 ∧ K228 y219 y222 y225 = some r) ?_ ?_
      ·rintro _ _ σ ⟨y219, y222, y225, v220, j223, j224, W227, rfl, l227, rfl, o221, o226, hm⟩
       rw [hK228] at hm
       exact rg (mi rfl (Lw.add rfl (Ni rfl ((agm) ⟨y219, y222, w64 (y204 + 1), y225, v220, j223, j224, W227, rfl, (l209.j l227).w, rfl, o221, o226, hm⟩))))
      ·refine Cw.block (sr (mv v0_18 rfl (fl b217 rfl (mi rfl ?_))))
       obtain ⟨u235, e236, hm⟩ := ob hm
       refine Lw.r rfl (R.ix (α := Int) o208.rd e236 rfl rfl rfl) (Lw.r rfl (R.ld rfl rfl (o208.rd.at_ e236).int) (ca hm (fun _ => p120 (K := [4]) ((o86.up lW rfl).up l209).rd) fun z237 W239 hm l239 => ?_))
       have a240 := a212.n l239
       have o244 := o208.up l239
       refine Ni rfl (sr (mv v1_ rfl (fl (b217.up l239) rfl (mi rfl ?_))))
       obtain ⟨u248, e249, hm⟩ := ob hm
       refine Lw.r rfl (R.ix (α := Int) o244.rd e249 rfl rfl rfl) (Lw.r rfl (R.ld rfl rfl (o244.rd.at_ e249).int) (ca hm (fun _ => p120 (h1.ul a240)) fun z251 W253 hm l253 => ?_))
       have a254 := a240.n l253
       refine Ni rfl (Cw.seq ?_)
       obtain ⟨K264, hK264, hm⟩ := jn_e hm
       refine Cw.join 74 79 [79] (fun l w => ∃ y262 W263, CW.w W263 = w ∧ Le [] W253 W263 ∧ l = [vB y262] ∧ K264 y262 = some r) ?_ ?_
       ·rintro _ _ σ ⟨y262, W263, rfl, l263, rfl, hm⟩
        rw [hK264] at hm
        have a265 := a254.n l263
        have o269 := (o244.up l253).up l263
        have b272 := ((b217.up l239).up l253).up l263
        refine cn hm (fun hm => ?_) fun hm => ?_
        ·refine sr (Gv (.slice none 0 0) rfl (Nb rfl ?_))
         cases hm
         exact Cw.ret (ret2 rfl rfl (Res.mk a265 ⟨.slice none 0 0, rfl, (owsN []).sub rfl rfl⟩))
        ·refine sk (sr (fl b272 rfl (mi rfl (mi rfl ?_))))
         obtain ⟨u274, e275, hm⟩ := ob hm
         refine Lw.r rfl (R.ix (α := Int) o269.rd e275 rfl rfl rfl) ?_
         obtain ⟨q277, e278, hm⟩ := ob hm
         refine Lw.u (T.stS (K' := []) o269 (rdI _) e278 rfl rfl rfl) ?_
         rintro _ _ ⟨W276, rfl, l276, o276⟩
         have o282 := (((o202.up l239).up l253).up l263).up l276
         refine nl (sr (mi rfl (Lw.lt rfl (nl (cn hm (fun hm => ?_) fun hm => ?_)))))
         ·refine rg (fl (b272.up l276) rfl (mi rfl (mi rfl (Lw.sub rfl ?_))))
          obtain ⟨u287, e288, hm⟩ := ob hm
          refine Lw.r rfl (R.ix (α := Int) o276.rd e288 rfl rfl rfl) ?_
          obtain ⟨q290, e291, hm⟩ := ob hm
          refine Lw.u (T.stS (K' := []) o276 (rdI _) e291 rfl rfl rfl) ?_
          rintro _ _ ⟨W289, rfl, l289, o289⟩
          exact nl ((ag) ⟨y200, y203, q290, v201, vI z237, vI z251, W289, rfl, ((((l239.j l253).j l263).j l276).j l289).w, rfl, (o282.up l289), o289, hm⟩)
         ·exact sk ((ag) ⟨y200, y203, q277, v201, vI z237, vI z251, W276, rfl, (((l239.j l253).j l263).j l276).w, rfl, o282, o276, hm⟩)
       ·refine rg (mi rfl (Lw.lt rfl (mb rfl (bs hm (fun hc299 hm => ?_) fun hc299 hm => ?_))))
        ·exact wak 2 hc299 (mi rfl (Lw.lt rfl (Pb hc299 rfl (nl ((ag) ⟨decide ((z251 : Int) < (0 : Int)), W253, rfl, Le.refl _ _, rfl, hm⟩)))))
        ·exact psk 2 hc299 rfl (Pb hc299 rfl (nl ((ag) ⟨false, W253, rfl, Le.refl _ _, rfl, hm⟩)))
     ·refine Cw.exit ?_
      rw [hK210] at hm
      refine rg (mv v27 rfl (la b217 (Lw.t rfl (T.bs 9 [.agg [pc8_0, vS z59.Who, pc8_2].toArray] (cs := [pc8_0, vS z59.Who, pc8_2]) rfl rfl (bsA rfl)) ?_)))
      rintro _ _ ⟨g300, W300, rfl, rfl, l300, b300⟩
      obtain ⟨q309, e310, hm⟩ := ob hm
      refine Lw.t rfl (T.app1 (α := Commit) (J := [6, 7]) (K' := []) ((((o28.up l83).up lW rfl).up l209).up l300) b300 (Commit.own y207 z59.Who z59.Tree (o208.up l300).s ((o198.up l209).up l300).s) rfl rfl e310) ?_
      rintro v311 _ ⟨W311, rfl, l311, o311⟩
      exact Nv v311 rfl (rg (mi rfl (Lw.add rfl (Ni rfl ((agm) ⟨y200, y203, q309, w64 (y29 + 1), v201, v311, ptr (bx pg9), vI y204, j205, j206, W311, rfl, (((((l34.j l83).j l189).j l209).j l300).j l311).w, rfl, ((o202.up l300).up l311), o311, hm⟩)))))
   ·refine Cw.exit ?_
    rw [hK35] at hm
    refine sr (mv v27 rfl (Gv v27 rfl (Nb rfl ?_)))
    cases hm
    exact Cw.ret (ret2 rfl rfl (Res.mk a37 ⟨v27, rfl, o28.s.sub rfl rfl⟩))
 ·refine rg (la b5 (ca hm (fun _ => p74 (Repo.rd (K := [0]) x0.Commits x0.Heads (h0_0.ul a4) (h0_1.ul a4))) fun z320 W322 hm l322 => ?_))
  have a323 := a4.n l322
  refine Lw.r rfl (R.not rfl) (mb rfl (bs hm (fun hc326 hm => ?_) fun hc326 hm => ?_))
  ·exact psk 4 hc326 rfl (Pb hc326 rfl (mb rfl (psk 7 rfl rfl (Pb rfl rfl (nl ((ag) ⟨true, W322, rfl, l322, rfl, hm⟩))))))
  ·refine wak 4 hc326 (la (b5.up l322) (mv v1_ rfl (ca hm (fun _ => p117 (Repo.rd (K := [0]) x0.Commits x0.Heads (h0_0.ul a323) (h0_1.ul a323)) (h1.ul a323)) fun z330 W332 hm l332 => ?_)))
   have a333 := a323.n l332
   refine Lw.r rfl (R.not rfl) (Pb hc326 rfl (mb rfl (bs hm (fun hc336 hm => ?_) fun hc336 hm => ?_)))
   ·exact psk 7 hc336 rfl (Pb hc336 rfl (nl ((ag) ⟨true, W332, rfl, (l322.j l332).w, rfl, hm⟩)))
   ·exact wak 7 hc336 (mi rfl (fl ((b5.up l322).up l332) rfl (Lw.ln x0.Commits (h0_0.ul a333) rfl (Lw.sub rfl (ca hm (fun _ => p84) fun z338 W340 hm l340 => Lw.r rfl (R.not rfl) (Pb hc336 rfl (nl ((ag) ⟨(!z338), W340, rfl, ((l322.j l332).j l340).w, rfl, hm⟩))))))))

theorem p45 {x0 v0_0_ v0_1_ x1 v1_ x2 k0 r} (h0 : Rd W K [v0_0_, v0_1_] x0) (h1 : Rd W K [v1_] x1) (hm : Vm.spec_SendOf x0 x1 x2 = some r) : Q1 45 [.agg [v0_0_, v0_1_].toArray, v1_, vI x2] W [] fun W' v => ∃ u0, v = .tuple [u0, vB r.2].toArray ∧ Ow W' k0 [] [u0] r.1 :=
 (c45 (h0.view _) (h1.view _) hm).ad (fk k0) fun _ _ ⟨u0, e, f0⟩ => ⟨u0, e, f0.back (fk_LL _)⟩

theorem c49 {x0 v0_0_ v0_2_ x1 v1_0_ v1_2_ r} (h0 : Rd W0 [0] [v0_0_, vS x0.Who, v0_2_] x0) (h1 : Rd W0 [0] [v1_0_, vS x1.Who, v1_2_] x1) (hm : Vm.laws_smCommit x0 x1 = some r) : Q0 49 [.agg [v0_0_, vS x0.Who, v0_2_].toArray, .agg [v1_0_, vS x1.Who, v1_2_].toArray] W0 fun Wf v => v = vB r := by
 unfold Vm.laws_smCommit at hm
 obtain ⟨w0_0, w0_1, he0, h0_0, h0_2⟩ := Commit.split h0
 simp only [List.cons.injEq, and_true, true_and] at he0
 obtain ⟨rfl, rfl⟩ := he0
 obtain ⟨w1_0, w1_1, he1, h1_0, h1_2⟩ := Commit.split h1
 simp only [List.cons.injEq, and_true, true_and] at he1
 obtain ⟨rfl, rfl⟩ := he1
 refine CallR.of Tryz.func49 rfl rfl rfl rfl (sr (bo 2 rfl fun g1 W1 l1 b1 => ?_))
 have a2 := l1.o
 refine bo 3 rfl fun g3 W3 l3 b3 => ?_
 have a4 := a2.n l3
 have b5 := b1.up l3
 refine Nb rfl ?_
 obtain ⟨K8, hK8, hm⟩ := jn_e hm
 refine Cw.join 5 23 [4] (fun l w => ∃ y6 W7, CW.w W7 = w ∧ Le [] W3 W7 ∧ l = [vB y6] ∧ K8 y6 = some r) ?_ ?_
 ·rintro _ _ σ ⟨y6, W7, rfl, l7, rfl, hm⟩
  rw [hK8] at hm
  have a9 := a4.n l7
  exact .ret (rt hm a9)
 ·refine rg (fl b5 rfl (fl b3 rfl (Lw.seq rfl (mb rfl (bs hm (fun hc12 hm => ?_) fun hc12 hm => ?_)))))
  ·refine wak 5 hc12 (fl b5 rfl (fl b3 rfl (ca hm (fun _ => p24 (h0_0.ul a4) (h1_0.ul a4)) fun z15 W17 hm l17 => ?_)))
   have a18 := a4.n l17
   refine Pb hc12 rfl (mb rfl (bs hm (fun hc21 hm => ?_) fun hc21 hm => ?_))
   ·exact wak 5 hc21 (fl (b5.up l17) rfl (fl (b3.up l17) rfl (ca hm (fun _ => p42 (h0_2.ul a18) (h1_2.ul a18)) fun z24 W26 hm l26 => Pb hc21 rfl (Nb rfl ((ag) ⟨z24, W26, rfl, (l17.j l26).w, rfl, hm⟩)))))
   ·exact psk 5 hc21 rfl (Pb hc21 rfl (Nb rfl ((ag) ⟨false, W17, rfl, l17, rfl, hm⟩)))
  ·exact psk 5 hc12 rfl (Pb hc12 rfl (mb rfl (psk 5 rfl rfl (Pb rfl rfl (Nb rfl ((ag) ⟨false, W3, rfl, Le.refl _ _, rfl, hm⟩))))))

theorem p49 {x0 v0_0_ v0_2_ x1 v1_0_ v1_2_ r} (h0 : Rd W K [v0_0_, vS x0.Who, v0_2_] x0) (h1 : Rd W K [v1_0_, vS x1.Who, v1_2_] x1) (hm : Vm.laws_smCommit x0 x1 = some r) : Q1 49 [.agg [v0_0_, vS x0.Who, v0_2_].toArray, .agg [v1_0_, vS x1.Who, v1_2_].toArray] W [] fun W' v => v = vB r :=
 (c49 (h0.view _) (h1.view _) hm).ad (fk 0) fun _ _ e => e

end Go.Sx
