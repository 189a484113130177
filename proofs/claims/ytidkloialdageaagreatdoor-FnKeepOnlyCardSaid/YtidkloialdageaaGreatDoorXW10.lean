/- Walks: each function answers as its model, printed by a program of ours. Conditions: the arguments read as they are given. -/
import Derived.Test.YtidkloialdageaaGreatDoorXTs
import Derived.Test.YtidkloialdageaaGreatDoorXM4
import Derived.Test.YtidkloialdageaaGreatDoorXW6
namespace Go.Sx
open Go Go.Proofs Go.Vm Rp
set_option linter.unusedVariables false
set_option linter.unusedSimpArgs false

variable {W W0 : CW} {K : List Nat}
theorem c115 {x0 v0_0_ v0_1_ x1 r} (h0 : Rd W0 [0] [v0_0_, v0_1_] x0) (hm : Vm.impl_Repo_tree x0 x1 = some r) : Q0 115 [.agg [v0_0_, v0_1_].toArray, vI x1] W0 fun Wf v => ∃ u0, v = u0 ∧ Rd Wf [0] [u0] r := by
 unfold Vm.impl_Repo_tree at hm
 obtain ⟨w0_0, w0_1, he0, h0_0, h0_1⟩ := Repo.split h0
 simp only [List.cons.injEq, and_true, true_and] at he0
 obtain ⟨rfl, rfl⟩ := he0
 refine CallR.of Tryz.func115 rfl rfl rfl rfl (sr (bo 2 rfl fun g1 W1 l1 b1 => ?_))
 have a2 := l1.o
 refine Nv (.slice none 0 0) rfl (ssr (mi rfl (Lw.lt rfl (nl (cn hm (fun hm => ?_) fun hm => ?_)))))
 ·refine sr (Nv (.slice none 0 0) rfl ?_)
  cases hm
  exact Cw.ret (ret1 rfl (Res.mk a2 ⟨.slice none 0 0, rfl, (rdN (K := [0]))⟩))
 ·refine sk (sr (fl b1 rfl (mi rfl ?_)))
  obtain ⟨u4, e5, hm⟩ := ob hm
  refine Lw.r rfl (R.ix (α := Commit) (h0_0.ul a2) e5 rfl rfl rfl) (Lw.fa rfl ?_)
  obtain ⟨v7, c8, r9⟩ := (Commit.at2 ((h0_0.ul a2).at_ e5)).cell rfl
  refine Lw.r rfl (R.ld rfl rfl c8) (Nv v7 rfl ?_)
  cases hm
  exact Cw.ret (ret1 rfl (Res.mk a2 ⟨v7, rfl, r9⟩))

theorem p115 {x0 v0_0_ v0_1_ x1 r} (h0 : Rd W K [v0_0_, v0_1_] x0) (hm : Vm.impl_Repo_tree x0 x1 = some r) : Q1 115 [.agg [v0_0_, v0_1_].toArray, vI x1] W [] fun W' v => ∃ u0, v = u0 ∧ Rd W' (0 :: K) [u0] r :=
 (c115 (h0.view _) hm).ad (fk 0) fun _ _ ⟨u0, e, f0⟩ => ⟨u0, e, f0.back rfl⟩

theorem c87 {x0 v0_0_ v0_1_ x1 v1_ r} (h0 : Rd W0 [0] [v0_0_, v0_1_] x0) (h1 : Rd W0 [0] [v1_] x1) (h99 : Gl 0 W0 [0]) (hm : Vm.impl_Repo_are x0 x1 = some r) : Q0 87 [.agg [v0_0_, v0_1_].toArray, v1_] W0 fun Wf v => v = vB r := by
 unfold Vm.impl_Repo_are at hm
 obtain ⟨w0_0, w0_1, he0, h0_0, h0_1⟩ := Repo.split h0
 simp only [List.cons.injEq, and_true, true_and] at he0
 obtain ⟨rfl, rfl⟩ := he0
 refine CallR.of Tryz.func87 rfl rfl rfl rfl (sr (bo 2 rfl fun g1 W1 l1 b1 => ?_))
 have a2 := l1.o
 refine Nb rfl (ssr (la b1 (ca hm (fun _ => p19 (Repo.rd (K := [0]) x0.Commits x0.Heads (h0_0.ul a2) (h0_1.ul a2)) (h99.ul a2)) fun z6 W8 hm l8 => ?_)))
 have a9 := a2.n l8
 refine Lw.r rfl (R.not rfl) (nl (cn hm (fun hm => ?_) fun hm => ?_))
 ·exact sr (Nb rfl (.ret (rt hm a9)))
 ·refine sk (ssr (mv v1_ rfl (Lw.ln x1 (h1.ul a9) rfl (mi rfl (nl (Cw.block ?_))))))
  obtain ⟨K17, hK17, hm⟩ := jn_e hm
  refine Cw.loop 12 20 [4, 6, 12] (fun m l w => ∃ y13 y15 j14 W16, CW.w W16 = w ∧ Le [] W8 W16 ∧ l = [vB y13, j14, vI y15] ∧ Vm.impl_Repo_are_l1 x0 x1 K17 m y13 y15 = some r) _ ⟨false, 0, undef, W8, rfl, Le.refl _ _, rfl, hm⟩ ?_
  rintro (_ | m18) _ _ σ ⟨y13, y15, j14, W16, rfl, l16, rfl, hm⟩
  ·cases hm
  unfold Vm.impl_Repo_are_l1 at hm
  have a19 := a9.n l16
  refine sr (Lw.lt rfl (nl (Cw.seq (cn hm (fun hm => ?_) fun hm => ?_))))
  ·refine sk (Cw.seq (Cw.block (sr ?_)))
   obtain ⟨u22, e23, hm⟩ := ob hm
   refine Lw.r rfl (R.ix (α := Int) (h1.ul a19) e23 rfl rfl rfl) (Lw.r rfl (R.ld rfl rfl ((h1.ul a19).at_ e23).int) (Ni rfl (sr (la ((b1.up l8).up l16) (mi rfl (ca hm (fun _ => p126 (Repo.rd (K := [0]) x0.Commits x0.Heads (h0_0.ul a19) (h0_1.ul a19))) fun z27 W29 hm l29 => ?_))))))
   have a30 := a19.n l29
   refine Lw.r rfl (R.not rfl) (nl (cn hm (fun hm => ?_) fun hm => ?_))
   ·exact sr (Nb rfl (.ret (rt hm a30)))
   ·exact sk (rg (Lw.add rfl (mi rfl (nl ((agm) ⟨y13, w64 (y15 + 1), vI u22, W29, rfl, (l16.j l29).w, rfl, hm⟩)))))
  ·refine Cw.exit ?_
   rw [hK17] at hm
   exact sr (Nb rfl (.ret (rt hm a19)))

theorem p87 {x0 v0_0_ v0_1_ x1 v1_ r} (h0 : Rd W K [v0_0_, v0_1_] x0) (h1 : Rd W K [v1_] x1) (h99 : Gl 0 W K) (hm : Vm.impl_Repo_are x0 x1 = some r) : Q1 87 [.agg [v0_0_, v0_1_].toArray, v1_] W [] fun W' v => v = vB r :=
 (c87 (h0.view _) (h1.view _) (h99.view _) hm).ad (fk 0) fun _ _ e => e

theorem c109 {x0 v0_0_ v0_1_ x1 r} (h0 : Rd W0 [0] [v0_0_, v0_1_] x0) (hm : Vm.impl_Repo_ancestors x0 x1 = some r) : Q0 109 [.agg [v0_0_, v0_1_].toArray, vI x1] W0 fun Wf v => ∃ u0, v = u0 ∧ OwS Wf LL [] [u0] r := by
 unfold Vm.impl_Repo_ancestors at hm
 obtain ⟨w0_0, w0_1, he0, h0_0, h0_1⟩ := Repo.split h0
 simp only [List.cons.injEq, and_true, true_and] at he0
 obtain ⟨rfl, rfl⟩ := he0
 refine CallR.of Tryz.func109 rfl rfl rfl rfl (sr (bo 2 rfl fun g1 W1 l1 b1 => ?_))
 have a2 := l1.o
 refine Nv (.slice none 0 0) rfl (sr (fl b1 rfl (Lw.ln x0.Commits (h0_0.ul a2) rfl ?_)))
 obtain ⟨q4, e5, hm⟩ := ob hm
 refine Lw.t rfl (T.mk (α := Bool) 3 [] (n := (x0.Commits.length : Int)) rfl rfl e5) ?_
 rintro v6 _ ⟨W6, rfl, l6, o6⟩
 have a7 := a2.n l6
 refine Nv v6 rfl (sr (mv v6 rfl (mi rfl ?_)))
 obtain ⟨u9, e10, hm⟩ := ob hm
 refine Lw.r rfl (R.ix (α := Bool) o6.rd e10 rfl rfl rfl) ?_
 obtain ⟨q12, e13, hm⟩ := ob hm
 refine Lw.u (T.stS (K' := []) o6 (rdB _) e13 rfl rfl rfl) ?_
 rintro _ _ ⟨W11, rfl, l11, o11⟩
 have a14 := a7.t l11
 refine nl (ssr (mi rfl (Ni rfl (Cw.block ?_))))
 obtain ⟨K21, hK21, hm⟩ := jn_e hm
 refine Cw.loop 17 39 [6, 8] (fun m l w => ∃ y16 y18 j17 W20, CW.w W20 = w ∧ Le [3] W11 W20 ∧ l = [vI y16, j17] ∧ Ow W20 3 [] [v6] y18 ∧ Vm.impl_Repo_ancestors_l1 x0 K21 m y16 y18 = some r) _ ⟨x1, q12, undef, W11, rfl, Le.refl _ _, rfl, o11, hm⟩ ?_
 rintro (_ | m22) _ _ σ ⟨y16, y18, j17, W20, rfl, l20, rfl, o19, hm⟩
 ·cases hm
 unfold Vm.impl_Repo_ancestors_l1 at hm
 have a23 := a14.t l20
 refine ssr (mi rfl (Lw.ge rfl (nl (cn hm (fun hm => ?_) fun hm => ?_))))
 ·refine sk ?_
  obtain ⟨K30, hK30, hm⟩ := jn_e hm
  refine Cw.join 21 39 [8] (fun l w => ∃ y27 j26 W29, CW.w W29 = w ∧ Le [3] W20 W29 ∧ l = [j26] ∧ Ow W29 3 [] [v6] y27 ∧ K30 y27 = some r) ?_ ?_
  ·rintro _ _ σ ⟨y27, j26, W29, rfl, l29, rfl, o28, hm⟩
   rw [hK30] at hm
   exact rg (mi rfl (Lw.sub rfl (Ni rfl ((agm) ⟨w64 (y16 - 1), y27, j26, W29, rfl, (l20.j l29).w, rfl, o28, hm⟩))))
  ·refine Cw.block (sr (mv v6 rfl (mi rfl ?_)))
   obtain ⟨u33, e34, hm⟩ := ob hm
   refine Lw.r rfl (R.ix (α := Bool) o19.rd e34 rfl rfl rfl) (Lw.r rfl (R.ld rfl rfl (o19.rd.at_ e34).bool) (nl (cn hm (fun hm => ?_) fun hm => ?_)))
   ·refine sr (fl (((b1.up l6).up l11).up l20) rfl (mi rfl ?_))
    obtain ⟨u36, e37, hm⟩ := ob hm
    refine Lw.r rfl (R.ix (α := Commit) (h0_0.ul a23) e37 rfl rfl rfl) (Lw.fa rfl ?_)
    obtain ⟨v39, c40, r41⟩ := (Commit.at0 ((h0_0.ul a23).at_ e37)).cell rfl
    refine Lw.r rfl (R.ld rfl rfl c40) (Lw.ln u36.Parents r41 rfl (mi rfl (nl (Cw.block (Cw.loop 32 39 [8, 32] (fun m l w => ∃ y43 y44 j42 W46, CW.w W46 = w ∧ Le [3] W20 W46 ∧ l = [j42, vI y43] ∧ Ow W46 3 [] [v6] y44 ∧ Vm.impl_Repo_ancestors_l2 K30 u36 m y43 y44 = some r) _ ⟨0, y18, j17, W20, rfl, Le.refl _ _, rfl, o19, hm⟩ ?_)))))
    rintro (_ | m48) _ _ σ ⟨y43, y44, j42, W46, rfl, l46, rfl, o45, hm⟩
    ·cases hm
    unfold Vm.impl_Repo_ancestors_l2 at hm
    have a49 := l46.s
    refine sr (Lw.lt rfl (nl (Cw.seq (cn hm (fun hm => ?_) fun hm => ?_))))
    ·refine sk (Cw.seq (Cw.block (sr ?_)))
     obtain ⟨u52, e53, hm⟩ := ob hm
     refine Lw.r rfl (R.ix (α := Int) (r41.ul a49) e53 rfl rfl rfl) (Lw.r rfl (R.ld rfl rfl ((r41.ul a49).at_ e53).int) (Ni rfl (rg (mv v6 rfl (mi rfl ?_)))))
     obtain ⟨u55, e56, hm⟩ := ob hm
     refine Lw.r rfl (R.ix (α := Bool) o45.rd e56 rfl rfl rfl) ?_
     obtain ⟨q58, e59, hm⟩ := ob hm
     refine Lw.u (T.stS (K' := []) o45 (rdB _) e59 rfl rfl rfl) ?_
     rintro _ _ ⟨W57, rfl, l57, o57⟩
     exact nl (rg (Lw.add rfl (mi rfl (nl ((agm) ⟨w64 (y43 + 1), q58, vI u52, W57, rfl, (l46.j l57).w, rfl, o57, hm⟩)))))
    ·exact Cw.exit ((ag) ⟨y44, j42, W46, rfl, l46, rfl, o45, hm⟩)
   ·exact sk ((ag) ⟨y18, j17, W20, rfl, Le.refl _ _, rfl, o19, hm⟩)
 ·refine Cw.exit ?_
  rw [hK21] at hm
  refine sr (mv v6 rfl (Nv v6 rfl ?_))
  cases hm
  exact Cw.ret (ret1 rfl (Res.mk a23 ⟨v6, rfl, o19.s.sub rfl rfl⟩))

theorem p109 {x0 v0_0_ v0_1_ x1 k0 r} (h0 : Rd W K [v0_0_, v0_1_] x0) (hm : Vm.impl_Repo_ancestors x0 x1 = some r) : Q1 109 [.agg [v0_0_, v0_1_].toArray, vI x1] W [] fun W' v => ∃ u0, v = u0 ∧ Ow W' k0 [] [u0] r :=
 (c109 (h0.view _) hm).ad (fk k0) fun _ _ ⟨u0, e, f0⟩ => ⟨u0, e, f0.back (fk_LL _)⟩

theorem c108 {x0 v0_ r} (h0 : Rd W0 [0] [v0_] x0) (hm : Vm.impl_listOf x0 = some r) : Q0 108 [v0_] W0 fun Wf v => ∃ u0, v = u0 ∧ OwS Wf LL [] [u0] r := by
 unfold Vm.impl_listOf at hm
 refine CallR.of Tryz.func108 rfl rfl rfl rfl (sr (Nv (.slice none 0 0) rfl (sr (Nv (.slice none 0 0) rfl (ssr (mv v0_ rfl (Lw.ln x0 h0 rfl (mi rfl (nl (Cw.block ?_))))))))))
 obtain ⟨K8, hK8, hm⟩ := jn_e hm
 refine Cw.loop 8 18 [3, 4, 5, 8] (fun m l w => ∃ y1 y6 v2 j4 j5 W7, CW.w W7 = w ∧ Le [2] W0 W7 ∧ l = [v2, j4, j5, vI y6] ∧ Ow W7 2 [] [v2] y1 ∧ Vm.impl_listOf_l1 x0 K8 m y1 y6 = some r) _ ⟨([] : List Int), 0, .slice none 0 0, undef, undef, W0, rfl, Le.refl _ _, rfl, owN 2 [], hm⟩ ?_
 rintro (_ | m9) _ _ σ ⟨y1, y6, v2, j4, j5, W7, rfl, l7, rfl, o3, hm⟩
 ·cases hm
 unfold Vm.impl_listOf_l1 at hm
 have a10 := l7.s
 refine sr (Lw.lt rfl (nl (Cw.seq (cn hm (fun hm => ?_) fun hm => ?_))))
 ·refine sk ?_
  obtain ⟨K18, hK18, hm⟩ := jn_e hm
  refine Cw.join 10 17 [3, 4, 5] (fun l w => ∃ y12 v13 j15 j16 W17, CW.w W17 = w ∧ Le [2] W7 W17 ∧ l = [v13, j15, j16] ∧ Ow W17 2 [] [v13] y12 ∧ K18 y12 = some r) ?_ ?_
  ·rintro _ _ σ ⟨y12, v13, j15, j16, W17, rfl, l17, rfl, o14, hm⟩
   rw [hK18] at hm
   exact rg (Lw.add rfl (mi rfl (nl ((agm) ⟨y12, w64 (y6 + 1), v13, j15, j16, W17, rfl, (l7.j l17).w, rfl, o14, hm⟩))))
  ·refine Cw.block (sr (mi rfl ?_))
   obtain ⟨u20, e21, hm⟩ := ob hm
   refine Lw.r rfl (R.ix (α := Bool) (h0.ul a10) e21 rfl rfl rfl) (Lw.r rfl (R.ld rfl rfl ((h0.ul a10).at_ e21).bool) (Gi rfl (Nb rfl (sr (mb rfl (nl (cn hm (fun hm => ?_) fun hm => ?_)))))))
   ·refine rg (mv v2 rfl (mi rfl (Lw.t rfl (T.bs 3 [vI y6] (cs := [vI y6]) rfl rfl (bsv rfl)) ?_)))
    rintro _ _ ⟨g24, W24, rfl, rfl, l24, b24⟩
    obtain ⟨q27, e28, hm⟩ := ob hm
    refine Lw.t rfl (T.app1S (α := Int) (K' := []) (o3.up l24) b24 (rdI _) rfl rfl e28) ?_
    rintro v29 _ ⟨W29, rfl, l29, o29⟩
    exact Nv v29 rfl ((ag) ⟨q27, v29, vI y6, vB u20, W29, rfl, (l24.j l29).w, rfl, o29, hm⟩)
   ·exact sk ((ag) ⟨y1, v2, vI y6, vB u20, W7, rfl, Le.refl _ _, rfl, o3, hm⟩)
 ·refine Cw.exit ?_
  rw [hK8] at hm
  refine sr (mv v2 rfl (Nv v2 rfl ?_))
  cases hm
  exact Cw.ret (ret1 rfl (Res.mk a10 ⟨v2, rfl, o3.s.sub rfl rfl⟩))

theorem p108 {x0 v0_ k0 r} (h0 : Rd W K [v0_] x0) (hm : Vm.impl_listOf x0 = some r) : Q1 108 [v0_] W [] fun W' v => ∃ u0, v = u0 ∧ Ow W' k0 [] [u0] r :=
 (c108 (h0.view _) hm).ad (fk k0) fun _ _ ⟨u0, e, f0⟩ => ⟨u0, e, f0.back (fk_LL _)⟩

theorem c40 {x0 v0_0_ v0_1_ x1 r} (h0 : Rd W0 [0] [v0_0_, v0_1_] x0) (h99 : Gl 0 W0 [0]) (hm : Vm.impl_AncAll x0 x1 = some r) : Q0 40 [.agg [v0_0_, v0_1_].toArray, vI x1] W0 fun Wf v => ∃ u0, v = u0 ∧ OwS Wf LL [] [u0] r := by
 unfold Vm.impl_AncAll at hm
 obtain ⟨w0_0, w0_1, he0, h0_0, h0_1⟩ := Repo.split h0
 simp only [List.cons.injEq, and_true, true_and] at he0
 obtain ⟨rfl, rfl⟩ := he0
 refine CallR.of Tryz.func40 rfl rfl rfl rfl (sr (bo 2 rfl fun g1 W1 l1 b1 => ?_))
 have a2 := l1.o
 refine Nv (.slice none 0 0) rfl (ssr (la b1 (mi rfl (Lw.t rfl (T.bsS (α := Int) (xs := [x1]) 3 [] (W := W1) [vI x1] (Each.cons ((rdI _)) Each.nil) rfl) ?_))))
 rintro v3 _ ⟨W3, rfl, l3, o3⟩
 have a4 := a2.n l3
 refine ca hm (fun _ => p87 (K := [0, 3]) ((Repo.rd (K := [0]) x0.Commits x0.Heads (h0_0.ul a4) (h0_1.ul a4)).sub (M := [0, 3]) rfl) (o3.rd.sub (M := [0, 3]) rfl) ((h99.ul a4).sub (M := [0, 3]) rfl)) fun z9 W11 hm l11 => ?_
 have a12 := a4.n l11
 refine Lw.r rfl (R.not rfl) (nl (cn hm (fun hm => ?_) fun hm => ?_))
 ·refine sr (Nv (.slice none 0 0) rfl ?_)
  cases hm
  exact Cw.ret (ret1 rfl (Res.mk a12 ⟨.slice none 0 0, rfl, (owsN []).sub rfl rfl⟩))
 ·refine sk (sr (la ((b1.up l3).up l11) (mi rfl (cr hm (fun _ => p109 (k0 := 4) (Repo.rd (K := [0]) x0.Commits x0.Heads (h0_0.ul a12) (h0_1.ul a12))) ?_))))
  rintro z18 v0_20 W20 hm l20 ⟨_, rfl, f20_0⟩
  have a21 := a12.n l20
  refine cr hm (fun _ => p108 (K := [4]) (k0 := 5) f20_0.rd) ?_
  rintro z24 v0_26 W26 hm l26 ⟨_, rfl, f26_0⟩
  have a27 := a21.n l26
  refine Nv v0_26 rfl ?_
  cases hm
  exact Cw.ret (ret1 rfl (Res.mk a27 ⟨v0_26, rfl, f26_0.s.sub rfl rfl⟩))

theorem p40 {x0 v0_0_ v0_1_ x1 k0 r} (h0 : Rd W K [v0_0_, v0_1_] x0) (h99 : Gl 0 W K) (hm : Vm.impl_AncAll x0 x1 = some r) : Q1 40 [.agg [v0_0_, v0_1_].toArray, vI x1] W [] fun W' v => ∃ u0, v = u0 ∧ Ow W' k0 [] [u0] r :=
 (c40 (h0.view _) (h99.view _) hm).ad (fk k0) fun _ _ ⟨u0, e, f0⟩ => ⟨u0, e, f0.back (fk_LL _)⟩

end Go.Sx
