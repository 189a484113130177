/- Walks: each function answers as its model, printed by a program of ours. Conditions: the arguments read as they are given. -/
import Derived.Test.YtkjleeelabgfoaaGreatDoorATs
import Derived.Test.YtkjleeelabgfoaaGreatDoorAM0
import Derived.Test.YtkjleeelabgfoaaGreatDoorAW3
import Derived.Test.YtkjleeelabgfoaaGreatDoorAW6
namespace Go.Sx
open Go Go.Proofs Go.Vm Rp
set_option linter.unusedVariables false
set_option linter.unusedSimpArgs false
variable {W W0 : CW} {K : List Nat}
theorem c8 {x0 v0_0_ v0_1_ r} (h0 : Rd W0 [0] [v0_0_, v0_1_] x0) (h99 : Gl 0 W0 [0]) (hm : Vm.impl_RepoOk x0 = some r) : Q0 8 [.agg [v0_0_, v0_1_].toArray] W0 fun Wf v => v = vB r := by
 unfold Vm.impl_RepoOk at hm
 obtain ⟨w0_0, w0_1, he0, h0_0, h0_1⟩ := Repo.split h0
 simp only [List.cons.injEq, and_true, true_and] at he0
 obtain ⟨rfl, rfl⟩ := he0
 refine CallR.of Tryz.func8 rfl rfl rfl rfl (sr (bo 2 rfl fun g1 W1 l1 b1 => ?_))
 have a2 := l1.o
 refine Nb rfl (ssr (fl b1 rfl (Lw.ln x0.Commits (h0_0.ul a2) rfl (Lw.gt rfl (nl (cn hm (fun hm => ?_) fun hm => ?_))))))
 ·exact sr (Nb rfl (.ret (rt hm a2)))
 ·refine sk (ssr (fl b1 rfl (Lw.ln x0.Commits (h0_0.ul a2) rfl (mi rfl (nl (Cw.block ?_))))))
  obtain ⟨K11, hK11, hm⟩ := jn_e hm
  refine Cw.loop 14 65 [2, 3, 4, 6, 14] (fun m l w => ∃ y5 y9 j6 j7 j8 W10, CW.w W10 = w ∧ Le [3] W1 W10 ∧ l = [vB y5, j6, j7, j8, vI y9] ∧ Vm.impl_RepoOk_l1 x0 K11 m y5 y9 = some r) _ ⟨false, 0, undef, undef, undef, W1, rfl, Le.refl _ _, rfl, hm⟩ ?_
  rintro (_ | m12) _ _ σ ⟨y5, y9, j6, j7, j8, W10, rfl, l10, rfl, hm⟩
  ·cases hm
  unfold Vm.impl_RepoOk_l1 at hm
  have a13 := a2.t l10
  refine sr (Lw.lt rfl (nl (Cw.seq (cn hm (fun hm => ?_) fun hm => ?_))))
  ·refine sk (Cw.seq (Cw.block (sr (mi rfl ?_))))
   obtain ⟨u16, e17, hm⟩ := ob hm
   refine Lw.r rfl (R.ix (α := Commit) (h0_0.ul a13) e17 rfl rfl rfl) ?_
   obtain ⟨x19, c20, _, r21⟩ := ((h0_0.ul a13).at_ e17).cells
   obtain ⟨v22, v24, rfl, r23, r25⟩ := Commit.split r21
   refine Lw.r rfl (R.lda c20 rfl rfl) (al 3 [.slice none 0 0, vS ([] : Str), .slice none 0 0] fun g26 W26 l26 b26 => ?_)
   have a27 := l26.o
   refine Gi rfl (sta b26 (oc_cons r23.oc (oc_cons rfl (oc_cons r25.oc oc_nil))) fun W29 l29 b29 => ?_)
   have a30 := l29.s
   refine nl (Cw.seq ?_)
   obtain ⟨K34, hK34, hm⟩ := jn_e hm
   refine Cw.join 19 51 [51] (fun l w => ∃ y32 W33, CW.w W33 = w ∧ Le [] W29 W33 ∧ l = [vB y32] ∧ K34 y32 = some r) ?_ ?_
   ·rintro _ _ σ ⟨y32, W33, rfl, l33, rfl, hm⟩
    rw [hK34] at hm
    have a35 := l33.o
    refine cn hm (fun hm => ?_) fun hm => ?_
    ·exact sr (Nb rfl (.ret (rt hm (((a13.trans a27).trans a30).trans a35))))
    ·refine sk (sr (fl (b29.up l33) rfl (Lw.ln u16.Parents (r23.ul ((a27.trans a30).trans a35)) rfl (mi rfl (nl (Cw.block ?_))))))
     obtain ⟨K44, hK44, hm⟩ := jn_e hm
     refine Cw.loop 55 64 [2, 6, 55] (fun m l w => ∃ y40 y42 j41 W43, CW.w W43 = w ∧ Le [] W33 W43 ∧ l = [vB y40, j41, vI y42] ∧ Vm.impl_RepoOk_l2 y9 u16 K44 m y40 y42 = some r) _ ⟨y5, 0, j8, W33, rfl, Le.refl _ _, rfl, hm⟩ ?_
     rintro (_ | m45) _ _ σ ⟨y40, y42, j41, W43, rfl, l43, rfl, hm⟩
     ·cases hm
     unfold Vm.impl_RepoOk_l2 at hm
     have a46 := l43.o
     refine sr (Lw.lt rfl (nl (Cw.seq (cn hm (fun hm => ?_) fun hm => ?_))))
     ·refine sk (Cw.seq (Cw.block (sr ?_)))
      obtain ⟨u50, e51, hm⟩ := ob hm
      have s52 := r23.ul (((a27.trans a30).trans a35).trans a46)
      refine Lw.r rfl (R.ix (α := Int) s52 e51 rfl rfl rfl) (Lw.r rfl (R.ld rfl rfl (s52.at_ e51).int) (Ni rfl (sr (mi rfl (mi rfl (Lw.sub rfl (ca hm (fun _ => p28) fun z53 W55 hm l55 => ?_)))))))
      have a56 := ((((a13.trans a27).trans a30).trans a35).trans a46).n l55
      refine Lw.r rfl (R.not rfl) (nl (cn hm (fun hm => ?_) fun hm => ?_))
      ·exact sr (Nb rfl (.ret (rt hm a56)))
      ·exact sk (rg (Lw.add rfl (mi rfl (nl ((agm) ⟨y40, w64 (y42 + 1), vI u50, W55, rfl, (l43.j l55).w, rfl, hm⟩)))))
     ·refine Cw.exit ?_
      rw [hK44] at hm
      exact rg (Lw.add rfl (mi rfl (nl ((agm) ⟨y40, w64 (y9 + 1), vI y9, ptr (bx g26), j41, W43, rfl, ((((l10.j l26).j l29).j l33).j l43).w, rfl, hm⟩))))
   ·refine Cw.draw [] [(0, 0), (1, 1), (2, 0), (3, 0), (4, 0), (5, 0), (6, 1), (7, 0), (8, 0), (9, 0), (10, 0), (11, 1), (12, 0), (13, 1), (14, 0), (15, 1), (16, 0), (17, 1), (18, 0), (19, 0), (20, 0), (21, 0), (22, 0), (23, 1), (24, 2), (25, 0), (26, 0), (27, 0), (28, 0), (29, 1), (30, 2), (31, 0), (32, 0)] mixed (by kernel_rfl) fun W60 l60 => ?_
    have a61 := l60.o
    have b63 := b29.up l60
    have s64 := r23.ul ((a27.trans a30).trans a61)
    refine Dfl b63 rfl rfl rfl (Mw.p rfl rfl (fun _ => lenR (xs := u16.Parents) s64 rfl) (Mw.p rfl rfl (fun _ => R.gt rfl rfl) (Db rfl (bs hm (fun hc65 hm => ?_) fun hc65 hm => ?_))))
    ·exact dps 5 hc65 rfl (dpu 9 rfl (dps 1 hc65 rfl (Mw.p rfl rfl (fun _ => R.pk hc65 rfl (v := vB true) rfl) (Db rfl (dps 4 rfl rfl (Mw.p rfl rfl (fun _ => R.pk rfl rfl (v := vB true) rfl) (Db rfl (dps 4 rfl rfl (Mw.p rfl rfl (fun _ => R.pk rfl rfl (v := vB true) rfl) (Mw.nil ((ag) ⟨true, W60, rfl, l60, rfl, hm⟩)))))))))))
    ·refine Wp hc65 rfl (fun _ => R.fa rfl) (Wq hc65 rfl (fun _ c => R.ld (v := v22) rfl rfl (b63.clc rfl rfl c)) (Wp hc65 rfl (fun _ => lenR (xs := u16.Parents) s64 rfl) (Wp hc65 rfl (fun _ => R.eq rfl rfl) (Wp hc65 rfl (fun _ => R.mv (v := vB (((u16.Parents.length : Int) : Int) == (2 : Int))) rfl) (bs hm (fun hc66 hm => ?_) fun hc66 hm => ?_)))))
     ·refine Wp hc66 rfl (fun _ => R.fa rfl) (Wq hc66 rfl (fun _ c => R.ld (v := v22) rfl rfl (b63.clc rfl rfl c)) ?_)
      obtain ⟨u67, e68, hm⟩ := ob hm
      refine Wp hc66 rfl (fun _ => R.ix (α := Int) s64 e68 rfl rfl rfl) (Wq hc66 rfl (fun _ c => R.ld rfl rfl (cl_cell (s64.at_ e68).1 rfl (s64.at_ e68).int c)) (Wp hc66 rfl (fun _ => R.fa rfl) (Wq hc66 rfl (fun _ c => R.ld (v := v22) rfl rfl (b63.clc rfl rfl c)) ?_)))
      obtain ⟨u69, e70, hm⟩ := ob hm
      refine Wp hc66 rfl (fun _ => R.ix (α := Int) s64 e70 rfl rfl rfl) (Wq hc66 rfl (fun _ c => R.ld rfl rfl (cl_cell (s64.at_ e70).1 rfl (s64.at_ e70).int c)) (Wp hc66 rfl (fun _ => R.eq rfl rfl) (Wp hc65 rfl (fun _ => R.pk hc66 rfl (v := vB ((u67 : Int) == (u69 : Int))) rfl) (Mw.p rfl rfl (fun _ => R.pk hc65 rfl (v := vB ((u67 : Int) == (u69 : Int))) rfl) (Db rfl (bs hm (fun hc71 hm => ?_) fun hc71 hm => ?_))))))
      ·exact dps 4 hc71 rfl (Mw.p rfl rfl (fun _ => R.pk hc71 rfl (v := vB true) rfl) (Db rfl (dps 4 rfl rfl (Mw.p rfl rfl (fun _ => R.pk rfl rfl (v := vB true) rfl) (Mw.nil ((ag) ⟨true, W60, rfl, l60, rfl, hm⟩))))))
      ·refine Wp hc71 rfl (fun _ => R.fa rfl) (Wq hc71 rfl (fun _ c => R.ld (v := vS u16.Who) rfl rfl (b63.clc rfl rfl c)) ?_)
       obtain ⟨z72, e73, hm⟩ := ob hm
       refine Wt hc71 rfl (T.call rfl (p26   e73)) ?_
       rintro _ _ ⟨W74, rfl, l74, rfl⟩
       have a75 := l74.o
       refine m0 l74 fun d74 => Wp hc71 rfl (fun _ => R.not rfl) (Mw.p rfl rfl (fun _ => R.pk hc71 rfl (v := vB (!z72)) rfl) (Db rfl (bs hm (fun hc78 hm => ?_) fun hc78 hm => ?_)))
       ·exact dps 4 hc78 rfl (Mw.p rfl rfl (fun _ => R.pk hc78 rfl (v := vB true) rfl) (Mw.nil ((ag) ⟨true, W74, rfl, (l60.j l74).w, rfl, hm⟩)))
       ·refine Wp hc78 rfl (fun _ => R.fa rfl) (Wq hc78 rfl (fun _ c => R.ld (v := v24) rfl rfl (b63.clc rfl rfl c)) ?_)
        obtain ⟨z81, e82, hm⟩ := ob hm
        refine Wt hc78 rfl (T.call rfl (p27  (r25.ul (((a27.trans a30).trans a61).trans a75)) (h99.ul ((((a13.trans a27).trans a30).trans a61).trans a75)) e82)) ?_
        rintro _ _ ⟨W83, rfl, l83, rfl⟩
        exact mc d74 l83 fun d83 => Wp hc78 rfl (fun _ => R.not rfl) (Mw.p rfl rfl (fun _ => R.pk hc78 rfl (v := vB (!z81)) rfl) (Mw.nil ((ag) ⟨(!z81), W83, rfl, ((l60.j l74).j l83).w, rfl, hm⟩)))
     ·refine dps 9 hc66 rfl (Wp hc65 rfl (fun _ => R.pk hc66 rfl (v := vB false) rfl) (Mw.p rfl rfl (fun _ => R.pk hc65 rfl (v := vB false) rfl) (Db rfl (Wp rfl rfl (fun _ => R.fa rfl) (Wq rfl rfl (fun _ c => R.ld (v := vS u16.Who) rfl rfl (b63.clc rfl rfl c)) ?_)))))
      obtain ⟨z87, e88, hm⟩ := ob hm
      refine Wt rfl rfl (T.call rfl (p26   e88)) ?_
      rintro _ _ ⟨W89, rfl, l89, rfl⟩
      have a90 := l89.o
      refine m0 l89 fun d89 => Wp rfl rfl (fun _ => R.not rfl) (Mw.p rfl rfl (fun _ => R.pk rfl rfl (v := vB (!z87)) rfl) (Db rfl (bs hm (fun hc93 hm => ?_) fun hc93 hm => ?_)))
      ·exact dps 4 hc93 rfl (Mw.p rfl rfl (fun _ => R.pk hc93 rfl (v := vB true) rfl) (Mw.nil ((ag) ⟨true, W89, rfl, (l60.j l89).w, rfl, hm⟩)))
      ·refine Wp hc93 rfl (fun _ => R.fa rfl) (Wq hc93 rfl (fun _ c => R.ld (v := v24) rfl rfl (b63.clc rfl rfl c)) ?_)
       obtain ⟨z96, e97, hm⟩ := ob hm
       refine Wt hc93 rfl (T.call rfl (p27  (r25.ul (((a27.trans a30).trans a61).trans a90)) (h99.ul ((((a13.trans a27).trans a30).trans a61).trans a90)) e97)) ?_
       rintro _ _ ⟨W98, rfl, l98, rfl⟩
       exact mc d89 l98 fun d98 => Wp hc93 rfl (fun _ => R.not rfl) (Mw.p rfl rfl (fun _ => R.pk hc93 rfl (v := vB (!z96)) rfl) (Mw.nil ((ag) ⟨(!z96), W98, rfl, ((l60.j l89).j l98).w, rfl, hm⟩)))
  ·refine Cw.exit ?_
   rw [hK11] at hm
   refine sr (la (b1.up l10) (fl (b1.up l10) rfl (ca hm (fun _ => p29 (Repo.rd (K := [0]) x0.Commits x0.Heads (h0_0.ul a13) (h0_1.ul a13)) (h0_1.ul a13)) fun z104 W106 hm l106 => ?_)))
   have a107 := a13.n l106
   exact Nb rfl (.ret (rt hm a107))
theorem p8 {x0 v0_0_ v0_1_ r} (h0 : Rd W K [v0_0_, v0_1_] x0) (h99 : Gl 0 W K) (hm : Vm.impl_RepoOk x0 = some r) : Q1 8 [.agg [v0_0_, v0_1_].toArray] W [] fun W' v => v = vB r :=
 (c8 (h0.view _) (h99.view _) hm).ad (fk 0) fun _ _ e => e
theorem c40 {x0 v0_0_ v0_1_ x1 r} (h0 : Rd W0 [0] [v0_0_, v0_1_] x0) (hm : Vm.impl_Repo_ancestors x0 x1 = some r) : Q0 40 [.agg [v0_0_, v0_1_].toArray, vI x1] W0 fun Wf v => ∃ u0, v = u0 ∧ OwS Wf LL [] [u0] r := by
 unfold Vm.impl_Repo_ancestors at hm
 obtain ⟨w0_0, w0_1, he0, h0_0, h0_1⟩ := Repo.split h0
 simp only [List.cons.injEq, and_true, true_and] at he0
 obtain ⟨rfl, rfl⟩ := he0
 refine CallR.of Tryz.func40 rfl rfl rfl rfl (sr (bo 2 rfl fun g1 W1 l1 b1 => ?_))
 have a2 := l1.o
 refine Nv (.slice none 0 0) rfl (sr (fl b1 rfl (Lw.ln x0.Commits (h0_0.ul a2) rfl ?_)))
 obtain ⟨q4, e5, hm⟩ := ob hm
 refine Lw.t rfl (T.mk (α := Bool) 3 [] (n := (x0.Commits.length : Int)) rfl rfl e5) ?_
 rintro v6 _ ⟨W6, rfl, l6, o6⟩
 have a7 := a2.n l6
 refine Nv v6 rfl (sr (mv v6 rfl (mi rfl ?_)))
 obtain ⟨u9, e10, hm⟩ := ob hm
 refine Lw.r rfl (R.ix (α := Bool) o6.rd e10 rfl rfl rfl) ?_
 obtain ⟨q12, e13, hm⟩ := ob hm
 refine Lw.u (T.stS (K' := []) o6 (rdB _) e13 rfl rfl rfl) ?_
 rintro _ _ ⟨W11, rfl, l11, o11⟩
 have a14 := a7.t l11
 refine nl (ssr (mi rfl (Ni rfl (Cw.block ?_))))
 obtain ⟨K21, hK21, hm⟩ := jn_e hm
 refine Cw.loop 17 39 [6, 8] (fun m l w => ∃ y16 y18 j17 W20, CW.w W20 = w ∧ Le [3] W11 W20 ∧ l = [vI y16, j17] ∧ Ow W20 3 [] [v6] y18 ∧ Vm.impl_Repo_ancestors_l1 x0 K21 m y16 y18 = some r) _ ⟨x1, q12, undef, W11, rfl, Le.refl _ _, rfl, o11, hm⟩ ?_
 rintro (_ | m22) _ _ σ ⟨y16, y18, j17, W20, rfl, l20, rfl, o19, hm⟩
 ·cases hm
 unfold Vm.impl_Repo_ancestors_l1 at hm
 have a23 := a14.t l20
 refine ssr (mi rfl (Lw.ge rfl (nl (cn hm (fun hm => ?_) fun hm => ?_))))
 ·refine sk ?_
  obtain ⟨K30, hK30, hm⟩ := jn_e hm
  refine Cw.join 21 39 [8] (fun l w => ∃ y27 j26 W29, CW.w W29 = w ∧ Le [3] W20 W29 ∧ l = [j26] ∧ Ow W29 3 [] [v6] y27 ∧ K30 y27 = some r) ?_ ?_
  ·rintro _ _ σ ⟨y27, j26, W29, rfl, l29, rfl, o28, hm⟩
   rw [hK30] at hm
   exact rg (mi rfl (Lw.sub rfl (Ni rfl ((agm) ⟨w64 (y16 - 1), y27, j26, W29, rfl, (l20.j l29).w, rfl, o28, hm⟩))))
  ·refine Cw.block (sr (mv v6 rfl (mi rfl ?_)))
   obtain ⟨u33, e34, hm⟩ := ob hm
   refine Lw.r rfl (R.ix (α := Bool) o19.rd e34 rfl rfl rfl) (Lw.r rfl (R.ld rfl rfl (o19.rd.at_ e34).bool) (nl (cn hm (fun hm => ?_) fun hm => ?_)))
   ·refine sr (fl (((b1.up l6).up l11).up l20) rfl (mi rfl ?_))
    obtain ⟨u36, e37, hm⟩ := ob hm
    refine Lw.r rfl (R.ix (α := Commit) (h0_0.ul a23) e37 rfl rfl rfl) (Lw.fa rfl ?_)
    obtain ⟨v39, c40, r41⟩ := (Commit.at0 ((h0_0.ul a23).at_ e37)).cell rfl
    refine Lw.r rfl (R.ld rfl rfl c40) (Lw.ln u36.Parents r41 rfl (mi rfl (nl (Cw.block (Cw.loop 32 39 [8, 32] (fun m l w => ∃ y43 y44 j42 W46, CW.w W46 = w ∧ Le [3] W20 W46 ∧ l = [j42, vI y43] ∧ Ow W46 3 [] [v6] y44 ∧ Vm.impl_Repo_ancestors_l2 K30 u36 m y43 y44 = some r) _ ⟨0, y18, j17, W20, rfl, Le.refl _ _, rfl, o19, hm⟩ ?_)))))
    rintro (_ | m48) _ _ σ ⟨y43, y44, j42, W46, rfl, l46, rfl, o45, hm⟩
    ·cases hm
    unfold Vm.impl_Repo_ancestors_l2 at hm
    have a49 := l46.s
    refine sr (Lw.lt rfl (nl (Cw.seq (cn hm (fun hm => ?_) fun hm => ?_))))
    ·refine sk (Cw.seq (Cw.block (sr ?_)))
     obtain ⟨u52, e53, hm⟩ := ob hm
     refine Lw.r rfl (R.ix (α := Int) (r41.ul a49) e53 rfl rfl rfl) (Lw.r rfl (R.ld rfl rfl ((r41.ul a49).at_ e53).int) (Ni rfl (rg (mv v6 rfl (mi rfl ?_)))))
     obtain ⟨u55, e56, hm⟩ := ob hm
     refine Lw.r rfl (R.ix (α := Bool) o45.rd e56 rfl rfl rfl) ?_
     obtain ⟨q58, e59, hm⟩ := ob hm
     refine Lw.u (T.stS (K' := []) o45 (rdB _) e59 rfl rfl rfl) ?_
     rintro _ _ ⟨W57, rfl, l57, o57⟩
     exact nl (rg (Lw.add rfl (mi rfl (nl ((agm) ⟨w64 (y43 + 1), q58, vI u52, W57, rfl, (l46.j l57).w, rfl, o57, hm⟩)))))
    ·exact Cw.exit ((ag) ⟨y44, j42, W46, rfl, l46, rfl, o45, hm⟩)
   ·exact sk ((ag) ⟨y18, j17, W20, rfl, Le.refl _ _, rfl, o19, hm⟩)
 ·refine Cw.exit ?_
  rw [hK21] at hm
  refine sr (mv v6 rfl (Nv v6 rfl ?_))
  cases hm
  exact Cw.ret (ret1 rfl (Res.mk a23 ⟨v6, rfl, o19.s.sub rfl rfl⟩))
theorem p40 {x0 v0_0_ v0_1_ x1 k0 r} (h0 : Rd W K [v0_0_, v0_1_] x0) (hm : Vm.impl_Repo_ancestors x0 x1 = some r) : Q1 40 [.agg [v0_0_, v0_1_].toArray, vI x1] W [] fun W' v => ∃ u0, v = u0 ∧ Ow W' k0 [] [u0] r :=
 (c40 (h0.view _) hm).ad (fk k0) fun _ _ ⟨u0, e, f0⟩ => ⟨u0, e, f0.back (fk_LL _)⟩
theorem c17 {x0 v0_ r} (h0 : Rd W0 [0] [v0_] x0) (hm : Vm.impl_listOf x0 = some r) : Q0 17 [v0_] W0 fun Wf v => ∃ u0, v = u0 ∧ OwS Wf LL [] [u0] r := by
 unfold Vm.impl_listOf at hm
 refine CallR.of Tryz.func17 rfl rfl rfl rfl (sr (Nv (.slice none 0 0) rfl (sr (Nv (.slice none 0 0) rfl (ssr (mv v0_ rfl (Lw.ln x0 h0 rfl (mi rfl (nl (Cw.block ?_))))))))))
 obtain ⟨K8, hK8, hm⟩ := jn_e hm
 refine Cw.loop 8 18 [3, 4, 5, 8] (fun m l w => ∃ y1 y6 v2 j4 j5 W7, CW.w W7 = w ∧ Le [2] W0 W7 ∧ l = [v2, j4, j5, vI y6] ∧ Ow W7 2 [] [v2] y1 ∧ Vm.impl_listOf_l1 x0 K8 m y1 y6 = some r) _ ⟨([] : List Int), 0, .slice none 0 0, undef, undef, W0, rfl, Le.refl _ _, rfl, owN 2 [], hm⟩ ?_
 rintro (_ | m9) _ _ σ ⟨y1, y6, v2, j4, j5, W7, rfl, l7, rfl, o3, hm⟩
 ·cases hm
 unfold Vm.impl_listOf_l1 at hm
 have a10 := l7.s
 refine sr (Lw.lt rfl (nl (Cw.seq (cn hm (fun hm => ?_) fun hm => ?_))))
 ·refine sk ?_
  obtain ⟨K18, hK18, hm⟩ := jn_e hm
  refine Cw.join 10 17 [3, 4, 5] (fun l w => ∃ y12 v13 j15 j16 W17, CW.w W17 = w ∧ Le [2] W7 W17 ∧ l = [v13, j15, j16] ∧ Ow W17 2 [] [v13] y12 ∧ K18 y12 = some r) ?_ ?_
  ·rintro _ _ σ ⟨y12, v13, j15, j16, W17, rfl, l17, rfl, o14, hm⟩
   rw [hK18] at hm
   exact rg (Lw.add rfl (mi rfl (nl ((agm) ⟨y12, w64 (y6 + 1), v13, j15, j16, W17, rfl, (l7.j l17).w, rfl, o14, hm⟩))))
  ·refine Cw.block (sr (mi rfl ?_))
   obtain ⟨u20, e21, hm⟩ := ob hm
   refine Lw.r rfl (R.ix (α := Bool) (h0.ul a10) e21 rfl rfl rfl) (Lw.r rfl (R.ld rfl rfl ((h0.ul a10).at_ e21).bool) (Gi rfl (Nb rfl (sr (mb rfl (nl (cn hm (fun hm => ?_) fun hm => ?_)))))))
   ·refine rg (mv v2 rfl (mi rfl (Lw.t rfl (T.bs 3 [vI y6] (cs := [vI y6]) rfl rfl (bsv rfl)) ?_)))
    rintro _ _ ⟨g24, W24, rfl, rfl, l24, b24⟩
    obtain ⟨q27, e28, hm⟩ := ob hm
    refine Lw.t rfl (T.app1S (α := Int) (K' := []) (o3.up l24) b24 (rdI _) rfl rfl e28) ?_
    rintro v29 _ ⟨W29, rfl, l29, o29⟩
    exact Nv v29 rfl ((ag) ⟨q27, v29, vI y6, vB u20, W29, rfl, (l24.j l29).w, rfl, o29, hm⟩)
   ·exact sk ((ag) ⟨y1, v2, vI y6, vB u20, W7, rfl, Le.refl _ _, rfl, o3, hm⟩)
 ·refine Cw.exit ?_
  rw [hK8] at hm
  refine sr (mv v2 rfl (Nv v2 rfl ?_))
  cases hm
  exact Cw.ret (ret1 rfl (Res.mk a10 ⟨v2, rfl, o3.s.sub rfl rfl⟩))
theorem p17 {x0 v0_ k0 r} (h0 : Rd W K [v0_] x0) (hm : Vm.impl_listOf x0 = some r) : Q1 17 [v0_] W [] fun W' v => ∃ u0, v = u0 ∧ Ow W' k0 [] [u0] r :=
 (c17 (h0.view _) hm).ad (fk k0) fun _ _ ⟨u0, e, f0⟩ => ⟨u0, e, f0.back (fk_LL _)⟩
theorem c18 {x0 v0_0_ v0_1_ r} (h0 : Rd W0 [0] [v0_0_, v0_1_] x0) (hm : Vm.impl_Repo_live x0 = some r) : Q0 18 [.agg [v0_0_, v0_1_].toArray] W0 fun Wf v => ∃ u0, v = u0 ∧ OwS Wf LL [] [u0] r := by
 unfold Vm.impl_Repo_live at hm
 obtain ⟨w0_0, w0_1, he0, h0_0, h0_1⟩ := Repo.split h0
 simp only [List.cons.injEq, and_true, true_and] at he0
 obtain ⟨rfl, rfl⟩ := he0
 refine CallR.of Tryz.func18 rfl rfl rfl rfl (sr (bo 2 rfl fun g1 W1 l1 b1 => ?_))
 have a2 := l1.o
 refine Nv (.slice none 0 0) rfl (sr (fl b1 rfl (Lw.ln x0.Commits (h0_0.ul a2) rfl ?_)))
 obtain ⟨q4, e5, hm⟩ := ob hm
 refine Lw.t rfl (T.mk (α := Bool) 3 [] (n := (x0.Commits.length : Int)) rfl rfl e5) ?_
 rintro v6 _ ⟨W6, rfl, l6, o6⟩
 have a7 := a2.n l6
 refine Nv v6 rfl (ssr (fl (b1.up l6) rfl (Lw.ln x0.Heads (h0_1.ul a7) rfl (mi rfl (nl (Cw.block ?_))))))
 obtain ⟨K16, hK16, hm⟩ := jn_e hm
 refine Cw.loop 15 33 [5, 7, 15] (fun m l w => ∃ y12 y13 j10 j11 W15, CW.w W15 = w ∧ Le [3, 4] W6 W15 ∧ l = [j10, j11, vI y12] ∧ Ow W15 3 [] [v6] y13 ∧ Vm.impl_Repo_live_l1 x0 K16 m y12 y13 = some r) _ ⟨0, q4, undef, undef, W6, rfl, Le.refl _ _, rfl, o6, hm⟩ ?_
 rintro (_ | m17) _ _ σ ⟨y12, y13, j10, j11, W15, rfl, l15, rfl, o14, hm⟩
 ·cases hm
 unfold Vm.impl_Repo_live_l1 at hm
 have a18 := a7.t l15
 refine sr (Lw.lt rfl (nl (Cw.seq (cn hm (fun hm => ?_) fun hm => ?_))))
 ·refine sk (Cw.seq (Cw.block (sr ?_)))
  obtain ⟨u21, e22, hm⟩ := ob hm
  refine Lw.r rfl (R.ix (α := Head) (h0_1.ul a18) e22 rfl rfl rfl) ?_
  obtain ⟨x24, c25, _, r26⟩ := ((h0_1.ul a18).at_ e22).cells
  obtain rfl := Head.split r26
  refine Lw.r rfl (R.lda c25 rfl rfl) (al 4 [vS ([] : Str), vI 0] fun g27 W27 l27 b27 => ?_)
  have a28 := a18.n l27
  refine sta b27 (oc_cons rfl (oc_cons rfl oc_nil)) fun W31 l31 b31 => ?_
  have a32 := a28.t l31
  refine nl (sr (la ((((b1.up l6).up l15).up l27).up l31) (fl b31 rfl (cr hm (fun _ => p40 (k0 := 5) (Repo.rd (K := [0]) x0.Commits x0.Heads (h0_0.ul a32) (h0_1.ul a32))) ?_))))
  rintro z37 v0_39 W39 hm l39 ⟨_, rfl, f39_0⟩
  refine cr hm (fun _ => p17 (K := [5]) (k0 := 6) f39_0.rd) ?_
  rintro z44 v0_46 W46 hm l46 ⟨_, rfl, f46_0⟩
  refine Lw.ln z44 f46_0.rd rfl (mi rfl (nl (Cw.block ?_)))
  obtain ⟨K57, hK57, hm⟩ := jn_e hm
  refine Cw.loop 25 32 [7, 25] (fun m l w => ∃ y53 y54 j52 W56, CW.w W56 = w ∧ Le [3] W46 W56 ∧ l = [j52, vI y53] ∧ Ow W56 3 [] [v6] y54 ∧ Vm.impl_Repo_live_l2 z44 K57 m y53 y54 = some r) _ ⟨0, y13, j11, W46, rfl, Le.refl _ _, rfl, ((((o14.up l27).up l31).up l39).up l46), hm⟩ ?_
  rintro (_ | m58) _ _ σ ⟨y53, y54, j52, W56, rfl, l56, rfl, o55, hm⟩
  ·cases hm
  unfold Vm.impl_Repo_live_l2 at hm
  refine sr (Lw.lt rfl (nl (Cw.seq (cn hm (fun hm => ?_) fun hm => ?_))))
  ·refine sk (Cw.seq (Cw.block (sr ?_)))
   obtain ⟨u65, e66, hm⟩ := ob hm
   refine Lw.r rfl (R.ix (α := Int) (f46_0.up l56).rd e66 rfl rfl rfl) (Lw.r rfl (R.ld rfl rfl ((f46_0.up l56).rd.at_ e66).int) (Ni rfl (rg (mv v6 rfl (mi rfl ?_)))))
   obtain ⟨u67, e68, hm⟩ := ob hm
   refine Lw.r rfl (R.ix (α := Bool) o55.rd e68 rfl rfl rfl) ?_
   obtain ⟨q70, e71, hm⟩ := ob hm
   refine Lw.u (T.stS (K' := []) o55 (rdB _) e71 rfl rfl rfl) ?_
   rintro _ _ ⟨W69, rfl, l69, o69⟩
   exact nl (rg (Lw.add rfl (mi rfl (nl ((agm) ⟨w64 (y53 + 1), q70, vI u65, W69, rfl, (l56.j l69).w, rfl, o69, hm⟩)))))
  ·refine Cw.exit ?_
   rw [hK57] at hm
   exact rg (Lw.add rfl (mi rfl (nl ((agm) ⟨w64 (y12 + 1), y54, ptr (bx g27), j52, W56, rfl, (((((l15.j l27).j l31).j l39).j l46).j l56).w, rfl, o55, hm⟩))))
 ·refine Cw.exit ?_
  rw [hK16] at hm
  refine sr (mv v6 rfl (Nv v6 rfl ?_))
  cases hm
  exact Cw.ret (ret1 rfl (Res.mk a18 ⟨v6, rfl, o14.s.sub rfl rfl⟩))
theorem p18 {x0 v0_0_ v0_1_ k0 r} (h0 : Rd W K [v0_0_, v0_1_] x0) (hm : Vm.impl_Repo_live x0 = some r) : Q1 18 [.agg [v0_0_, v0_1_].toArray] W [] fun W' v => ∃ u0, v = u0 ∧ Ow W' k0 [] [u0] r :=
 (c18 (h0.view _) hm).ad (fk k0) fun _ _ ⟨u0, e, f0⟩ => ⟨u0, e, f0.back (fk_LL _)⟩
theorem c20 {x0 v0_0_ v0_1_ x1 r} (h0 : Rd W0 [0] [v0_0_, v0_1_] x0) (hm : Vm.impl_Repo_tree x0 x1 = some r) : Q0 20 [.agg [v0_0_, v0_1_].toArray, vI x1] W0 fun Wf v => ∃ u0, v = u0 ∧ Rd Wf [0] [u0] r := by
 unfold Vm.impl_Repo_tree at hm
 obtain ⟨w0_0, w0_1, he0, h0_0, h0_1⟩ := Repo.split h0
 simp only [List.cons.injEq, and_true, true_and] at he0
 obtain ⟨rfl, rfl⟩ := he0
 refine CallR.of Tryz.func20 rfl rfl rfl rfl (sr (bo 2 rfl fun g1 W1 l1 b1 => ?_))
 have a2 := l1.o
 refine Nv (.slice none 0 0) rfl (ssr (mi rfl (Lw.lt rfl (nl (cn hm (fun hm => ?_) fun hm => ?_)))))
 ·refine sr (Nv (.slice none 0 0) rfl ?_)
  cases hm
  exact Cw.ret (ret1 rfl (Res.mk a2 ⟨.slice none 0 0, rfl, (rdN (K := [0]))⟩))
 ·refine sk (sr (fl b1 rfl (mi rfl ?_)))
  obtain ⟨u4, e5, hm⟩ := ob hm
  refine Lw.r rfl (R.ix (α := Commit) (h0_0.ul a2) e5 rfl rfl rfl) (Lw.fa rfl ?_)
  obtain ⟨v7, c8, r9⟩ := (Commit.at2 ((h0_0.ul a2).at_ e5)).cell rfl
  refine Lw.r rfl (R.ld rfl rfl c8) (Nv v7 rfl ?_)
  cases hm
  exact Cw.ret (ret1 rfl (Res.mk a2 ⟨v7, rfl, r9⟩))
theorem p20 {x0 v0_0_ v0_1_ x1 r} (h0 : Rd W K [v0_0_, v0_1_] x0) (hm : Vm.impl_Repo_tree x0 x1 = some r) : Q1 20 [.agg [v0_0_, v0_1_].toArray, vI x1] W [] fun W' v => ∃ u0, v = u0 ∧ Rd W' (0 :: K) [u0] r :=
 (c20 (h0.view _) hm).ad (fk 0) fun _ _ ⟨u0, e, f0⟩ => ⟨u0, e, f0.back rfl⟩
theorem c45 {x0 v0_ r} (h0 : Rd W0 [0] [v0_] x0) (hm : Vm.impl_copyText x0 = some r) : Q0 45 [v0_] W0 fun Wf v => ∃ u0, v = u0 ∧ OwS Wf LL [] [u0] r := by
 unfold Vm.impl_copyText at hm
 refine CallR.of Tryz.func45 rfl rfl rfl rfl (sr (Nv (.slice none 0 0) rfl (sr (Lw.t rfl (T.lit0 (α := Str) 2 []) ?_))))
 rintro v1 _ ⟨W1, rfl, l1, o1⟩
 have a2 := l1.o
 refine mv v0_ rfl ?_
 obtain ⟨q3, e4, hm⟩ := ob hm
 refine Lw.t rfl (T.appP (α := Str) o1 (h0.ul a2) rfl rfl e4) ?_
 rintro v5 _ ⟨W5, rfl, l5, o5⟩
 have a7 := a2.t l5
 refine Nv v5 rfl ?_
 cases hm
 exact Cw.ret (ret1 rfl (Res.mk a7 ⟨v5, rfl, o5.s.sub rfl rfl⟩))
theorem p45 {x0 v0_ k0 r} (h0 : Rd W K [v0_] x0) (hm : Vm.impl_copyText x0 = some r) : Q1 45 [v0_] W [] fun W' v => ∃ u0, v = u0 ∧ Ow W' k0 [] [u0] r :=
 (c45 (h0.view _) hm).ad (fk k0) fun _ _ ⟨u0, e, f0⟩ => ⟨u0, e, f0.back (fk_LL _)⟩
theorem c19 {x0 v0_ r} (h0 : Rd W0 [0] [v0_] x0) (hm : Vm.impl_copyTree x0 = some r) : Q0 19 [v0_] W0 fun Wf v => ∃ u0, v = u0 ∧ OwS Wf LL [] [u0] r := by
 unfold Vm.impl_copyTree at hm
 refine CallR.of Tryz.func19 rfl rfl rfl rfl (sr (Nv (.slice none 0 0) rfl (sr (Nv (.slice none 0 0) rfl (ssr (mv v0_ rfl (Lw.ln x0 h0 rfl (mi rfl (nl (Cw.block ?_))))))))))
 obtain ⟨K7, hK7, hm⟩ := jn_e hm
 refine Cw.loop 8 21 [3, 5, 8] (fun m l w => ∃ y1 y5 v2 j4 W6, CW.w W6 = w ∧ Le [2, 3, 4] W0 W6 ∧ l = [v2, j4, vI y5] ∧ Ow W6 2 [] [v2] y1 ∧ Vm.impl_copyTree_l1 x0 K7 m y1 y5 = some r) _ ⟨([] : List File), 0, .slice none 0 0, undef, W0, rfl, Le.refl _ _, rfl, owN 2 [], hm⟩ ?_
 rintro (_ | m8) _ _ σ ⟨y1, y5, v2, j4, W6, rfl, l6, rfl, o3, hm⟩
 ·cases hm
 unfold Vm.impl_copyTree_l1 at hm
 have a9 := l6.s
 refine sr (Lw.lt rfl (nl (Cw.seq (cn hm (fun hm => ?_) fun hm => ?_))))
 ·refine sk (Cw.seq (Cw.block (sr ?_)))
  obtain ⟨u11, e12, hm⟩ := ob hm
  refine Lw.r rfl (R.ix (α := File) (h0.ul a9) e12 rfl rfl rfl) ?_
  obtain ⟨x14, c15, _, r16⟩ := ((h0.ul a9).at_ e12).cells
  obtain ⟨v17, rfl, r18⟩ := File.split r16
  refine Lw.r rfl (R.lda c15 rfl rfl) (al 3 [vS ([] : Str), .slice none 0 0] fun g19 W19 l19 b19 => ?_)
  have a20 := l19.o
  refine sta b19 (oc_cons rfl (oc_cons r18.oc oc_nil)) fun W22 l22 b22 => ?_
  have a23 := a20.t l22
  refine nl (Cw.draw [2, 4] [(0, 0), (1, 0), (2, 1), (3, 0), (4, 1), (5, 2), (6, 0), (7, 2), (8, 2), (9, 0)] mixed (by kernel_rfl) fun W25 l25 => ?_)
  have a26 := a23.n l25
  refine Dv v2 rfl (Dfl (b22.up l25) rfl rfl rfl (Dfl (b22.up l25) rfl rfl rfl (Dc hm (Le.refl _ _) (fun _ => p45 (k0 := 4) (r18.ul a26)) rfl ?_)))
  rintro z30 v0_32 W32 hm l32 ⟨_, rfl, f32_0⟩ d32
  refine Mw.p rfl rfl (fun _ => R.bd (zs := [vS ([] : Str), .slice none 0 0]) (cs := [vS u11.Path, v0_32]) [(0, vS u11.Path), (1, v0_32)] rfl rfl rfl (bp_cons rfl rfl (bp_cons f32_0.oc rfl bp_nil))) (Mw.t rfl rfl (T.bs 5 [.agg [vS u11.Path, v0_32].toArray] (cs := [vS u11.Path, v0_32]) rfl rfl (bsA rfl)) ?_)
  rintro _ _ ⟨g36, W36, rfl, rfl, l36, b36⟩
  refine mc d32 l36 fun d36 => ?_
  obtain ⟨q41, e42, hm⟩ := ob hm
  refine Mw.t rfl rfl (T.app1 (α := File) (J := [4]) (K' := []) (((((o3.up l19).up l22).up l25).up l32).up l36) b36 (File.own u11.Path z30 (f32_0.up l36).s) rfl rfl e42) ?_
  rintro v43 _ ⟨W43, rfl, l43, o43⟩
  exact mc d36 l43 fun d43 => Hv v43 rfl (Mw.nil (rg (Lw.add rfl (mi rfl (nl ((agm) ⟨q41, w64 (y5 + 1), v43, ptr (bx g19), W43, rfl, ((((((l6.j l19).j l22).j l25).j l32).j l36).j l43).w, rfl, o43, hm⟩))))))
 ·refine Cw.exit ?_
  rw [hK7] at hm
  refine sr (mv v2 rfl (Nv v2 rfl ?_))
  cases hm
  exact Cw.ret (ret1 rfl (Res.mk a9 ⟨v2, rfl, o3.s.sub rfl rfl⟩))
theorem p19 {x0 v0_ k0 r} (h0 : Rd W K [v0_] x0) (hm : Vm.impl_copyTree x0 = some r) : Q1 19 [v0_] W [] fun W' v => ∃ u0, v = u0 ∧ Ow W' k0 [] [u0] r :=
 (c19 (h0.view _) hm).ad (fk k0) fun _ _ ⟨u0, e, f0⟩ => ⟨u0, e, f0.back (fk_LL _)⟩
theorem c5 {x0 v0_0_ v0_1_ r} (h0 : Rd W0 [0] [v0_0_, v0_1_] x0) (h99 : Gl 0 W0 [0]) (hm : Vm.impl_KeepOnly x0 = some r) : Q0 5 [.agg [v0_0_, v0_1_].toArray] W0 fun Wf v => ∃ u0_0 u0_1, v = .agg [u0_0, u0_1].toArray ∧ OwS Wf [31] [] [u0_0] r.Commits ∧ OwS Wf [32] [] [u0_1] r.Heads := by
 unfold Vm.impl_KeepOnly at hm
 obtain ⟨w0_0, w0_1, he0, h0_0, h0_1⟩ := Repo.split h0
 simp only [List.cons.injEq, and_true, true_and] at he0
 obtain ⟨rfl, rfl⟩ := he0
 refine CallR.of Tryz.func5 rfl rfl rfl rfl (sr (bo 2 rfl fun g1 W1 l1 b1 => ?_))
 have a2 := l1.o
 refine al 3 [.slice none 0 0, .slice none 0 0] fun g3 W3 l3 b3 => ?_
 have a4 := a2.n l3
 refine nl (ssr (la (b1.up l3) (ca hm (fun _ => p8 (Repo.rd (K := [0]) x0.Commits x0.Heads (h0_0.ul a4) (h0_1.ul a4)) (h99.ul a4)) fun z9 W11 hm l11 => ?_)))
 have a12 := a4.n l11
 have b13 := (b1.up l3).up l11
 refine Lw.r rfl (R.not rfl) (nl (cn hm (fun hm => ?_) fun hm => ?_))
 ·refine sr (Lw.r rfl (R.bd (zs := [.slice none 0 0, .slice none 0 0]) (cs := [.slice none 0 0, .slice none 0 0]) [] rfl rfl rfl bp_nil) (sta (b3.up l11) (oc_cons rfl (oc_cons rfl oc_nil)) fun W16 l16 b16 => ?_))
  have a17 := a12.t l16
  refine nl ?_
  cases hm
  exact Cw.ret (retA1 rfl b16 (Res.mk a17 ⟨.slice none 0 0, .slice none 0 0, rfl, (owsN []).sub rfl rfl, (owsN []).sub rfl rfl⟩))
 ·refine sk (sr (fl b13 rfl (Lw.ln x0.Commits (h0_0.ul a12) rfl ?_)))
  obtain ⟨q20, e21, hm⟩ := ob hm
  refine Lw.t rfl (T.mk (α := Int) 4 [] (n := (x0.Commits.length : Int)) rfl rfl e21) ?_
  rintro v22 _ ⟨W22, rfl, l22, o22⟩
  have a23 := a12.n l22
  refine Nv v22 rfl (sr (al 5 [.slice none 0 0, .slice none 0 0] fun g26 W26 l26 b26 => ?_))
  have a27 := a23.n l26
  have b29 := (b13.up l22).up l26
  refine nl (ssr (la b29 (cr hm (fun _ => p18 (k0 := 6) (Repo.rd (K := [0]) x0.Commits x0.Heads (h0_0.ul a27) (h0_1.ul a27))) ?_)))
  rintro z33 v0_35 W35 hm l35 ⟨_, rfl, f35_0⟩
  have a36 := a27.n l35
  refine cr hm (fun _ => p17 (K := [6]) (k0 := 7) f35_0.rd) ?_
  rintro z41 v0_43 W43 hm l43 ⟨_, rfl, f43_0⟩
  have a44 := a36.n l43
  refine Lw.ln z41 f43_0.rd rfl (mi rfl (nl (Cw.block ?_)))
  obtain ⟨K64, hK64, hm⟩ := jn_e hm
  refine Cw.loop 24 72 [6, 7, 9, 24] (fun m l w => ∃ y53 y54 y57 y61 j50 j51 j52 v55 v58 W63, CW.w W63 = w ∧ Le [4, 5, 8, 10, 11, 12] W43 W63 ∧ l = [j50, j51, j52, vI y53] ∧ Ow W63 8 [] [v55] y54 ∧ Ow W63 9 [] [v58] y57 ∧ Bx W63 5 g26 [v55, v58] ∧ Ow W63 4 [] [v22] y61 ∧ Vm.impl_KeepOnly_l1 x0 z41 K64 m y53 y54 y57 y61 = some r) _ ⟨0, ([] : List Commit), ([] : List Head), q20, undef, undef, undef, .slice none 0 0, .slice none 0 0, W43, rfl, Le.refl _ _, rfl, owN 8 [], owN 9 [], ((b26.up l35).up l43), (((o22.up l26).up l35).up l43), hm⟩ ?_
  rintro (_ | m65) _ _ σ ⟨y53, y54, y57, y61, j50, j51, j52, v55, v58, W63, rfl, l63, rfl, o56, o59, b60, o62, hm⟩
  ·cases hm
  unfold Vm.impl_KeepOnly_l1 at hm
  have a66 := a44.t l63
  have b69 := ((b29.up l35).up l43).up l63
  refine sr (Lw.lt rfl (nl (Cw.seq (cn hm (fun hm => ?_) fun hm => ?_))))
  ·refine sk (Cw.seq (Cw.block (sr ?_)))
   obtain ⟨u72, e73, hm⟩ := ob hm
   refine Lw.r rfl (R.ix (α := Int) (f43_0.up l63).rd e73 rfl rfl rfl) (Lw.r rfl (R.ld rfl rfl ((f43_0.up l63).rd.at_ e73).int) (Ni rfl (sr (mv v22 rfl (mi rfl (fl b60 rfl (Lw.ln y54 o56.rd rfl ?_)))))))
   obtain ⟨u74, e75, hm⟩ := ob hm
   refine Lw.r rfl (R.ix (α := Int) o62.rd e75 rfl rfl rfl) ?_
   obtain ⟨q77, e78, hm⟩ := ob hm
   refine Lw.u (T.stS (K' := []) o62 (rdI _) e78 rfl rfl rfl) ?_
   rintro _ _ ⟨W76, rfl, l76, o76⟩
   have a79 := a66.t l76
   refine nl (Cw.seq ?_)
   obtain ⟨u97, e98, hm⟩ := ob hm
   obtain ⟨z101, e102, hm⟩ := ob hm
   obtain ⟨z114, e115, hm⟩ := ob hm
   refine Cw.par [[], [0], [], [0, 1, 2], [0, 1, 2, 3], [0, 1, 2, 3, 4], [], [], [6, 7], [6, 7, 8], [0, 1, 2, 3, 4, 5, 6, 7, 8, 9], [], [0, 1, 2, 3, 4, 5, 6, 7, 8, 9, 10, 11]] [[], [0], [], [1, 2], [3], [4], [], [], [6, 7], [8], [5, 9], [], [9, 10, 11]] [[], [], [], [], [], [], [], [], [], [], [], [], [11]] [[0], [1], [2], [3], [4], [5], [6], [7], [8], [9], [9, 10], [11], [9, 11]] [[], [], [], [], [], [], [], [], [0], [10], [], [11], [11]] [0, 1, 2, 3, 4, 5, 6, 7, 8, 9, 10, 12] [11] [fun vs W => (vs 0) = ptr ((bx g1).add 0), fun vs W => (vs 1) = v0_0_, fun vs W => (vs 2) = vI u72, fun vs W => (vs 3) = ptr ((slA v0_0_).add ((u72).toNat * Rp.sz (Commit))), fun vs W => (vs 4) = ptr (((slA v0_0_).add ((u72).toNat * Rp.sz (Commit))).add 1), fun vs W => (vs 5) = vS u97.Who, fun vs W => (vs 6) = .agg [v0_0_, v0_1_].toArray, fun vs W => (vs 7) = vI u72, fun vs W => Rd W [0] [(vs 8)] z101, fun vs W => Ow W 10 [] [(vs 9)] z114, fun vs W => (vs 10) = .agg [.slice none 0 0, vS u97.Who, (vs 9)].toArray, fun vs W => (vs 11) = ptr (bx (pg (vs 11))) ∧ Bx W 11 (pg (vs 11)) [.slice none 0 0, vS ([] : Str), .slice none 0 0], fun vs W => (vs 11) = ptr (bx (pg (vs 11))) ∧ Bx W 11 (pg (vs 11)) [.slice none 0 0, vS u97.Who, (vs 9)]] [] mixed (by kernel_rfl) rfl AllF.nil ?_
   intro W148 l148
   have a149 := a79.n l148
   have b155 := (b69.up l76).up l148
   refine ⟨(Steps.cons ?_ (Steps.cons ?_ (Steps.cons ?_ (Steps.cons ?_ (Steps.cons ?_ (Steps.cons ?_ (Steps.cons ?_ (Steps.cons ?_ (Steps.cons ?_ (Steps.cons ?_ (Steps.cons ?_ (Steps.cons ?_ (Steps.cons ?_ Steps.nil))))))))))))), (Sups.cons (fun vs vs' W W' _ hv l hd h => by (show (vs' 0) = ptr ((bx g1).add 0)); rw [hv 0 (anyb rfl)]; exact h) (Sups.cons (fun vs vs' W W' _ hv l hd h => by (show (vs' 1) = v0_0_); rw [hv 1 (anyb rfl)]; exact h) (Sups.cons (fun vs vs' W W' _ hv l hd h => by (show (vs' 2) = vI u72); rw [hv 2 (anyb rfl)]; exact h) (Sups.cons (fun vs vs' W W' _ hv l hd h => by (show (vs' 3) = ptr ((slA v0_0_).add ((u72).toNat * Rp.sz (Commit)))); rw [hv 3 (anyb rfl)]; exact h) (Sups.cons (fun vs vs' W W' _ hv l hd h => by (show (vs' 4) = ptr (((slA v0_0_).add ((u72).toNat * Rp.sz (Commit))).add 1)); rw [hv 4 (anyb rfl)]; exact h) (Sups.cons (fun vs vs' W W' _ hv l hd h => by (show (vs' 5) = vS u97.Who); rw [hv 5 (anyb rfl)]; exact h) (Sups.cons (fun vs vs' W W' _ hv l hd h => by (show (vs' 6) = .agg [v0_0_, v0_1_].toArray); rw [hv 6 (anyb rfl)]; exact h) (Sups.cons (fun vs vs' W W' _ hv l hd h => by (show (vs' 7) = vI u72); rw [hv 7 (anyb rfl)]; exact h) (Sups.cons (fun vs vs' W W' _ hv l hd h => by (show Rd W' [0] [(vs' 8)] z101); rw [hv 8 (anyb rfl)]; exact h.up l (disj_sub hd (K := [0]) rfl)) (Sups.cons (fun vs vs' W W' _ hv l hd h => by (show Ow W' 10 [] [(vs' 9)] z114); rw [hv 9 (anyb rfl)]; exact h.upv l (disj_mem hd (c := 10) rfl)) (Sups.cons (fun vs vs' W W' _ hv l hd h => by (show (vs' 10) = .agg [.slice none 0 0, vS u97.Who, (vs' 9)].toArray); rw [hv 9 (anyb rfl), hv 10 (anyb rfl)]; exact h) (Sups.cons (fun vs vs' W W' _ hv l hd h => by (show (vs' 11) = ptr (bx (pg (vs' 11))) ∧ Bx W' 11 (pg (vs' 11)) [.slice none 0 0, vS ([] : Str), .slice none 0 0]); rw [hv 11 (anyb rfl)]; exact ⟨h.1, h.2.up l (disj_mem hd (c := 11) rfl)⟩) (Sups.cons (fun vs vs' W W' _ hv l hd h => by (show (vs' 11) = ptr (bx (pg (vs' 11))) ∧ Bx W' 11 (pg (vs' 11)) [.slice none 0 0, vS u97.Who, (vs' 9)]); rw [hv 9 (anyb rfl), hv 11 (anyb rfl)]; exact ⟨h.1, h.2.up l (disj_mem hd (c := 11) rfl)⟩) Sups.nil))))))))))))), ?_⟩
   ·intro vs W lW hN
    obtain ⟨W158, hW158⟩ : ∃ X, X = W := ⟨W, rfl⟩
    subst hW158
    refine Tr.mono (Run.tr (R.fa rfl)) ?_
    rintro _ _ ⟨hu, rfl⟩
    obtain rfl := hu.symm
    exact ⟨W158, rfl, Le.refl _ _, (show (ptr ((bx g1).add 0) : Value) = ptr ((bx g1).add 0) from rfl)⟩
   ·intro vs W lW hN
    obtain ⟨W168, hW168⟩ : ∃ X, X = W := ⟨W, rfl⟩
    subst hW168
    have e0_ : vs 0 = ptr ((bx g1).add 0) := (hN 0 (anyb rfl))
    obtain ⟨vs, rfl⟩ := up_eq e0_
    refine Tr.mono (Run.tr (R.ld (v := v0_0_) rfl rfl ((b155.up lW rfl).cell rfl))) ?_
    rintro _ _ ⟨hu, rfl⟩
    obtain rfl := hu.symm
    exact ⟨W168, rfl, Le.refl _ _, (show (v0_0_ : Value) = v0_0_ from rfl)⟩
   ·intro vs W lW hN
    obtain ⟨W178, hW178⟩ : ∃ X, X = W := ⟨W, rfl⟩
    subst hW178
    refine Tr.mono (Run.tr (R.mv (v := vI u72) rfl)) ?_
    rintro _ _ ⟨hu, rfl⟩
    obtain rfl := hu.symm
    exact ⟨W178, rfl, Le.refl _ _, (show (vI u72 : Value) = vI u72 from rfl)⟩
   ·intro vs W lW hN
    obtain ⟨W188, hW188⟩ : ∃ X, X = W := ⟨W, rfl⟩
    subst hW188
    have a189 := a149.t lW rfl
    have e1_ : vs 1 = v0_0_ := (hN 1 (anyb rfl))
    obtain ⟨vs, rfl⟩ := up_eq e1_
    have e2_ : vs 2 = vI u72 := (hN 2 (anyb rfl))
    obtain ⟨vs, rfl⟩ := up_eq e2_
    refine Tr.mono (Run.tr (R.ix (α := Commit) (h0_0.ul a189) e98 rfl rfl rfl)) ?_
    rintro _ _ ⟨hu, rfl⟩
    obtain rfl := hu.symm
    exact ⟨W188, rfl, Le.refl _ _, (show (ptr ((slA v0_0_).add ((u72).toNat * Rp.sz (Commit))) : Value) = ptr ((slA v0_0_).add ((u72).toNat * Rp.sz (Commit))) from rfl)⟩
   ·intro vs W lW hN
    obtain ⟨W199, hW199⟩ : ∃ X, X = W := ⟨W, rfl⟩
    subst hW199
    have e3_ : vs 3 = ptr ((slA v0_0_).add ((u72).toNat * Rp.sz (Commit))) := (hN 3 (anyb rfl))
    obtain ⟨vs, rfl⟩ := up_eq e3_
    refine Tr.mono (Run.tr (R.fa rfl)) ?_
    rintro _ _ ⟨hu, rfl⟩
    obtain rfl := hu.symm
    exact ⟨W199, rfl, Le.refl _ _, (show (ptr (((slA v0_0_).add ((u72).toNat * Rp.sz (Commit))).add 1) : Value) = ptr (((slA v0_0_).add ((u72).toNat * Rp.sz (Commit))).add 1) from rfl)⟩
   ·intro vs W lW hN
    obtain ⟨W209, hW209⟩ : ∃ X, X = W := ⟨W, rfl⟩
    subst hW209
    have a210 := a149.t lW rfl
    have e4_ : vs 4 = ptr (((slA v0_0_).add ((u72).toNat * Rp.sz (Commit))).add 1) := (hN 4 (anyb rfl))
    obtain ⟨vs, rfl⟩ := up_eq e4_
    refine Tr.mono (Run.tr (R.ld rfl rfl (Commit.at1 ((h0_0.ul a210).at_ e98)).str)) ?_
    rintro _ _ ⟨hu, rfl⟩
    obtain rfl := hu.symm
    exact ⟨W209, rfl, Le.refl _ _, (show (vS u97.Who : Value) = vS u97.Who from rfl)⟩
   ·intro vs W lW hN
    obtain ⟨W220, hW220⟩ : ∃ X, X = W := ⟨W, rfl⟩
    subst hW220
    refine Tr.mono (Run.tr (R.lda (cs := [v0_0_, v0_1_]) (b155.up lW rfl).cells rfl rfl)) ?_
    rintro _ _ ⟨hu, rfl⟩
    obtain rfl := hu.symm
    exact ⟨W220, rfl, Le.refl _ _, (show (.agg [v0_0_, v0_1_].toArray : Value) = .agg [v0_0_, v0_1_].toArray from rfl)⟩
   ·intro vs W lW hN
    obtain ⟨W230, hW230⟩ : ∃ X, X = W := ⟨W, rfl⟩
    subst hW230
    refine Tr.mono (Run.tr (R.mv (v := vI u72) rfl)) ?_
    rintro _ _ ⟨hu, rfl⟩
    obtain rfl := hu.symm
    exact ⟨W230, rfl, Le.refl _ _, (show (vI u72 : Value) = vI u72 from rfl)⟩
   ·intro vs W lW hN
    obtain ⟨W240, hW240⟩ : ∃ X, X = W := ⟨W, rfl⟩
    subst hW240
    have a241 := a149.t lW rfl
    have e6_ : vs 6 = .agg [v0_0_, v0_1_].toArray := (hN 6 (anyb rfl))
    obtain ⟨vs, rfl⟩ := up_eq e6_
    have e7_ : vs 7 = vI u72 := (hN 7 (anyb rfl))
    obtain ⟨vs, rfl⟩ := up_eq e7_
    refine Tr.mono (T.call rfl (p20  (Repo.rd (K := [0]) x0.Commits x0.Heads (h0_0.ul a241) (h0_1.ul a241)) e102)) ?_
    rintro v0_252 _ ⟨W252, rfl, l252, ⟨_, rfl, f252_0⟩⟩
    have s253 := f252_0.sub (M := [0]) rfl
    exact ⟨W252, rfl, l252, (show Rd W252 [0] [v0_252] z101 from s253)⟩
   ·intro vs W lW hN
    obtain ⟨W263, hW263⟩ : ∃ X, X = W := ⟨W, rfl⟩
    subst hW263
    obtain ⟨pv8, e8_⟩ : ∃ v, vs 8 = v := ⟨_, rfl⟩
    obtain ⟨vs, rfl⟩ := up_eq e8_
    have o273 : Rd W263 [0] [pv8] z101 := (hN 8 (anyb rfl))
    refine Tr.mono (T.call rfl (p19 (k0 := 10) o273 e115)) ?_
    rintro v0_274 _ ⟨W274, rfl, l274, ⟨_, rfl, f274_0⟩⟩
    exact ⟨W274, rfl, l274, (show Ow W274 10 [] [v0_274] z114 from f274_0)⟩
   ·intro vs W lW hN
    obtain ⟨W284, hW284⟩ : ∃ X, X = W := ⟨W, rfl⟩
    subst hW284
    have e5_ : vs 5 = vS u97.Who := (hN 5 (anyb rfl))
    obtain ⟨vs, rfl⟩ := up_eq e5_
    obtain ⟨pv9, e9_⟩ : ∃ v, vs 9 = v := ⟨_, rfl⟩
    obtain ⟨vs, rfl⟩ := up_eq e9_
    have o294 : Ow W284 10 [] [pv9] z114 := (hN 9 (anyb rfl))
    refine Tr.mono (Run.tr (R.bd (zs := [.slice none 0 0, vS ([] : Str), .slice none 0 0]) (cs := [.slice none 0 0, vS u97.Who, pv9]) [(1, vS u97.Who), (2, pv9)] rfl rfl rfl (bp_cons rfl rfl (bp_cons o294.oc rfl bp_nil)))) ?_
    rintro _ _ ⟨hu, rfl⟩
    obtain rfl := hu.symm
    exact ⟨W284, rfl, Le.refl _ _, (show (.agg [.slice none 0 0, vS u97.Who, pv9].toArray : Value) = .agg [.slice none 0 0, vS u97.Who, pv9].toArray from rfl)⟩
   ·intro vs W lW hN
    obtain ⟨W295, hW295⟩ : ∃ X, X = W := ⟨W, rfl⟩
    subst hW295
    refine Tr.mono (T.alloc 11 (cs := [.slice none 0 0, vS ([] : Str), .slice none 0 0]) rfl) ?_
    rintro _ _ ⟨g305, W305, rfl, rfl, l305, b305⟩
    exact ⟨W305, rfl, l305, (show (ptr (bx g305) : Value) = ptr (bx g305) ∧ Bx W305 11 g305 [.slice none 0 0, vS ([] : Str), .slice none 0 0] from ⟨rfl, b305⟩)⟩
   ·intro vs W lW hN
    obtain ⟨W315, hW315⟩ : ∃ X, X = W := ⟨W, rfl⟩
    subst hW315
    obtain ⟨pv9, e9_⟩ : ∃ v, vs 9 = v := ⟨_, rfl⟩
    obtain ⟨vs, rfl⟩ := up_eq e9_
    have o325 : Ow W315 10 [] [pv9] z114 := (hN 9 (anyb rfl))
    have e10_ : vs 10 = .agg [.slice none 0 0, vS u97.Who, pv9].toArray := (hN 10 (anyb rfl))
    obtain ⟨vs, rfl⟩ := up_eq e10_
    obtain ⟨pg11, e11_⟩ : ∃ pg11, vs 11 = ptr (bx pg11) := ⟨_, ((hN 11 (anyb rfl))).1⟩
    obtain ⟨vs, rfl⟩ := up_eq e11_
    have o326 : Bx W315 11 pg11 [.slice none 0 0, vS ([] : Str), .slice none 0 0] := (hN 11 (anyb rfl)).2
    refine Tr.mono (T.sta (vs := [.slice none 0 0, vS u97.Who, pv9]) o326 rfl rfl (oc_cons rfl (oc_cons rfl (oc_cons o325.oc oc_nil))) rfl rfl) ?_
    rintro _ _ ⟨W327, rfl, l327, b327⟩
    exact ⟨W327, rfl, l327, (show (ptr (bx pg11)) = ptr (bx pg11) ∧ Bx W327 11 pg11 [.slice none 0 0, vS u97.Who, pv9] from ⟨rfl, b327⟩)⟩
   ·intro vs W lW hN
    obtain ⟨W338, hW338⟩ : ∃ X, X = W := ⟨W, rfl⟩
    subst hW338
    have a339 := a149.t lW rfl
    obtain ⟨l338, hl338⟩ : ∃ x, x = lW := ⟨lW, rfl⟩
    have e0_ : vs 0 = ptr ((bx g1).add 0) := (hN 0 (anyb rfl))
    obtain ⟨vs, rfl⟩ := up_eq e0_
    have e1_ : vs 1 = v0_0_ := (hN 1 (anyb rfl))
    obtain ⟨vs, rfl⟩ := up_eq e1_
    have e2_ : vs 2 = vI u72 := (hN 2 (anyb rfl))
    obtain ⟨vs, rfl⟩ := up_eq e2_
    have e3_ : vs 3 = ptr ((slA v0_0_).add ((u72).toNat * Rp.sz (Commit))) := (hN 3 (anyb rfl))
    obtain ⟨vs, rfl⟩ := up_eq e3_
    have e4_ : vs 4 = ptr (((slA v0_0_).add ((u72).toNat * Rp.sz (Commit))).add 1) := (hN 4 (anyb rfl))
    obtain ⟨vs, rfl⟩ := up_eq e4_
    have e5_ : vs 5 = vS u97.Who := (hN 5 (anyb rfl))
    obtain ⟨vs, rfl⟩ := up_eq e5_
    have e6_ : vs 6 = .agg [v0_0_, v0_1_].toArray := (hN 6 (anyb rfl))
    obtain ⟨vs, rfl⟩ := up_eq e6_
    have e7_ : vs 7 = vI u72 := (hN 7 (anyb rfl))
    obtain ⟨vs, rfl⟩ := up_eq e7_
    obtain ⟨pv8, e8_⟩ : ∃ v, vs 8 = v := ⟨_, rfl⟩
    obtain ⟨vs, rfl⟩ := up_eq e8_
    have o348 : Rd W338 [0] [pv8] z101 := (hN 8 (anyb rfl))
    obtain ⟨pv9, e9_⟩ : ∃ v, vs 9 = v := ⟨_, rfl⟩
    obtain ⟨vs, rfl⟩ := up_eq e9_
    have o349 : Ow W338 10 [] [pv9] z114 := (hN 9 (anyb rfl))
    have e10_ : vs 10 = .agg [.slice none 0 0, vS u97.Who, pv9].toArray := (hN 10 (anyb rfl))
    obtain ⟨vs, rfl⟩ := up_eq e10_
    obtain ⟨pg11, e11_⟩ : ∃ pg11, vs 11 = ptr (bx pg11) := ⟨_, (hN 12 (anyb rfl)).1⟩
    obtain ⟨vs, rfl⟩ := up_eq e11_
    have o350 : Bx W338 11 pg11 [.slice none 0 0, vS u97.Who, pv9] := (hN 12 (anyb rfl)).2
    refine ssr (fl (b155.up lW rfl) rfl (mi rfl ?_))
    obtain ⟨u351, e352, hm⟩ := ob hm
    refine Lw.r rfl (R.ix (α := Commit) (h0_0.ul a339) e352 rfl rfl rfl) (Lw.fa rfl ?_)
    obtain ⟨v354, c355, r356⟩ := (Commit.at0 ((h0_0.ul a339).at_ e352)).cell rfl
    refine Lw.r rfl (R.ld rfl rfl c355) (Lw.ln u351.Parents r356 rfl (mi rfl (nl (Cw.block ?_))))
    obtain ⟨K368, hK368, hm⟩ := jn_e hm
    refine Cw.loop 52 65 [9, 52] (fun m l w => ∃ y358 y359 y362 y363 j357 v360 v364 W367, CW.w W367 = w ∧ Le [11, 12] W338 W367 ∧ l = [j357, vI y358] ∧ Ow W367 12 [] [v360] y359 ∧ Ow W367 10 [] [v364] y363 ∧ Bx W367 11 pg11 [v360, vS y362, v364] ∧ Vm.impl_KeepOnly_l2 q77 u351 K368 m y358 y359 y362 y363 = some r) _ ⟨0, ([] : List Int), u97.Who, z114, j52, .slice none 0 0, pv9, W338, rfl, Le.refl _ _, rfl, owN 12 [], o349, o350, hm⟩ ?_
    rintro (_ | m369) _ _ σ ⟨y358, y359, y362, y363, j357, v360, v364, W367, rfl, l367, rfl, o361, o365, b366, hm⟩
    ·cases hm
    unfold Vm.impl_KeepOnly_l2 at hm
    have a370 := l367.s
    have o371 := ((o76.up l148).up lW rfl).up l367
    have b378 := (((b60.up l76).up l148).up lW rfl).up l367
    refine sr (Lw.lt rfl (nl (Cw.seq (cn hm (fun hm => ?_) fun hm => ?_))))
    ·refine sk (Cw.seq (Cw.block (sr ?_)))
     obtain ⟨u380, e381, hm⟩ := ob hm
     refine Lw.r rfl (R.ix (α := Int) (r356.ul a370) e381 rfl rfl rfl) (Lw.r rfl (R.ld rfl rfl ((r356.ul a370).at_ e381).int) (Ni rfl (Cw.draw [12] [(0, 0), (1, 1), (2, 0), (3, 0), (4, 0), (5, 1), (6, 2), (7, 2), (8, 0), (9, 3)] mixed (by kernel_rfl) fun W383 l383 => ?_)))
     have o385 := o371.up l383
     refine Dfl (b366.up l383) rfl rfl rfl (Dv v22 rfl (Di rfl ?_))
     obtain ⟨u396, e397, hm⟩ := ob hm
     refine Mw.p rfl rfl (fun _ => R.ix (α := Int) o385.rd e397 rfl rfl rfl) (Mw.q rfl rfl (fun _ c => R.ld rfl rfl (cl_cell (o385.rd.at_ e397).1 rfl (o385.rd.at_ e397).int c)) (Mw.t rfl rfl (T.bs 13 [vI u396] (cs := [vI u396]) rfl rfl (bsv rfl)) ?_))
     rintro _ _ ⟨g398, W398, rfl, rfl, l398, b398⟩
     refine m0 l398 fun d398 => ?_
     obtain ⟨q411, e412, hm⟩ := ob hm
     refine Mw.t rfl rfl (T.app1S (α := Int) (K' := []) ((o361.up l383).up l398) b398 (rdI _) rfl rfl e412) ?_
     rintro v413 _ ⟨W413, rfl, l413, o413⟩
     refine mc d398 l413 fun d413 => Df rfl (Mw.lu rfl (T.st (j := 0) (v := v413) (((b366.up l383).up l398).up l413) rfl rfl o413.oc rfl rfl) ?_)
     rintro _ _ ⟨W426, rfl, l426, b426⟩
     exact Mw.nil (rg (Lw.add rfl (mi rfl (nl ((agm) ⟨w64 (y358 + 1), q411, y362, y363, vI u380, v413, v364, W426, rfl, ((((l367.j l383).j l398).j l413).j l426).w, rfl, (o413.up l426), ((((o365.up l383).up l398).up l413).up l426), b426, hm⟩)))))
    ·refine Cw.exit ?_
     rw [hK368] at hm
     refine rg (fl b378 rfl (la b366 (Lw.t rfl (T.bs 14 [.agg [v360, vS y362, v364].toArray] (cs := [v360, vS y362, v364]) rfl rfl (bsA rfl)) ?_)))
     rintro _ _ ⟨g439, W439, rfl, rfl, l439, b439⟩
     obtain ⟨q452, e453, hm⟩ := ob hm
     refine Lw.t rfl (T.app1 (α := Commit) (J := [12, 10]) (K' := []) (((((o56.up l76).up l148).up lW rfl).up l367).up l439) b439 (Commit.own y359 y362 y363 (o361.up l439).s (o365.up l439).s) rfl rfl e453) ?_
     rintro v454 _ ⟨W454, rfl, l454, o454⟩
     refine Lw.fa rfl (Lw.u (T.st (j := 0) (v := v454) ((b378.up l439).up l454) rfl rfl o454.oc rfl rfl) ?_)
     rintro _ _ ⟨W465, rfl, l465, b465⟩
     exact nl (rg (Lw.add rfl (mi rfl (nl ((agm) ⟨w64 (y53 + 1), q452, y57, q77, vI u72, ptr (bx pg11), j357, v454, v58, W465, rfl, (((((((l63.j l76).j l148).j l338).j l367).j l439).j l454).j l465).w, rfl, (o454.up l465), (((((((o59.up l76).up l148).up lW rfl).up l367).up l439).up l454).up l465), b465, (((o371.up l439).up l454).up l465), hm⟩)))))
  ·refine Cw.exit ?_
   rw [hK64] at hm
   refine ssr (fl b69 rfl (Lw.ln x0.Heads (h0_1.ul a66) rfl (mi rfl (nl (Cw.block ?_)))))
   obtain ⟨K487, hK487, hm⟩ := jn_e hm
   refine Cw.loop 76 93 [11, 76] (fun m l w => ∃ y478 y479 y482 j477 v480 v483 W486, CW.w W486 = w ∧ Le [5, 9, 15] W63 W486 ∧ l = [j477, vI y478] ∧ Ow W486 8 [] [v480] y479 ∧ Ow W486 9 [] [v483] y482 ∧ Bx W486 5 g26 [v480, v483] ∧ Vm.impl_KeepOnly_l3 x0 y61 K487 m y478 y479 y482 = some r) _ ⟨0, y54, y57, undef, v55, v58, W63, rfl, Le.refl _ _, rfl, o56, o59, b60, hm⟩ ?_
   rintro (_ | m488) _ _ σ ⟨y478, y479, y482, j477, v480, v483, W486, rfl, l486, rfl, o481, o484, b485, hm⟩
   ·cases hm
   unfold Vm.impl_KeepOnly_l3 at hm
   have a489 := a66.t l486
   refine sr (Lw.lt rfl (nl (Cw.seq (cn hm (fun hm => ?_) fun hm => ?_))))
   ·refine sk (Cw.seq (Cw.block (sr ?_)))
    obtain ⟨u496, e497, hm⟩ := ob hm
    refine Lw.r rfl (R.ix (α := Head) (h0_1.ul a489) e497 rfl rfl rfl) ?_
    obtain ⟨x499, c500, _, r501⟩ := ((h0_1.ul a489).at_ e497).cells
    obtain rfl := Head.split r501
    refine Lw.r rfl (R.lda c500 rfl rfl) (al 15 [vS ([] : Str), vI 0] fun g502 W502 l502 b502 => sta b502 (oc_cons rfl (oc_cons rfl oc_nil)) fun W512 l512 b512 => nl (Cw.draw [9] [(0, 0), (1, 1), (2, 0), (3, 1), (4, 0), (5, 0), (6, 1), (7, 0), (8, 1), (9, 0), (10, 2), (11, 2), (12, 0), (13, 3)] mixed (by kernel_rfl) fun W522 l522 => ?_))
    have o524 := (((o62.up l486).up l502).up l512).up l522
    have b531 := ((b485.up l502).up l512).up l522
    refine Dfl b531 rfl rfl rfl (Dfl (b512.up l522) rfl rfl rfl (Dv v22 rfl (Dfl (b512.up l522) rfl rfl rfl ?_)))
    obtain ⟨u533, e534, hm⟩ := ob hm
    refine Mw.p rfl rfl (fun _ => R.ix (α := Int) o524.rd e534 rfl rfl rfl) (Mw.q rfl rfl (fun _ c => R.ld rfl rfl (cl_cell (o524.rd.at_ e534).1 rfl (o524.rd.at_ e534).int c)) (Mw.p rfl rfl (fun _ => R.bd (zs := [vS ([] : Str), vI 0]) (cs := [vS u496.Name, vI u533]) [(0, vS u496.Name), (1, vI u533)] rfl rfl rfl (bp_cons rfl rfl (bp_cons rfl rfl bp_nil))) (Mw.t rfl rfl (T.bs 16 [.agg [vS u496.Name, vI u533].toArray] (cs := [vS u496.Name, vI u533]) rfl rfl (bsA rfl)) ?_)))
    rintro _ _ ⟨g535, W535, rfl, rfl, l535, b535⟩
    refine m0 l535 fun d535 => ?_
    obtain ⟨q546, e547, hm⟩ := ob hm
    refine Mw.t rfl rfl (T.app1S (α := Head) (K' := []) ((((o484.up l502).up l512).up l522).up l535) b535 (Head.rd (K := []) u496.Name u533) rfl rfl e547) ?_
    rintro v548 _ ⟨W548, rfl, l548, o548⟩
    refine mc d535 l548 fun d548 => Df rfl (Mw.lu rfl (T.st (j := 1) (v := v548) ((b531.up l535).up l548) rfl rfl o548.oc rfl rfl) ?_)
    rintro _ _ ⟨W559, rfl, l559, b559⟩
    exact Mw.nil (rg (Lw.add rfl (mi rfl (nl ((agm) ⟨w64 (y478 + 1), y479, q546, ptr (bx g502), v480, v548, W559, rfl, ((((((l486.j l502).j l512).j l522).j l535).j l548).j l559).w, rfl, ((((((o481.up l502).up l512).up l522).up l535).up l548).up l559), (o548.up l559), b559, hm⟩)))))
   ·refine Cw.exit ?_
    rw [hK487] at hm
    refine sr (la b485 (sta (((((((b3.up l11).up l22).up l26).up l35).up l43).up l63).up l486) (oc_cons o481.oc (oc_cons o484.oc oc_nil)) fun W570 l570 b570 => ?_))
    have a571 := a489.t l570
    refine nl ?_
    obtain ⟨W579, ew579, l579, o579⟩ := (o481.up l570).dyeO 31
    have a580 := a571.t l579
    obtain ⟨W588, ew588, l588, o588⟩ := ((o484.up l570).up l579).dyeO 32
    have a589 := a580.t l588
    cases hm
    rw [← ew588.trans (ew579)]
    exact Cw.ret (retA1 rfl ((b570.up l579).up l588) (Res.mk a589 ⟨v480, v483, rfl, (o579.up l588).s, o588.s⟩))
theorem p5 {x0 v0_0_ v0_1_ k0 k1 r} (h0 : Rd W K [v0_0_, v0_1_] x0) (h99 : Gl 0 W K) (hm : Vm.impl_KeepOnly x0 = some r) : Q1 5 [.agg [v0_0_, v0_1_].toArray] W [] fun W' v => ∃ u0_0 u0_1, v = .agg [u0_0, u0_1].toArray ∧ Ow W' k0 [] [u0_0] r.Commits ∧ Ow W' k1 [] [u0_1] r.Heads :=
 CallR.adJ (J := []) (fun c => bif Nat.beq c 0 then 0 else bif Nat.beq c 31 then k0 else bif Nat.beq c 32 then k1 else 0) (c5 (h0.view _) (h99.view _) hm) fun _ _ ⟨u0_0, u0_1, e, f0, f1⟩ => ⟨u0_0, u0_1, e, f0.one1.backN rfl, f1.one1.backN rfl⟩
theorem c23 {x0 v0_0_ v0_1_ r} (h0 : Rd W0 [0] [v0_0_, v0_1_] x0) (hm : Vm.spec_l14Live x0 = some r) : Q0 23 [.agg [v0_0_, v0_1_].toArray] W0 fun Wf v => ∃ u0, v = u0 ∧ OwS Wf LL [] [u0] r := by
 unfold Vm.spec_l14Live at hm
 obtain ⟨w0_0, w0_1, he0, h0_0, h0_1⟩ := Repo.split h0
 simp only [List.cons.injEq, and_true, true_and] at he0
 obtain ⟨rfl, rfl⟩ := he0
 refine CallR.of Tryz.func23 rfl rfl rfl rfl (sr (bo 2 rfl fun g1 W1 l1 b1 => ?_))
 have a2 := l1.o
 refine Nv (.slice none 0 0) rfl (sr (fl b1 rfl (Lw.ln x0.Commits (h0_0.ul a2) rfl ?_)))
 obtain ⟨q4, e5, hm⟩ := ob hm
 refine Lw.t rfl (T.mk (α := Bool) 3 [] (n := (x0.Commits.length : Int)) rfl rfl e5) ?_
 rintro v6 _ ⟨W6, rfl, l6, o6⟩
 have a7 := a2.n l6
 refine Nv v6 rfl (ssr (Ni rfl (Cw.block ?_)))
 obtain ⟨K15, hK15, hm⟩ := jn_e hm
 refine Cw.loop 13 39 [4, 5, 6] (fun m l w => ∃ y9 y12 j10 j11 W14, CW.w W14 = w ∧ Le [3] W6 W14 ∧ l = [vI y9, j10, j11] ∧ Ow W14 3 [] [v6] y12 ∧ Vm.spec_l14Live_l1 x0 K15 m y9 y12 = some r) _ ⟨0, q4, undef, undef, W6, rfl, Le.refl _ _, rfl, o6, hm⟩ ?_
 rintro (_ | m16) _ _ σ ⟨y9, y12, j10, j11, W14, rfl, l14, rfl, o13, hm⟩
 ·cases hm
 unfold Vm.spec_l14Live_l1 at hm
 have a17 := a7.t l14
 have b18 := (b1.up l6).up l14
 refine ssr (mi rfl (fl b18 rfl (Lw.ln x0.Heads (h0_1.ul a17) rfl (Lw.lt rfl (nl (cn hm (fun hm => ?_) fun hm => ?_))))))
 ·refine sk (Cw.seq (Cw.block (Cw.seq (Cw.draw [] [(0, 1), (1, 0), (2, 1), (3, 0), (4, 0), (5, 0), (6, 1), (7, 2), (8, 0)] mixed (by kernel_rfl) fun W21 l21 => ?_))))
  have a22 := a17.n l21
  refine Mw.q rfl rfl (fun _ c => R.lda (cs := [v0_0_, v0_1_]) ((b18.up l21).clcs rfl c) rfl rfl) (Dfl (b18.up l21) rfl rfl rfl (Di rfl ?_))
  obtain ⟨u25, e26, hm⟩ := ob hm
  have s27 := h0_1.ul a22
  refine Mw.p rfl rfl (fun _ => R.ix (α := Head) s27 e26 rfl rfl rfl) (Df rfl (Mw.q rfl rfl (fun _ c => R.ld rfl rfl (cl_cell (Head.at1 (s27.at_ e26)).1 rfl (Head.at1 (s27.at_ e26)).int c)) (Dc hm (Le.refl _ _) (fun _ => p50 (k0 := 4) (Repo.rd (K := [0]) x0.Commits x0.Heads (h0_0.ul a22) s27)) rfl ?_)))
  rintro z29 v0_31 W31 hm l31 ⟨_, rfl, f31_0⟩ d31
  refine Hv v0_31 rfl (Mw.nil (sr (Ni rfl (Cw.block ?_))))
  obtain ⟨K39, hK39, hm⟩ := jn_e hm
  refine Cw.loop 28 39 [6] (fun m l w => ∃ y35 y36 W38, CW.w W38 = w ∧ Le [3] W31 W38 ∧ l = [vI y35] ∧ Ow W38 3 [] [v6] y36 ∧ Vm.spec_l14Live_l2 z29 K39 m y35 y36 = some r) _ ⟨0, y12, W31, rfl, Le.refl _ _, rfl, ((o13.up l21).up l31), hm⟩ ?_
  rintro (_ | m40) _ _ σ ⟨y35, y36, W38, rfl, l38, rfl, o37, hm⟩
  ·cases hm
  unfold Vm.spec_l14Live_l2 at hm
  have o42 := f31_0.up l38
  refine ssr (mi rfl (mv v0_31 rfl (Lw.ln z29 o42.rd rfl (Lw.lt rfl (nl (cn hm (fun hm => ?_) fun hm => ?_))))))
  ·refine sk (Cw.seq (Cw.block (rg (mv v6 rfl (mv v0_31 rfl (mi rfl ?_))))))
   obtain ⟨u45, e46, hm⟩ := ob hm
   refine Lw.r rfl (R.ix (α := Int) o42.rd e46 rfl rfl rfl) (Lw.r rfl (R.ld rfl rfl (o42.rd.at_ e46).int) ?_)
   obtain ⟨u47, e48, hm⟩ := ob hm
   refine Lw.r rfl (R.ix (α := Bool) o37.rd e48 rfl rfl rfl) ?_
   obtain ⟨q50, e51, hm⟩ := ob hm
   refine Lw.u (T.stS (K' := []) o37 (rdB _) e51 rfl rfl rfl) ?_
   rintro _ _ ⟨W49, rfl, l49, o49⟩
   exact nl (rg (mi rfl (Lw.add rfl (Ni rfl ((agm) ⟨w64 (y35 + 1), q50, W49, rfl, (l38.j l49).w, rfl, o49, hm⟩)))))
  ·refine Cw.exit ?_
   rw [hK39] at hm
   exact rg (mi rfl (Lw.add rfl (Ni rfl ((agm) ⟨w64 (y9 + 1), y36, v0_31, vI y35, W38, rfl, (((l14.j l21).j l31).j l38).w, rfl, o37, hm⟩))))
 ·refine Cw.exit ?_
  rw [hK15] at hm
  refine sr (Lw.t rfl (T.lit0 (α := Int) 5 []) ?_)
  rintro v55 _ ⟨W55, rfl, l55, o55⟩
  have a56 := a17.n l55
  refine Nv v55 rfl (ssr (Ni rfl (Cw.block ?_)))
  obtain ⟨K64, hK64, hm⟩ := jn_e hm
  refine Cw.loop 41 54 [7, 8] (fun m l w => ∃ y59 y62 v60 W63, CW.w W63 = w ∧ Le [5] W55 W63 ∧ l = [v60, vI y62] ∧ Ow W63 5 [] [v60] y59 ∧ Vm.spec_l14Live_l3 y12 K64 m y59 y62 = some r) _ ⟨([] : List Int), 0, v55, W55, rfl, Le.refl _ _, rfl, o55, hm⟩ ?_
  rintro (_ | m65) _ _ σ ⟨y59, y62, v60, W63, rfl, l63, rfl, o61, hm⟩
  ·cases hm
  unfold Vm.spec_l14Live_l3 at hm
  have a66 := a56.t l63
  have o67 := (o13.up l55).up l63
  refine ssr (mi rfl (mv v6 rfl (Lw.ln y12 o67.rd rfl (Lw.lt rfl (nl (cn hm (fun hm => ?_) fun hm => ?_))))))
  ·refine sk ?_
   obtain ⟨K74, hK74, hm⟩ := jn_e hm
   refine Cw.join 47 54 [7] (fun l w => ∃ y70 v71 W73, CW.w W73 = w ∧ Le [5] W63 W73 ∧ l = [v71] ∧ Ow W73 5 [] [v71] y70 ∧ K74 y70 = some r) ?_ ?_
   ·rintro _ _ σ ⟨y70, v71, W73, rfl, l73, rfl, o72, hm⟩
    rw [hK74] at hm
    exact rg (mi rfl (Lw.add rfl (Ni rfl ((agm) ⟨y70, w64 (y62 + 1), v71, W73, rfl, (l63.j l73).w, rfl, o72, hm⟩))))
   ·refine Cw.block (sr (mv v6 rfl (mi rfl ?_)))
    obtain ⟨u78, e79, hm⟩ := ob hm
    refine Lw.r rfl (R.ix (α := Bool) o67.rd e79 rfl rfl rfl) (Lw.r rfl (R.ld rfl rfl (o67.rd.at_ e79).bool) (nl (cn hm (fun hm => ?_) fun hm => ?_)))
    ·refine rg (mv v60 rfl (mi rfl (Lw.t rfl (T.bs 6 [vI y62] (cs := [vI y62]) rfl rfl (bsv rfl)) ?_)))
     rintro _ _ ⟨g81, W81, rfl, rfl, l81, b81⟩
     obtain ⟨q86, e87, hm⟩ := ob hm
     refine Lw.t rfl (T.app1S (α := Int) (K' := []) (o61.up l81) b81 (rdI _) rfl rfl e87) ?_
     rintro v88 _ ⟨W88, rfl, l88, o88⟩
     exact Nv v88 rfl ((ag) ⟨q86, v88, W88, rfl, (l81.j l88).w, rfl, o88, hm⟩)
    ·exact sk ((ag) ⟨y59, v60, W63, rfl, Le.refl _ _, rfl, o61, hm⟩)
  ·refine Cw.exit ?_
   rw [hK64] at hm
   refine sr (mv v60 rfl (Nv v60 rfl ?_))
   cases hm
   exact Cw.ret (ret1 rfl (Res.mk a66 ⟨v60, rfl, o61.s.sub rfl rfl⟩))
theorem p23 {x0 v0_0_ v0_1_ k0 r} (h0 : Rd W K [v0_0_, v0_1_] x0) (hm : Vm.spec_l14Live x0 = some r) : Q1 23 [.agg [v0_0_, v0_1_].toArray] W [] fun W' v => ∃ u0, v = u0 ∧ Ow W' k0 [] [u0] r :=
 (c23 (h0.view _) hm).ad (fk k0) fun _ _ ⟨u0, e, f0⟩ => ⟨u0, e, f0.back (fk_LL _)⟩
theorem c25 {x0 v0_ x1 r} (h0 : Rd W0 [0] [v0_] x0) (hm : Vm.spec_l14Place x0 x1 = some r) : Q0 25 [v0_, vI x1] W0 fun Wf v => v = vI r := by
 unfold Vm.spec_l14Place at hm
 refine CallR.of Tryz.func25 rfl rfl rfl rfl (sr (Ni rfl (ssr (Ni rfl (Cw.block ?_)))))
 obtain ⟨K4, hK4, hm⟩ := jn_e hm
 refine Cw.loop 6 18 [4, 5] (fun m l w => ∃ y1 y2 W3, CW.w W3 = w ∧ Le [] W0 W3 ∧ l = [vI y1, vI y2] ∧ Vm.spec_l14Place_l1 x0 x1 K4 m y1 y2 = some r) _ ⟨0, 0, W0, rfl, Le.refl _ _, rfl, hm⟩ ?_
 rintro (_ | m5) _ _ σ ⟨y1, y2, W3, rfl, l3, rfl, hm⟩
 ·cases hm
 unfold Vm.spec_l14Place_l1 at hm
 have a6 := l3.o
 refine ssr ?_
 have s7 := h0.ul a6
 refine mi rfl (mv v0_ rfl (Lw.ln x0 s7 rfl (Lw.lt rfl (nl (cn hm (fun hm => ?_) fun hm => ?_)))))
 ·refine sk (Cw.seq (Cw.block (sr (mv v0_ rfl (mi rfl ?_)))))
  obtain ⟨u9, e10, hm⟩ := ob hm
  refine Lw.r rfl (R.ix (α := Int) s7 e10 rfl rfl rfl) (Lw.r rfl (R.ld rfl rfl (s7.at_ e10).int) (mi rfl (Lw.eq rfl (nl (cn hm (fun hm => ?_) fun hm => ?_)))))
  ·exact sr (mi rfl (Ni rfl (.ret (rt hm a6))))
  ·exact sk (rg (mi rfl (Lw.add rfl (Ni rfl ((agm) ⟨y1, w64 (y2 + 1), W3, rfl, l3, rfl, hm⟩)))))
 ·refine Cw.exit ?_
  rw [hK4] at hm
  exact sr (Ni rfl (.ret (rt hm a6)))
theorem p25 {x0 v0_ x1 r} (h0 : Rd W K [v0_] x0) (hm : Vm.spec_l14Place x0 x1 = some r) : Q1 25 [v0_, vI x1] W [] fun W' v => v = vI r :=
 (c25 (h0.view _) hm).ad (fk 0) fun _ _ e => e
end Go.Sx
