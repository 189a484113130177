/- Walks: each function answers as its model, printed by a program of ours. Conditions: the arguments read as they are given. -/
import Derived.Test.YtkfeiopifiejgaaGreatDoorXTs
import Derived.Test.YtkfeiopifiejgaaGreatDoorXM3
namespace Go.Sx
open Go Go.Proofs Go.Vm Rp
set_option linter.unusedVariables false
set_option linter.unusedSimpArgs false

variable {W W0 : CW} {K : List Nat}
theorem c52 {x0 v0_ r} (h0 : Rd W0 [0] [v0_] x0) (hm : Vm.impl_listOf x0 = some r) : Q0 52 [v0_] W0 fun Wf v => ∃ u0, v = u0 ∧ OwS Wf LL [] [u0] r := by
 unfold Vm.impl_listOf at hm
 refine CallR.of Tryz.func52 rfl rfl rfl rfl (sr (Nv (.slice none 0 0) rfl (sr (Nv (.slice none 0 0) rfl (ssr (mv v0_ rfl (Lw.ln x0 h0 rfl (mi rfl (nl (Cw.block ?_))))))))))
 obtain ⟨K8, hK8, hm⟩ := jn_e hm
 refine Cw.loop 8 18 [3, 4, 5, 8] (fun m l w => ∃ y1 y6 v2 j4 j5 W7, CW.w W7 = w ∧ Le [2] W0 W7 ∧ l = [v2, j4, j5, vI y6] ∧ Ow W7 2 [] [v2] y1 ∧ Vm.impl_listOf_l1 x0 K8 m y1 y6 = some r) _ ⟨([] : List Int), 0, .slice none 0 0, undef, undef, W0, rfl, Le.refl _ _, rfl, owN 2 [], hm⟩ ?_
 rintro (_ | m9) _ _ σ ⟨y1, y6, v2, j4, j5, W7, rfl, l7, rfl, o3, hm⟩
 ·cases hm
 unfold Vm.impl_listOf_l1 at hm
 have a10 := l7.s
 refine sr (Lw.lt rfl (nl (Cw.seq (cn hm (fun hm => ?_) fun hm => ?_))))
 ·refine sk ?_
  obtain ⟨K18, hK18, hm⟩ := jn_e hm
  refine Cw.join 10 17 [3, 4, 5] (fun l w => ∃ y12 v13 j15 j16 W17, CW.w W17 = w ∧ Le [2] W7 W17 ∧ l = [v13, j15, j16] ∧ Ow W17 2 [] [v13] y12 ∧ K18 y12 = some r) ?_ ?_
  ·rintro _ _ σ ⟨y12, v13, j15, j16, W17, rfl, l17, rfl, o14, hm⟩
   rw [hK18] at hm
   exact rg (Lw.add rfl (mi rfl (nl ((agm) ⟨y12, w64 (y6 + 1), v13, j15, j16, W17, rfl, (l7.j l17).w, rfl, o14, hm⟩))))
  ·refine Cw.block (sr (mi rfl ?_))
   obtain ⟨u20, e21, hm⟩ := ob hm
   refine Lw.r rfl (R.ix (α := Bool) (h0.ul a10) e21 rfl rfl rfl) (Lw.r rfl (R.ld rfl rfl ((h0.ul a10).at_ e21).bool) (Gi rfl (Nb rfl (sr (mb rfl (nl (cn hm (fun hm => ?_) fun hm => ?_)))))))
   ·refine rg (mv v2 rfl (mi rfl (Lw.t rfl (T.bs 3 [vI y6] (cs := [vI y6]) rfl rfl (bsv rfl)) ?_)))
    rintro _ _ ⟨g24, W24, rfl, rfl, l24, b24⟩
    obtain ⟨q27, e28, hm⟩ := ob hm
    refine Lw.t rfl (T.app1S (α := Int) (K' := []) (o3.up l24) b24 (rdI _) rfl rfl e28) ?_
    rintro v29 _ ⟨W29, rfl, l29, o29⟩
    exact Nv v29 rfl ((ag) ⟨q27, v29, vI y6, vB u20, W29, rfl, (l24.j l29).w, rfl, o29, hm⟩)
   ·exact sk ((ag) ⟨y1, v2, vI y6, vB u20, W7, rfl, Le.refl _ _, rfl, o3, hm⟩)
 ·refine Cw.exit ?_
  rw [hK8] at hm
  refine sr (mv v2 rfl (Nv v2 rfl ?_))
  cases hm
  exact Cw.ret (ret1 rfl (Res.mk a10 ⟨v2, rfl, o3.s.sub rfl rfl⟩))

theorem p52 {x0 v0_ k0 r} (h0 : Rd W K [v0_] x0) (hm : Vm.impl_listOf x0 = some r) : Q1 52 [v0_] W [] fun W' v => ∃ u0, v = u0 ∧ Ow W' k0 [] [u0] r :=
 (c52 (h0.view _) hm).ad (fk k0) fun _ _ ⟨u0, e, f0⟩ => ⟨u0, e, f0.back (fk_LL _)⟩

end Go.Sx
