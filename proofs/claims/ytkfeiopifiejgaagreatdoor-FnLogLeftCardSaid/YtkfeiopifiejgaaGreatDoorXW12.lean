/- Walks: each function answers as its model, printed by a program of ours. Conditions: the arguments read as they are given. -/
import Derived.Test.YtkfeiopifiejgaaGreatDoorXTs
import Derived.Test.YtkfeiopifiejgaaGreatDoorXM6
import Derived.Test.YtkfeiopifiejgaaGreatDoorXW6
import Derived.Test.YtkfeiopifiejgaaGreatDoorXW9
namespace Go.Sx
open Go Go.Proofs Go.Vm Rp
set_option linter.unusedVariables false
set_option linter.unusedSimpArgs false

variable {W W0 : CW} {K : List Nat}
theorem c56 {x0 v0_0_ v0_1_ x1 x2 v2_ r} (h0 : Rd W0 [0] [v0_0_, v0_1_] x0) (h2 : Rd W0 [0] [v2_] x2) (hm : Vm.impl_Repo_since x0 x1 x2 = some r) : Q0 56 [.agg [v0_0_, v0_1_].toArray, vI x1, v2_] W0 fun Wf v => ∃ u0, v = u0 ∧ OwS Wf LL [] [u0] r := by
 unfold Vm.impl_Repo_since at hm
 obtain ⟨w0_0, w0_1, he0, h0_0, h0_1⟩ := Repo.split h0
 simp only [List.cons.injEq, and_true, true_and] at he0
 obtain ⟨rfl, rfl⟩ := he0
 refine CallR.of Tryz.func56 rfl rfl rfl rfl (sr (bo 2 rfl fun g1 W1 l1 b1 => ?_))
 have a2 := l1.o
 refine Nv (.slice none 0 0) rfl (sr (la b1 (mi rfl (cr hm (fun _ => p40 (k0 := 3) (Repo.rd (K := [0]) x0.Commits x0.Heads (h0_0.ul a2) (h0_1.ul a2))) ?_))))
 rintro z5 v0_7 W7 hm l7 ⟨_, rfl, f7_0⟩
 have a8 := a2.n l7
 refine Nv v0_7 rfl (ssr (mv v2_ rfl (Lw.ln x2 (h2.ul a8) rfl (mi rfl (nl (Cw.block ?_))))))
 obtain ⟨K17, hK17, hm⟩ := jn_e hm
 refine Cw.loop 17 34 [9, 11, 17] (fun m l w => ∃ y13 y14 j11 j12 W16, CW.w W16 = w ∧ Le [3] W7 W16 ∧ l = [j11, j12, vI y13] ∧ Ow W16 3 [] [v0_7] y14 ∧ Vm.impl_Repo_since_l1 x0 x2 K17 m y13 y14 = some r) _ ⟨0, z5, undef, undef, W7, rfl, Le.refl _ _, rfl, f7_0, hm⟩ ?_
 rintro (_ | m18) _ _ σ ⟨y13, y14, j11, j12, W16, rfl, l16, rfl, o15, hm⟩
 ·cases hm
 unfold Vm.impl_Repo_since_l1 at hm
 have a19 := a8.t l16
 refine sr (Lw.lt rfl (nl (Cw.seq (cn hm (fun hm => ?_) fun hm => ?_))))
 ·refine sk (Cw.seq (Cw.block (sr ?_)))
  obtain ⟨u22, e23, hm⟩ := ob hm
  refine Lw.r rfl (R.ix (α := Int) (h2.ul a19) e23 rfl rfl rfl) (Lw.r rfl (R.ld rfl rfl ((h2.ul a19).at_ e23).int) (Ni rfl (sr (la ((b1.up l7).up l16) (mi rfl (cr hm (fun _ => p40 (k0 := 4) (Repo.rd (K := [0]) x0.Commits x0.Heads (h0_0.ul a19) (h0_1.ul a19))) ?_))))))
  rintro z27 v0_29 W29 hm l29 ⟨_, rfl, f29_0⟩
  refine cr hm (fun _ => p52 (K := [4]) (k0 := 5) f29_0.rd) ?_
  rintro z33 v0_35 W35 hm l35 ⟨_, rfl, f35_0⟩
  refine Lw.ln z33 f35_0.rd rfl (mi rfl (nl (Cw.block ?_)))
  obtain ⟨K45, hK45, hm⟩ := jn_e hm
  refine Cw.loop 26 33 [11, 26] (fun m l w => ∃ y41 y42 j40 W44, CW.w W44 = w ∧ Le [3] W35 W44 ∧ l = [j40, vI y41] ∧ Ow W44 3 [] [v0_7] y42 ∧ Vm.impl_Repo_since_l2 z33 K45 m y41 y42 = some r) _ ⟨0, y14, j12, W35, rfl, Le.refl _ _, rfl, ((o15.up l29).up l35), hm⟩ ?_
  rintro (_ | m46) _ _ σ ⟨y41, y42, j40, W44, rfl, l44, rfl, o43, hm⟩
  ·cases hm
  unfold Vm.impl_Repo_since_l2 at hm
  refine sr (Lw.lt rfl (nl (Cw.seq (cn hm (fun hm => ?_) fun hm => ?_))))
  ·refine sk (Cw.seq (Cw.block (sr ?_)))
   obtain ⟨u52, e53, hm⟩ := ob hm
   refine Lw.r rfl (R.ix (α := Int) (f35_0.up l44).rd e53 rfl rfl rfl) (Lw.r rfl (R.ld rfl rfl ((f35_0.up l44).rd.at_ e53).int) (Ni rfl (rg (mv v0_7 rfl (mi rfl ?_)))))
   obtain ⟨u54, e55, hm⟩ := ob hm
   refine Lw.r rfl (R.ix (α := Bool) o43.rd e55 rfl rfl rfl) ?_
   obtain ⟨q57, e58, hm⟩ := ob hm
   refine Lw.u (T.stS (K' := []) o43 (rdB _) e58 rfl rfl rfl) ?_
   rintro _ _ ⟨W56, rfl, l56, o56⟩
   exact nl (rg (Lw.add rfl (mi rfl (nl ((agm) ⟨w64 (y41 + 1), q57, vI u52, W56, rfl, (l44.j l56).w, rfl, o56, hm⟩)))))
  ·refine Cw.exit ?_
   rw [hK45] at hm
   exact rg (Lw.add rfl (mi rfl (nl ((agm) ⟨w64 (y13 + 1), y42, vI u22, j40, W44, rfl, (((l16.j l29).j l35).j l44).w, rfl, o43, hm⟩))))
 ·refine Cw.exit ?_
  rw [hK17] at hm
  refine sr (mv v0_7 rfl (cr hm (fun _ => p52 (K := [3]) (k0 := 6) o15.rd) ?_))
  rintro z63 v0_65 W65 hm l65 ⟨_, rfl, f65_0⟩
  have a66 := a19.n l65
  refine Nv v0_65 rfl ?_
  cases hm
  exact Cw.ret (ret1 rfl (Res.mk a66 ⟨v0_65, rfl, f65_0.s.sub rfl rfl⟩))

theorem p56 {x0 v0_0_ v0_1_ x1 x2 v2_ k0 r} (h0 : Rd W K [v0_0_, v0_1_] x0) (h2 : Rd W K [v2_] x2) (hm : Vm.impl_Repo_since x0 x1 x2 = some r) : Q1 56 [.agg [v0_0_, v0_1_].toArray, vI x1, v2_] W [] fun W' v => ∃ u0, v = u0 ∧ Ow W' k0 [] [u0] r :=
 (c56 (h0.view _) (h2.view _) hm).ad (fk k0) fun _ _ ⟨u0, e, f0⟩ => ⟨u0, e, f0.back (fk_LL _)⟩

end Go.Sx
