/- Walks: each function answers as its model, printed by a program of ours. Conditions: the arguments read as they are given. -/
import Derived.Test.YtkfeiopifiejgaaGreatDoorXTs
import Derived.Test.YtkfeiopifiejgaaGreatDoorXM4
import Derived.Test.YtkfeiopifiejgaaGreatDoorXW6
namespace Go.Sx
open Go Go.Proofs Go.Vm Rp
set_option linter.unusedVariables false
set_option linter.unusedSimpArgs false

variable {W W0 : CW} {K : List Nat}
theorem c14 {x0 v0_0_ v0_1_ x1 x2 r} (h0 : Rd W0 [0] [v0_0_, v0_1_] x0) (h99 : Gl 0 W0 [0]) (hm : Vm.impl_AncIs x0 x1 x2 = some r) : Q0 14 [.agg [v0_0_, v0_1_].toArray, vI x1, vI x2] W0 fun Wf v => v = vB r := by
 unfold Vm.impl_AncIs at hm
 obtain ⟨w0_0, w0_1, he0, h0_0, h0_1⟩ := Repo.split h0
 simp only [List.cons.injEq, and_true, true_and] at he0
 obtain ⟨rfl, rfl⟩ := he0
 refine CallR.of Tryz.func14 rfl rfl rfl rfl (sr (bo 2 rfl fun g1 W1 l1 b1 => ?_))
 have a2 := l1.o
 refine Nb rfl ?_
 obtain ⟨K5, hK5, hm⟩ := jn_e hm
 refine Cw.join 7 19 [6] (fun l w => ∃ y3 W4, CW.w W4 = w ∧ Le [] W1 W4 ∧ l = [vB y3] ∧ K5 y3 = some r) ?_ ?_
 ·rintro _ _ σ ⟨y3, W4, rfl, l4, rfl, hm⟩
  rw [hK5] at hm
  have a6 := a2.n l4
  exact .ret (rt hm a6)
 ·refine rg (la b1 (mi rfl (mi rfl (Lw.t rfl (T.bsS (α := Int) (xs := [x1, x2]) 3 [] (W := W1) [vI x1, vI x2] (Each.cons ((rdI _)) (Each.cons ((rdI _)) Each.nil)) rfl) ?_))))
  rintro v8 _ ⟨W8, rfl, l8, o8⟩
  have a9 := a2.n l8
  refine ca hm (fun _ => p37 (K := [0, 3]) ((Repo.rd (K := [0]) x0.Commits x0.Heads (h0_0.ul a9) (h0_1.ul a9)).sub (M := [0, 3]) rfl) (o8.rd.sub (M := [0, 3]) rfl) ((h99.ul a9).sub (M := [0, 3]) rfl)) fun z14 W16 hm l16 => ?_
  have a17 := a9.n l16
  refine mb rfl (bs hm (fun hc20 hm => ?_) fun hc20 hm => ?_)
  ·refine wak 6 hc20 (la ((b1.up l8).up l16) (mi rfl (cr hm (fun _ => p40 (k0 := 4) (Repo.rd (K := [0]) x0.Commits x0.Heads (h0_0.ul a17) (h0_1.ul a17))) ?_)))
   rintro z23 v0_25 W25 hm l25 ⟨_, rfl, f25_0⟩
   refine mi rfl ?_
   obtain ⟨u29, e30, hm⟩ := ob hm
   exact Lw.r rfl (R.ix (α := Bool) f25_0.rd e30 rfl rfl rfl) (Lw.r rfl (R.ld rfl rfl (f25_0.rd.at_ e30).bool) (Pb hc20 rfl (Nb rfl ((ag) ⟨u29, W25, rfl, ((l8.j l16).j l25).w, rfl, hm⟩))))
  ·exact psk 6 hc20 rfl (Pb hc20 rfl (Nb rfl ((ag) ⟨false, W16, rfl, (l8.j l16).w, rfl, hm⟩)))

theorem p14 {x0 v0_0_ v0_1_ x1 x2 r} (h0 : Rd W K [v0_0_, v0_1_] x0) (h99 : Gl 0 W K) (hm : Vm.impl_AncIs x0 x1 x2 = some r) : Q1 14 [.agg [v0_0_, v0_1_].toArray, vI x1, vI x2] W [] fun W' v => v = vB r :=
 (c14 (h0.view _) (h99.view _) hm).ad (fk 0) fun _ _ e => e

end Go.Sx
