/- Walks: each function answers as its model, printed by a program of ours. Conditions: the arguments read as they are given. -/
import Derived.Test.YtidkloialdageaaGreatDoorCTs
import Derived.Test.YtidkloialdageaaGreatDoorCM3
namespace Go.Sx
open Go Go.Proofs Go.Vm Rp
set_option linter.unusedVariables false
set_option linter.unusedSimpArgs false
variable {W W0 : CW} {K : List Nat}
theorem c28 {x0 v0_ x1 r} (h0 : Rd W0 [0] [v0_] x0) (hm : Vm.laws_smIn x0 x1 = some r) : Q0 28 [v0_, vI x1] W0 fun Wf v => v = vB r := by
 unfold Vm.laws_smIn at hm
 refine CallR.of Tryz.func28 rfl rfl rfl rfl (sr (Nb rfl (ssr (Ni rfl (Cw.block ?_)))))
 obtain ⟨K4, hK4, hm⟩ := jn_e hm
 refine Cw.loop 6 17 [4, 5] (fun m l w => ∃ y1 y2 W3, CW.w W3 = w ∧ Le [] W0 W3 ∧ l = [vB y1, vI y2] ∧ Vm.laws_smIn_l1 x0 x1 K4 m y1 y2 = some r) _ ⟨false, 0, W0, rfl, Le.refl _ _, rfl, hm⟩ ?_
 rintro (_ | m5) _ _ σ ⟨y1, y2, W3, rfl, l3, rfl, hm⟩
 ·cases hm
 unfold Vm.laws_smIn_l1 at hm
 have a6 := l3.o
 refine ssr ?_
 have s7 := h0.ul a6
 refine mi rfl (mv v0_ rfl (Lw.ln x0 s7 rfl (Lw.lt rfl (nl (cn hm (fun hm => ?_) fun hm => ?_)))))
 ·refine sk (Cw.seq (Cw.block (sr (mv v0_ rfl (mi rfl ?_)))))
  obtain ⟨u9, e10, hm⟩ := ob hm
  refine Lw.r rfl (R.ix (α := Int) s7 e10 rfl rfl rfl) (Lw.r rfl (R.ld rfl rfl (s7.at_ e10).int) (mi rfl (Lw.eq rfl (nl (cn hm (fun hm => ?_) fun hm => ?_)))))
  ·exact sr (Nb rfl (.ret (rt hm a6)))
  ·exact sk (rg (mi rfl (Lw.add rfl (Ni rfl ((agm) ⟨y1, w64 (y2 + 1), W3, rfl, l3, rfl, hm⟩)))))
 ·refine Cw.exit ?_
  rw [hK4] at hm
  exact sr (Nb rfl (.ret (rt hm a6)))
theorem p28 {x0 v0_ x1 r} (h0 : Rd W K [v0_] x0) (hm : Vm.laws_smIn x0 x1 = some r) : Q1 28 [v0_, vI x1] W [] fun W' v => v = vB r :=
 (c28 (h0.view _) hm).ad (fk 0) fun _ _ e => e
end Go.Sx
