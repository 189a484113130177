/- Walks: each function answers as its model, printed by a program of ours. Conditions: the arguments read as they are given. -/
import Derived.Test.YtidkloialdageaaGreatDoorXTs
import Derived.Test.YtidkloialdageaaGreatDoorXM5
import Derived.Test.YtidkloialdageaaGreatDoorXW0
namespace Go.Sx
open Go Go.Proofs Go.Vm Rp
set_option linter.unusedVariables false
set_option linter.unusedSimpArgs false

variable {W W0 : CW} {K : List Nat}
theorem c83 {x0 g0_ v0_0_ x1 v1_0_ v1_1_ r} (hB0 : Bx W0 2 g0_ [v0_0_, vI x0.p]) (h0_0 : Rd W0 [0] [v0_0_] x0.b) (h1 : Rd W0 [0] [v1_0_, v1_1_] x1) (hm : Vm.spec_l30At x0 x1 = some r) : Q0 83 [ptr (bx g0_), .agg [v1_0_, v1_1_].toArray] W0 fun Wf v => v = vI r.1 ∧ Bx Wf 2 g0_ [v0_0_, vI r.2] := by
 unfold Vm.spec_l30At at hm
 obtain ⟨w1_0, w1_1, he1, h1_0, h1_1⟩ := Repo.split h1
 simp only [List.cons.injEq, and_true, true_and] at he1
 obtain ⟨rfl, rfl⟩ := he1
 refine CallR.of Tryz.func83 rfl rfl rfl rfl (sr (bo 3 rfl fun g1 W1 l1 b1 => ?_))
 have a2 := l1.o
 have b3 := hB0.up l1
 refine Ni rfl (ssr (mp rfl (cr hm (fun _ => p85 (c0 := 2) (x0 := x0) b3 (h0_0.ul a2) rfl) ?_)))
 rintro z5 _ W7 hm l7 ⟨rfl, f7_0⟩
 have a8 := a2.t l7
 refine Lw.eq rfl (nl (cn hm (fun hm => ?_) fun hm => ?_))
 ·refine sr (mp rfl (fl (b1.up l7) rfl (Lw.ln x1.Commits (h1_0.ul a8) rfl (Lw.t rfl (T.bsS (α := Int) (xs := [(-1), (x1.Commits.length : Int)]) 4 [] (W := W7) [vI (-1), vI (x1.Commits.length : Int)] (Each.cons ((rdI _)) (Each.cons ((rdI _)) Each.nil)) rfl) ?_))))
  rintro v12 _ ⟨W12, rfl, l12, o12⟩
  have a13 := a8.n l12
  refine cr hm (fun _ => p136 (K := [0, 4]) (c0 := 2) (x0 := (Vm.l30Rd.mk x0.b z5.2)) (f7_0.up l12) ((h0_0.ul a13).sub (M := [0, 4]) rfl) (o12.rd.sub (M := [0, 4]) rfl) rfl) ?_
  rintro z17 _ W19 hm l19 ⟨rfl, f19_0⟩
  have a20 := a13.t l19
  refine Ni rfl ?_
  cases hm
  exact Cw.ret (ret1 rfl (Res.mk a20 ⟨rfl, f19_0⟩))
 ·refine sk (sr (mp rfl (fl (b1.up l7) rfl (Lw.ln x1.Commits (h1_0.ul a8) rfl (cr hm (fun _ => p85 (c0 := 2) (x0 := (Vm.l30Rd.mk x0.b z5.2)) f7_0 (h0_0.ul a8) rfl) ?_)))))
  rintro z25 _ W27 hm l27 ⟨rfl, f27_0⟩
  have a28 := a8.t l27
  refine Ni rfl ?_
  cases hm
  exact Cw.ret (ret1 rfl (Res.mk a28 ⟨rfl, f27_0⟩))

theorem p83 {x0 g0_ v0_0_ x1 v1_0_ v1_1_ c0 r} (hB0 : Bx W c0 g0_ [v0_0_, vI x0.p]) (h0_0 : Rd W K [v0_0_] x0.b) (h1 : Rd W K [v1_0_, v1_1_] x1) (hJ : okJ K [c0] = true) (hm : Vm.spec_l30At x0 x1 = some r) : Q1 83 [ptr (bx g0_), .agg [v1_0_, v1_1_].toArray] W [c0] fun W' v => v = vI r.1 ∧ Bx W' c0 g0_ [v0_0_, vI r.2] :=
 CallR.adJ (J := [c0]) (fun c => bif Nat.beq c 0 then 0 else bif Nat.beq c 2 then c0 else 0) (c83 (hB0.viewJ 0 hJ) (h0_0.view _) (h1.view _) hm) fun _ _ ⟨e, f0⟩ => ⟨e, Bx.backJ 0 f0 rfl⟩

end Go.Sx
