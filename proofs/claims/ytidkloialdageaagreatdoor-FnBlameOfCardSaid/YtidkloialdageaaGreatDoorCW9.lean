/- Walks: each function answers as its model, printed by a program of ours. Conditions: the arguments read as they are given. -/
import Derived.Test.YtidkloialdageaaGreatDoorCTs
import Derived.Test.YtidkloialdageaaGreatDoorCM2
import Derived.Test.YtidkloialdageaaGreatDoorCW6
import Derived.Test.YtidkloialdageaaGreatDoorCW7
namespace Go.Sx
open Go Go.Proofs Go.Vm Rp
set_option linter.unusedVariables false
set_option linter.unusedSimpArgs false
variable {W W0 : CW} {K : List Nat}
theorem c26 {x0 v0_ x1 r} (h0 : Rd W0 [0] [v0_] x0) (h99 : Gl 0 W0 [0]) (hm : Vm.impl_TreeGet x0 x1 = some r) : Q0 26 [v0_, vS x1] W0 fun Wf v => ∃ u0, v = .tuple [u0, vB r.2].toArray ∧ OwS Wf LL [] [u0] r.1 := by
 unfold Vm.impl_TreeGet at hm
 refine CallR.of Tryz.func26 rfl rfl rfl rfl (sr (Gv (.slice none 0 0) rfl (Nb rfl (ssr (mv v0_ rfl (ca hm (fun _ => p77 h0 h99) fun z1 W3 hm l3 => ?_))))))
 have a4 := l3.o
 refine Lw.r rfl (R.not rfl) (nl (cn hm (fun hm => ?_) fun hm => ?_))
 ·refine sr (Gv (.slice none 0 0) rfl (Nb rfl ?_))
  cases hm
  exact Cw.ret (ret2 rfl rfl (Res.mk a4 ⟨.slice none 0 0, rfl, (owsN []).sub rfl rfl⟩))
 ·refine sk (sr (mv v0_ rfl (ms rfl (cr hm (fun _ => p90 (k0 := 2) (h0.ul a4)) ?_))))
  rintro z7 _ W9 hm l9 ⟨v0_9, rfl, f9_0⟩
  have a10 := a4.n l9
  refine Lw.r rfl (R.ext (vs := [v0_9, vB z7.2]) (v := v0_9) rfl rfl) (Lw.r rfl (R.ext (vs := [v0_9, vB z7.2]) (v := vB z7.2) rfl rfl) (Gv v0_9 rfl (Nb rfl ?_)))
  cases hm
  exact Cw.ret (ret2 rfl rfl (Res.mk a10 ⟨v0_9, rfl, f9_0.s.sub rfl rfl⟩))
theorem p26 {x0 v0_ x1 k0 r} (h0 : Rd W K [v0_] x0) (h99 : Gl 0 W K) (hm : Vm.impl_TreeGet x0 x1 = some r) : Q1 26 [v0_, vS x1] W [] fun W' v => ∃ u0, v = .tuple [u0, vB r.2].toArray ∧ Ow W' k0 [] [u0] r.1 :=
 (c26 (h0.view _) (h99.view _) hm).ad (fk k0) fun _ _ ⟨u0, e, f0⟩ => ⟨u0, e, f0.back (fk_LL _)⟩
theorem c91 {x0 v0_0_ v0_1_ x1 r} (h0 : Rd W0 [0] [v0_0_, v0_1_] x0) (hm : Vm.impl_Repo_line x0 x1 = some r) : Q0 91 [.agg [v0_0_, v0_1_].toArray, vI x1] W0 fun Wf v => ∃ u0, v = u0 ∧ OwS Wf LL [] [u0] r := by
 unfold Vm.impl_Repo_line at hm
 obtain ⟨w0_0, w0_1, he0, h0_0, h0_1⟩ := Repo.split h0
 simp only [List.cons.injEq, and_true, true_and] at he0
 obtain ⟨rfl, rfl⟩ := he0
 refine CallR.of Tryz.func91 rfl rfl rfl rfl (sr (bo 2 rfl fun g1 W1 l1 b1 => ?_))
 have a2 := l1.o
 refine Nv (.slice none 0 0) rfl (sr (Nv (.slice none 0 0) rfl (Cw.seq (Cw.block ?_))))
 obtain ⟨K8, hK8, hm⟩ := jn_e hm
 refine Cw.loop 6 14 [1, 5] (fun m l w => ∃ y3 y4 v5 W7, CW.w W7 = w ∧ Le [3] W1 W7 ∧ l = [vI y3, v5] ∧ Ow W7 3 [] [v5] y4 ∧ Vm.impl_Repo_line_l1 x0 K8 m y3 y4 = some r) _ ⟨x1, ([] : List Int), .slice none 0 0, W1, rfl, Le.refl _ _, rfl, owN 3 [], hm⟩ ?_
 rintro (_ | m9) _ _ σ ⟨y3, y4, v5, W7, rfl, l7, rfl, o6, hm⟩
 ·cases hm
 unfold Vm.impl_Repo_line_l1 at hm
 have a10 := a2.t l7
 refine ssr (mi rfl (Lw.ge rfl (nl (cn hm (fun hm => ?_) fun hm => ?_))))
 ·refine sk (Cw.block (sr (mv v5 rfl (mi rfl (Lw.t rfl (T.bs 4 [vI y3] (cs := [vI y3]) rfl rfl (bsv rfl)) ?_)))))
  rintro _ _ ⟨g13, W13, rfl, rfl, l13, b13⟩
  have a14 := a10.n l13
  obtain ⟨q17, e18, hm⟩ := ob hm
  refine Lw.t rfl (T.app1S (α := Int) (K' := []) (o6.up l13) b13 (rdI _) rfl rfl e18) ?_
  rintro v19 _ ⟨W19, rfl, l19, o19⟩
  have a20 := a14.t l19
  exact Nv v19 rfl (rg (la (((b1.up l7).up l13).up l19) (mi rfl (ca hm (fun _ => p142 (Repo.rd (K := [0]) x0.Commits x0.Heads (h0_0.ul a20) (h0_1.ul a20))) fun z25 W27 hm l27 => Ni rfl ((agm) ⟨z25, q17, v19, W27, rfl, (((l7.j l13).j l19).j l27).w, rfl, (o19.up l27), hm⟩)))))
 ·refine Cw.exit ?_
  rw [hK8] at hm
  refine sr (mv v5 rfl (Nv v5 rfl ?_))
  cases hm
  exact Cw.ret (ret1 rfl (Res.mk a10 ⟨v5, rfl, o6.s.sub rfl rfl⟩))
theorem p91 {x0 v0_0_ v0_1_ x1 k0 r} (h0 : Rd W K [v0_0_, v0_1_] x0) (hm : Vm.impl_Repo_line x0 x1 = some r) : Q1 91 [.agg [v0_0_, v0_1_].toArray, vI x1] W [] fun W' v => ∃ u0, v = u0 ∧ Ow W' k0 [] [u0] r :=
 (c91 (h0.view _) hm).ad (fk k0) fun _ _ ⟨u0, e, f0⟩ => ⟨u0, e, f0.back (fk_LL _)⟩
theorem c27 {x0 v0_0_ v0_1_ x1 r} (h0 : Rd W0 [0] [v0_0_, v0_1_] x0) (h99 : Gl 0 W0 [0]) (hm : Vm.impl_AncLine x0 x1 = some r) : Q0 27 [.agg [v0_0_, v0_1_].toArray, vI x1] W0 fun Wf v => ∃ u0, v = u0 ∧ OwS Wf LL [] [u0] r := by
 unfold Vm.impl_AncLine at hm
 obtain ⟨w0_0, w0_1, he0, h0_0, h0_1⟩ := Repo.split h0
 simp only [List.cons.injEq, and_true, true_and] at he0
 obtain ⟨rfl, rfl⟩ := he0
 refine CallR.of Tryz.func27 rfl rfl rfl rfl (sr (bo 2 rfl fun g1 W1 l1 b1 => ?_))
 have a2 := l1.o
 refine Nv (.slice none 0 0) rfl (ssr (la b1 (mi rfl (Lw.t rfl (T.bsS (α := Int) (xs := [x1]) 3 [] (W := W1) [vI x1] (Each.cons ((rdI _)) Each.nil) rfl) ?_))))
 rintro v3 _ ⟨W3, rfl, l3, o3⟩
 have a4 := a2.n l3
 refine ca hm (fun _ => p87 (K := [0, 3]) ((Repo.rd (K := [0]) x0.Commits x0.Heads (h0_0.ul a4) (h0_1.ul a4)).sub (M := [0, 3]) rfl) (o3.rd.sub (M := [0, 3]) rfl) ((h99.ul a4).sub (M := [0, 3]) rfl)) fun z9 W11 hm l11 => ?_
 have a12 := a4.n l11
 refine Lw.r rfl (R.not rfl) (nl (cn hm (fun hm => ?_) fun hm => ?_))
 ·refine sr (Nv (.slice none 0 0) rfl ?_)
  cases hm
  exact Cw.ret (ret1 rfl (Res.mk a12 ⟨.slice none 0 0, rfl, (owsN []).sub rfl rfl⟩))
 ·refine sk (sr (la ((b1.up l3).up l11) (mi rfl (cr hm (fun _ => p91 (k0 := 4) (Repo.rd (K := [0]) x0.Commits x0.Heads (h0_0.ul a12) (h0_1.ul a12))) ?_))))
  rintro z18 v0_20 W20 hm l20 ⟨_, rfl, f20_0⟩
  have a21 := a12.n l20
  refine Nv v0_20 rfl ?_
  cases hm
  exact Cw.ret (ret1 rfl (Res.mk a21 ⟨v0_20, rfl, f20_0.s.sub rfl rfl⟩))
theorem p27 {x0 v0_0_ v0_1_ x1 k0 r} (h0 : Rd W K [v0_0_, v0_1_] x0) (h99 : Gl 0 W K) (hm : Vm.impl_AncLine x0 x1 = some r) : Q1 27 [.agg [v0_0_, v0_1_].toArray, vI x1] W [] fun W' v => ∃ u0, v = u0 ∧ Ow W' k0 [] [u0] r :=
 (c27 (h0.view _) (h99.view _) hm).ad (fk k0) fun _ _ ⟨u0, e, f0⟩ => ⟨u0, e, f0.back (fk_LL _)⟩
theorem c29 {x0 v0_ x1 r} (h0 : Rd W0 [0] [v0_] x0) (hm : Vm.laws_smHas x0 x1 = some r) : Q0 29 [v0_, vS x1] W0 fun Wf v => v = vB r := by
 unfold Vm.laws_smHas at hm
 refine CallR.of Tryz.func29 rfl rfl rfl rfl (sr (Nb rfl (ssr (Ni rfl (Cw.block ?_)))))
 obtain ⟨K4, hK4, hm⟩ := jn_e hm
 refine Cw.loop 6 17 [4, 5] (fun m l w => ∃ y1 y2 W3, CW.w W3 = w ∧ Le [] W0 W3 ∧ l = [vB y1, vI y2] ∧ Vm.laws_smHas_l1 x0 x1 K4 m y1 y2 = some r) _ ⟨false, 0, W0, rfl, Le.refl _ _, rfl, hm⟩ ?_
 rintro (_ | m5) _ _ σ ⟨y1, y2, W3, rfl, l3, rfl, hm⟩
 ·cases hm
 unfold Vm.laws_smHas_l1 at hm
 have a6 := l3.o
 refine ssr ?_
 have s7 := h0.ul a6
 refine mi rfl (mv v0_ rfl (Lw.ln x0 s7 rfl (Lw.lt rfl (nl (cn hm (fun hm => ?_) fun hm => ?_)))))
 ·refine sk (Cw.seq (Cw.block (sr (mv v0_ rfl (mi rfl ?_)))))
  obtain ⟨u9, e10, hm⟩ := ob hm
  refine Lw.r rfl (R.ix (α := Str) s7 e10 rfl rfl rfl) (Lw.r rfl (R.ld rfl rfl (s7.at_ e10).str) (ms rfl (Lw.seq rfl (nl (cn hm (fun hm => ?_) fun hm => ?_)))))
  ·exact sr (Nb rfl (.ret (rt hm a6)))
  ·exact sk (rg (mi rfl (Lw.add rfl (Ni rfl ((agm) ⟨y1, w64 (y2 + 1), W3, rfl, l3, rfl, hm⟩)))))
 ·refine Cw.exit ?_
  rw [hK4] at hm
  exact sr (Nb rfl (.ret (rt hm a6)))
theorem p29 {x0 v0_ x1 r} (h0 : Rd W K [v0_] x0) (hm : Vm.laws_smHas x0 x1 = some r) : Q1 29 [v0_, vS x1] W [] fun W' v => v = vB r :=
 (c29 (h0.view _) hm).ad (fk 0) fun _ _ e => e
end Go.Sx
