/- Walks: each function answers as its model, printed by a program of ours. Conditions: the arguments read as they are given. -/
import Derived.Test.YtidkloialdageaaGreatDoorCTs
import Derived.Test.YtidkloialdageaaGreatDoorCM1
import Derived.Test.YtidkloialdageaaGreatDoorCW0
import Derived.Test.YtidkloialdageaaGreatDoorCW6
namespace Go.Sx
open Go Go.Proofs Go.Vm Rp
set_option linter.unusedVariables false
set_option linter.unusedSimpArgs false
variable {W W0 : CW} {K : List Nat}
theorem c83 {x0 g0_ v0_0_ x1 v1_0_ v1_1_ r} (hB0 : Bx W0 2 g0_ [v0_0_, vI x0.p]) (h0_0 : Rd W0 [0] [v0_0_] x0.b) (h1 : Rd W0 [0] [v1_0_, v1_1_] x1) (hm : Vm.spec_l30At x0 x1 = some r) : Q0 83 [ptr (bx g0_), .agg [v1_0_, v1_1_].toArray] W0 fun Wf v => v = vI r.1 ∧ Bx Wf 2 g0_ [v0_0_, vI r.2] := by
 unfold Vm.spec_l30At at hm
 obtain ⟨w1_0, w1_1, he1, h1_0, h1_1⟩ := Repo.split h1
 simp only [List.cons.injEq, and_true, true_and] at he1
 obtain ⟨rfl, rfl⟩ := he1
 refine CallR.of Tryz.func83 rfl rfl rfl rfl (sr (bo 3 rfl fun g1 W1 l1 b1 => ?_))
 have a2 := l1.o
 have b3 := hB0.up l1
 refine Ni rfl (ssr (mp rfl (cr hm (fun _ => p85 (c0 := 2) (x0 := x0) b3 (h0_0.ul a2) rfl) ?_)))
 rintro z5 _ W7 hm l7 ⟨rfl, f7_0⟩
 have a8 := a2.t l7
 refine Lw.eq rfl (nl (cn hm (fun hm => ?_) fun hm => ?_))
 ·refine sr (mp rfl (fl (b1.up l7) rfl (Lw.ln x1.Commits (h1_0.ul a8) rfl (Lw.t rfl (T.bsS (α := Int) (xs := [(-1), (x1.Commits.length : Int)]) 4 [] (W := W7) [vI (-1), vI (x1.Commits.length : Int)] (Each.cons ((rdI _)) (Each.cons ((rdI _)) Each.nil)) rfl) ?_))))
  rintro v12 _ ⟨W12, rfl, l12, o12⟩
  have a13 := a8.n l12
  refine cr hm (fun _ => p136 (K := [0, 4]) (c0 := 2) (x0 := (Vm.l30Rd.mk x0.b z5.2)) (f7_0.up l12) ((h0_0.ul a13).sub (M := [0, 4]) rfl) (o12.rd.sub (M := [0, 4]) rfl) rfl) ?_
  rintro z17 _ W19 hm l19 ⟨rfl, f19_0⟩
  have a20 := a13.t l19
  refine Ni rfl ?_
  cases hm
  exact Cw.ret (ret1 rfl (Res.mk a20 ⟨rfl, f19_0⟩))
 ·refine sk (sr (mp rfl (fl (b1.up l7) rfl (Lw.ln x1.Commits (h1_0.ul a8) rfl (cr hm (fun _ => p85 (c0 := 2) (x0 := (Vm.l30Rd.mk x0.b z5.2)) f7_0 (h0_0.ul a8) rfl) ?_)))))
  rintro z25 _ W27 hm l27 ⟨rfl, f27_0⟩
  have a28 := a8.t l27
  refine Ni rfl ?_
  cases hm
  exact Cw.ret (ret1 rfl (Res.mk a28 ⟨rfl, f27_0⟩))
theorem p83 {x0 g0_ v0_0_ x1 v1_0_ v1_1_ c0 r} (hB0 : Bx W c0 g0_ [v0_0_, vI x0.p]) (h0_0 : Rd W K [v0_0_] x0.b) (h1 : Rd W K [v1_0_, v1_1_] x1) (hJ : okJ K [c0] = true) (hm : Vm.spec_l30At x0 x1 = some r) : Q1 83 [ptr (bx g0_), .agg [v1_0_, v1_1_].toArray] W [c0] fun W' v => v = vI r.1 ∧ Bx W' c0 g0_ [v0_0_, vI r.2] :=
 CallR.adJ (J := [c0]) (fun c => bif Nat.beq c 0 then 0 else bif Nat.beq c 2 then c0 else 0) (c83 (hB0.viewJ 0 hJ) (h0_0.view _) (h1.view _) hm) fun _ _ ⟨e, f0⟩ => ⟨e, Bx.backJ 0 f0 rfl⟩
theorem c22 {x0 v0_ r} (h0 : Rd W0 [0] [v0_] x0) (hm : Vm.spec_DrawBlameOf x0 = some r) : Q0 22 [v0_] W0 fun Wf v => ∃ u0_0 u0_1, v = .tuple [.agg [u0_0, u0_1].toArray, vI r.2.1, vS r.2.2].toArray ∧ OwS Wf [31] [] [u0_0] r.1.Commits ∧ OwS Wf [32] [] [u0_1] r.1.Heads := by
 unfold Vm.spec_DrawBlameOf at hm
 refine CallR.of Tryz.func22 rfl rfl rfl rfl (sr (al 2 [.slice none 0 0, .slice none 0 0] fun g1 W1 l1 b1 => ?_))
 have a2 := l1.o
 refine Gi rfl (Ns rfl (sr (mv v0_ rfl (cr hm (fun _ => p81 (k0 := 3) (h0.ul a2)) ?_))))
 rintro z4 _ W6 hm l6 ⟨g0_6, v0_0_6, rfl, f6_0, f6_1⟩
 have s7 := f6_1.sub (M := [0]) rfl
 have a8 := a2.n l6
 refine Np rfl (sr (mp rfl (cr hm (fun _ => p82 (k0 := 4) (k1 := 5) (c0 := 3) (x0 := z4) f6_0 s7 rfl) ?_)))
 rintro z10 _ W12 hm l12 ⟨v0_0_12, v0_1_12, rfl, f12_0, f12_1, f12_2⟩
 have a13 := l12.s
 refine al 6 [.slice none 0 0, .slice none 0 0] fun g15 W15 l15 b15 => ?_
 have a16 := l15.o
 refine sta b15 (oc_cons (f12_0.up l15).oc (oc_cons (f12_1.up l15).oc oc_nil)) fun W21 l21 b21 => ?_
 have a22 := l21.s
 have o23 := (f12_0.up l15).up l21
 have o24 := (f12_1.up l15).up l21
 refine nl (sr (mp rfl (la b21 (cr hm (fun _ => p83 (K := [0, 4, 5]) (c0 := 3) (x0 := (Vm.l30Rd.mk z4.b z10.2)) (x1 := (Vm.Repo.mk z10.1.Commits z10.1.Heads)) ((f12_2.up l15).up l21) ((s7.ul ((a13.trans a16).trans a22)).sub (M := [0, 4, 5]) rfl) ((Repo.rd (K := [4, 5]) z10.1.Commits z10.1.Heads (o23.rd.sub (M := [4, 5]) rfl) (o24.rd.sub (M := [4, 5]) rfl)).sub (M := [0, 4, 5]) rfl) rfl) ?_))))
 rintro z28 _ W30 hm l30 ⟨rfl, f30_0⟩
 have a31 := l30.s
 have o32 := o23.up l30
 have b35 := b21.up l30
 refine Ni rfl (Cw.seq ?_)
 obtain ⟨K43, hK43, hm⟩ := jn_e hm
 refine Cw.join 15 35 [35] (fun l w => ∃ y36 y37 y40 v38 W42, CW.w W42 = w ∧ Le [3] W30 W42 ∧ l = [vB y36] ∧ Rd W42 [0] [v38] y37 ∧ Bx W42 3 g0_6 [v38, vI y40] ∧ K43 y36 y37 y40 = some r) ?_ ?_
 ·rintro _ _ σ ⟨y36, y37, y40, v38, W42, rfl, l42, rfl, r39, b41, hm⟩
  rw [hK43] at hm
  have a44 := ((((a8.trans a13).trans a16).trans a22).trans a31).t l42
  have o46 := (o24.up l30).up l42
  have b47 := (((((b1.up l6).up l12).up l15).up l21).up l30).up l42
  refine cn hm (fun hm => ?_) fun hm => ?_
  ·refine Cw.seq ?_
   obtain ⟨u57, e58, hm⟩ := ob hm
   obtain ⟨u62, e63, hm⟩ := ob hm
   obtain ⟨z68, e69, hm⟩ := ob hm
   obtain ⟨u76, e77, hm⟩ := ob hm
   refine Cw.par [[], [], [], [2], [], [2, 3, 4], [2, 3, 4, 5], [2, 3, 4, 5, 6], [], [], [9], [], [9, 10, 11], [9, 10, 11, 12], [9, 10, 11, 12, 13], [9, 10, 11, 12, 13, 14], [8, 9, 10, 11, 12, 13, 14, 15], [2, 3, 4, 5, 6, 7, 8, 9, 10, 11, 12, 13, 14, 15, 16], [2, 3, 4, 5, 6, 7, 8, 9, 10, 11, 12, 13, 14, 15, 16, 17], [2, 3, 4, 5, 6, 7, 8, 9, 10, 11, 12, 13, 14, 15, 16, 17, 18], [0, 8, 9, 10, 11, 12, 13, 14, 15, 16], [0, 1, 8, 9, 10, 11, 12, 13, 14, 15, 16, 20], [0, 1, 2, 3, 4, 5, 6, 7, 8, 9, 10, 11, 12, 13, 14, 15, 16, 17, 18, 19, 20, 21]] [[], [], [], [2], [], [3, 4], [5], [6], [24], [], [9], [], [10, 11], [12], [13], [14], [8, 15, 24], [7, 16], [7, 17], [7, 18], [0, 23], [1], [19]] [[], [], [], [], [], [], [], [], [], [], [], [], [], [], [], [], [3], [], [], [], [2], [], []] [[0], [1], [2], [3], [4], [5], [6], [7], [8], [9], [10], [11], [12], [13], [14], [15], [16], [7, 17], [7, 18], [19], [], [21], [22], [], []] [[], [], [], [], [], [], [], [4], [], [], [], [], [], [], [4], [], [3], [], [], [], [2], [], [], [2], [3]] [0, 1, 2, 3, 4, 5, 6, 7, 8, 9, 10, 11, 12, 13, 14, 15, 16, 17, 18, 19, 20, 21, 22] [2, 3] [fun vs W => (vs 0) = .agg [v0_0_12, v0_1_12].toArray, fun vs W => (vs 1) = vI z28.1, fun vs W => (vs 2) = ptr ((bx g15).add 0), fun vs W => (vs 3) = v0_0_12, fun vs W => (vs 4) = vI z28.1, fun vs W => (vs 5) = ptr ((slA v0_0_12).add ((z28.1).toNat * Rp.sz (Commit))), fun vs W => (vs 6) = ptr (((slA v0_0_12).add ((z28.1).toNat * Rp.sz (Commit))).add 2), fun vs W => Rd W [4] [(vs 7)] u57.Tree, fun vs W => (vs 8) = ptr (bx g0_6), fun vs W => (vs 9) = ptr ((bx g15).add 0), fun vs W => (vs 10) = v0_0_12, fun vs W => (vs 11) = vI z28.1, fun vs W => (vs 12) = ptr ((slA v0_0_12).add ((z28.1).toNat * Rp.sz (Commit))), fun vs W => (vs 13) = ptr (((slA v0_0_12).add ((z28.1).toNat * Rp.sz (Commit))).add 2), fun vs W => Rd W [4] [(vs 14)] u62.Tree, fun vs W => (vs 15) = vI (u62.Tree.length : Int), fun vs W => (vs 16) = vI z68.1 ∧ Bx W 3 g0_6 [v38, vI z68.2], fun vs W => (vs 17) = ptr ((slA (vs 7)).add ((z68.1).toNat * Rp.sz (File))), fun vs W => (vs 18) = ptr (((slA (vs 7)).add ((z68.1).toNat * Rp.sz (File))).add 0), fun vs W => (vs 19) = vS u76.Path, fun vs W => Bx W 2 g1 [v0_0_12, v0_1_12], fun vs W => (vs 21) = vI z28.1, fun vs W => (vs 22) = vS u76.Path] [fun _ W => Bx W 2 g1 [.slice none 0 0, .slice none 0 0], fun _ W => Bx W 3 g0_6 [v38, vI y40]] mixed (by kernel_rfl) rfl (AllF.cons (fun _ _ l => b47.up l rfl) (AllF.cons (fun _ _ l => b41.up l rfl) AllF.nil)) ?_
   intro W85 l85
   have a86 := l85.o
   have o87 := (o32.up l42).up l85
   have b91 := (b35.up l42).up l85
   refine ⟨(Steps.cons ?_ (Steps.cons ?_ (Steps.cons ?_ (Steps.cons ?_ (Steps.cons ?_ (Steps.cons ?_ (Steps.cons ?_ (Steps.cons ?_ (Steps.cons ?_ (Steps.cons ?_ (Steps.cons ?_ (Steps.cons ?_ (Steps.cons ?_ (Steps.cons ?_ (Steps.cons ?_ (Steps.cons ?_ (Steps.cons ?_ (Steps.cons ?_ (Steps.cons ?_ (Steps.cons ?_ (Steps.cons ?_ (Steps.cons ?_ (Steps.cons ?_ Steps.nil))))))))))))))))))))))), (Sups.cons (fun vs vs' W W' _ hv l hd h => by (show (vs' 0) = .agg [v0_0_12, v0_1_12].toArray); rw [hv 0 (anyb rfl)]; exact h) (Sups.cons (fun vs vs' W W' _ hv l hd h => by (show (vs' 1) = vI z28.1); rw [hv 1 (anyb rfl)]; exact h) (Sups.cons (fun vs vs' W W' _ hv l hd h => by (show (vs' 2) = ptr ((bx g15).add 0)); rw [hv 2 (anyb rfl)]; exact h) (Sups.cons (fun vs vs' W W' _ hv l hd h => by (show (vs' 3) = v0_0_12); rw [hv 3 (anyb rfl)]; exact h) (Sups.cons (fun vs vs' W W' _ hv l hd h => by (show (vs' 4) = vI z28.1); rw [hv 4 (anyb rfl)]; exact h) (Sups.cons (fun vs vs' W W' _ hv l hd h => by (show (vs' 5) = ptr ((slA v0_0_12).add ((z28.1).toNat * Rp.sz (Commit)))); rw [hv 5 (anyb rfl)]; exact h) (Sups.cons (fun vs vs' W W' _ hv l hd h => by (show (vs' 6) = ptr (((slA v0_0_12).add ((z28.1).toNat * Rp.sz (Commit))).add 2)); rw [hv 6 (anyb rfl)]; exact h) (Sups.cons (fun vs vs' W W' _ hv l hd h => by (show Rd W' [4] [(vs' 7)] u57.Tree); rw [hv 7 (anyb rfl)]; exact h.up l (disj_sub hd (K := [4]) rfl)) (Sups.cons (fun vs vs' W W' _ hv l hd h => by (show (vs' 8) = ptr (bx g0_6)); rw [hv 8 (anyb rfl)]; exact h) (Sups.cons (fun vs vs' W W' _ hv l hd h => by (show (vs' 9) = ptr ((bx g15).add 0)); rw [hv 9 (anyb rfl)]; exact h) (Sups.cons (fun vs vs' W W' _ hv l hd h => by (show (vs' 10) = v0_0_12); rw [hv 10 (anyb rfl)]; exact h) (Sups.cons (fun vs vs' W W' _ hv l hd h => by (show (vs' 11) = vI z28.1); rw [hv 11 (anyb rfl)]; exact h) (Sups.cons (fun vs vs' W W' _ hv l hd h => by (show (vs' 12) = ptr ((slA v0_0_12).add ((z28.1).toNat * Rp.sz (Commit)))); rw [hv 12 (anyb rfl)]; exact h) (Sups.cons (fun vs vs' W W' _ hv l hd h => by (show (vs' 13) = ptr (((slA v0_0_12).add ((z28.1).toNat * Rp.sz (Commit))).add 2)); rw [hv 13 (anyb rfl)]; exact h) (Sups.cons (fun vs vs' W W' _ hv l hd h => by (show Rd W' [4] [(vs' 14)] u62.Tree); rw [hv 14 (anyb rfl)]; exact h.up l (disj_sub hd (K := [4]) rfl)) (Sups.cons (fun vs vs' W W' _ hv l hd h => by (show (vs' 15) = vI (u62.Tree.length : Int)); rw [hv 15 (anyb rfl)]; exact h) (Sups.cons (fun vs vs' W W' _ hv l hd h => by (show (vs' 16) = vI z68.1 ∧ Bx W' 3 g0_6 [v38, vI z68.2]); rw [hv 16 (anyb rfl)]; exact ⟨h.1, h.2.up l (disj_mem hd (c := 3) rfl)⟩) (Sups.cons (fun vs vs' W W' _ hv l hd h => by (show (vs' 17) = ptr ((slA (vs' 7)).add ((z68.1).toNat * Rp.sz (File)))); rw [hv 7 (anyb rfl), hv 17 (anyb rfl)]; exact h) (Sups.cons (fun vs vs' W W' _ hv l hd h => by (show (vs' 18) = ptr (((slA (vs' 7)).add ((z68.1).toNat * Rp.sz (File))).add 0)); rw [hv 7 (anyb rfl), hv 18 (anyb rfl)]; exact h) (Sups.cons (fun vs vs' W W' _ hv l hd h => by (show (vs' 19) = vS u76.Path); rw [hv 19 (anyb rfl)]; exact h) (Sups.cons (fun vs vs' W W' _ hv l hd h => by (show Bx W' 2 g1 [v0_0_12, v0_1_12]); exact h.up l (disj_mem hd (c := 2) rfl)) (Sups.cons (fun vs vs' W W' _ hv l hd h => by (show (vs' 21) = vI z28.1); rw [hv 21 (anyb rfl)]; exact h) (Sups.cons (fun vs vs' W W' _ hv l hd h => by (show (vs' 22) = vS u76.Path); rw [hv 22 (anyb rfl)]; exact h) (Sups.cons (fun _ _ _ _ _ _ l hd h => h.up l (disj_mem hd (c := 2) rfl)) (Sups.cons (fun _ _ _ _ _ _ l hd h => h.up l (disj_mem hd (c := 3) rfl)) Sups.nil))))))))))))))))))))))))), ?_⟩
   ·intro vs W lW hN
    obtain ⟨W92, hW92⟩ : ∃ X, X = W := ⟨W, rfl⟩
    subst hW92
    refine Tr.mono (Run.tr (R.lda (cs := [v0_0_12, v0_1_12]) (b91.up lW rfl).cells rfl rfl)) ?_
    rintro _ _ ⟨hu, rfl⟩
    obtain rfl := hu.symm
    exact ⟨W92, rfl, Le.refl _ _, (show (.agg [v0_0_12, v0_1_12].toArray : Value) = .agg [v0_0_12, v0_1_12].toArray from rfl)⟩
   ·intro vs W lW hN
    obtain ⟨W97, hW97⟩ : ∃ X, X = W := ⟨W, rfl⟩
    subst hW97
    refine Tr.mono (Run.tr (R.mv (v := vI z28.1) rfl)) ?_
    rintro _ _ ⟨hu, rfl⟩
    obtain rfl := hu.symm
    exact ⟨W97, rfl, Le.refl _ _, (show (vI z28.1 : Value) = vI z28.1 from rfl)⟩
   ·intro vs W lW hN
    obtain ⟨W102, hW102⟩ : ∃ X, X = W := ⟨W, rfl⟩
    subst hW102
    refine Tr.mono (Run.tr (R.fa rfl)) ?_
    rintro _ _ ⟨hu, rfl⟩
    obtain rfl := hu.symm
    exact ⟨W102, rfl, Le.refl _ _, (show (ptr ((bx g15).add 0) : Value) = ptr ((bx g15).add 0) from rfl)⟩
   ·intro vs W lW hN
    obtain ⟨W107, hW107⟩ : ∃ X, X = W := ⟨W, rfl⟩
    subst hW107
    have e2_ : vs 2 = ptr ((bx g15).add 0) := (hN 2 (anyb rfl))
    obtain ⟨vs, rfl⟩ := up_eq e2_
    refine Tr.mono (Run.tr (R.ld (v := v0_0_12) rfl rfl ((b91.up lW rfl).cell rfl))) ?_
    rintro _ _ ⟨hu, rfl⟩
    obtain rfl := hu.symm
    exact ⟨W107, rfl, Le.refl _ _, (show (v0_0_12 : Value) = v0_0_12 from rfl)⟩
   ·intro vs W lW hN
    obtain ⟨W112, hW112⟩ : ∃ X, X = W := ⟨W, rfl⟩
    subst hW112
    refine Tr.mono (Run.tr (R.mv (v := vI z28.1) rfl)) ?_
    rintro _ _ ⟨hu, rfl⟩
    obtain rfl := hu.symm
    exact ⟨W112, rfl, Le.refl _ _, (show (vI z28.1 : Value) = vI z28.1 from rfl)⟩
   ·intro vs W lW hN
    obtain ⟨W117, hW117⟩ : ∃ X, X = W := ⟨W, rfl⟩
    subst hW117
    have e3_ : vs 3 = v0_0_12 := (hN 3 (anyb rfl))
    obtain ⟨vs, rfl⟩ := up_eq e3_
    have e4_ : vs 4 = vI z28.1 := (hN 4 (anyb rfl))
    obtain ⟨vs, rfl⟩ := up_eq e4_
    refine Tr.mono (Run.tr (R.ix (α := Commit) (o87.up lW rfl).rd e58 rfl rfl rfl)) ?_
    rintro _ _ ⟨hu, rfl⟩
    obtain rfl := hu.symm
    exact ⟨W117, rfl, Le.refl _ _, (show (ptr ((slA v0_0_12).add ((z28.1).toNat * Rp.sz (Commit))) : Value) = ptr ((slA v0_0_12).add ((z28.1).toNat * Rp.sz (Commit))) from rfl)⟩
   ·intro vs W lW hN
    obtain ⟨W122, hW122⟩ : ∃ X, X = W := ⟨W, rfl⟩
    subst hW122
    have e5_ : vs 5 = ptr ((slA v0_0_12).add ((z28.1).toNat * Rp.sz (Commit))) := (hN 5 (anyb rfl))
    obtain ⟨vs, rfl⟩ := up_eq e5_
    refine Tr.mono (Run.tr (R.fa rfl)) ?_
    rintro _ _ ⟨hu, rfl⟩
    obtain rfl := hu.symm
    exact ⟨W122, rfl, Le.refl _ _, (show (ptr (((slA v0_0_12).add ((z28.1).toNat * Rp.sz (Commit))).add 2) : Value) = ptr (((slA v0_0_12).add ((z28.1).toNat * Rp.sz (Commit))).add 2) from rfl)⟩
   ·intro vs W lW hN
    obtain ⟨W127, hW127⟩ : ∃ X, X = W := ⟨W, rfl⟩
    subst hW127
    have e6_ : vs 6 = ptr (((slA v0_0_12).add ((z28.1).toNat * Rp.sz (Commit))).add 2) := (hN 6 (anyb rfl))
    obtain ⟨vs, rfl⟩ := up_eq e6_
    obtain ⟨v132, c133, r134⟩ := (Commit.at2 ((o87.up lW rfl).rd.at_ e58)).cell rfl
    refine Tr.mono (Run.tr (R.ld rfl rfl c133)) ?_
    rintro _ _ ⟨hu, rfl⟩
    obtain rfl := hu.symm
    exact ⟨W127, rfl, Le.refl _ _, (show Rd W127 [4] [v132] u57.Tree from r134)⟩
   ·intro vs W lW hN
    obtain ⟨W135, hW135⟩ : ∃ X, X = W := ⟨W, rfl⟩
    subst hW135
    have o140 : Bx W135 3 g0_6 [v38, vI y40] := hN 24 (anyb rfl)
    refine Tr.mono (Run.tr (R.mv (v := ptr (bx g0_6)) rfl)) ?_
    rintro _ _ ⟨hu, rfl⟩
    obtain rfl := hu.symm
    exact ⟨W135, rfl, Le.refl _ _, (show (ptr (bx g0_6) : Value) = ptr (bx g0_6) from rfl)⟩
   ·intro vs W lW hN
    obtain ⟨W141, hW141⟩ : ∃ X, X = W := ⟨W, rfl⟩
    subst hW141
    refine Tr.mono (Run.tr (R.fa rfl)) ?_
    rintro _ _ ⟨hu, rfl⟩
    obtain rfl := hu.symm
    exact ⟨W141, rfl, Le.refl _ _, (show (ptr ((bx g15).add 0) : Value) = ptr ((bx g15).add 0) from rfl)⟩
   ·intro vs W lW hN
    obtain ⟨W146, hW146⟩ : ∃ X, X = W := ⟨W, rfl⟩
    subst hW146
    have e9_ : vs 9 = ptr ((bx g15).add 0) := (hN 9 (anyb rfl))
    obtain ⟨vs, rfl⟩ := up_eq e9_
    refine Tr.mono (Run.tr (R.ld (v := v0_0_12) rfl rfl ((b91.up lW rfl).cell rfl))) ?_
    rintro _ _ ⟨hu, rfl⟩
    obtain rfl := hu.symm
    exact ⟨W146, rfl, Le.refl _ _, (show (v0_0_12 : Value) = v0_0_12 from rfl)⟩
   ·intro vs W lW hN
    obtain ⟨W151, hW151⟩ : ∃ X, X = W := ⟨W, rfl⟩
    subst hW151
    refine Tr.mono (Run.tr (R.mv (v := vI z28.1) rfl)) ?_
    rintro _ _ ⟨hu, rfl⟩
    obtain rfl := hu.symm
    exact ⟨W151, rfl, Le.refl _ _, (show (vI z28.1 : Value) = vI z28.1 from rfl)⟩
   ·intro vs W lW hN
    obtain ⟨W156, hW156⟩ : ∃ X, X = W := ⟨W, rfl⟩
    subst hW156
    have e10_ : vs 10 = v0_0_12 := (hN 10 (anyb rfl))
    obtain ⟨vs, rfl⟩ := up_eq e10_
    have e11_ : vs 11 = vI z28.1 := (hN 11 (anyb rfl))
    obtain ⟨vs, rfl⟩ := up_eq e11_
    refine Tr.mono (Run.tr (R.ix (α := Commit) (o87.up lW rfl).rd e63 rfl rfl rfl)) ?_
    rintro _ _ ⟨hu, rfl⟩
    obtain rfl := hu.symm
    exact ⟨W156, rfl, Le.refl _ _, (show (ptr ((slA v0_0_12).add ((z28.1).toNat * Rp.sz (Commit))) : Value) = ptr ((slA v0_0_12).add ((z28.1).toNat * Rp.sz (Commit))) from rfl)⟩
   ·intro vs W lW hN
    obtain ⟨W161, hW161⟩ : ∃ X, X = W := ⟨W, rfl⟩
    subst hW161
    have e12_ : vs 12 = ptr ((slA v0_0_12).add ((z28.1).toNat * Rp.sz (Commit))) := (hN 12 (anyb rfl))
    obtain ⟨vs, rfl⟩ := up_eq e12_
    refine Tr.mono (Run.tr (R.fa rfl)) ?_
    rintro _ _ ⟨hu, rfl⟩
    obtain rfl := hu.symm
    exact ⟨W161, rfl, Le.refl _ _, (show (ptr (((slA v0_0_12).add ((z28.1).toNat * Rp.sz (Commit))).add 2) : Value) = ptr (((slA v0_0_12).add ((z28.1).toNat * Rp.sz (Commit))).add 2) from rfl)⟩
   ·intro vs W lW hN
    obtain ⟨W166, hW166⟩ : ∃ X, X = W := ⟨W, rfl⟩
    subst hW166
    have e13_ : vs 13 = ptr (((slA v0_0_12).add ((z28.1).toNat * Rp.sz (Commit))).add 2) := (hN 13 (anyb rfl))
    obtain ⟨vs, rfl⟩ := up_eq e13_
    obtain ⟨v171, c172, r173⟩ := (Commit.at2 ((o87.up lW rfl).rd.at_ e63)).cell rfl
    refine Tr.mono (Run.tr (R.ld rfl rfl c172)) ?_
    rintro _ _ ⟨hu, rfl⟩
    obtain rfl := hu.symm
    exact ⟨W166, rfl, Le.refl _ _, (show Rd W166 [4] [v171] u62.Tree from r173)⟩
   ·intro vs W lW hN
    obtain ⟨W174, hW174⟩ : ∃ X, X = W := ⟨W, rfl⟩
    subst hW174
    obtain ⟨pv14, e14_⟩ : ∃ v, vs 14 = v := ⟨_, rfl⟩
    obtain ⟨vs, rfl⟩ := up_eq e14_
    have o179 : Rd W174 [4] [pv14] u62.Tree := (hN 14 (anyb rfl))
    refine Tr.mono (Run.tr (lenR (xs := u62.Tree) o179 rfl)) ?_
    rintro _ _ ⟨hu, rfl⟩
    obtain rfl := hu.symm
    exact ⟨W174, rfl, Le.refl _ _, (show (vI (u62.Tree.length : Int) : Value) = vI (u62.Tree.length : Int) from rfl)⟩
   ·intro vs W lW hN
    obtain ⟨W180, hW180⟩ : ∃ X, X = W := ⟨W, rfl⟩
    subst hW180
    have a181 := a86.t lW rfl
    have e8_ : vs 8 = ptr (bx g0_6) := (hN 8 (anyb rfl))
    obtain ⟨vs, rfl⟩ := up_eq e8_
    have e15_ : vs 15 = vI (u62.Tree.length : Int) := (hN 15 (anyb rfl))
    obtain ⟨vs, rfl⟩ := up_eq e15_
    have o185 : Bx W180 3 g0_6 [v38, vI y40] := hN 24 (anyb rfl)
    refine Tr.mono (T.call rfl (p85  (c0 := 3) (x0 := (Vm.l30Rd.mk y37 y40)) o185 (r39.ul a181) rfl e69)) ?_
    rintro _ _ ⟨W187, rfl, l187, ⟨rfl, f187_0⟩⟩
    exact ⟨W187, rfl, l187, (show (vI z68.1 : Value) = vI z68.1 ∧ Bx W187 3 g0_6 [v38, vI z68.2] from ⟨rfl, f187_0⟩)⟩
   ·intro vs W lW hN
    obtain ⟨W192, hW192⟩ : ∃ X, X = W := ⟨W, rfl⟩
    subst hW192
    obtain ⟨pv7, e7_⟩ : ∃ v, vs 7 = v := ⟨_, rfl⟩
    obtain ⟨vs, rfl⟩ := up_eq e7_
    have o197 : Rd W192 [4] [pv7] u57.Tree := (hN 7 (anyb rfl))
    have e16_ : vs 16 = vI z68.1 := (hN 16 (anyb rfl)).1
    obtain ⟨vs, rfl⟩ := up_eq e16_
    have o198 : Bx W192 3 g0_6 [v38, vI z68.2] := (hN 16 (anyb rfl)).2
    refine Tr.mono (Run.tr (R.ix (α := File) o197 e77 rfl rfl rfl)) ?_
    rintro _ _ ⟨hu, rfl⟩
    obtain rfl := hu.symm
    exact ⟨W192, rfl, Le.refl _ _, (show (ptr ((slA pv7).add ((z68.1).toNat * Rp.sz (File))) : Value) = ptr ((slA pv7).add ((z68.1).toNat * Rp.sz (File))) from rfl)⟩
   ·intro vs W lW hN
    obtain ⟨W199, hW199⟩ : ∃ X, X = W := ⟨W, rfl⟩
    subst hW199
    obtain ⟨pv7, e7_⟩ : ∃ v, vs 7 = v := ⟨_, rfl⟩
    obtain ⟨vs, rfl⟩ := up_eq e7_
    have o204 : Rd W199 [4] [pv7] u57.Tree := (hN 7 (anyb rfl))
    have e17_ : vs 17 = ptr ((slA pv7).add ((z68.1).toNat * Rp.sz (File))) := (hN 17 (anyb rfl))
    obtain ⟨vs, rfl⟩ := up_eq e17_
    refine Tr.mono (Run.tr (R.fa rfl)) ?_
    rintro _ _ ⟨hu, rfl⟩
    obtain rfl := hu.symm
    exact ⟨W199, rfl, Le.refl _ _, (show (ptr (((slA pv7).add ((z68.1).toNat * Rp.sz (File))).add 0) : Value) = ptr (((slA pv7).add ((z68.1).toNat * Rp.sz (File))).add 0) from rfl)⟩
   ·intro vs W lW hN
    obtain ⟨W205, hW205⟩ : ∃ X, X = W := ⟨W, rfl⟩
    subst hW205
    obtain ⟨pv7, e7_⟩ : ∃ v, vs 7 = v := ⟨_, rfl⟩
    obtain ⟨vs, rfl⟩ := up_eq e7_
    have o210 : Rd W205 [4] [pv7] u57.Tree := (hN 7 (anyb rfl))
    have e18_ : vs 18 = ptr (((slA pv7).add ((z68.1).toNat * Rp.sz (File))).add 0) := (hN 18 (anyb rfl))
    obtain ⟨vs, rfl⟩ := up_eq e18_
    refine Tr.mono (Run.tr (R.ld rfl rfl (File.at0 (o210.at_ e77)).str)) ?_
    rintro _ _ ⟨hu, rfl⟩
    obtain rfl := hu.symm
    exact ⟨W205, rfl, Le.refl _ _, (show (vS u76.Path : Value) = vS u76.Path from rfl)⟩
   ·intro vs W lW hN
    obtain ⟨W211, hW211⟩ : ∃ X, X = W := ⟨W, rfl⟩
    subst hW211
    have e0_ : vs 0 = .agg [v0_0_12, v0_1_12].toArray := (hN 0 (anyb rfl))
    obtain ⟨vs, rfl⟩ := up_eq e0_
    have o216 : Bx W211 2 g1 [.slice none 0 0, .slice none 0 0] := hN 23 (anyb rfl)
    refine Tr.mono (T.sta (vs := [v0_0_12, v0_1_12]) o216 rfl rfl (oc_cons (o87.up lW rfl).oc (oc_cons ((o46.up l85).up lW rfl).oc oc_nil)) rfl rfl) ?_
    rintro _ _ ⟨W217, rfl, l217, b217⟩
    exact ⟨W217, rfl, l217, (show Bx W217 2 g1 [v0_0_12, v0_1_12] from b217)⟩
   ·intro vs W lW hN
    obtain ⟨W222, hW222⟩ : ∃ X, X = W := ⟨W, rfl⟩
    subst hW222
    have e1_ : vs 1 = vI z28.1 := (hN 1 (anyb rfl))
    obtain ⟨vs, rfl⟩ := up_eq e1_
    refine Tr.mono (Run.tr (R.as (v := vI z28.1) rfl)) ?_
    rintro _ _ ⟨hu, rfl⟩
    obtain rfl := hu.symm
    exact ⟨W222, rfl, Le.refl _ _, (show (vI z28.1 : Value) = vI z28.1 from rfl)⟩
   ·intro vs W lW hN
    obtain ⟨W227, hW227⟩ : ∃ X, X = W := ⟨W, rfl⟩
    subst hW227
    have e19_ : vs 19 = vS u76.Path := (hN 19 (anyb rfl))
    obtain ⟨vs, rfl⟩ := up_eq e19_
    refine Tr.mono (Run.tr (R.as (v := vS u76.Path) rfl)) ?_
    rintro _ _ ⟨hu, rfl⟩
    obtain rfl := hu.symm
    exact ⟨W227, rfl, Le.refl _ _, (show (vS u76.Path : Value) = vS u76.Path from rfl)⟩
   ·intro vs W lW hN
    obtain ⟨W232, hW232⟩ : ∃ X, X = W := ⟨W, rfl⟩
    subst hW232
    have a233 := (a44.trans a86).t lW rfl
    obtain ⟨l232, hl232⟩ : ∃ x, x = lW := ⟨lW, rfl⟩
    have e0_ : vs 0 = .agg [v0_0_12, v0_1_12].toArray := (hN 0 (anyb rfl))
    obtain ⟨vs, rfl⟩ := up_eq e0_
    have e1_ : vs 1 = vI z28.1 := (hN 1 (anyb rfl))
    obtain ⟨vs, rfl⟩ := up_eq e1_
    have e2_ : vs 2 = ptr ((bx g15).add 0) := (hN 2 (anyb rfl))
    obtain ⟨vs, rfl⟩ := up_eq e2_
    have e3_ : vs 3 = v0_0_12 := (hN 3 (anyb rfl))
    obtain ⟨vs, rfl⟩ := up_eq e3_
    have e4_ : vs 4 = vI z28.1 := (hN 4 (anyb rfl))
    obtain ⟨vs, rfl⟩ := up_eq e4_
    have e5_ : vs 5 = ptr ((slA v0_0_12).add ((z28.1).toNat * Rp.sz (Commit))) := (hN 5 (anyb rfl))
    obtain ⟨vs, rfl⟩ := up_eq e5_
    have e6_ : vs 6 = ptr (((slA v0_0_12).add ((z28.1).toNat * Rp.sz (Commit))).add 2) := (hN 6 (anyb rfl))
    obtain ⟨vs, rfl⟩ := up_eq e6_
    obtain ⟨pv7, e7_⟩ : ∃ v, vs 7 = v := ⟨_, rfl⟩
    obtain ⟨vs, rfl⟩ := up_eq e7_
    have o237 : Rd W232 [4] [pv7] u57.Tree := (hN 7 (anyb rfl))
    have e8_ : vs 8 = ptr (bx g0_6) := (hN 8 (anyb rfl))
    obtain ⟨vs, rfl⟩ := up_eq e8_
    have e9_ : vs 9 = ptr ((bx g15).add 0) := (hN 9 (anyb rfl))
    obtain ⟨vs, rfl⟩ := up_eq e9_
    have e10_ : vs 10 = v0_0_12 := (hN 10 (anyb rfl))
    obtain ⟨vs, rfl⟩ := up_eq e10_
    have e11_ : vs 11 = vI z28.1 := (hN 11 (anyb rfl))
    obtain ⟨vs, rfl⟩ := up_eq e11_
    have e12_ : vs 12 = ptr ((slA v0_0_12).add ((z28.1).toNat * Rp.sz (Commit))) := (hN 12 (anyb rfl))
    obtain ⟨vs, rfl⟩ := up_eq e12_
    have e13_ : vs 13 = ptr (((slA v0_0_12).add ((z28.1).toNat * Rp.sz (Commit))).add 2) := (hN 13 (anyb rfl))
    obtain ⟨vs, rfl⟩ := up_eq e13_
    obtain ⟨pv14, e14_⟩ : ∃ v, vs 14 = v := ⟨_, rfl⟩
    obtain ⟨vs, rfl⟩ := up_eq e14_
    have o238 : Rd W232 [4] [pv14] u62.Tree := (hN 14 (anyb rfl))
    have e15_ : vs 15 = vI (u62.Tree.length : Int) := (hN 15 (anyb rfl))
    obtain ⟨vs, rfl⟩ := up_eq e15_
    have e16_ : vs 16 = vI z68.1 := (hN 16 (anyb rfl)).1
    obtain ⟨vs, rfl⟩ := up_eq e16_
    have o239 : Bx W232 3 g0_6 [v38, vI z68.2] := (hN 16 (anyb rfl)).2
    have e17_ : vs 17 = ptr ((slA pv7).add ((z68.1).toNat * Rp.sz (File))) := (hN 17 (anyb rfl))
    obtain ⟨vs, rfl⟩ := up_eq e17_
    have e18_ : vs 18 = ptr (((slA pv7).add ((z68.1).toNat * Rp.sz (File))).add 0) := (hN 18 (anyb rfl))
    obtain ⟨vs, rfl⟩ := up_eq e18_
    have e19_ : vs 19 = vS u76.Path := (hN 19 (anyb rfl))
    obtain ⟨vs, rfl⟩ := up_eq e19_
    have o240 : Bx W232 2 g1 [v0_0_12, v0_1_12] := (hN 20 (anyb rfl))
    have e21_ : vs 21 = vI z28.1 := (hN 21 (anyb rfl))
    obtain ⟨vs, rfl⟩ := up_eq e21_
    have e22_ : vs 22 = vS u76.Path := (hN 22 (anyb rfl))
    obtain ⟨vs, rfl⟩ := up_eq e22_
    obtain ⟨W241, ew241, l241, o241⟩ := (o87.up lW rfl).dyeO 31
    have a242 := a233.t l241
    obtain ⟨W247, ew247, l247, o247⟩ := (((o46.up l85).up lW rfl).up l241).dyeO 32
    have a248 := a242.t l247
    cases hm
    rw [← ew247.trans (ew241)]
    exact Cw.ret (retG (ResOk.c rfl ((o240.up l241).up l247) (ResOk.t rfl (ResOk.t rfl ResOk.n))) (Res.mk a248 ⟨v0_0_12, v0_1_12, rfl, (o241.up l247).s, o247.s⟩))
  ·refine sk (Cw.seq (Cw.draw [3] [(0, 1), (1, 0), (2, 0), (3, 2), (4, 3), (5, 0), (6, 0)] mixed (by kernel_rfl) fun W253 l253 => ?_))
   have a254 := l253.o
   refine Mw.q rfl rfl (fun _ c => R.lda (cs := [v0_0_12, v0_1_12]) (((b35.up l42).up l253).clcs rfl c) rfl rfl) (Di rfl (Dp rfl ?_))
   obtain ⟨z261, e262, hm⟩ := ob hm
   refine Mw.t rfl rfl (T.call rfl (p86  (c0 := 3) (x0 := (Vm.l30Rd.mk y37 y40)) (b41.up l253) (r39.ul a254) rfl e262)) ?_
   rintro _ _ ⟨W263, rfl, l263, ⟨rfl, f263_0⟩⟩
   have a264 := (a44.trans a254).t l263
   have o265 := ((o32.up l42).up l253).up l263
   have o266 := (o46.up l253).up l263
   refine m0 l263 fun d263 => Mw.lu rfl (T.sta (vs := [v0_0_12, v0_1_12]) ((b47.up l253).up l263) rfl rfl (oc_cons o265.oc (oc_cons o266.oc oc_nil)) rfl rfl) ?_
   rintro _ _ ⟨W269, rfl, l269, b269⟩
   have a270 := a264.t l269
   refine Hi rfl (Hs rfl (Mw.nil ?_))
   obtain ⟨W275, ew275, l275, o275⟩ := (o265.up l269).dyeO 31
   have a276 := a270.t l275
   obtain ⟨W281, ew281, l281, o281⟩ := ((o266.up l269).up l275).dyeO 32
   have a282 := a276.t l281
   cases hm
   rw [← ew281.trans (ew275)]
   exact Cw.ret (retG (ResOk.c rfl ((b269.up l275).up l281) (ResOk.t rfl (ResOk.t rfl ResOk.n))) (Res.mk a282 ⟨v0_0_12, v0_1_12, rfl, (o275.up l281).s, o281.s⟩))
 ·refine rg (mi rfl (fl b35 rfl (Lw.ln z10.1.Commits o32.rd rfl (Lw.sub rfl (ca hm (fun _ => p84) fun z287 W289 hm l289 => ?_)))))
  have a290 := (((a13.trans a16).trans a22).trans a31).n l289
  have b294 := f30_0.up l289
  refine mb rfl (bs hm (fun hc296 hm => ?_) fun hc296 hm => ?_)
  ·refine wak 8 hc296 (fl (b35.up l289) rfl (mi rfl ?_))
   obtain ⟨u297, e298, hm⟩ := ob hm
   refine Lw.r rfl (R.ix (α := Commit) (o32.up l289).rd e298 rfl rfl rfl) (Lw.fa rfl ?_)
   obtain ⟨v299, c300, r301⟩ := (Commit.at2 ((o32.up l289).rd.at_ e298)).cell rfl
   refine Lw.r rfl (R.ld rfl rfl c300) (Lw.ln u297.Tree r301 rfl (Lw.gt rfl (Pb hc296 rfl (mb rfl (bs hm (fun hc302 hm => ?_) fun hc302 hm => ?_)))))
   ·refine wak 3 hc302 (mp rfl (cr hm (fun _ => p85 (c0 := 3) (x0 := (Vm.l30Rd.mk z4.b z28.2)) b294 (s7.ul a290) rfl) ?_))
    rintro z304 _ W306 hm l306 ⟨rfl, f306_0⟩
    have a307 := a290.t l306
    exact Lw.gt rfl (Pb hc302 rfl (nl ((ag) ⟨decide ((0 : Int) < (z304.1 : Int)), z4.b, z304.2, v0_0_6, W306, rfl, (l289.j l306).w, rfl, (s7.ul a307), f306_0, hm⟩)))
   ·exact psk 3 hc302 rfl (Pb hc302 rfl (nl ((ag) ⟨false, z4.b, z28.2, v0_0_6, W289, rfl, l289.w, rfl, (s7.ul a290), b294, hm⟩)))
  ·exact psk 8 hc296 rfl (Pb hc296 rfl (mb rfl (psk 3 rfl rfl (Pb rfl rfl (nl ((ag) ⟨false, z4.b, z28.2, v0_0_6, W289, rfl, l289.w, rfl, (s7.ul a290), b294, hm⟩))))))
theorem p22 {x0 v0_ k0 k1 r} (h0 : Rd W K [v0_] x0) (hm : Vm.spec_DrawBlameOf x0 = some r) : Q1 22 [v0_] W [] fun W' v => ∃ u0_0 u0_1, v = .tuple [.agg [u0_0, u0_1].toArray, vI r.2.1, vS r.2.2].toArray ∧ Ow W' k0 [] [u0_0] r.1.Commits ∧ Ow W' k1 [] [u0_1] r.1.Heads :=
 CallR.adJ (J := []) (fun c => bif Nat.beq c 0 then 0 else bif Nat.beq c 31 then k0 else bif Nat.beq c 32 then k1 else 0) (c22 (h0.view _) hm) fun _ _ ⟨u0_0, u0_1, e, f0, f1⟩ => ⟨u0_0, u0_1, e, f0.one1.backN rfl, f1.one1.backN rfl⟩
theorem c87 {x0 v0_0_ v0_1_ x1 v1_ r} (h0 : Rd W0 [0] [v0_0_, v0_1_] x0) (h1 : Rd W0 [0] [v1_] x1) (h99 : Gl 0 W0 [0]) (hm : Vm.impl_Repo_are x0 x1 = some r) : Q0 87 [.agg [v0_0_, v0_1_].toArray, v1_] W0 fun Wf v => v = vB r := by
 unfold Vm.impl_Repo_are at hm
 obtain ⟨w0_0, w0_1, he0, h0_0, h0_1⟩ := Repo.split h0
 simp only [List.cons.injEq, and_true, true_and] at he0
 obtain ⟨rfl, rfl⟩ := he0
 refine CallR.of Tryz.func87 rfl rfl rfl rfl (sr (bo 2 rfl fun g1 W1 l1 b1 => ?_))
 have a2 := l1.o
 refine Nb rfl (ssr (la b1 (ca hm (fun _ => p19 (Repo.rd (K := [0]) x0.Commits x0.Heads (h0_0.ul a2) (h0_1.ul a2)) (h99.ul a2)) fun z6 W8 hm l8 => ?_)))
 have a9 := a2.n l8
 refine Lw.r rfl (R.not rfl) (nl (cn hm (fun hm => ?_) fun hm => ?_))
 ·exact sr (Nb rfl (.ret (rt hm a9)))
 ·refine sk (ssr (mv v1_ rfl (Lw.ln x1 (h1.ul a9) rfl (mi rfl (nl (Cw.block ?_))))))
  obtain ⟨K17, hK17, hm⟩ := jn_e hm
  refine Cw.loop 12 20 [4, 6, 12] (fun m l w => ∃ y13 y15 j14 W16, CW.w W16 = w ∧ Le [] W8 W16 ∧ l = [vB y13, j14, vI y15] ∧ Vm.impl_Repo_are_l1 x0 x1 K17 m y13 y15 = some r) _ ⟨false, 0, undef, W8, rfl, Le.refl _ _, rfl, hm⟩ ?_
  rintro (_ | m18) _ _ σ ⟨y13, y15, j14, W16, rfl, l16, rfl, hm⟩
  ·cases hm
  unfold Vm.impl_Repo_are_l1 at hm
  have a19 := a9.n l16
  refine sr (Lw.lt rfl (nl (Cw.seq (cn hm (fun hm => ?_) fun hm => ?_))))
  ·refine sk (Cw.seq (Cw.block (sr ?_)))
   obtain ⟨u22, e23, hm⟩ := ob hm
   refine Lw.r rfl (R.ix (α := Int) (h1.ul a19) e23 rfl rfl rfl) (Lw.r rfl (R.ld rfl rfl ((h1.ul a19).at_ e23).int) (Ni rfl (sr (la ((b1.up l8).up l16) (mi rfl (ca hm (fun _ => p126 (Repo.rd (K := [0]) x0.Commits x0.Heads (h0_0.ul a19) (h0_1.ul a19))) fun z27 W29 hm l29 => ?_))))))
   have a30 := a19.n l29
   refine Lw.r rfl (R.not rfl) (nl (cn hm (fun hm => ?_) fun hm => ?_))
   ·exact sr (Nb rfl (.ret (rt hm a30)))
   ·exact sk (rg (Lw.add rfl (mi rfl (nl ((agm) ⟨y13, w64 (y15 + 1), vI u22, W29, rfl, (l16.j l29).w, rfl, hm⟩)))))
  ·refine Cw.exit ?_
   rw [hK17] at hm
   exact sr (Nb rfl (.ret (rt hm a19)))
theorem p87 {x0 v0_0_ v0_1_ x1 v1_ r} (h0 : Rd W K [v0_0_, v0_1_] x0) (h1 : Rd W K [v1_] x1) (h99 : Gl 0 W K) (hm : Vm.impl_Repo_are x0 x1 = some r) : Q1 87 [.agg [v0_0_, v0_1_].toArray, v1_] W [] fun W' v => v = vB r :=
 (c87 (h0.view _) (h1.view _) (h99.view _) hm).ad (fk 0) fun _ _ e => e
theorem c90 {x0 v0_ x1 r} (h0 : Rd W0 [0] [v0_] x0) (hm : Vm.impl_get x0 x1 = some r) : Q0 90 [v0_, vS x1] W0 fun Wf v => ∃ u0, v = .tuple [u0, vB r.2].toArray ∧ OwS Wf LL [] [u0] r.1 := by
 unfold Vm.impl_get at hm
 refine CallR.of Tryz.func90 rfl rfl rfl rfl (sr (Gv (.slice none 0 0) rfl (Nb rfl (ssr (mv v0_ rfl (Lw.ln x0 h0 rfl (mi rfl (nl (Cw.block ?_)))))))))
 obtain ⟨K8, hK8, hm⟩ := jn_e hm
 refine Cw.loop 10 21 [4, 5, 7, 10] (fun m l w => ∃ y1 y4 y6 v2 j5 W7, CW.w W7 = w ∧ Le [3] W0 W7 ∧ l = [v2, vB y4, j5, vI y6] ∧ Ow W7 2 [] [v2] y1 ∧ Vm.impl_get_l1 x0 x1 K8 m y1 y4 y6 = some r) _ ⟨([] : List Str), false, 0, .slice none 0 0, undef, W0, rfl, Le.refl _ _, rfl, owN 2 [], hm⟩ ?_
 rintro (_ | m9) _ _ σ ⟨y1, y4, y6, v2, j5, W7, rfl, l7, rfl, o3, hm⟩
 ·cases hm
 unfold Vm.impl_get_l1 at hm
 have a10 := l7.s
 refine sr (Lw.lt rfl (nl (Cw.seq (cn hm (fun hm => ?_) fun hm => ?_))))
 ·refine sk (Cw.seq (Cw.block (sr ?_)))
  obtain ⟨u12, e13, hm⟩ := ob hm
  refine Lw.r rfl (R.ix (α := File) (h0.ul a10) e13 rfl rfl rfl) ?_
  obtain ⟨x15, c16, _, r17⟩ := ((h0.ul a10).at_ e13).cells
  obtain ⟨v18, rfl, r19⟩ := File.split r17
  refine Lw.r rfl (R.lda c16 rfl rfl) (al 3 [vS ([] : Str), .slice none 0 0] fun g20 W20 l20 b20 => ?_)
  have a21 := l20.o
  refine sta b20 (oc_cons rfl (oc_cons r19.oc oc_nil)) fun W23 l23 b23 => ?_
  have a24 := l23.s
  refine nl (sr (fl b23 rfl (ms rfl (Lw.seq rfl (nl (cn hm (fun hm => ?_) fun hm => ?_))))))
  ·refine sr (fl b23 rfl (cr hm (fun _ => p97 (k0 := 4) (r19.ul (a21.trans a24))) ?_))
   rintro z28 v0_30 W30 hm l30 ⟨_, rfl, f30_0⟩
   have a31 := ((a10.trans a21).trans a24).n l30
   refine Gv v0_30 rfl (Nb rfl ?_)
   cases hm
   exact Cw.ret (ret2 rfl rfl (Res.mk a31 ⟨v0_30, rfl, f30_0.s.sub rfl rfl⟩))
  ·exact sk (rg (Lw.add rfl (mi rfl (nl ((agm) ⟨y1, y4, w64 (y6 + 1), v2, ptr (bx g20), W23, rfl, ((l7.j l20).j l23).w, rfl, ((o3.up l20).up l23), hm⟩)))))
 ·refine Cw.exit ?_
  rw [hK8] at hm
  refine sr (Gv (.slice none 0 0) rfl (Nb rfl ?_))
  cases hm
  exact Cw.ret (ret2 rfl rfl (Res.mk a10 ⟨.slice none 0 0, rfl, (owsN []).sub rfl rfl⟩))
theorem p90 {x0 v0_ x1 k0 r} (h0 : Rd W K [v0_] x0) (hm : Vm.impl_get x0 x1 = some r) : Q1 90 [v0_, vS x1] W [] fun W' v => ∃ u0, v = .tuple [u0, vB r.2].toArray ∧ Ow W' k0 [] [u0] r.1 :=
 (c90 (h0.view _) hm).ad (fk k0) fun _ _ ⟨u0, e, f0⟩ => ⟨u0, e, f0.back (fk_LL _)⟩
theorem c142 {x0 v0_0_ v0_1_ x1 r} (h0 : Rd W0 [0] [v0_0_, v0_1_] x0) (hm : Vm.impl_Repo_first x0 x1 = some r) : Q0 142 [.agg [v0_0_, v0_1_].toArray, vI x1] W0 fun Wf v => v = vI r := by
 unfold Vm.impl_Repo_first at hm
 obtain ⟨w0_0, w0_1, he0, h0_0, h0_1⟩ := Repo.split h0
 simp only [List.cons.injEq, and_true, true_and] at he0
 obtain ⟨rfl, rfl⟩ := he0
 refine CallR.of Tryz.func142 rfl rfl rfl rfl (sr (bo 2 rfl fun g1 W1 l1 b1 => ?_))
 have a2 := l1.o
 refine Ni rfl (ssr (fl b1 rfl (mi rfl ?_)))
 obtain ⟨u3, e4, hm⟩ := ob hm
 have s5 := h0_0.ul a2
 refine Lw.r rfl (R.ix (α := Commit) s5 e4 rfl rfl rfl) (Lw.fa rfl ?_)
 obtain ⟨v6, c7, r8⟩ := (Commit.at0 (s5.at_ e4)).cell rfl
 refine Lw.r rfl (R.ld rfl rfl c7) (Lw.ln u3.Parents r8 rfl (Lw.eq rfl (nl (cn hm (fun hm => ?_) fun hm => ?_))))
 ·exact sr (Ni rfl (.ret (rt hm a2)))
 ·refine sk (sr (fl b1 rfl (mi rfl ?_)))
  obtain ⟨u10, e11, hm⟩ := ob hm
  refine Lw.r rfl (R.ix (α := Commit) s5 e11 rfl rfl rfl) (Lw.fa rfl ?_)
  obtain ⟨v12, c13, r14⟩ := (Commit.at0 (s5.at_ e11)).cell rfl
  refine Lw.r rfl (R.ld rfl rfl c13) ?_
  obtain ⟨u15, e16, hm⟩ := ob hm
  exact Lw.r rfl (R.ix (α := Int) r14 e16 rfl rfl rfl) (Lw.r rfl (R.ld rfl rfl (r14.at_ e16).int) (Ni rfl (.ret (rt hm a2))))
theorem p142 {x0 v0_0_ v0_1_ x1 r} (h0 : Rd W K [v0_0_, v0_1_] x0) (hm : Vm.impl_Repo_first x0 x1 = some r) : Q1 142 [.agg [v0_0_, v0_1_].toArray, vI x1] W [] fun W' v => v = vI r :=
 (c142 (h0.view _) hm).ad (fk 0) fun _ _ e => e
theorem c144 {x0 v0_ x1 v1_ r} (h0 : Rd W0 [0] [v0_] x0) (h1 : Rd W0 [0] [v1_] x1) (hm : Vm.impl_lcs x0 x1 = some r) : Q0 144 [v0_, v1_] W0 fun Wf v => ∃ u0, v = u0 ∧ OwS Wf LL [] [u0] r := by
 unfold Vm.impl_lcs at hm
 refine CallR.of Tryz.func144 rfl rfl rfl rfl (sr (Nv (.slice none 0 0) rfl (sr (mv v0_ rfl (Lw.ln x0 h0 rfl (Lw.add rfl ?_))))))
 obtain ⟨q1, e2, hm⟩ := ob hm
 refine Lw.t rfl (T.mk (α := List Int) 2 [] (n := w64 ((x0.length : Int) + 1)) rfl rfl e2) ?_
 rintro v3 _ ⟨W3, rfl, l3, o3⟩
 have a4 := l3.o
 refine Nv v3 rfl (ssr (mv v3 rfl (Lw.ln q1 o3.rd rfl (mi rfl (nl (Cw.block ?_))))))
 obtain ⟨K10, hK10, hm⟩ := jn_e hm
 refine Cw.loop 15 25 [6, 15] (fun m l w => ∃ y6 y7 j5 W9, CW.w W9 = w ∧ Le [2, 3] W3 W9 ∧ l = [j5, vI y6] ∧ Ow W9 2 [] [v3] y7 ∧ Vm.impl_lcs_l1 x1 q1 K10 m y6 y7 = some r) _ ⟨0, q1, undef, W3, rfl, Le.refl _ _, rfl, o3, hm⟩ ?_
 rintro (_ | m11) _ _ σ ⟨y6, y7, j5, W9, rfl, l9, rfl, o8, hm⟩
 ·cases hm
 unfold Vm.impl_lcs_l1 at hm
 have a12 := a4.t l9
 refine sr (Lw.lt rfl (nl (Cw.seq (cn hm (fun hm => ?_) fun hm => ?_))))
 ·refine sk (Cw.seq (Cw.block (sr (mi rfl (Ni rfl (rg (mv v3 rfl (mi rfl (mv v1_ rfl (Lw.ln x1 (h1.ul a12) rfl (Lw.add rfl ?_)))))))))))
  obtain ⟨q15, e16, hm⟩ := ob hm
  refine Lw.t rfl (T.mk (α := Int) 3 [] (n := w64 ((x1.length : Int) + 1)) rfl rfl e16) ?_
  rintro v17 _ ⟨W17, rfl, l17, o17⟩
  obtain ⟨u20, e21, hm⟩ := ob hm
  refine Lw.r rfl (R.ix (α := List Int) (o8.up l17).rd e21 rfl rfl rfl) ?_
  obtain ⟨q23, e24, hm⟩ := ob hm
  refine Lw.u (T.stO (J := [3]) (o8.up l17) o17.s e24 rfl rfl (cells_list o17.oc)) ?_
  rintro _ _ ⟨W22, rfl, l22, o22⟩
  exact nl (rg (Lw.add rfl (mi rfl (nl ((agm) ⟨w64 (y6 + 1), q23, vI y6, W22, rfl, ((l9.j l17).j l22).w, rfl, o22, hm⟩)))))
 ·refine Cw.exit ?_
  rw [hK10] at hm
  refine ssr (mv v0_ rfl (Lw.ln x0 (h0.ul a12) rfl (Lw.sub rfl (Ni rfl (Cw.block ?_)))))
  obtain ⟨K32, hK32, hm⟩ := jn_e hm
  refine Cw.loop 29 87 [7, 8] (fun m l w => ∃ y27 y29 j28 W31, CW.w W31 = w ∧ Le [2, 4, 5] W9 W31 ∧ l = [vI y27, j28] ∧ Ow W31 2 [] [v3] y29 ∧ Vm.impl_lcs_l2 x0 x1 K32 m y27 y29 = some r) _ ⟨w64 ((x0.length : Int) - 1), y7, undef, W9, rfl, Le.refl _ _, rfl, o8, hm⟩ ?_
  rintro (_ | m33) _ _ σ ⟨y27, y29, j28, W31, rfl, l31, rfl, o30, hm⟩
  ·cases hm
  unfold Vm.impl_lcs_l2 at hm
  have a34 := a12.t l31
  refine ssr (mi rfl (Lw.ge rfl (nl (cn hm (fun hm => ?_) fun hm => ?_))))
  ·refine sk (Cw.seq (Cw.block (sr (mv v1_ rfl (Lw.ln x1 (h1.ul a34) rfl (Lw.sub rfl (Ni rfl (Cw.block ?_))))))))
   obtain ⟨K41, hK41, hm⟩ := jn_e hm
   refine Cw.loop 36 87 [8] (fun m l w => ∃ y37 y38 W40, CW.w W40 = w ∧ Le [2, 4, 5] W31 W40 ∧ l = [vI y37] ∧ Ow W40 2 [] [v3] y38 ∧ Vm.impl_lcs_l3 x0 x1 y27 K41 m y37 y38 = some r) _ ⟨w64 ((x1.length : Int) - 1), y29, W31, rfl, Le.refl _ _, rfl, o30, hm⟩ ?_
   rintro (_ | m42) _ _ σ ⟨y37, y38, W40, rfl, l40, rfl, o39, hm⟩
   ·cases hm
   unfold Vm.impl_lcs_l3 at hm
   have a43 := a34.t l40
   refine ssr (mi rfl (Lw.ge rfl (nl (cn hm (fun hm => ?_) fun hm => ?_))))
   ·refine sk ?_
    obtain ⟨K48, hK48, hm⟩ := jn_e hm
    refine Cw.join 40 87 [] (fun l w => ∃ y45 W47, CW.w W47 = w ∧ Le [2, 4, 5] W40 W47 ∧ l = [] ∧ Ow W47 2 [] [v3] y45 ∧ K48 y45 = some r) ?_ ?_
    ·rintro _ _ σ ⟨y45, W47, rfl, l47, rfl, o46, hm⟩
     rw [hK48] at hm
     exact rg (mi rfl (Lw.sub rfl (Ni rfl ((agm) ⟨w64 (y37 - 1), y45, W47, rfl, (l40.j l47).w, rfl, o46, hm⟩))))
    ·refine Cw.block (Cw.seq (Cw.draw [] [(0, 0), (1, 0), (2, 0), (3, 1), (4, 0), (5, 0), (6, 0), (7, 1), (8, 0)] mixed (by kernel_rfl) fun W50 l50 => ?_))
     have a51 := a43.n l50
     refine Dv v0_ rfl (Di rfl ?_)
     obtain ⟨u53, e54, hm⟩ := ob hm
     refine Mw.p rfl rfl (fun _ => R.ix (α := Str) (h0.ul a51) e54 rfl rfl rfl) (Mw.q rfl rfl (fun _ c => R.ld rfl rfl (cl_cell ((h0.ul a51).at_ e54).1 rfl ((h0.ul a51).at_ e54).str c)) (Dv v1_ rfl (Di rfl ?_)))
     obtain ⟨u56, e57, hm⟩ := ob hm
     refine Mw.p rfl rfl (fun _ => R.ix (α := Str) (h1.ul a51) e57 rfl rfl rfl) (Mw.q rfl rfl (fun _ c => R.ld rfl rfl (cl_cell ((h1.ul a51).at_ e57).1 rfl ((h1.ul a51).at_ e57).str c)) (Mw.p rfl rfl (fun _ => R.seq rfl rfl) (Mw.nil (cn hm (fun hm => ?_) fun hm => ?_))))
     ·refine Cw.draw [] [(0, 0), (1, 0), (2, 0), (3, 1), (4, 0), (5, 0), (6, 0), (7, 0), (8, 0), (9, 1), (10, 0), (11, 0), (12, 0), (13, 1), (14, 0), (15, 0), (16, 3)] mixed (by kernel_rfl) fun W60 l60 => ?_
      have o62 := (o39.up l50).up l60
      refine Dv v3 rfl (Di rfl ?_)
      obtain ⟨u63, e64, hm⟩ := ob hm
      refine Mw.p rfl rfl (fun _ => R.ix (α := List Int) o62.rd e64 rfl rfl rfl) ?_
      obtain ⟨v65, c66, r67⟩ := (o62.rd.at_ e64).cell rfl
      refine Mw.q rfl rfl (fun _ c => R.ld rfl rfl (cl_cell (o62.rd.at_ e64).1 rfl c66 c)) (Di rfl (Dv v3 rfl (Di rfl (Mw.p rfl rfl (fun _ => R.add rfl rfl) ?_))))
      obtain ⟨u68, e69, hm⟩ := ob hm
      refine Mw.p rfl rfl (fun _ => R.ix (α := List Int) o62.rd e69 rfl rfl rfl) ?_
      obtain ⟨v70, c71, r72⟩ := (o62.rd.at_ e69).cell rfl
      refine Mw.q rfl rfl (fun _ c => R.ld rfl rfl (cl_cell (o62.rd.at_ e69).1 rfl c71 c)) (Di rfl (Mw.p rfl rfl (fun _ => R.add rfl rfl) ?_))
      obtain ⟨u73, e74, hm⟩ := ob hm
      refine Mw.p rfl rfl (fun _ => R.ix (α := Int) r72 e74 rfl rfl rfl) (Mw.q rfl rfl (fun _ c => R.ld rfl rfl (cl_cell (r72.at_ e74).1 rfl (r72.at_ e74).int c)) (Mw.p rfl rfl (fun _ => R.add rfl rfl) ?_))
      obtain ⟨u75, e76, hm⟩ := ob hm
      refine Mw.p rfl rfl (fun _ => R.ix (α := Int) r67 e76 rfl rfl rfl) ?_
      obtain ⟨W77, ew77, l77, o77, gb77⟩ := Ow.lend (α := List Int) (β := List Int) (j := 4) (jf := 0) o62 e64 (by rw [h_add0]; exact c66) rfl
      rw [← ew77]
      obtain ⟨q80, e81, hm⟩ := ob hm
      refine Mw.lu rfl (T.stS (K' := []) o77 (rdI _) e81 rfl rfl rfl) ?_
      rintro _ _ ⟨W79, rfl, l79, o79⟩
      obtain ⟨W84, ew84, l84, q84, eq84, o84⟩ := gb77 _ _ l79 o79
      obtain ⟨q84_, eqm84, hm⟩ := ob hm
      obtain rfl : q84_ = q84 := Option.some.inj (eqm84.symm.trans eq84)
      rw [← ew84]
      exact Mw.nil ((ag) ⟨q84_, W84, rfl, ((((l50.j l60).j l77).j l79).j l84).w, rfl, o84, hm⟩)
     ·refine Cw.draw [] [(0, 0), (1, 0), (2, 0), (3, 1), (4, 0), (5, 0), (6, 0), (7, 0), (8, 0), (9, 1), (10, 0), (11, 0), (12, 1), (13, 0), (14, 0), (15, 0), (16, 1), (17, 0), (18, 0), (19, 0), (20, 1), (21, 0), (22, 0), (23, 3)] mixed (by kernel_rfl) fun W86 l86 => ?_
      have o88 := (o39.up l50).up l86
      refine Dv v3 rfl (Di rfl ?_)
      obtain ⟨u89, e90, hm⟩ := ob hm
      refine Mw.p rfl rfl (fun _ => R.ix (α := List Int) o88.rd e90 rfl rfl rfl) ?_
      obtain ⟨v91, c92, r93⟩ := (o88.rd.at_ e90).cell rfl
      refine Mw.q rfl rfl (fun _ c => R.ld rfl rfl (cl_cell (o88.rd.at_ e90).1 rfl c92 c)) (Di rfl (Dv v3 rfl (Di rfl (Mw.p rfl rfl (fun _ => R.add rfl rfl) ?_))))
      obtain ⟨u94, e95, hm⟩ := ob hm
      refine Mw.p rfl rfl (fun _ => R.ix (α := List Int) o88.rd e95 rfl rfl rfl) ?_
      obtain ⟨v96, c97, r98⟩ := (o88.rd.at_ e95).cell rfl
      refine Mw.q rfl rfl (fun _ c => R.ld rfl rfl (cl_cell (o88.rd.at_ e95).1 rfl c97 c)) (Di rfl ?_)
      obtain ⟨u99, e100, hm⟩ := ob hm
      refine Mw.p rfl rfl (fun _ => R.ix (α := Int) r98 e100 rfl rfl rfl) (Mw.q rfl rfl (fun _ c => R.ld rfl rfl (cl_cell (r98.at_ e100).1 rfl (r98.at_ e100).int c)) (Dv v3 rfl (Di rfl ?_)))
      obtain ⟨u101, e102, hm⟩ := ob hm
      refine Mw.p rfl rfl (fun _ => R.ix (α := List Int) o88.rd e102 rfl rfl rfl) ?_
      obtain ⟨v103, c104, r105⟩ := (o88.rd.at_ e102).cell rfl
      refine Mw.q rfl rfl (fun _ c => R.ld rfl rfl (cl_cell (o88.rd.at_ e102).1 rfl c104 c)) (Di rfl (Mw.p rfl rfl (fun _ => R.add rfl rfl) ?_))
      obtain ⟨u106, e107, hm⟩ := ob hm
      refine Mw.p rfl rfl (fun _ => R.ix (α := Int) r105 e107 rfl rfl rfl) (Mw.q rfl rfl (fun _ c => R.ld rfl rfl (cl_cell (r105.at_ e107).1 rfl (r105.at_ e107).int c)) (Mw.p rfl rfl (fun _ => R.max rfl rfl) ?_))
      obtain ⟨u108, e109, hm⟩ := ob hm
      refine Mw.p rfl rfl (fun _ => R.ix (α := Int) r93 e109 rfl rfl rfl) ?_
      obtain ⟨W110, ew110, l110, o110, gb110⟩ := Ow.lend (α := List Int) (β := List Int) (j := 5) (jf := 0) o88 e90 (by rw [h_add0]; exact c92) rfl
      rw [← ew110]
      obtain ⟨q113, e114, hm⟩ := ob hm
      refine Mw.lu rfl (T.stS (K' := []) o110 (rdI _) e114 rfl rfl rfl) ?_
      rintro _ _ ⟨W112, rfl, l112, o112⟩
      obtain ⟨W117, ew117, l117, q117, eq117, o117⟩ := gb110 _ _ l112 o112
      obtain ⟨q117_, eqm117, hm⟩ := ob hm
      obtain rfl : q117_ = q117 := Option.some.inj (eqm117.symm.trans eq117)
      rw [← ew117]
      exact Mw.nil ((ag) ⟨q117_, W117, rfl, ((((l50.j l86).j l110).j l112).j l117).w, rfl, o117, hm⟩)
   ·refine Cw.exit ?_
    rw [hK41] at hm
    exact rg (mi rfl (Lw.sub rfl (Ni rfl ((agm) ⟨w64 (y27 - 1), y38, vI y37, W40, rfl, (l31.j l40).w, rfl, o39, hm⟩))))
  ·refine Cw.exit ?_
   rw [hK32] at hm
   refine sr (mv v3 rfl (Nv v3 rfl ?_))
   cases hm
   exact Cw.ret (ret1 rfl (Res.mk a34 ⟨v3, rfl, o30.s.sub rfl rfl⟩))
theorem p144 {x0 v0_ x1 v1_ k0 r} (h0 : Rd W K [v0_] x0) (h1 : Rd W K [v1_] x1) (hm : Vm.impl_lcs x0 x1 = some r) : Q1 144 [v0_, v1_] W [] fun W' v => ∃ u0, v = u0 ∧ Ow W' k0 [] [u0] r :=
 (c144 (h0.view _) (h1.view _) hm).ad (fk k0) fun _ _ ⟨u0, e, f0⟩ => ⟨u0, e, f0.back (fk_LL _)⟩
theorem c93 {x0 v0_ x1 v1_ r} (h0 : Rd W0 [0] [v0_] x0) (h1 : Rd W0 [0] [v1_] x1) (hm : Vm.impl_match x0 x1 = some r) : Q0 93 [v0_, v1_] W0 fun Wf v => ∃ u0, v = u0 ∧ OwS Wf LL [] [u0] r := by
 unfold Vm.impl_match at hm
 refine CallR.of Tryz.func93 rfl rfl rfl rfl (sr (Nv (.slice none 0 0) rfl (sr (mv v0_ rfl (mv v1_ rfl (cr hm (fun _ => p144 (k0 := 2) h0 h1) ?_))))))
 rintro z1 v0_3 W3 hm l3 ⟨_, rfl, f3_0⟩
 have a4 := l3.o
 refine Nv v0_3 rfl (sr (Nv (.slice none 0 0) rfl (ssr (Gi rfl (Ni rfl (Cw.block ?_))))))
 obtain ⟨K11, hK11, hm⟩ := jn_e hm
 refine Cw.loop 12 70 [6, 7, 8] (fun m l w => ∃ y5 y8 y9 v6 W10, CW.w W10 = w ∧ Le [3] W3 W10 ∧ l = [v6, vI y8, vI y9] ∧ Ow W10 3 [] [v6] y5 ∧ Vm.impl_match_l1 x0 x1 z1 K11 m y5 y8 y9 = some r) _ ⟨([] : List Int), 0, 0, .slice none 0 0, W3, rfl, Le.refl _ _, rfl, owN 3 [], hm⟩ ?_
 rintro (_ | m12) _ _ σ ⟨y5, y8, y9, v6, W10, rfl, l10, rfl, o7, hm⟩
 ·cases hm
 unfold Vm.impl_match_l1 at hm
 have a13 := a4.t l10
 refine ssr (mi rfl (mv v0_ rfl (Lw.ln x0 (h0.ul a13) rfl (Lw.lt rfl (nl (cn hm (fun hm => ?_) fun hm => ?_))))))
 ·refine sk (Cw.block (Cw.block ?_))
  obtain ⟨K19, hK19, hm⟩ := jn_e hm
  refine Cw.join 18 33 [18] (fun l w => ∃ y17 W18, CW.w W18 = w ∧ Le [] W10 W18 ∧ l = [vB y17] ∧ K19 y17 = some r) ?_ ?_
  ·rintro _ _ σ ⟨y17, W18, rfl, l18, rfl, hm⟩
   rw [hK19] at hm
   have a20 := a13.n l18
   refine cn hm (fun hm => ?_) fun hm => ?_
   ·refine sr (mv v6 rfl (mi rfl (Lw.t rfl (T.bs 4 [vI y9] (cs := [vI y9]) rfl rfl (bsv rfl)) ?_)))
    rintro _ _ ⟨g24, W24, rfl, rfl, l24, b24⟩
    obtain ⟨q28, e29, hm⟩ := ob hm
    refine Lw.t rfl (T.app1S (α := Int) (K' := []) ((o7.up l18).up l24) b24 (rdI _) rfl rfl e29) ?_
    rintro v30 _ ⟨W30, rfl, l30, o30⟩
    exact Nv v30 rfl (sr (mi rfl (Lw.add rfl (Ni rfl (rg (mi rfl (Lw.add rfl (Ni rfl ((agm) ⟨q28, w64 (y8 + 1), w64 (y9 + 1), v30, W30, rfl, (((l10.j l18).j l24).j l30).w, rfl, o30, hm⟩)))))))))
   ·obtain ⟨K36, hK36, hm⟩ := jn_e hm
    refine Cw.join 42 65 [42] (fun l w => ∃ y34 W35, CW.w W35 = w ∧ Le [] W18 W35 ∧ l = [vB y34] ∧ K36 y34 = some r) ?_ ?_
    ·rintro _ _ σ ⟨y34, W35, rfl, l35, rfl, hm⟩
     rw [hK36] at hm
     have o39 := (o7.up l18).up l35
     refine cn hm (fun hm => ?_) fun hm => ?_
     ·refine sr (mv v6 rfl (Lw.t rfl (T.bs 5 [vI (-1)] (cs := [vI (-1)]) rfl rfl (bsv rfl)) ?_))
      rintro _ _ ⟨g41, W41, rfl, rfl, l41, b41⟩
      obtain ⟨q45, e46, hm⟩ := ob hm
      refine Lw.t rfl (T.app1S (α := Int) (K' := []) (o39.up l41) b41 (rdI _) rfl rfl e46) ?_
      rintro v47 _ ⟨W47, rfl, l47, o47⟩
      exact Nv v47 rfl (rg (mi rfl (Lw.add rfl (Ni rfl ((agm) ⟨q45, w64 (y8 + 1), y9, v47, W47, rfl, ((((l10.j l18).j l35).j l41).j l47).w, rfl, o47, hm⟩)))))
     ·exact rg (mi rfl (Lw.add rfl (Ni rfl ((agm) ⟨y5, y8, w64 (y9 + 1), v6, W35, rfl, ((l10.j l18).j l35).w, rfl, o39, hm⟩))))
    ·refine Cw.draw [] [(0, 0), (1, 0), (2, 0), (3, 0), (4, 0), (5, 0), (6, 0), (7, 0), (8, 0), (9, 1), (10, 0), (11, 0), (12, 1), (13, 0), (14, 0), (15, 0), (16, 1), (17, 0), (18, 0), (19, 0), (20, 1), (21, 0), (22, 0), (23, 0)] mixed (by kernel_rfl) fun W51 l51 => ?_
     have a52 := a20.n l51
     have o53 := ((f3_0.up l10).up l18).up l51
     refine Di rfl (Dv v1_ rfl (Mw.p rfl rfl (fun _ => lenR (xs := x1) (h1.ul a52) rfl) (Mw.p rfl rfl (fun _ => R.eq rfl rfl) (Db rfl (bs hm (fun hc56 hm => ?_) fun hc56 hm => ?_)))))
     ·exact dps 17 hc56 rfl (Mw.p rfl rfl (fun _ => R.pk hc56 rfl (v := vB true) rfl) (Hb rfl (Mw.nil ((ag) ⟨true, W51, rfl, l51, rfl, hm⟩))))
     ·refine Wp hc56 rfl (fun _ => R.mv (v := v0_3) rfl) (Wp hc56 rfl (fun _ => R.mv (v := vI y8) rfl) (Wp hc56 rfl (fun _ => R.add rfl rfl) ?_))
      obtain ⟨u57, e58, hm⟩ := ob hm
      refine Wp hc56 rfl (fun _ => R.ix (α := List Int) o53.rd e58 rfl rfl rfl) ?_
      obtain ⟨v59, c60, r61⟩ := (o53.rd.at_ e58).cell rfl
      refine Wq hc56 rfl (fun _ c => R.ld rfl rfl (cl_cell (o53.rd.at_ e58).1 rfl c60 c)) (Wp hc56 rfl (fun _ => R.mv (v := vI y9) rfl) ?_)
      obtain ⟨u62, e63, hm⟩ := ob hm
      refine Wp hc56 rfl (fun _ => R.ix (α := Int) r61 e63 rfl rfl rfl) (Wq hc56 rfl (fun _ c => R.ld rfl rfl (cl_cell (r61.at_ e63).1 rfl (r61.at_ e63).int c)) (Wp hc56 rfl (fun _ => R.mv (v := v0_3) rfl) (Wp hc56 rfl (fun _ => R.mv (v := vI y8) rfl) ?_)))
      obtain ⟨u64, e65, hm⟩ := ob hm
      refine Wp hc56 rfl (fun _ => R.ix (α := List Int) o53.rd e65 rfl rfl rfl) ?_
      obtain ⟨v66, c67, r68⟩ := (o53.rd.at_ e65).cell rfl
      refine Wq hc56 rfl (fun _ c => R.ld rfl rfl (cl_cell (o53.rd.at_ e65).1 rfl c67 c)) (Wp hc56 rfl (fun _ => R.mv (v := vI y9) rfl) (Wp hc56 rfl (fun _ => R.add rfl rfl) ?_))
      obtain ⟨u69, e70, hm⟩ := ob hm
      exact Wp hc56 rfl (fun _ => R.ix (α := Int) r68 e70 rfl rfl rfl) (Wq hc56 rfl (fun _ c => R.ld rfl rfl (cl_cell (r68.at_ e70).1 rfl (r68.at_ e70).int c)) (Wp hc56 rfl (fun _ => R.ge rfl rfl) (Mw.p rfl rfl (fun _ => R.pk hc56 rfl (v := vB (decide ((u69 : Int) ≤ (u62 : Int)))) rfl) (Hb rfl (Mw.nil ((ag) ⟨decide ((u69 : Int) ≤ (u62 : Int)), W51, rfl, l51, rfl, hm⟩))))))
  ·refine Cw.draw [] [(0, 0), (1, 0), (2, 0), (3, 0), (4, 0), (5, 0), (6, 0), (7, 0), (8, 1), (9, 0), (10, 0), (11, 0), (12, 1), (13, 0), (14, 0), (15, 0)] mixed (by kernel_rfl) fun W71 l71 => ?_
   have a72 := a13.n l71
   have s75 := h1.ul a72
   refine Di rfl (Dv v1_ rfl (Mw.p rfl rfl (fun _ => lenR (xs := x1) s75 rfl) (Mw.p rfl rfl (fun _ => R.lt rfl rfl) (Db rfl (bs hm (fun hc76 hm => ?_) fun hc76 hm => ?_)))))
   ·refine Wp hc76 rfl (fun _ => R.mv (v := v0_) rfl) (Wp hc76 rfl (fun _ => R.mv (v := vI y8) rfl) ?_)
    obtain ⟨u77, e78, hm⟩ := ob hm
    refine Wp hc76 rfl (fun _ => R.ix (α := Str) (h0.ul a72) e78 rfl rfl rfl) (Wq hc76 rfl (fun _ c => R.ld rfl rfl (cl_cell ((h0.ul a72).at_ e78).1 rfl ((h0.ul a72).at_ e78).str c)) (Wp hc76 rfl (fun _ => R.mv (v := v1_) rfl) (Wp hc76 rfl (fun _ => R.mv (v := vI y9) rfl) ?_)))
    obtain ⟨u80, e81, hm⟩ := ob hm
    exact Wp hc76 rfl (fun _ => R.ix (α := Str) s75 e81 rfl rfl rfl) (Wq hc76 rfl (fun _ c => R.ld rfl rfl (cl_cell (s75.at_ e81).1 rfl (s75.at_ e81).str c)) (Wp hc76 rfl (fun _ => R.seq rfl rfl) (Mw.p rfl rfl (fun _ => R.pk hc76 rfl (v := vB (u77 == u80)) rfl) (Hb rfl (Mw.nil ((ag) ⟨(u77 == u80), W71, rfl, l71, rfl, hm⟩))))))
   ·exact dps 9 hc76 rfl (Mw.p rfl rfl (fun _ => R.pk hc76 rfl (v := vB false) rfl) (Hb rfl (Mw.nil ((ag) ⟨false, W71, rfl, l71, rfl, hm⟩))))
 ·refine Cw.exit ?_
  rw [hK11] at hm
  refine sr (mv v6 rfl (Nv v6 rfl ?_))
  cases hm
  exact Cw.ret (ret1 rfl (Res.mk a13 ⟨v6, rfl, o7.s.sub rfl rfl⟩))
theorem p93 {x0 v0_ x1 v1_ k0 r} (h0 : Rd W K [v0_] x0) (h1 : Rd W K [v1_] x1) (hm : Vm.impl_match x0 x1 = some r) : Q1 93 [v0_, v1_] W [] fun W' v => ∃ u0, v = u0 ∧ Ow W' k0 [] [u0] r :=
 (c93 (h0.view _) (h1.view _) hm).ad (fk k0) fun _ _ ⟨u0, e, f0⟩ => ⟨u0, e, f0.back (fk_LL _)⟩
theorem c88 (m : Nat) : ∀ {W0 : CW} {x0 : Vm.Repo} {v0_0_ : Value} {v0_1_ : Value} {x1 : Int} {x2 : Str} {r : (List Int) × Bool} (h0 : Rd W0 [0] [v0_0_, v0_1_] x0) (hm : Vm.impl_Repo_blame_r m x0 x1 x2 = some r), CallR Tryz.prog 88 [.agg [v0_0_, v0_1_].toArray, vI x1, vS x2].toArray W0.w (Res W0 LL fun Wf v => ∃ (u0 : Value), v = .tuple [u0, vB r.2].toArray ∧ OwS Wf LL [] [u0] r.1) := by
 induction m with
 | zero => intro W0 x0 v0_0_ v0_1_ x1 x2 r h0 hm; exact absurd hm (by unfold Vm.impl_Repo_blame_r; exact nofun)
 | succ m ih =>
  have p88 : ∀ {W : CW} {K : List Nat} {x0 : Vm.Repo} {v0_0_ : Value} {v0_1_ : Value} {x1 : Int} {x2 : Str} {k0 : Nat} {r : (List Int) × Bool} (h0 : Rd W K [v0_0_, v0_1_] x0) (hm : Vm.impl_Repo_blame_r m x0 x1 x2 = some r), CallR Tryz.prog 88 [.agg [v0_0_, v0_1_].toArray, vI x1, vS x2].toArray W.w (Res W [] fun W' v => ∃ (u0 : Value), v = .tuple [u0, vB r.2].toArray ∧ Ow W' k0 [] [u0] r.1) := fun {W} {K} {x0} {v0_0_} {v0_1_} {x1} {x2} {k0} {r} h0 hm => (ih (W0 := W.view K []) (h0.view _) hm).ad (fk k0) fun _ _ ⟨u0, e, f0⟩ => ⟨u0, e, f0.back (fk_LL _)⟩
  intro W0 x0 v0_0_ v0_1_ x1 x2 r h0 hm
  unfold Vm.impl_Repo_blame_r at hm
  obtain ⟨w0_0, w0_1, he0, h0_0, h0_1⟩ := Repo.split h0
  simp only [List.cons.injEq, and_true, true_and] at he0
  obtain ⟨rfl, rfl⟩ := he0
  refine CallR.of Tryz.func88 rfl rfl rfl rfl (sr (bo 2 rfl fun g1 W1 l1 b1 => ?_))
  have a2 := l1.o
  refine Gv (.slice none 0 0) rfl (Nb rfl (sr (la b1 (mi rfl (cr hm (fun _ => p115 (Repo.rd (K := [0]) x0.Commits x0.Heads (h0_0.ul a2) (h0_1.ul a2))) ?_)))))
  rintro z5 v0_7 W7 hm l7 ⟨_, rfl, f7_0⟩
  have s8 := f7_0.sub (M := [0]) rfl
  have a9 := a2.n l7
  refine ms rfl (cr hm (fun _ => p90 (k0 := 3) s8) ?_)
  rintro z11 _ W13 hm l13 ⟨v0_13, rfl, f13_0⟩
  have a14 := a9.n l13
  refine mv (.tuple [v0_13, vB z11.2].toArray) rfl (Lw.r rfl (R.ext (vs := [v0_13, vB z11.2]) (v := v0_13) rfl rfl) (Lw.r rfl (R.ext (vs := [v0_13, vB z11.2]) (v := vB z11.2) rfl rfl) (Gv v0_13 rfl (Nb rfl (ssr (mb rfl (Lw.r rfl (R.not rfl) (nl (cn hm (fun hm => ?_) fun hm => ?_)))))))))
  ·refine sr (Gv (.slice none 0 0) rfl (Nb rfl ?_))
   cases hm
   exact Cw.ret (ret2 rfl rfl (Res.mk a14 ⟨.slice none 0 0, rfl, (owsN []).sub rfl rfl⟩))
  ·refine sk (sr (mv v0_13 rfl (Lw.ln z11.1 f13_0.rd rfl ?_)))
   obtain ⟨q17, e18, hm⟩ := ob hm
   refine Lw.t rfl (T.mk (α := Int) 4 [] (n := (z11.1.length : Int)) rfl rfl e18) ?_
   rintro v19 _ ⟨W19, rfl, l19, o19⟩
   have a20 := a14.n l19
   refine Nv v19 rfl (ssr (mv v19 rfl (Lw.ln q17 o19.rd rfl (mi rfl (nl (Cw.block ?_))))))
   obtain ⟨K28, hK28, hm⟩ := jn_e hm
   refine Cw.loop 34 41 [11, 34] (fun m l w => ∃ y24 y25 j23 W27, CW.w W27 = w ∧ Le [4] W19 W27 ∧ l = [j23, vI y24] ∧ Ow W27 4 [] [v19] y25 ∧ Vm.impl_Repo_blame_l1 x1 q17 K28 m y24 y25 = some r) _ ⟨0, q17, undef, W19, rfl, Le.refl _ _, rfl, o19, hm⟩ ?_
   rintro (_ | m29) _ _ σ ⟨y24, y25, j23, W27, rfl, l27, rfl, o26, hm⟩
   ·cases hm
   unfold Vm.impl_Repo_blame_l1 at hm
   have a30 := a20.t l27
   have b32 := (((b1.up l7).up l13).up l19).up l27
   refine sr (Lw.lt rfl (nl (Cw.seq (cn hm (fun hm => ?_) fun hm => ?_))))
   ·refine sk (Cw.seq (Cw.block (sr (mi rfl (Ni rfl (rg (mv v19 rfl (mi rfl (mi rfl ?_)))))))))
    obtain ⟨u34, e35, hm⟩ := ob hm
    refine Lw.r rfl (R.ix (α := Int) o26.rd e35 rfl rfl rfl) ?_
    obtain ⟨q37, e38, hm⟩ := ob hm
    refine Lw.u (T.stS (K' := []) o26 (rdI _) e38 rfl rfl rfl) ?_
    rintro _ _ ⟨W36, rfl, l36, o36⟩
    exact nl (rg (Lw.add rfl (mi rfl (nl ((agm) ⟨w64 (y24 + 1), q37, vI y24, W36, rfl, (l27.j l36).w, rfl, o36, hm⟩)))))
   ·refine Cw.exit ?_
    rw [hK28] at hm
    refine sr (la b32 (mi rfl (ca hm (fun _ => p142 (Repo.rd (K := [0]) x0.Commits x0.Heads (h0_0.ul a30) (h0_1.ul a30))) fun z44 W46 hm l46 => ?_)))
    have a47 := a30.n l46
    refine Ni rfl (ssr (mi rfl (Lw.lt rfl (nl (cn hm (fun hm => ?_) fun hm => ?_)))))
    ·refine sr (mv v19 rfl (Gv v19 rfl (Nb rfl ?_)))
     cases hm
     exact Cw.ret (ret2 rfl rfl (Res.mk a47 ⟨v19, rfl, (o26.up l46).s.sub rfl rfl⟩))
    ·refine sk (sr (la (b32.up l46) (mi rfl (ms rfl (cr hm (fun _ => p88 (k0 := 5) (Repo.rd (K := [0]) x0.Commits x0.Heads (h0_0.ul a47) (h0_1.ul a47))) ?_)))))
     rintro z54 _ W56 hm l56 ⟨v0_56, rfl, f56_0⟩
     have a57 := a47.n l56
     have o59 := (o26.up l46).up l56
     refine mv (.tuple [v0_56, vB z54.2].toArray) rfl (Lw.r rfl (R.ext (vs := [v0_56, vB z54.2]) (v := v0_56) rfl rfl) (Lw.r rfl (R.ext (vs := [v0_56, vB z54.2]) (v := vB z54.2) rfl rfl) (Gv v0_56 rfl (Nb rfl (ssr (mb rfl (Lw.r rfl (R.not rfl) (nl (cn hm (fun hm => ?_) fun hm => ?_)))))))))
     ·refine sr (mv v19 rfl (Gv v19 rfl (Nb rfl ?_)))
      cases hm
      exact Cw.ret (ret2 rfl rfl (Res.mk a57 ⟨v19, rfl, o59.s.sub rfl rfl⟩))
     ·refine sk (sr (la ((b32.up l46).up l56) (mi rfl (cr hm (fun _ => p115 (Repo.rd (K := [0]) x0.Commits x0.Heads (h0_0.ul a57) (h0_1.ul a57))) ?_))))
      rintro z64 v0_66 W66 hm l66 ⟨_, rfl, f66_0⟩
      have s67 := f66_0.sub (M := [0]) rfl
      have a68 := a57.n l66
      refine ms rfl (cr hm (fun _ => p90 (k0 := 6) s67) ?_)
      rintro z73 _ W75 hm l75 ⟨v0_75, rfl, f75_0⟩
      have a76 := a68.n l75
      refine mv (.tuple [v0_75, vB z73.2].toArray) rfl (Lw.r rfl (R.ext (vs := [v0_75, vB z73.2]) (v := v0_75) rfl rfl) (Lw.r rfl (R.ext (vs := [v0_75, vB z73.2]) (v := vB z73.2) rfl rfl) (Gv v0_75 rfl (Nb rfl (ssr (mv v0_75 rfl (mv v0_13 rfl (cr hm (fun _ => p93 (K := [3, 6]) (k0 := 7) (f75_0.rd.sub (M := [3, 6]) rfl) (((((((f13_0.up l19).up l27).up l46).up l56).up l66).up l75).rd.sub (M := [3, 6]) rfl)) ?_))))))))
      rintro z81 v0_83 W83 hm l83 ⟨_, rfl, f83_0⟩
      have a84 := a76.n l83
      refine Lw.ln z81 f83_0.rd rfl (mi rfl (nl (Cw.block ?_)))
      obtain ⟨K96, hK96, hm⟩ := jn_e hm
      refine Cw.loop 70 84 [17, 18, 70] (fun m l w => ∃ y92 y93 j90 j91 W95, CW.w W95 = w ∧ Le [4] W83 W95 ∧ l = [j90, j91, vI y92] ∧ Ow W95 4 [] [v19] y93 ∧ Vm.impl_Repo_blame_l2 z54 z81 K96 m y92 y93 = some r) _ ⟨0, y25, undef, undef, W83, rfl, Le.refl _ _, rfl, (((o59.up l66).up l75).up l83), hm⟩ ?_
      rintro (_ | m97) _ _ σ ⟨y92, y93, j90, j91, W95, rfl, l95, rfl, o94, hm⟩
      ·cases hm
      unfold Vm.impl_Repo_blame_l2 at hm
      have a98 := a84.t l95
      have o100 := (((f56_0.up l66).up l75).up l83).up l95
      refine sr (Lw.lt rfl (nl (Cw.seq (cn hm (fun hm => ?_) fun hm => ?_))))
      ·refine sk ?_
       obtain ⟨K110, hK110, hm⟩ := jn_e hm
       refine Cw.join 72 83 [17, 18] (fun l w => ∃ y107 j105 j106 W109, CW.w W109 = w ∧ Le [4] W95 W109 ∧ l = [j105, j106] ∧ Ow W109 4 [] [v19] y107 ∧ K110 y107 = some r) ?_ ?_
       ·rintro _ _ σ ⟨y107, j105, j106, W109, rfl, l109, rfl, o108, hm⟩
        rw [hK110] at hm
        exact rg (Lw.add rfl (mi rfl (nl ((agm) ⟨w64 (y92 + 1), y107, j105, j106, W109, rfl, (l95.j l109).w, rfl, o108, hm⟩))))
       ·refine Cw.block (sr (mi rfl ?_))
        obtain ⟨u117, e118, hm⟩ := ob hm
        refine Lw.r rfl (R.ix (α := Int) (f83_0.up l95).rd e118 rfl rfl rfl) (Lw.r rfl (R.ld rfl rfl ((f83_0.up l95).rd.at_ e118).int) (Gi rfl (Ni rfl (sr (mi rfl (Lw.ge rfl (nl (cn hm (fun hm => ?_) fun hm => ?_))))))))
        ·refine rg (mv v19 rfl (mi rfl (mv v0_56 rfl (mi rfl ?_))))
         obtain ⟨u120, e121, hm⟩ := ob hm
         refine Lw.r rfl (R.ix (α := Int) o100.rd e121 rfl rfl rfl) (Lw.r rfl (R.ld rfl rfl (o100.rd.at_ e121).int) ?_)
         obtain ⟨u122, e123, hm⟩ := ob hm
         refine Lw.r rfl (R.ix (α := Int) o94.rd e123 rfl rfl rfl) ?_
         obtain ⟨q125, e126, hm⟩ := ob hm
         refine Lw.u (T.stS (K' := []) o94 (rdI _) e126 rfl rfl rfl) ?_
         rintro _ _ ⟨W124, rfl, l124, o124⟩
         exact nl ((ag) ⟨q125, vI y92, vI u117, W124, rfl, l124, rfl, o124, hm⟩)
        ·exact sk ((ag) ⟨y93, vI y92, vI u117, W95, rfl, Le.refl _ _, rfl, o94, hm⟩)
      ·refine Cw.exit ?_
       rw [hK96] at hm
       refine sr (mv v19 rfl (Gv v19 rfl (Nb rfl ?_)))
       cases hm
       exact Cw.ret (ret2 rfl rfl (Res.mk a98 ⟨v19, rfl, o94.s.sub rfl rfl⟩))
theorem p88 {x0 v0_0_ v0_1_ x1 x2 k0 r} (h0 : Rd W K [v0_0_, v0_1_] x0) (hm : Vm.impl_Repo_blame x0 x1 x2 = some r) : Q1 88 [.agg [v0_0_, v0_1_].toArray, vI x1, vS x2] W [] fun W' v => ∃ u0, v = .tuple [u0, vB r.2].toArray ∧ Ow W' k0 [] [u0] r.1 :=
 (c88 (x1.toNat + 2) (W0 := W.view K []) (h0.view _) hm).ad (fk k0) fun _ _ ⟨u0, e, f0⟩ => ⟨u0, e, f0.back (fk_LL _)⟩
end Go.Sx
