/- Walks: each function answers as its model, printed by a program of ours. Conditions: the arguments read as they are given. -/
import Derived.Test.YtkfeiopifiejgaaDoorXTs
import Derived.Test.YtkfeiopifiejgaaDoorXM0
import Derived.Test.YtkfeiopifiejgaaDoorXW0
import Derived.Test.YtkfeiopifiejgaaDoorXW1
import Derived.Test.YtkfeiopifiejgaaDoorXE
namespace Go.Sx
open Go Go.Proofs Go.Vm Rp
set_option linter.unusedVariables false
set_option linter.unusedSimpArgs false

variable {W W0 : CW} {K : List Nat}
theorem c76 {x0 v0_6_ r} (h0 : Rd W0 [0] [vI x0.Kind, vS x0.Branch, vS x0.Who, vS x0.Path, vS x0.To, vI x0.At, v0_6_] x0) (hm : Vm.spec_l19Put x0 = some r) : Q0 76 [.agg [vI x0.Kind, vS x0.Branch, vS x0.Who, vS x0.Path, vS x0.To, vI x0.At, v0_6_].toArray] W0 fun Wf v => v = vS r := by
 unfold Vm.spec_l19Put at hm
 obtain ⟨w0_0, he0, h0_6⟩ := Op.split h0
 simp only [List.cons.injEq, and_true, true_and] at he0
 obtain rfl := he0
 refine CallR.of Tryd.func76 rfl rfl rfl rfl (sr (bo 2 rfl fun g1 W1 l1 b1 => ?_))
 have a2 := l1.o
 refine Ns rfl (Cw.seq ?_)
 obtain ⟨z6, e7, hm⟩ := ob hm
 obtain ⟨u11, e12, hm⟩ := ob hm
 obtain ⟨q13, e14, hm⟩ := ob hm
 obtain ⟨q15, e16, hm⟩ := ob hm
 obtain ⟨q17, e18, hm⟩ := ob hm
 obtain ⟨q19, e20, hm⟩ := ob hm
 refine Cw.par [[], [], [1], [0, 1, 2], [0, 1, 2, 3], [0, 1, 2, 3, 4], [], [6], [0, 1, 2, 3, 4, 5, 6, 7], [0, 1, 2, 3, 4, 5, 6, 7, 8], [], [10], [0, 1, 2, 3, 4, 5, 6, 7, 8, 9, 10, 11], [0, 1, 2, 3, 4, 5, 6, 7, 8, 9, 10, 11, 12]] [[], [], [1], [0, 2], [0, 3], [4], [], [6], [5, 7], [8], [], [10], [9, 11], [12]] [[], [], [], [], [], [], [], [], [], [], [], [], [], []] [[0], [1], [2], [0, 3], [4], [5], [6], [7], [8], [9], [10], [11], [12], [13]] [[3], [], [], [], [], [], [], [], [], [], [], [], [], []] [0, 1, 2, 3, 4, 5, 6, 7, 8, 9, 10, 11, 12, 13] [] [fun vs W => Ow W 3 [] [(vs 0)] z6, fun vs W => (vs 1) = ptr ((bx g1).add 0), fun vs W => (vs 2) = vI x0.Kind, fun vs W => (vs 3) = ptr ((slA (vs 0)).add ((x0.Kind).toNat * Rp.sz (Str))), fun vs W => (vs 4) = vS u11, fun vs W => (vs 5) = vS q13, fun vs W => (vs 6) = ptr ((bx g1).add 1), fun vs W => (vs 7) = vS x0.Branch, fun vs W => (vs 8) = vS q15, fun vs W => (vs 9) = vS q17, fun vs W => (vs 10) = ptr ((bx g1).add 2), fun vs W => (vs 11) = vS x0.Who, fun vs W => (vs 12) = vS q19, fun vs W => (vs 13) = vS q19] [] mixed (by kernel_rfl) rfl AllF.nil ?_
 intro W21 l21
 have a22 := a2.n l21
 have b23 := b1.up l21
 refine ⟨(Steps.cons ?_ (Steps.cons ?_ (Steps.cons ?_ (Steps.cons ?_ (Steps.cons ?_ (Steps.cons ?_ (Steps.cons ?_ (Steps.cons ?_ (Steps.cons ?_ (Steps.cons ?_ (Steps.cons ?_ (Steps.cons ?_ (Steps.cons ?_ (Steps.cons ?_ Steps.nil)))))))))))))), (Sups.cons (fun vs vs' W W' _ hv l hd h => by (show Ow W' 3 [] [(vs' 0)] z6); rw [hv 0 (anyb rfl)]; exact h.upv l (disj_mem hd (c := 3) rfl)) (Sups.cons (fun vs vs' W W' _ hv l hd h => by (show (vs' 1) = ptr ((bx g1).add 0)); rw [hv 1 (anyb rfl)]; exact h) (Sups.cons (fun vs vs' W W' _ hv l hd h => by (show (vs' 2) = vI x0.Kind); rw [hv 2 (anyb rfl)]; exact h) (Sups.cons (fun vs vs' W W' _ hv l hd h => by (show (vs' 3) = ptr ((slA (vs' 0)).add ((x0.Kind).toNat * Rp.sz (Str)))); rw [hv 0 (anyb rfl), hv 3 (anyb rfl)]; exact h) (Sups.cons (fun vs vs' W W' _ hv l hd h => by (show (vs' 4) = vS u11); rw [hv 4 (anyb rfl)]; exact h) (Sups.cons (fun vs vs' W W' _ hv l hd h => by (show (vs' 5) = vS q13); rw [hv 5 (anyb rfl)]; exact h) (Sups.cons (fun vs vs' W W' _ hv l hd h => by (show (vs' 6) = ptr ((bx g1).add 1)); rw [hv 6 (anyb rfl)]; exact h) (Sups.cons (fun vs vs' W W' _ hv l hd h => by (show (vs' 7) = vS x0.Branch); rw [hv 7 (anyb rfl)]; exact h) (Sups.cons (fun vs vs' W W' _ hv l hd h => by (show (vs' 8) = vS q15); rw [hv 8 (anyb rfl)]; exact h) (Sups.cons (fun vs vs' W W' _ hv l hd h => by (show (vs' 9) = vS q17); rw [hv 9 (anyb rfl)]; exact h) (Sups.cons (fun vs vs' W W' _ hv l hd h => by (show (vs' 10) = ptr ((bx g1).add 2)); rw [hv 10 (anyb rfl)]; exact h) (Sups.cons (fun vs vs' W W' _ hv l hd h => by (show (vs' 11) = vS x0.Who); rw [hv 11 (anyb rfl)]; exact h) (Sups.cons (fun vs vs' W W' _ hv l hd h => by (show (vs' 12) = vS q19); rw [hv 12 (anyb rfl)]; exact h) (Sups.cons (fun vs vs' W W' _ hv l hd h => by (show (vs' 13) = vS q19); rw [hv 13 (anyb rfl)]; exact h) Sups.nil)))))))))))))), ?_⟩
 ·intro vs W lW hN
  obtain ⟨W24, hW24⟩ : ∃ X, X = W := ⟨W, rfl⟩
  subst hW24
  refine Tr.mono (T.call rfl (p73 (k0 := 3)  e7)) ?_
  rintro v0_27 _ ⟨W27, rfl, l27, ⟨_, rfl, f27_0⟩⟩
  exact ⟨W27, rfl, l27, (show Ow W27 3 [] [v0_27] z6 from f27_0)⟩
 ·intro vs W lW hN
  obtain ⟨W30, hW30⟩ : ∃ X, X = W := ⟨W, rfl⟩
  subst hW30
  refine Tr.mono (Run.tr (R.fa rfl)) ?_
  rintro _ _ ⟨hu, rfl⟩
  obtain rfl := hu.symm
  exact ⟨W30, rfl, Le.refl _ _, (show (ptr ((bx g1).add 0) : Value) = ptr ((bx g1).add 0) from rfl)⟩
 ·intro vs W lW hN
  obtain ⟨W33, hW33⟩ : ∃ X, X = W := ⟨W, rfl⟩
  subst hW33
  have e1_ : vs 1 = ptr ((bx g1).add 0) := (hN 1 (anyb rfl))
  obtain ⟨vs, rfl⟩ := up_eq e1_
  refine Tr.mono (Run.tr (R.ld (v := vI x0.Kind) rfl rfl ((b23.up lW rfl).cell rfl))) ?_
  rintro _ _ ⟨hu, rfl⟩
  obtain rfl := hu.symm
  exact ⟨W33, rfl, Le.refl _ _, (show (vI x0.Kind : Value) = vI x0.Kind from rfl)⟩
 ·intro vs W lW hN
  obtain ⟨W36, hW36⟩ : ∃ X, X = W := ⟨W, rfl⟩
  subst hW36
  obtain ⟨pv0, e0_⟩ : ∃ v, vs 0 = v := ⟨_, rfl⟩
  obtain ⟨vs, rfl⟩ := up_eq e0_
  have o39 : Ow W36 3 [] [pv0] z6 := (hN 0 (anyb rfl))
  have e2_ : vs 2 = vI x0.Kind := (hN 2 (anyb rfl))
  obtain ⟨vs, rfl⟩ := up_eq e2_
  refine Tr.mono (Run.tr (R.ix (α := Str) o39.rd e12 rfl rfl rfl)) ?_
  rintro _ _ ⟨hu, rfl⟩
  obtain rfl := hu.symm
  exact ⟨W36, rfl, Le.refl _ _, (show (ptr ((slA pv0).add ((x0.Kind).toNat * Rp.sz (Str))) : Value) = ptr ((slA pv0).add ((x0.Kind).toNat * Rp.sz (Str))) from rfl)⟩
 ·intro vs W lW hN
  obtain ⟨W40, hW40⟩ : ∃ X, X = W := ⟨W, rfl⟩
  subst hW40
  obtain ⟨pv0, e0_⟩ : ∃ v, vs 0 = v := ⟨_, rfl⟩
  obtain ⟨vs, rfl⟩ := up_eq e0_
  have o43 : Ow W40 3 [] [pv0] z6 := (hN 0 (anyb rfl))
  have e3_ : vs 3 = ptr ((slA pv0).add ((x0.Kind).toNat * Rp.sz (Str))) := (hN 3 (anyb rfl))
  obtain ⟨vs, rfl⟩ := up_eq e3_
  refine Tr.mono (Run.tr (R.ld rfl rfl (o43.rd.at_ e12).str)) ?_
  rintro _ _ ⟨hu, rfl⟩
  obtain rfl := hu.symm
  exact ⟨W40, rfl, Le.refl _ _, (show (vS u11 : Value) = vS u11 from rfl)⟩
 ·intro vs W lW hN
  obtain ⟨W44, hW44⟩ : ∃ X, X = W := ⟨W, rfl⟩
  subst hW44
  have e4_ : vs 4 = vS u11 := (hN 4 (anyb rfl))
  obtain ⟨vs, rfl⟩ := up_eq e4_
  refine Tr.mono (Run.tr (R.sad e14 rfl rfl)) ?_
  rintro _ _ ⟨hu, rfl⟩
  obtain rfl := hu.symm
  exact ⟨W44, rfl, Le.refl _ _, (show (vS q13 : Value) = vS q13 from rfl)⟩
 ·intro vs W lW hN
  obtain ⟨W47, hW47⟩ : ∃ X, X = W := ⟨W, rfl⟩
  subst hW47
  refine Tr.mono (Run.tr (R.fa rfl)) ?_
  rintro _ _ ⟨hu, rfl⟩
  obtain rfl := hu.symm
  exact ⟨W47, rfl, Le.refl _ _, (show (ptr ((bx g1).add 1) : Value) = ptr ((bx g1).add 1) from rfl)⟩
 ·intro vs W lW hN
  obtain ⟨W50, hW50⟩ : ∃ X, X = W := ⟨W, rfl⟩
  subst hW50
  have e6_ : vs 6 = ptr ((bx g1).add 1) := (hN 6 (anyb rfl))
  obtain ⟨vs, rfl⟩ := up_eq e6_
  refine Tr.mono (Run.tr (R.ld (v := vS x0.Branch) rfl rfl ((b23.up lW rfl).cell rfl))) ?_
  rintro _ _ ⟨hu, rfl⟩
  obtain rfl := hu.symm
  exact ⟨W50, rfl, Le.refl _ _, (show (vS x0.Branch : Value) = vS x0.Branch from rfl)⟩
 ·intro vs W lW hN
  obtain ⟨W53, hW53⟩ : ∃ X, X = W := ⟨W, rfl⟩
  subst hW53
  have e5_ : vs 5 = vS q13 := (hN 5 (anyb rfl))
  obtain ⟨vs, rfl⟩ := up_eq e5_
  have e7_ : vs 7 = vS x0.Branch := (hN 7 (anyb rfl))
  obtain ⟨vs, rfl⟩ := up_eq e7_
  refine Tr.mono (Run.tr (R.sad e16 rfl rfl)) ?_
  rintro _ _ ⟨hu, rfl⟩
  obtain rfl := hu.symm
  exact ⟨W53, rfl, Le.refl _ _, (show (vS q15 : Value) = vS q15 from rfl)⟩
 ·intro vs W lW hN
  obtain ⟨W56, hW56⟩ : ∃ X, X = W := ⟨W, rfl⟩
  subst hW56
  have e8_ : vs 8 = vS q15 := (hN 8 (anyb rfl))
  obtain ⟨vs, rfl⟩ := up_eq e8_
  refine Tr.mono (Run.tr (R.sad e18 rfl rfl)) ?_
  rintro _ _ ⟨hu, rfl⟩
  obtain rfl := hu.symm
  exact ⟨W56, rfl, Le.refl _ _, (show (vS q17 : Value) = vS q17 from rfl)⟩
 ·intro vs W lW hN
  obtain ⟨W59, hW59⟩ : ∃ X, X = W := ⟨W, rfl⟩
  subst hW59
  refine Tr.mono (Run.tr (R.fa rfl)) ?_
  rintro _ _ ⟨hu, rfl⟩
  obtain rfl := hu.symm
  exact ⟨W59, rfl, Le.refl _ _, (show (ptr ((bx g1).add 2) : Value) = ptr ((bx g1).add 2) from rfl)⟩
 ·intro vs W lW hN
  obtain ⟨W62, hW62⟩ : ∃ X, X = W := ⟨W, rfl⟩
  subst hW62
  have e10_ : vs 10 = ptr ((bx g1).add 2) := (hN 10 (anyb rfl))
  obtain ⟨vs, rfl⟩ := up_eq e10_
  refine Tr.mono (Run.tr (R.ld (v := vS x0.Who) rfl rfl ((b23.up lW rfl).cell rfl))) ?_
  rintro _ _ ⟨hu, rfl⟩
  obtain rfl := hu.symm
  exact ⟨W62, rfl, Le.refl _ _, (show (vS x0.Who : Value) = vS x0.Who from rfl)⟩
 ·intro vs W lW hN
  obtain ⟨W65, hW65⟩ : ∃ X, X = W := ⟨W, rfl⟩
  subst hW65
  have e9_ : vs 9 = vS q17 := (hN 9 (anyb rfl))
  obtain ⟨vs, rfl⟩ := up_eq e9_
  have e11_ : vs 11 = vS x0.Who := (hN 11 (anyb rfl))
  obtain ⟨vs, rfl⟩ := up_eq e11_
  refine Tr.mono (Run.tr (R.sad e20 rfl rfl)) ?_
  rintro _ _ ⟨hu, rfl⟩
  obtain rfl := hu.symm
  exact ⟨W65, rfl, Le.refl _ _, (show (vS q19 : Value) = vS q19 from rfl)⟩
 ·intro vs W lW hN
  obtain ⟨W68, hW68⟩ : ∃ X, X = W := ⟨W, rfl⟩
  subst hW68
  have e12_ : vs 12 = vS q19 := (hN 12 (anyb rfl))
  obtain ⟨vs, rfl⟩ := up_eq e12_
  refine Tr.mono (Run.tr (R.as (v := vS q19) rfl)) ?_
  rintro _ _ ⟨hu, rfl⟩
  obtain rfl := hu.symm
  exact ⟨W68, rfl, Le.refl _ _, (show (vS q19 : Value) = vS q19 from rfl)⟩
 ·intro vs W lW hN
  obtain ⟨W71, hW71⟩ : ∃ X, X = W := ⟨W, rfl⟩
  subst hW71
  have a72 := a22.n lW
  have b73 := b23.up lW rfl
  obtain ⟨l71, hl71⟩ : ∃ x, x = lW := ⟨lW, rfl⟩
  obtain ⟨pv0, e0_⟩ : ∃ v, vs 0 = v := ⟨_, rfl⟩
  obtain ⟨vs, rfl⟩ := up_eq e0_
  have o74 : Ow W71 3 [] [pv0] z6 := (hN 0 (anyb rfl))
  have e1_ : vs 1 = ptr ((bx g1).add 0) := (hN 1 (anyb rfl))
  obtain ⟨vs, rfl⟩ := up_eq e1_
  have e2_ : vs 2 = vI x0.Kind := (hN 2 (anyb rfl))
  obtain ⟨vs, rfl⟩ := up_eq e2_
  have e3_ : vs 3 = ptr ((slA pv0).add ((x0.Kind).toNat * Rp.sz (Str))) := (hN 3 (anyb rfl))
  obtain ⟨vs, rfl⟩ := up_eq e3_
  have e4_ : vs 4 = vS u11 := (hN 4 (anyb rfl))
  obtain ⟨vs, rfl⟩ := up_eq e4_
  have e5_ : vs 5 = vS q13 := (hN 5 (anyb rfl))
  obtain ⟨vs, rfl⟩ := up_eq e5_
  have e6_ : vs 6 = ptr ((bx g1).add 1) := (hN 6 (anyb rfl))
  obtain ⟨vs, rfl⟩ := up_eq e6_
  have e7_ : vs 7 = vS x0.Branch := (hN 7 (anyb rfl))
  obtain ⟨vs, rfl⟩ := up_eq e7_
  have e8_ : vs 8 = vS q15 := (hN 8 (anyb rfl))
  obtain ⟨vs, rfl⟩ := up_eq e8_
  have e9_ : vs 9 = vS q17 := (hN 9 (anyb rfl))
  obtain ⟨vs, rfl⟩ := up_eq e9_
  have e10_ : vs 10 = ptr ((bx g1).add 2) := (hN 10 (anyb rfl))
  obtain ⟨vs, rfl⟩ := up_eq e10_
  have e11_ : vs 11 = vS x0.Who := (hN 11 (anyb rfl))
  obtain ⟨vs, rfl⟩ := up_eq e11_
  have e12_ : vs 12 = vS q19 := (hN 12 (anyb rfl))
  obtain ⟨vs, rfl⟩ := up_eq e12_
  have e13_ : vs 13 = vS q19 := (hN 13 (anyb rfl))
  obtain ⟨vs, rfl⟩ := up_eq e13_
  obtain ⟨K78, hK78, hm⟩ := jn_e hm
  refine Cw.join 18 74 [3, 4] (fun l w => ∃ y75 j76 W77, CW.w W77 = w ∧ Le [] W71 W77 ∧ l = [vS y75, j76] ∧ K78 y75 = some r) ?_ ?_
  ·rintro _ _ σ ⟨y75, j76, W77, rfl, l77, rfl, hm⟩
   rw [hK78] at hm
   have a79 := a72.n l77
   exact sr (ms rfl (Ns rfl (.ret (rt hm a79))))
  ·refine sr (fl b73 rfl (nl (Cw.block (sr (Lw.eq rfl (Nb rfl (cn hm (fun hm => ?_) fun hm => ?_)))))))
   ·refine sr (ms rfl ?_)
    obtain ⟨q83, e84, hm⟩ := ob hm
    refine Lw.r rfl (R.sad e84 rfl rfl) (fl b73 rfl ?_)
    obtain ⟨q85, e86, hm⟩ := ob hm
    refine Lw.r rfl (R.sad e86 rfl rfl) ?_
    obtain ⟨q87, e88, hm⟩ := ob hm
    refine Lw.r rfl (R.sad e88 rfl rfl) (Ns rfl (sr (Ni rfl (Cw.block (Cw.loop 34 48 [3, 4] (fun m l w => ∃ y89 y90 W91, CW.w W91 = w ∧ Le [] W71 W91 ∧ l = [vS y89, vI y90] ∧ Vm.spec_l19Put_l1 x0 K78 m y89 y90 = some r) _ ⟨q87, 0, W71, rfl, Le.refl _ _, rfl, hm⟩ ?_)))))
    rintro (_ | m93) _ _ σ ⟨y89, y90, W91, rfl, l91, rfl, hm⟩
    ·cases hm
    unfold Vm.spec_l19Put_l1 at hm
    have a94 := a72.n l91
    refine ssr ?_
    have s97 := h0_6.ul a94
    refine mi rfl (fl (b73.up l91) rfl (Lw.ln x0.Text s97 rfl (Lw.lt rfl (nl (cn hm (fun hm => ?_) fun hm => ?_)))))
    ·refine sk (Cw.seq (Cw.block (rg (ms rfl ?_))))
     obtain ⟨q99, e100, hm⟩ := ob hm
     refine Lw.r rfl (R.sad e100 rfl rfl) (fl (b73.up l91) rfl (mi rfl ?_))
     obtain ⟨u101, e102, hm⟩ := ob hm
     refine Lw.r rfl (R.ix (α := Str) s97 e102 rfl rfl rfl) (Lw.r rfl (R.ld rfl rfl (s97.at_ e102).str) ?_)
     obtain ⟨q103, e104, hm⟩ := ob hm
     exact Lw.r rfl (R.sad e104 rfl rfl) (Ns rfl (rg (mi rfl (Lw.add rfl (Ni rfl ((agm) ⟨q103, w64 (y90 + 1), W91, rfl, l91, rfl, hm⟩))))))
    ·exact Cw.exit ((ag) ⟨y89, vI y90, W91, rfl, l91, rfl, hm⟩)
   ·refine sr (Lw.eq rfl (Nb rfl (cn hm (fun hm => ?_) fun hm => ?_)))
    ·refine rg (ms rfl ?_)
     obtain ⟨q106, e107, hm⟩ := ob hm
     refine Lw.r rfl (R.sad e107 rfl rfl) (fl b73 rfl ?_)
     obtain ⟨q108, e109, hm⟩ := ob hm
     exact Lw.r rfl (R.sad e109 rfl rfl) (Ns rfl ((ag) ⟨q108, undef, W71, rfl, Le.refl _ _, rfl, hm⟩))
    ·refine sr (Lw.eq rfl (Nb rfl (cn hm (fun hm => ?_) fun hm => ?_)))
     ·refine rg (ms rfl ?_)
      obtain ⟨q111, e112, hm⟩ := ob hm
      refine Lw.r rfl (R.sad e112 rfl rfl) (fl b73 rfl ?_)
      obtain ⟨q113, e114, hm⟩ := ob hm
      refine Lw.r rfl (R.sad e114 rfl rfl) ?_
      obtain ⟨q115, e116, hm⟩ := ob hm
      refine Lw.r rfl (R.sad e116 rfl rfl) (fl b73 rfl ?_)
      obtain ⟨q117, e118, hm⟩ := ob hm
      exact Lw.r rfl (R.sad e118 rfl rfl) (Ns rfl ((ag) ⟨q117, undef, W71, rfl, Le.refl _ _, rfl, hm⟩))
     ·obtain ⟨K121, hK121, hm⟩ := jn_e hm
      refine Cw.join 67 69 [67] (fun l w => ∃ y119 W120, CW.w W120 = w ∧ Le [] W71 W120 ∧ l = [vB y119] ∧ K121 y119 = some r) ?_ ?_
      ·rintro _ _ σ ⟨y119, W120, rfl, l120, rfl, hm⟩
       rw [hK121] at hm
       refine cn hm (fun hm => ?_) fun hm => ?_
       ·refine rg (ms rfl ?_)
        obtain ⟨q126, e127, hm⟩ := ob hm
        refine Lw.r rfl (R.sad e127 rfl rfl) (fl (b73.up l120) rfl ?_)
        obtain ⟨q128, e129, hm⟩ := ob hm
        exact Lw.r rfl (R.sad e129 rfl rfl) (Ns rfl ((ag) ⟨q128, undef, W120, rfl, l120, rfl, hm⟩))
       ·refine rg (ms rfl ?_)
        obtain ⟨q130, e131, hm⟩ := ob hm
        refine Lw.r rfl (R.sad e131 rfl rfl) (fl (b73.up l120) rfl (ca hm (fun _ => p114) fun z132 W134 hm l134 => ?_))
        obtain ⟨q138, e139, hm⟩ := ob hm
        exact Lw.r rfl (R.sad e139 rfl rfl) (Ns rfl ((ag) ⟨q138, undef, W134, rfl, (l120.j l134).w, rfl, hm⟩))
      ·refine sr (Lw.eq rfl (Nb rfl (cn hm (fun hm => ?_) fun hm => ?_)))
       ·exact sk ((ag) ⟨((x0.Kind : Int) == (4 : Int)), W71, rfl, Le.refl _ _, rfl, hm⟩)
       ·exact rg (Lw.eq rfl (Nb rfl ((ag) ⟨((x0.Kind : Int) == (5 : Int)), W71, rfl, Le.refl _ _, rfl, hm⟩)))

theorem p76 {x0 v0_6_ r} (h0 : Rd W K [vI x0.Kind, vS x0.Branch, vS x0.Who, vS x0.Path, vS x0.To, vI x0.At, v0_6_] x0) (hm : Vm.spec_l19Put x0 = some r) : Q1 76 [.agg [vI x0.Kind, vS x0.Branch, vS x0.Who, vS x0.Path, vS x0.To, vI x0.At, v0_6_].toArray] W [] fun W' v => v = vS r :=
 (c76 (h0.view _) hm).ad (fk 0) fun _ _ e => e

theorem c35 {x0 v0_6_ r} (h0 : Rd W0 [0] [vI x0.Kind, vS x0.Branch, vS x0.Who, vS x0.Path, vS x0.To, vI x0.At, v0_6_] x0) (hm : Vm.spec_OpPut x0 = some r) : Q0 35 [.agg [vI x0.Kind, vS x0.Branch, vS x0.Who, vS x0.Path, vS x0.To, vI x0.At, v0_6_].toArray] W0 fun Wf v => v = vS r := by
 unfold Vm.spec_OpPut at hm
 obtain ⟨w0_0, he0, h0_6⟩ := Op.split h0
 simp only [List.cons.injEq, and_true, true_and] at he0
 obtain rfl := he0
 refine CallR.of Tryd.func35 rfl rfl rfl rfl (sr (bo 2 rfl fun g1 W1 l1 b1 => ?_))
 have a2 := l1.o
 refine Ns rfl (ssr (la b1 (ca hm (fun _ => p75 (Op.rd (K := [0]) x0.Kind x0.Branch x0.Who x0.Path x0.To x0.At x0.Text (h0_6.ul a2))) fun z4 W6 hm l6 => ?_)))
 have a7 := a2.n l6
 refine Lw.r rfl (R.not rfl) (nl (cn hm (fun hm => ?_) fun hm => ?_))
 ·exact sr (Ns rfl (.ret (rt hm a7)))
 ·refine sk (sr (la (b1.up l6) (ca hm (fun _ => p76 (Op.rd (K := [0]) x0.Kind x0.Branch x0.Who x0.Path x0.To x0.At x0.Text (h0_6.ul a7))) fun z11 W13 hm l13 => ?_)))
  have a14 := a7.n l13
  exact Ns rfl (.ret (rt hm a14))

theorem p35 {x0 v0_6_ r} (h0 : Rd W K [vI x0.Kind, vS x0.Branch, vS x0.Who, vS x0.Path, vS x0.To, vI x0.At, v0_6_] x0) (hm : Vm.spec_OpPut x0 = some r) : Q1 35 [.agg [vI x0.Kind, vS x0.Branch, vS x0.Who, vS x0.Path, vS x0.To, vI x0.At, v0_6_].toArray] W [] fun W' v => v = vS r :=
 (c35 (h0.view _) hm).ad (fk 0) fun _ _ e => e

theorem c78 {x0 v0_ x1 r} (h0 : Rd W0 [0] [v0_] x0) (hm : Vm.slices_Index_string_string x0 x1 = some r) : Q0 78 [v0_, vS x1] W0 fun Wf v => v = vI r := by
 unfold Vm.slices_Index_string_string at hm
 refine CallR.of Tryd.func78 rfl rfl rfl rfl (sr (Ni rfl (ssr (mv v0_ rfl (Lw.ln x0 h0 rfl (mi rfl (nl (Cw.block ?_))))))))
 obtain ⟨K5, hK5, hm⟩ := jn_e hm
 refine Cw.loop 8 18 [4, 5, 8] (fun m l w => ∃ y1 y3 j2 W4, CW.w W4 = w ∧ Le [] W0 W4 ∧ l = [vI y1, j2, vI y3] ∧ Vm.slices_Index_string_string_l1 x0 x1 K5 m y1 y3 = some r) _ ⟨0, 0, undef, W0, rfl, Le.refl _ _, rfl, hm⟩ ?_
 rintro (_ | m6) _ _ σ ⟨y1, y3, j2, W4, rfl, l4, rfl, hm⟩
 ·cases hm
 unfold Vm.slices_Index_string_string_l1 at hm
 have a7 := l4.o
 refine sr (Lw.lt rfl (nl (Cw.seq (cn hm (fun hm => ?_) fun hm => ?_))))
 ·refine sk (Cw.seq (Cw.block (sr (mi rfl (Ni rfl (sr (ms rfl (mv v0_ rfl (mi rfl ?_)))))))))
  obtain ⟨u9, e10, hm⟩ := ob hm
  refine Lw.r rfl (R.ix (α := Str) (h0.ul a7) e10 rfl rfl rfl) (Lw.r rfl (R.ld rfl rfl ((h0.ul a7).at_ e10).str) (Lw.seq rfl (nl (cn hm (fun hm => ?_) fun hm => ?_))))
  ·exact sr (mi rfl (Ni rfl (.ret (rt hm a7))))
  ·exact sk (rg (Lw.add rfl (mi rfl (nl ((agm) ⟨y1, w64 (y3 + 1), vI y3, W4, rfl, l4, rfl, hm⟩)))))
 ·refine Cw.exit ?_
  rw [hK5] at hm
  exact sr (Ni rfl (.ret (rt hm a7)))

theorem p78 {x0 v0_ x1 r} (h0 : Rd W K [v0_] x0) (hm : Vm.slices_Index_string_string x0 x1 = some r) : Q1 78 [v0_, vS x1] W [] fun W' v => v = vI r :=
 (c78 (h0.view _) hm).ad (fk 0) fun _ _ e => e

theorem c29 {x0 r} (h99 : Gk 2 0 1 W0 [0]) (hm : Vm.impl_OpGet x0 = some r) : Q0 29 [vS x0] W0 fun Wf v => ∃ u0_6, v = .tuple [.agg [vI r.1.Kind, vS r.1.Branch, vS r.1.Who, vS r.1.Path, vS r.1.To, vI r.1.At, u0_6].toArray, vB r.2].toArray ∧ Rd Wf [0] [u0_6] r.1.Text := by
 unfold Vm.impl_OpGet at hm
 refine CallR.of Tryd.func29 rfl rfl rfl rfl (sr (al 2 [vI 0, vS ([] : Str), vS ([] : Str), vS ([] : Str), vS ([] : Str), vI 0, .slice none 0 0] fun g1 W1 l1 b1 => ?_))
 have a2 := l1.o
 refine Nb rfl (sr (ms rfl (cr hm (fun _ => p77 (k0 := 3) (h99.ul a2)) ?_)))
 rintro z4 v0_6 W6 hm l6 ⟨_, rfl, f6_0⟩
 have a7 := a2.n l6
 refine Nv v0_6 rfl (ssr (mv v0_6 rfl (Lw.ln z4 f6_0.rd rfl (Lw.lt rfl (nl (cn hm (fun hm => ?_) fun hm => ?_))))))
 ·refine sr (Lw.r rfl (R.bd (zs := [vI 0, vS ([] : Str), vS ([] : Str), vS ([] : Str), vS ([] : Str), vI 0, .slice none 0 0]) (cs := [vI 0, vS ([] : Str), vS ([] : Str), vS ([] : Str), vS ([] : Str), vI 0, .slice none 0 0]) [] rfl rfl rfl bp_nil) (sta (b1.up l6) (oc_cons rfl (oc_cons rfl (oc_cons rfl (oc_cons rfl (oc_cons rfl (oc_cons rfl (oc_cons rfl oc_nil))))))) fun W10 l10 b10 => ?_))
  have a11 := a7.t l10
  refine Nb rfl ?_
  cases hm
  exact Cw.ret (retA2 rfl b10 rfl (Res.mk a11 ⟨.slice none 0 0, rfl, (rdN (K := [0]))⟩))
 ·refine sk (Cw.seq ?_)
  obtain ⟨z17, e18, hm⟩ := ob hm
  obtain ⟨u23, e24, hm⟩ := ob hm
  obtain ⟨z25, e26, hm⟩ := ob hm
  obtain ⟨u32, e33, hm⟩ := ob hm
  obtain ⟨u34, e35, hm⟩ := ob hm
  refine Cw.par [[], [], [1], [1, 2], [0, 1, 2, 3], [], [5], [5, 6], [], [8], [8, 9], [0, 1, 2, 3, 4, 5, 6, 7, 8, 9, 10], [], [0, 1, 2, 3, 4, 5, 6, 7, 8, 9, 10, 11, 12]] [[], [], [1], [2], [0, 3], [], [5], [6], [], [8], [9], [4, 7, 10], [], [11, 12]] [[], [], [], [], [], [], [], [], [], [], [], [], [], [5]] [[0], [1], [2], [3], [4], [5], [6], [7], [8], [9], [10], [11], [12], [12]] [[4], [], [], [], [], [], [], [], [], [], [], [], [5], [5]] [0, 1, 2, 3, 4, 5, 6, 7, 8, 9, 10, 11, 13] [5] [fun vs W => Ow W 4 [] [(vs 0)] z17, fun vs W => (vs 1) = v0_6, fun vs W => (vs 2) = ptr ((slA v0_6).add ((0 : Int).toNat * Rp.sz (Str))), fun vs W => (vs 3) = vS u23, fun vs W => (vs 4) = vI z25, fun vs W => (vs 5) = v0_6, fun vs W => (vs 6) = ptr ((slA v0_6).add ((1 : Int).toNat * Rp.sz (Str))), fun vs W => (vs 7) = vS u32, fun vs W => (vs 8) = v0_6, fun vs W => (vs 9) = ptr ((slA v0_6).add ((2 : Int).toNat * Rp.sz (Str))), fun vs W => (vs 10) = vS u34, fun vs W => (vs 11) = .agg [vI z25, vS u32, vS u34, vS ([] : Str), vS ([] : Str), vI 0, .slice none 0 0].toArray, fun vs W => (vs 12) = ptr (bx (pg (vs 12))) ∧ Bx W 5 (pg (vs 12)) [vI 0, vS ([] : Str), vS ([] : Str), vS ([] : Str), vS ([] : Str), vI 0, .slice none 0 0], fun vs W => (vs 12) = ptr (bx (pg (vs 12))) ∧ Bx W 5 (pg (vs 12)) [vI z25, vS u32, vS u34, vS ([] : Str), vS ([] : Str), vI 0, .slice none 0 0]] [] mixed (by kernel_rfl) rfl AllF.nil ?_
  intro W46 l46
  have a47 := a7.n l46
  have o48 := f6_0.up l46
  refine ⟨(Steps.cons ?_ (Steps.cons ?_ (Steps.cons ?_ (Steps.cons ?_ (Steps.cons ?_ (Steps.cons ?_ (Steps.cons ?_ (Steps.cons ?_ (Steps.cons ?_ (Steps.cons ?_ (Steps.cons ?_ (Steps.cons ?_ (Steps.cons ?_ (Steps.cons ?_ Steps.nil)))))))))))))), (Sups.cons (fun vs vs' W W' _ hv l hd h => by (show Ow W' 4 [] [(vs' 0)] z17); rw [hv 0 (anyb rfl)]; exact h.upv l (disj_mem hd (c := 4) rfl)) (Sups.cons (fun vs vs' W W' _ hv l hd h => by (show (vs' 1) = v0_6); rw [hv 1 (anyb rfl)]; exact h) (Sups.cons (fun vs vs' W W' _ hv l hd h => by (show (vs' 2) = ptr ((slA v0_6).add ((0 : Int).toNat * Rp.sz (Str)))); rw [hv 2 (anyb rfl)]; exact h) (Sups.cons (fun vs vs' W W' _ hv l hd h => by (show (vs' 3) = vS u23); rw [hv 3 (anyb rfl)]; exact h) (Sups.cons (fun vs vs' W W' _ hv l hd h => by (show (vs' 4) = vI z25); rw [hv 4 (anyb rfl)]; exact h) (Sups.cons (fun vs vs' W W' _ hv l hd h => by (show (vs' 5) = v0_6); rw [hv 5 (anyb rfl)]; exact h) (Sups.cons (fun vs vs' W W' _ hv l hd h => by (show (vs' 6) = ptr ((slA v0_6).add ((1 : Int).toNat * Rp.sz (Str)))); rw [hv 6 (anyb rfl)]; exact h) (Sups.cons (fun vs vs' W W' _ hv l hd h => by (show (vs' 7) = vS u32); rw [hv 7 (anyb rfl)]; exact h) (Sups.cons (fun vs vs' W W' _ hv l hd h => by (show (vs' 8) = v0_6); rw [hv 8 (anyb rfl)]; exact h) (Sups.cons (fun vs vs' W W' _ hv l hd h => by (show (vs' 9) = ptr ((slA v0_6).add ((2 : Int).toNat * Rp.sz (Str)))); rw [hv 9 (anyb rfl)]; exact h) (Sups.cons (fun vs vs' W W' _ hv l hd h => by (show (vs' 10) = vS u34); rw [hv 10 (anyb rfl)]; exact h) (Sups.cons (fun vs vs' W W' _ hv l hd h => by (show (vs' 11) = .agg [vI z25, vS u32, vS u34, vS ([] : Str), vS ([] : Str), vI 0, .slice none 0 0].toArray); rw [hv 11 (anyb rfl)]; exact h) (Sups.cons (fun vs vs' W W' _ hv l hd h => by (show (vs' 12) = ptr (bx (pg (vs' 12))) ∧ Bx W' 5 (pg (vs' 12)) [vI 0, vS ([] : Str), vS ([] : Str), vS ([] : Str), vS ([] : Str), vI 0, .slice none 0 0]); rw [hv 12 (anyb rfl)]; exact ⟨h.1, h.2.up l (disj_mem hd (c := 5) rfl)⟩) (Sups.cons (fun vs vs' W W' _ hv l hd h => by (show (vs' 12) = ptr (bx (pg (vs' 12))) ∧ Bx W' 5 (pg (vs' 12)) [vI z25, vS u32, vS u34, vS ([] : Str), vS ([] : Str), vI 0, .slice none 0 0]); rw [hv 12 (anyb rfl)]; exact ⟨h.1, h.2.up l (disj_mem hd (c := 5) rfl)⟩) Sups.nil)))))))))))))), ?_⟩
  ·intro vs W lW hN
   obtain ⟨W50, hW50⟩ : ∃ X, X = W := ⟨W, rfl⟩
   subst hW50
   refine Tr.mono (T.call rfl (p79 (k0 := 4)  e18)) ?_
   rintro v0_54 _ ⟨W54, rfl, l54, ⟨_, rfl, f54_0⟩⟩
   exact ⟨W54, rfl, l54, (show Ow W54 4 [] [v0_54] z17 from f54_0)⟩
  ·intro vs W lW hN
   obtain ⟨W58, hW58⟩ : ∃ X, X = W := ⟨W, rfl⟩
   subst hW58
   refine Tr.mono (Run.tr (R.mv (v := v0_6) rfl)) ?_
   rintro _ _ ⟨hu, rfl⟩
   obtain rfl := hu.symm
   exact ⟨W58, rfl, Le.refl _ _, (show (v0_6 : Value) = v0_6 from rfl)⟩
  ·intro vs W lW hN
   obtain ⟨W62, hW62⟩ : ∃ X, X = W := ⟨W, rfl⟩
   subst hW62
   have e1_ : vs 1 = v0_6 := (hN 1 (anyb rfl))
   obtain ⟨vs, rfl⟩ := up_eq e1_
   refine Tr.mono (Run.tr (R.ix (α := Str) (o48.up lW rfl).rd e24 rfl rfl rfl)) ?_
   rintro _ _ ⟨hu, rfl⟩
   obtain rfl := hu.symm
   exact ⟨W62, rfl, Le.refl _ _, (show (ptr ((slA v0_6).add ((0 : Int).toNat * Rp.sz (Str))) : Value) = ptr ((slA v0_6).add ((0 : Int).toNat * Rp.sz (Str))) from rfl)⟩
  ·intro vs W lW hN
   obtain ⟨W66, hW66⟩ : ∃ X, X = W := ⟨W, rfl⟩
   subst hW66
   have e2_ : vs 2 = ptr ((slA v0_6).add ((0 : Int).toNat * Rp.sz (Str))) := (hN 2 (anyb rfl))
   obtain ⟨vs, rfl⟩ := up_eq e2_
   refine Tr.mono (Run.tr (R.ld rfl rfl ((o48.up lW rfl).rd.at_ e24).str)) ?_
   rintro _ _ ⟨hu, rfl⟩
   obtain rfl := hu.symm
   exact ⟨W66, rfl, Le.refl _ _, (show (vS u23 : Value) = vS u23 from rfl)⟩
  ·intro vs W lW hN
   obtain ⟨W70, hW70⟩ : ∃ X, X = W := ⟨W, rfl⟩
   subst hW70
   obtain ⟨pv0, e0_⟩ : ∃ v, vs 0 = v := ⟨_, rfl⟩
   obtain ⟨vs, rfl⟩ := up_eq e0_
   have o74 : Ow W70 4 [] [pv0] z17 := (hN 0 (anyb rfl))
   have e3_ : vs 3 = vS u23 := (hN 3 (anyb rfl))
   obtain ⟨vs, rfl⟩ := up_eq e3_
   refine Tr.mono (T.call rfl (p78 (K := [4])  o74.rd e26)) ?_
   rintro _ _ ⟨W75, rfl, l75, rfl⟩
   exact ⟨W75, rfl, l75, (show (vI z25 : Value) = vI z25 from rfl)⟩
  ·intro vs W lW hN
   obtain ⟨W80, hW80⟩ : ∃ X, X = W := ⟨W, rfl⟩
   subst hW80
   refine Tr.mono (Run.tr (R.mv (v := v0_6) rfl)) ?_
   rintro _ _ ⟨hu, rfl⟩
   obtain rfl := hu.symm
   exact ⟨W80, rfl, Le.refl _ _, (show (v0_6 : Value) = v0_6 from rfl)⟩
  ·intro vs W lW hN
   obtain ⟨W84, hW84⟩ : ∃ X, X = W := ⟨W, rfl⟩
   subst hW84
   have e5_ : vs 5 = v0_6 := (hN 5 (anyb rfl))
   obtain ⟨vs, rfl⟩ := up_eq e5_
   refine Tr.mono (Run.tr (R.ix (α := Str) (o48.up lW rfl).rd e33 rfl rfl rfl)) ?_
   rintro _ _ ⟨hu, rfl⟩
   obtain rfl := hu.symm
   exact ⟨W84, rfl, Le.refl _ _, (show (ptr ((slA v0_6).add ((1 : Int).toNat * Rp.sz (Str))) : Value) = ptr ((slA v0_6).add ((1 : Int).toNat * Rp.sz (Str))) from rfl)⟩
  ·intro vs W lW hN
   obtain ⟨W88, hW88⟩ : ∃ X, X = W := ⟨W, rfl⟩
   subst hW88
   have e6_ : vs 6 = ptr ((slA v0_6).add ((1 : Int).toNat * Rp.sz (Str))) := (hN 6 (anyb rfl))
   obtain ⟨vs, rfl⟩ := up_eq e6_
   refine Tr.mono (Run.tr (R.ld rfl rfl ((o48.up lW rfl).rd.at_ e33).str)) ?_
   rintro _ _ ⟨hu, rfl⟩
   obtain rfl := hu.symm
   exact ⟨W88, rfl, Le.refl _ _, (show (vS u32 : Value) = vS u32 from rfl)⟩
  ·intro vs W lW hN
   obtain ⟨W92, hW92⟩ : ∃ X, X = W := ⟨W, rfl⟩
   subst hW92
   refine Tr.mono (Run.tr (R.mv (v := v0_6) rfl)) ?_
   rintro _ _ ⟨hu, rfl⟩
   obtain rfl := hu.symm
   exact ⟨W92, rfl, Le.refl _ _, (show (v0_6 : Value) = v0_6 from rfl)⟩
  ·intro vs W lW hN
   obtain ⟨W96, hW96⟩ : ∃ X, X = W := ⟨W, rfl⟩
   subst hW96
   have e8_ : vs 8 = v0_6 := (hN 8 (anyb rfl))
   obtain ⟨vs, rfl⟩ := up_eq e8_
   refine Tr.mono (Run.tr (R.ix (α := Str) (o48.up lW rfl).rd e35 rfl rfl rfl)) ?_
   rintro _ _ ⟨hu, rfl⟩
   obtain rfl := hu.symm
   exact ⟨W96, rfl, Le.refl _ _, (show (ptr ((slA v0_6).add ((2 : Int).toNat * Rp.sz (Str))) : Value) = ptr ((slA v0_6).add ((2 : Int).toNat * Rp.sz (Str))) from rfl)⟩
  ·intro vs W lW hN
   obtain ⟨W100, hW100⟩ : ∃ X, X = W := ⟨W, rfl⟩
   subst hW100
   have e9_ : vs 9 = ptr ((slA v0_6).add ((2 : Int).toNat * Rp.sz (Str))) := (hN 9 (anyb rfl))
   obtain ⟨vs, rfl⟩ := up_eq e9_
   refine Tr.mono (Run.tr (R.ld rfl rfl ((o48.up lW rfl).rd.at_ e35).str)) ?_
   rintro _ _ ⟨hu, rfl⟩
   obtain rfl := hu.symm
   exact ⟨W100, rfl, Le.refl _ _, (show (vS u34 : Value) = vS u34 from rfl)⟩
  ·intro vs W lW hN
   obtain ⟨W104, hW104⟩ : ∃ X, X = W := ⟨W, rfl⟩
   subst hW104
   have e4_ : vs 4 = vI z25 := (hN 4 (anyb rfl))
   obtain ⟨vs, rfl⟩ := up_eq e4_
   have e7_ : vs 7 = vS u32 := (hN 7 (anyb rfl))
   obtain ⟨vs, rfl⟩ := up_eq e7_
   have e10_ : vs 10 = vS u34 := (hN 10 (anyb rfl))
   obtain ⟨vs, rfl⟩ := up_eq e10_
   refine Tr.mono (Run.tr (R.bd (zs := [vI 0, vS ([] : Str), vS ([] : Str), vS ([] : Str), vS ([] : Str), vI 0, .slice none 0 0]) (cs := [vI z25, vS u32, vS u34, vS ([] : Str), vS ([] : Str), vI 0, .slice none 0 0]) [(0, vI z25), (1, vS u32), (2, vS u34)] rfl rfl rfl (bp_cons rfl rfl (bp_cons rfl rfl (bp_cons rfl rfl bp_nil))))) ?_
   rintro _ _ ⟨hu, rfl⟩
   obtain rfl := hu.symm
   exact ⟨W104, rfl, Le.refl _ _, (show (.agg [vI z25, vS u32, vS u34, vS ([] : Str), vS ([] : Str), vI 0, .slice none 0 0].toArray : Value) = .agg [vI z25, vS u32, vS u34, vS ([] : Str), vS ([] : Str), vI 0, .slice none 0 0].toArray from rfl)⟩
  ·intro vs W lW hN
   obtain ⟨W108, hW108⟩ : ∃ X, X = W := ⟨W, rfl⟩
   subst hW108
   refine Tr.mono (T.alloc 5 (cs := [vI 0, vS ([] : Str), vS ([] : Str), vS ([] : Str), vS ([] : Str), vI 0, .slice none 0 0]) rfl) ?_
   rintro _ _ ⟨g112, W112, rfl, rfl, l112, b112⟩
   exact ⟨W112, rfl, l112, (show (ptr (bx g112) : Value) = ptr (bx g112) ∧ Bx W112 5 g112 [vI 0, vS ([] : Str), vS ([] : Str), vS ([] : Str), vS ([] : Str), vI 0, .slice none 0 0] from ⟨rfl, b112⟩)⟩
  ·intro vs W lW hN
   obtain ⟨W116, hW116⟩ : ∃ X, X = W := ⟨W, rfl⟩
   subst hW116
   have e11_ : vs 11 = .agg [vI z25, vS u32, vS u34, vS ([] : Str), vS ([] : Str), vI 0, .slice none 0 0].toArray := (hN 11 (anyb rfl))
   obtain ⟨vs, rfl⟩ := up_eq e11_
   obtain ⟨pg12, e12_⟩ : ∃ pg12, vs 12 = ptr (bx pg12) := ⟨_, ((hN 12 (anyb rfl))).1⟩
   obtain ⟨vs, rfl⟩ := up_eq e12_
   have o120 : Bx W116 5 pg12 [vI 0, vS ([] : Str), vS ([] : Str), vS ([] : Str), vS ([] : Str), vI 0, .slice none 0 0] := (hN 12 (anyb rfl)).2
   refine Tr.mono (T.sta (vs := [vI z25, vS u32, vS u34, vS ([] : Str), vS ([] : Str), vI 0, .slice none 0 0]) o120 rfl rfl (oc_cons rfl (oc_cons rfl (oc_cons rfl (oc_cons rfl (oc_cons rfl (oc_cons rfl (oc_cons rfl oc_nil))))))) rfl rfl) ?_
   rintro _ _ ⟨W121, rfl, l121, b121⟩
   exact ⟨W121, rfl, l121, (show (ptr (bx pg12)) = ptr (bx pg12) ∧ Bx W121 5 pg12 [vI z25, vS u32, vS u34, vS ([] : Str), vS ([] : Str), vI 0, .slice none 0 0] from ⟨rfl, b121⟩)⟩
  ·intro vs W lW hN
   obtain ⟨W125, hW125⟩ : ∃ X, X = W := ⟨W, rfl⟩
   subst hW125
   have a126 := a47.t lW rfl
   have o127 := o48.up lW rfl
   obtain ⟨l125, hl125⟩ : ∃ x, x = lW := ⟨lW, rfl⟩
   obtain ⟨pv0, e0_⟩ : ∃ v, vs 0 = v := ⟨_, rfl⟩
   obtain ⟨vs, rfl⟩ := up_eq e0_
   have o129 : Ow W125 4 [] [pv0] z17 := (hN 0 (anyb rfl))
   have e1_ : vs 1 = v0_6 := (hN 1 (anyb rfl))
   obtain ⟨vs, rfl⟩ := up_eq e1_
   have e2_ : vs 2 = ptr ((slA v0_6).add ((0 : Int).toNat * Rp.sz (Str))) := (hN 2 (anyb rfl))
   obtain ⟨vs, rfl⟩ := up_eq e2_
   have e3_ : vs 3 = vS u23 := (hN 3 (anyb rfl))
   obtain ⟨vs, rfl⟩ := up_eq e3_
   have e4_ : vs 4 = vI z25 := (hN 4 (anyb rfl))
   obtain ⟨vs, rfl⟩ := up_eq e4_
   have e5_ : vs 5 = v0_6 := (hN 5 (anyb rfl))
   obtain ⟨vs, rfl⟩ := up_eq e5_
   have e6_ : vs 6 = ptr ((slA v0_6).add ((1 : Int).toNat * Rp.sz (Str))) := (hN 6 (anyb rfl))
   obtain ⟨vs, rfl⟩ := up_eq e6_
   have e7_ : vs 7 = vS u32 := (hN 7 (anyb rfl))
   obtain ⟨vs, rfl⟩ := up_eq e7_
   have e8_ : vs 8 = v0_6 := (hN 8 (anyb rfl))
   obtain ⟨vs, rfl⟩ := up_eq e8_
   have e9_ : vs 9 = ptr ((slA v0_6).add ((2 : Int).toNat * Rp.sz (Str))) := (hN 9 (anyb rfl))
   obtain ⟨vs, rfl⟩ := up_eq e9_
   have e10_ : vs 10 = vS u34 := (hN 10 (anyb rfl))
   obtain ⟨vs, rfl⟩ := up_eq e10_
   have e11_ : vs 11 = .agg [vI z25, vS u32, vS u34, vS ([] : Str), vS ([] : Str), vI 0, .slice none 0 0].toArray := (hN 11 (anyb rfl))
   obtain ⟨vs, rfl⟩ := up_eq e11_
   obtain ⟨pg12, e12_⟩ : ∃ pg12, vs 12 = ptr (bx pg12) := ⟨_, (hN 13 (anyb rfl)).1⟩
   obtain ⟨vs, rfl⟩ := up_eq e12_
   have o130 : Bx W125 5 pg12 [vI z25, vS u32, vS u34, vS ([] : Str), vS ([] : Str), vI 0, .slice none 0 0] := (hN 13 (anyb rfl)).2
   obtain ⟨K142, hK142, hm⟩ := jn_e hm
   refine Cw.join 24 83 [] (fun l w => ∃ y131 y132 y133 y134 y135 y136 y137 v138 W141, CW.w W141 = w ∧ Le [5, 7] W125 W141 ∧ l = [] ∧ Rd W141 [0] [v138] y137 ∧ Bx W141 5 pg12 [vI y131, vS y132, vS y133, vS y134, vS y135, vI y136, v138] ∧ K142 y131 y132 y133 y134 y135 y136 y137 = some r) ?_ ?_
   ·rintro _ _ σ ⟨y131, y132, y133, y134, y135, y136, y137, v138, W141, rfl, l141, rfl, r139, b140, hm⟩
    rw [hK142] at hm
    have a143 := a126.t l141
    refine Cw.seq ?_
    obtain ⟨K149, hK149, hm⟩ := jn_e hm
    refine Cw.join 84 92 [92] (fun l w => ∃ y147 W148, CW.w W148 = w ∧ Le [] W141 W148 ∧ l = [vB y147] ∧ K149 y147 = some r) ?_ ?_
    ·rintro _ _ σ ⟨y147, W148, rfl, l148, rfl, hm⟩
     rw [hK149] at hm
     have a150 := l148.o
     have b153 := ((((b1.up l6).up l46).up lW rfl).up l141).up l148
     refine cn hm (fun hm => ?_) fun hm => ?_
     ·refine sr (Lw.r rfl (R.bd (zs := [vI 0, vS ([] : Str), vS ([] : Str), vS ([] : Str), vS ([] : Str), vI 0, .slice none 0 0]) (cs := [vI 0, vS ([] : Str), vS ([] : Str), vS ([] : Str), vS ([] : Str), vI 0, .slice none 0 0]) [] rfl rfl rfl bp_nil) (sta b153 (oc_cons rfl (oc_cons rfl (oc_cons rfl (oc_cons rfl (oc_cons rfl (oc_cons rfl (oc_cons rfl oc_nil))))))) fun W156 l156 b156 => ?_))
      have a157 := (a143.trans a150).t l156
      refine Nb rfl ?_
      cases hm
      exact Cw.ret (retA2 rfl b156 rfl (Res.mk a157 ⟨.slice none 0 0, rfl, (rdN (K := [0]))⟩))
     ·refine sk (sr (la (b140.up l148) (sta b153 (oc_cons rfl (oc_cons rfl (oc_cons rfl (oc_cons rfl (oc_cons rfl (oc_cons rfl (oc_cons r139.oc oc_nil))))))) fun W161 l161 b161 => ?_)))
      have a162 := l161.s
      refine Nb rfl ?_
      cases hm
      exact Cw.ret (retA2 rfl b161 rfl (Res.mk ((a143.trans a150).trans a162) ⟨v138, rfl, (r139.ul (a150.trans a162))⟩))
    ·refine rg (la b140 (ca hm (fun _ => p36 (x0 := (Vm.Op.mk y131 y132 y133 y134 y135 y136 y137)) (Op.rd (K := [0]) y131 y132 y133 y134 y135 y136 y137 r139) (h99.ul a143)) fun z168 W170 hm l170 => ?_))
     have a171 := l170.o
     refine Lw.r rfl (R.not rfl) (mb rfl (bs hm (fun hc176 hm => ?_) fun hc176 hm => ?_))
     ·exact psk 4 hc176 rfl (Pb hc176 rfl (nl ((ag) ⟨true, W170, rfl, l170, rfl, hm⟩)))
     ·exact wak 4 hc176 (la (b140.up l170) (ca hm (fun _ => p82 (x0 := (Vm.Op.mk y131 y132 y133 y134 y135 y136 y137)) (Op.rd (K := [0]) y131 y132 y133 y134 y135 y136 y137 (r139.ul a171))) fun z178 W180 hm l180 => ms rfl (Lw.sne rfl (Pb hc176 rfl (nl ((ag) ⟨(z178 != x0), W180, rfl, (l170.j l180).w, rfl, hm⟩))))))
   ·refine sr (Lw.fa rfl (Lw.r rfl (R.ld (v := vI z25) rfl rfl (o130.cell rfl)) (nl (Cw.block (sr (Lw.eq rfl (Nb rfl (cn hm (fun hm => ?_) fun hm => ?_))))))))
    ·refine sr (mv v0_6 rfl ?_)
     obtain ⟨u187, e188, hm⟩ := ob hm
     refine Lw.r rfl (R.ix (α := Str) o127.rd e188 rfl rfl rfl) (Lw.r rfl (R.ld rfl rfl (o127.rd.at_ e188).str) (Lw.fa rfl (Lw.u (T.st (j := 3) (v := vS u187) o130 rfl rfl rfl rfl rfl) ?_)))
     rintro _ _ ⟨W189, rfl, l189, b189⟩
     have a190 := a126.t l189
     have o191 := o127.up l189
     refine nl ?_
     obtain ⟨K196, hK196, hm⟩ := jn_e hm
     refine Cw.join 32 40 [40] (fun l w => ∃ y194 W195, CW.w W195 = w ∧ Le [] W189 W195 ∧ l = [vB y194] ∧ K196 y194 = some r) ?_ ?_
     ·rintro _ _ σ ⟨y194, W195, rfl, l195, rfl, hm⟩
      rw [hK196] at hm
      have a197 := a190.n l195
      refine cn hm (fun hm => ?_) fun hm => ?_
      ·refine rg (mv v0_6 rfl ?_)
       obtain ⟨u203, e204, hm⟩ := ob hm
       refine Lw.r rfl (R.ix (α := Str) (o191.up l195).rd e204 rfl rfl rfl) (Lw.r rfl (R.ld rfl rfl ((o191.up l195).rd.at_ e204).str) (cr hm (fun _ => p80 (k0 := 7) (h99.ul a197)) ?_))
       rintro z206 v0_208 W208 hm l208 ⟨_, rfl, f208_0⟩
       obtain ⟨q214, e215, hm⟩ := ob hm
       have r217 := f208_0.rd.cutV e215
       refine Lw.r rfl (R.sl f208_0.rd e215 rfl (.inr rfl) (.inl ⟨rfl, rfl⟩)) (Lw.fa rfl (Lw.u (T.st (j := 6) (v := (cutV v0_208 (1 : Int).toNat ((z206.length : Int) : Int).toNat (Rp.sz (Str)))) ((b189.up l195).up l208) rfl rfl r217.oc rfl rfl) ?_))
       rintro _ _ ⟨W218, rfl, l218, b218⟩
       refine nl ?_
       have s224 := r217.up (l218.sub (M := [5]) rfl) rfl
       obtain ⟨W225, ew225, l225, dj225⟩ := dyeE _ 7
       have s226 : Rd W225 [0] [(cutV v0_208 (1 : Int).toNat ((z206.length : Int) : Int).toNat (Rp.sz (Str)))] q214 := by rw [dj225]; exact (s224.dye 7).sub (M := [0]) rfl
       have s227 : Rd (α := List Str) W225 [0] [v0_208] z206 := by rw [dj225]; exact ((f208_0.up l218).rd.dye 7).sub (M := [0]) rfl
       exact (ag) ⟨z25, u32, u34, u187, ([] : Str), 0, q214, (cutV v0_208 (1 : Int).toNat ((z206.length : Int) : Int).toNat (Rp.sz (Str))), W225, ew225, ((((l189.j l195).j l208).j l218).j l225).w, rfl, s226, (b218.up l225), hm⟩
      ·exact sk ((ag) ⟨z25, u32, u34, u187, ([] : Str), 0, ([] : List Str), .slice none 0 0, W195, rfl, (l189.j l195).w, rfl, rdN, (b189.up l195), hm⟩)
     ·refine rg (mv v0_6 rfl (Lw.ln z4 o191.rd rfl (Lw.eq rfl (mb rfl (bs hm (fun hc233 hm => ?_) fun hc233 hm => ?_)))))
      ·refine wak 4 hc233 (mv v0_6 rfl ?_)
       obtain ⟨u234, e235, hm⟩ := ob hm
       exact Lw.r rfl (R.ix (α := Str) o191.rd e235 rfl rfl rfl) (Lw.r rfl (R.ld rfl rfl (o191.rd.at_ e235).str) (Lw.sne rfl (Pb hc233 rfl (nl ((ag) ⟨(u234 != ([] : Str)), W189, rfl, Le.refl _ _, rfl, hm⟩)))))
      ·exact psk 4 hc233 rfl (Pb hc233 rfl (nl ((ag) ⟨false, W189, rfl, Le.refl _ _, rfl, hm⟩)))
    ·refine sr (Lw.eq rfl (Nb rfl (cn hm (fun hm => ?_) fun hm => ?_)))
     ·refine rg (mv v0_6 rfl ?_)
      obtain ⟨u237, e238, hm⟩ := ob hm
      refine Lw.r rfl (R.ix (α := Str) o127.rd e238 rfl rfl rfl) (Lw.r rfl (R.ld rfl rfl (o127.rd.at_ e238).str) (Lw.fa rfl (Lw.u (T.st (j := 3) (v := vS u237) o130 rfl rfl rfl rfl rfl) ?_)))
      rintro _ _ ⟨W239, rfl, l239, b239⟩
      exact nl ((ag) ⟨z25, u32, u34, u237, ([] : Str), 0, ([] : List Str), .slice none 0 0, W239, rfl, l239.w, rfl, rdN, b239, hm⟩)
     ·refine sr (Lw.eq rfl (Nb rfl (cn hm (fun hm => ?_) fun hm => ?_)))
      ·refine sr (mv v0_6 rfl ?_)
       obtain ⟨u245, e246, hm⟩ := ob hm
       refine Lw.r rfl (R.ix (α := Str) o127.rd e246 rfl rfl rfl) (Lw.r rfl (R.ld rfl rfl (o127.rd.at_ e246).str) (Lw.fa rfl (Lw.u (T.st (j := 3) (v := vS u245) o130 rfl rfl rfl rfl rfl) ?_)))
       rintro _ _ ⟨W247, rfl, l247, b247⟩
       have o249 := o127.up l247
       refine nl (sr (mv v0_6 rfl (Lw.ln z4 o249.rd rfl (Lw.eq rfl (nl (cn hm (fun hm => ?_) fun hm => ?_))))))
       ·refine rg (mv v0_6 rfl ?_)
        obtain ⟨u253, e254, hm⟩ := ob hm
        refine Lw.r rfl (R.ix (α := Str) o249.rd e254 rfl rfl rfl) (Lw.r rfl (R.ld rfl rfl (o249.rd.at_ e254).str) (Lw.fa rfl (Lw.u (T.st (j := 4) (v := vS u253) b247 rfl rfl rfl rfl rfl) ?_)))
        rintro _ _ ⟨W255, rfl, l255, b255⟩
        exact nl ((ag) ⟨z25, u32, u34, u245, u253, 0, ([] : List Str), .slice none 0 0, W255, rfl, (l247.j l255).w, rfl, rdN, b255, hm⟩)
       ·exact sk ((ag) ⟨z25, u32, u34, u245, ([] : Str), 0, ([] : List Str), .slice none 0 0, W247, rfl, l247.w, rfl, rdN, b247, hm⟩)
      ·obtain ⟨K262, hK262, hm⟩ := jn_e hm
       refine Cw.join 66 68 [66] (fun l w => ∃ y260 W261, CW.w W261 = w ∧ Le [] W125 W261 ∧ l = [vB y260] ∧ K262 y260 = some r) ?_ ?_
       ·rintro _ _ σ ⟨y260, W261, rfl, l261, rfl, hm⟩
        rw [hK262] at hm
        have a263 := a126.n l261
        have o264 := o127.up l261
        refine cn hm (fun hm => ?_) fun hm => ?_
        ·refine rg (mv v0_6 rfl ?_)
         obtain ⟨u269, e270, hm⟩ := ob hm
         refine Lw.r rfl (R.ix (α := Str) o264.rd e270 rfl rfl rfl) (Lw.r rfl (R.ld rfl rfl (o264.rd.at_ e270).str) (Lw.fa rfl (Lw.u (T.st (j := 4) (v := vS u269) (o130.up l261) rfl rfl rfl rfl rfl) ?_)))
         rintro _ _ ⟨W271, rfl, l271, b271⟩
         exact nl ((ag) ⟨z25, u32, u34, ([] : Str), u269, 0, ([] : List Str), .slice none 0 0, W271, rfl, (l261.j l271).w, rfl, rdN, b271, hm⟩)
        ·obtain ⟨K278, hK278, hm⟩ := jn_e hm
         refine Cw.join 73 75 [73] (fun l w => ∃ y276 W277, CW.w W277 = w ∧ Le [] W261 W277 ∧ l = [vB y276] ∧ K278 y276 = some r) ?_ ?_
         ·rintro _ _ σ ⟨y276, W277, rfl, l277, rfl, hm⟩
          rw [hK278] at hm
          have a279 := a263.n l277
          have b283 := (o130.up l261).up l277
          refine cn hm (fun hm => ?_) fun hm => ?_
          ·refine rg (mv v0_6 rfl ?_)
           obtain ⟨u285, e286, hm⟩ := ob hm
           refine Lw.r rfl (R.ix (α := Str) (o264.up l277).rd e286 rfl rfl rfl) (Lw.r rfl (R.ld rfl rfl ((o264.up l277).rd.at_ e286).str) (cr hm (fun _ => p81 (h99.ul a279)) ?_))
           rintro z288 _ W290 hm l290 ⟨v1_290, rfl⟩
           refine mv (.tuple [vI z288.1, v1_290].toArray) rfl (Lw.r rfl (R.ext (vs := [vI z288.1, v1_290]) (v := vI z288.1) rfl rfl) (Lw.r rfl (R.ext (vs := [vI z288.1, v1_290]) (v := v1_290) rfl rfl) (Lw.fa rfl (Lw.u (T.st (j := 5) (v := vI z288.1) (b283.up l290) rfl rfl rfl rfl rfl) ?_))))
           rintro _ _ ⟨W296, rfl, l296, b296⟩
           exact nl ((ag) ⟨z25, u32, u34, ([] : Str), ([] : Str), z288.1, ([] : List Str), .slice none 0 0, W296, rfl, (((l261.j l277).j l290).j l296).w, rfl, rdN, b296, hm⟩)
          ·exact sk ((ag) ⟨z25, u32, u34, ([] : Str), ([] : Str), 0, ([] : List Str), .slice none 0 0, W277, rfl, (l261.j l277).w, rfl, rdN, b283, hm⟩)
         ·refine sr (Lw.eq rfl (Nb rfl (cn hm (fun hm => ?_) fun hm => ?_)))
          ·exact sk ((ag) ⟨((z25 : Int) == (6 : Int)), W261, rfl, Le.refl _ _, rfl, hm⟩)
          ·exact rg (Lw.eq rfl (Nb rfl ((ag) ⟨((z25 : Int) == (7 : Int)), W261, rfl, Le.refl _ _, rfl, hm⟩)))
       ·refine sr (Lw.eq rfl (Nb rfl (cn hm (fun hm => ?_) fun hm => ?_)))
        ·exact sk ((ag) ⟨((z25 : Int) == (4 : Int)), W125, rfl, Le.refl _ _, rfl, hm⟩)
        ·exact rg (Lw.eq rfl (Nb rfl ((ag) ⟨((z25 : Int) == (5 : Int)), W125, rfl, Le.refl _ _, rfl, hm⟩)))

theorem p29 {x0 r} (h99 : Gk 2 0 1 W K) (hm : Vm.impl_OpGet x0 = some r) : Q1 29 [vS x0] W [] fun W' v => ∃ u0_6, v = .tuple [.agg [vI r.1.Kind, vS r.1.Branch, vS r.1.Who, vS r.1.Path, vS r.1.To, vI r.1.At, u0_6].toArray, vB r.2].toArray ∧ Rd W' (0 :: K) [u0_6] r.1.Text :=
 (c29 (h99.view _) hm).ad (fk 0) fun _ _ ⟨u0_6, e, f0⟩ => ⟨u0_6, e, f0.back rfl⟩

theorem c92 {x0 v0_ x1 v1_ r} (h0 : Rd W0 [0] [v0_] x0) (h1 : Rd W0 [0] [v1_] x1) (hm : Vm.laws_smTexts x0 x1 = some r) : Q0 92 [v0_, v1_] W0 fun Wf v => v = vB r := by
 unfold Vm.laws_smTexts at hm
 refine CallR.of Tryd.func92 rfl rfl rfl rfl (sr (Nb rfl (ssr (mv v0_ rfl (Lw.ln x0 h0 rfl (mv v1_ rfl (Lw.ln x1 h1 rfl (Lw.ne rfl (nl (cn hm (fun hm => ?_) fun hm => ?_))))))))))
 ·exact sr (Nb rfl (.ret (rt hm (Le.refl _ _))))
 ·refine sk (ssr (Ni rfl (Cw.block ?_)))
  obtain ⟨K5, hK5, hm⟩ := jn_e hm
  refine Cw.loop 11 25 [4, 5] (fun m l w => ∃ y2 y3 W4, CW.w W4 = w ∧ Le [] W0 W4 ∧ l = [vB y2, vI y3] ∧ Vm.laws_smTexts_l1 x0 x1 K5 m y2 y3 = some r) _ ⟨false, 0, W0, rfl, Le.refl _ _, rfl, hm⟩ ?_
  rintro (_ | m6) _ _ σ ⟨y2, y3, W4, rfl, l4, rfl, hm⟩
  ·cases hm
  unfold Vm.laws_smTexts_l1 at hm
  have a7 := l4.o
  refine ssr (mi rfl (mv v0_ rfl (Lw.ln x0 (h0.ul a7) rfl (Lw.lt rfl (nl (cn hm (fun hm => ?_) fun hm => ?_))))))
  ·refine sk (Cw.seq (Cw.block (Cw.seq (Cw.draw [] [(0, 0), (1, 0), (2, 0), (3, 1), (4, 0), (5, 0), (6, 0), (7, 1), (8, 0)] mixed (by kernel_rfl) fun W10 l10 => ?_))))
   have a11 := a7.n l10
   refine Dv v0_ rfl (Di rfl ?_)
   obtain ⟨u12, e13, hm⟩ := ob hm
   refine Mw.p rfl rfl (fun _ => R.ix (α := Str) (h0.ul a11) e13 rfl rfl rfl) (Mw.q rfl rfl (fun _ c => R.ld rfl rfl (cl_cell ((h0.ul a11).at_ e13).1 rfl ((h0.ul a11).at_ e13).str c)) (Dv v1_ rfl (Di rfl ?_)))
   obtain ⟨u15, e16, hm⟩ := ob hm
   refine Mw.p rfl rfl (fun _ => R.ix (α := Str) (h1.ul a11) e16 rfl rfl rfl) (Mw.q rfl rfl (fun _ c => R.ld rfl rfl (cl_cell ((h1.ul a11).at_ e16).1 rfl ((h1.ul a11).at_ e16).str c)) (Mw.p rfl rfl (fun _ => R.sne rfl rfl) (Mw.nil (cn hm (fun hm => ?_) fun hm => ?_))))
   ·exact sr (Nb rfl (.ret (rt hm a11)))
   ·exact sk (rg (mi rfl (Lw.add rfl (Ni rfl ((agm) ⟨y2, w64 (y3 + 1), W10, rfl, (l4.j l10).w, rfl, hm⟩)))))
  ·refine Cw.exit ?_
   rw [hK5] at hm
   exact sr (Nb rfl (.ret (rt hm a7)))

theorem p92 {x0 v0_ x1 v1_ r} (h0 : Rd W K [v0_] x0) (h1 : Rd W K [v1_] x1) (hm : Vm.laws_smTexts x0 x1 = some r) : Q1 92 [v0_, v1_] W [] fun W' v => v = vB r :=
 (c92 (h0.view _) (h1.view _) hm).ad (fk 0) fun _ _ e => e

theorem c38 {x0 v0_6_ x1 v1_6_ r} (h0 : Rd W0 [0] [vI x0.Kind, vS x0.Branch, vS x0.Who, vS x0.Path, vS x0.To, vI x0.At, v0_6_] x0) (h1 : Rd W0 [0] [vI x1.Kind, vS x1.Branch, vS x1.Who, vS x1.Path, vS x1.To, vI x1.At, v1_6_] x1) (hm : Vm.laws_smOp x0 x1 = some r) : Q0 38 [.agg [vI x0.Kind, vS x0.Branch, vS x0.Who, vS x0.Path, vS x0.To, vI x0.At, v0_6_].toArray, .agg [vI x1.Kind, vS x1.Branch, vS x1.Who, vS x1.Path, vS x1.To, vI x1.At, v1_6_].toArray] W0 fun Wf v => v = vB r := by
 unfold Vm.laws_smOp at hm
 obtain ⟨w0_0, he0, h0_6⟩ := Op.split h0
 simp only [List.cons.injEq, and_true, true_and] at he0
 obtain rfl := he0
 obtain ⟨w1_0, he1, h1_6⟩ := Op.split h1
 simp only [List.cons.injEq, and_true, true_and] at he1
 obtain rfl := he1
 refine CallR.of Tryd.func38 rfl rfl rfl rfl (sr (bo 2 rfl fun g1 W1 l1 b1 => ?_))
 have a2 := l1.o
 refine bo 3 rfl fun g3 W3 l3 b3 => ?_
 have a4 := a2.n l3
 have b5 := b1.up l3
 refine Nb rfl ?_
 obtain ⟨K8, hK8, hm⟩ := jn_e hm
 refine Cw.join 5 51 [4] (fun l w => ∃ y6 W7, CW.w W7 = w ∧ Le [] W3 W7 ∧ l = [vB y6] ∧ K8 y6 = some r) ?_ ?_
 ·rintro _ _ σ ⟨y6, W7, rfl, l7, rfl, hm⟩
  rw [hK8] at hm
  have a9 := a4.n l7
  exact .ret (rt hm a9)
 ·refine rg (fl b5 rfl (fl b3 rfl (Lw.eq rfl (mb rfl (bs hm (fun hc12 hm => ?_) fun hc12 hm => ?_)))))
  ·refine wak 5 hc12 (fl b5 rfl (fl b3 rfl (Lw.seq rfl (Pb hc12 rfl (mb rfl (bs hm (fun hc13 hm => ?_) fun hc13 hm => ?_))))))
   ·refine wak 5 hc13 (fl b5 rfl (fl b3 rfl (Lw.seq rfl (Pb hc13 rfl (mb rfl (bs hm (fun hc14 hm => ?_) fun hc14 hm => ?_))))))
    ·refine wak 5 hc14 (fl b5 rfl (fl b3 rfl (Lw.seq rfl (Pb hc14 rfl (mb rfl (bs hm (fun hc15 hm => ?_) fun hc15 hm => ?_))))))
     ·refine wak 5 hc15 (fl b5 rfl (fl b3 rfl (Lw.seq rfl (Pb hc15 rfl (mb rfl (bs hm (fun hc16 hm => ?_) fun hc16 hm => ?_))))))
      ·refine wak 5 hc16 (fl b5 rfl (fl b3 rfl (Lw.eq rfl (Pb hc16 rfl (mb rfl (bs hm (fun hc17 hm => ?_) fun hc17 hm => ?_))))))
       ·exact wak 5 hc17 (fl b5 rfl (fl b3 rfl (ca hm (fun _ => p92 (h0_6.ul a4) (h1_6.ul a4)) fun z20 W22 hm l22 => Pb hc17 rfl (Nb rfl ((ag) ⟨z20, W22, rfl, l22, rfl, hm⟩)))))
       ·exact psk 5 hc17 rfl (Pb hc17 rfl (Nb rfl ((ag) ⟨false, W3, rfl, Le.refl _ _, rfl, hm⟩)))
      ·exact psk 5 hc16 rfl (Pb hc16 rfl (mb rfl (psk 5 rfl rfl (Pb rfl rfl (Nb rfl ((ag) ⟨false, W3, rfl, Le.refl _ _, rfl, hm⟩))))))
     ·exact psk 5 hc15 rfl (Pb hc15 rfl (mb rfl (psk 5 rfl rfl (Pb rfl rfl (mb rfl (psk 5 rfl rfl (Pb rfl rfl (Nb rfl ((ag) ⟨false, W3, rfl, Le.refl _ _, rfl, hm⟩)))))))))
    ·exact psk 5 hc14 rfl (Pb hc14 rfl (mb rfl (psk 5 rfl rfl (Pb rfl rfl (mb rfl (psk 5 rfl rfl (Pb rfl rfl (mb rfl (psk 5 rfl rfl (Pb rfl rfl (Nb rfl ((ag) ⟨false, W3, rfl, Le.refl _ _, rfl, hm⟩))))))))))))
   ·exact psk 5 hc13 rfl (Pb hc13 rfl (mb rfl (psk 5 rfl rfl (Pb rfl rfl (mb rfl (psk 5 rfl rfl (Pb rfl rfl (mb rfl (psk 5 rfl rfl (Pb rfl rfl (mb rfl (psk 5 rfl rfl (Pb rfl rfl (Nb rfl ((ag) ⟨false, W3, rfl, Le.refl _ _, rfl, hm⟩)))))))))))))))
  ·exact psk 5 hc12 rfl (Pb hc12 rfl (mb rfl (psk 5 rfl rfl (Pb rfl rfl (mb rfl (psk 5 rfl rfl (Pb rfl rfl (mb rfl (psk 5 rfl rfl (Pb rfl rfl (mb rfl (psk 5 rfl rfl (Pb rfl rfl (mb rfl (psk 5 rfl rfl (Pb rfl rfl (Nb rfl ((ag) ⟨false, W3, rfl, Le.refl _ _, rfl, hm⟩))))))))))))))))))

theorem p38 {x0 v0_6_ x1 v1_6_ r} (h0 : Rd W K [vI x0.Kind, vS x0.Branch, vS x0.Who, vS x0.Path, vS x0.To, vI x0.At, v0_6_] x0) (h1 : Rd W K [vI x1.Kind, vS x1.Branch, vS x1.Who, vS x1.Path, vS x1.To, vI x1.At, v1_6_] x1) (hm : Vm.laws_smOp x0 x1 = some r) : Q1 38 [.agg [vI x0.Kind, vS x0.Branch, vS x0.Who, vS x0.Path, vS x0.To, vI x0.At, v0_6_].toArray, .agg [vI x1.Kind, vS x1.Branch, vS x1.Who, vS x1.Path, vS x1.To, vI x1.At, v1_6_].toArray] W [] fun W' v => v = vB r :=
 (c38 (h0.view _) (h1.view _) hm).ad (fk 0) fun _ _ e => e

end Go.Sx
