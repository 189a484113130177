/- Walks: each function answers as its model, printed by a program of ours. Conditions: the arguments read as they are given. -/
import Derived.Test.YtkfeiopifiejgaaDoorXTs
import Derived.Test.YtkfeiopifiejgaaDoorXM0
import Derived.Test.YtkfeiopifiejgaaDoorXW0
import Derived.Test.YtkfeiopifiejgaaDoorXE
namespace Go.Sx
open Go Go.Proofs Go.Vm Rp
set_option linter.unusedVariables false
set_option linter.unusedSimpArgs false

variable {W W0 : CW} {K : List Nat}
theorem c82 {x0 v0_6_ r} (h0 : Rd W0 [0] [vI x0.Kind, vS x0.Branch, vS x0.Who, vS x0.Path, vS x0.To, vI x0.At, v0_6_] x0) (hm : Vm.impl_opPut x0 = some r) : Q0 82 [.agg [vI x0.Kind, vS x0.Branch, vS x0.Who, vS x0.Path, vS x0.To, vI x0.At, v0_6_].toArray] W0 fun Wf v => v = vS r := by
 unfold Vm.impl_opPut at hm
 obtain ⟨w0_0, he0, h0_6⟩ := Op.split h0
 simp only [List.cons.injEq, and_true, true_and] at he0
 obtain rfl := he0
 refine CallR.of Tryd.func82 rfl rfl rfl rfl (sr (bo 2 rfl fun g1 W1 l1 b1 => ?_))
 have a2 := l1.o
 refine Ns rfl (Cw.seq ?_)
 obtain ⟨z6, e7, hm⟩ := ob hm
 obtain ⟨u11, e12, hm⟩ := ob hm
 obtain ⟨q13, e14, hm⟩ := ob hm
 obtain ⟨q15, e16, hm⟩ := ob hm
 obtain ⟨q17, e18, hm⟩ := ob hm
 obtain ⟨q19, e20, hm⟩ := ob hm
 obtain ⟨q21, e22, hm⟩ := ob hm
 refine Cw.par [[], [], [1], [0, 1, 2], [0, 1, 2, 3], [0, 1, 2, 3, 4], [], [6], [0, 1, 2, 3, 4, 5, 6, 7], [0, 1, 2, 3, 4, 5, 6, 7, 8], [], [10], [0, 1, 2, 3, 4, 5, 6, 7, 8, 9, 10, 11], [0, 1, 2, 3, 4, 5, 6, 7, 8, 9, 10, 11, 12], [0, 1, 2, 3, 4, 5, 6, 7, 8, 9, 10, 11, 12, 13]] [[], [], [1], [0, 2], [0, 3], [4], [], [6], [5, 7], [8], [], [10], [9, 11], [12], [13]] [[], [], [], [], [], [], [], [], [], [], [], [], [], [], []] [[0], [1], [2], [0, 3], [4], [5], [6], [7], [8], [9], [10], [11], [12], [13], [14]] [[3], [], [], [], [], [], [], [], [], [], [], [], [], [], []] [0, 1, 2, 3, 4, 5, 6, 7, 8, 9, 10, 11, 12, 13, 14] [] [fun vs W => Ow W 3 [] [(vs 0)] z6, fun vs W => (vs 1) = ptr ((bx g1).add 0), fun vs W => (vs 2) = vI x0.Kind, fun vs W => (vs 3) = ptr ((slA (vs 0)).add ((x0.Kind).toNat * Rp.sz (Str))), fun vs W => (vs 4) = vS u11, fun vs W => (vs 5) = vS q13, fun vs W => (vs 6) = ptr ((bx g1).add 1), fun vs W => (vs 7) = vS x0.Branch, fun vs W => (vs 8) = vS q15, fun vs W => (vs 9) = vS q17, fun vs W => (vs 10) = ptr ((bx g1).add 2), fun vs W => (vs 11) = vS x0.Who, fun vs W => (vs 12) = vS q19, fun vs W => (vs 13) = vS q21, fun vs W => (vs 14) = vS q21] [] mixed (by kernel_rfl) rfl AllF.nil ?_
 intro W23 l23
 have a24 := a2.n l23
 have b25 := b1.up l23
 refine ⟨(Steps.cons ?_ (Steps.cons ?_ (Steps.cons ?_ (Steps.cons ?_ (Steps.cons ?_ (Steps.cons ?_ (Steps.cons ?_ (Steps.cons ?_ (Steps.cons ?_ (Steps.cons ?_ (Steps.cons ?_ (Steps.cons ?_ (Steps.cons ?_ (Steps.cons ?_ (Steps.cons ?_ Steps.nil))))))))))))))), (Sups.cons (fun vs vs' W W' _ hv l hd h => by (show Ow W' 3 [] [(vs' 0)] z6); rw [hv 0 (anyb rfl)]; exact h.upv l (disj_mem hd (c := 3) rfl)) (Sups.cons (fun vs vs' W W' _ hv l hd h => by (show (vs' 1) = ptr ((bx g1).add 0)); rw [hv 1 (anyb rfl)]; exact h) (Sups.cons (fun vs vs' W W' _ hv l hd h => by (show (vs' 2) = vI x0.Kind); rw [hv 2 (anyb rfl)]; exact h) (Sups.cons (fun vs vs' W W' _ hv l hd h => by (show (vs' 3) = ptr ((slA (vs' 0)).add ((x0.Kind).toNat * Rp.sz (Str)))); rw [hv 0 (anyb rfl), hv 3 (anyb rfl)]; exact h) (Sups.cons (fun vs vs' W W' _ hv l hd h => by (show (vs' 4) = vS u11); rw [hv 4 (anyb rfl)]; exact h) (Sups.cons (fun vs vs' W W' _ hv l hd h => by (show (vs' 5) = vS q13); rw [hv 5 (anyb rfl)]; exact h) (Sups.cons (fun vs vs' W W' _ hv l hd h => by (show (vs' 6) = ptr ((bx g1).add 1)); rw [hv 6 (anyb rfl)]; exact h) (Sups.cons (fun vs vs' W W' _ hv l hd h => by (show (vs' 7) = vS x0.Branch); rw [hv 7 (anyb rfl)]; exact h) (Sups.cons (fun vs vs' W W' _ hv l hd h => by (show (vs' 8) = vS q15); rw [hv 8 (anyb rfl)]; exact h) (Sups.cons (fun vs vs' W W' _ hv l hd h => by (show (vs' 9) = vS q17); rw [hv 9 (anyb rfl)]; exact h) (Sups.cons (fun vs vs' W W' _ hv l hd h => by (show (vs' 10) = ptr ((bx g1).add 2)); rw [hv 10 (anyb rfl)]; exact h) (Sups.cons (fun vs vs' W W' _ hv l hd h => by (show (vs' 11) = vS x0.Who); rw [hv 11 (anyb rfl)]; exact h) (Sups.cons (fun vs vs' W W' _ hv l hd h => by (show (vs' 12) = vS q19); rw [hv 12 (anyb rfl)]; exact h) (Sups.cons (fun vs vs' W W' _ hv l hd h => by (show (vs' 13) = vS q21); rw [hv 13 (anyb rfl)]; exact h) (Sups.cons (fun vs vs' W W' _ hv l hd h => by (show (vs' 14) = vS q21); rw [hv 14 (anyb rfl)]; exact h) Sups.nil))))))))))))))), ?_⟩
 ·intro vs W lW hN
  obtain ⟨W26, hW26⟩ : ∃ X, X = W := ⟨W, rfl⟩
  subst hW26
  refine Tr.mono (T.call rfl (p79 (k0 := 3)  e7)) ?_
  rintro v0_29 _ ⟨W29, rfl, l29, ⟨_, rfl, f29_0⟩⟩
  exact ⟨W29, rfl, l29, (show Ow W29 3 [] [v0_29] z6 from f29_0)⟩
 ·intro vs W lW hN
  obtain ⟨W32, hW32⟩ : ∃ X, X = W := ⟨W, rfl⟩
  subst hW32
  refine Tr.mono (Run.tr (R.fa rfl)) ?_
  rintro _ _ ⟨hu, rfl⟩
  obtain rfl := hu.symm
  exact ⟨W32, rfl, Le.refl _ _, (show (ptr ((bx g1).add 0) : Value) = ptr ((bx g1).add 0) from rfl)⟩
 ·intro vs W lW hN
  obtain ⟨W35, hW35⟩ : ∃ X, X = W := ⟨W, rfl⟩
  subst hW35
  have e1_ : vs 1 = ptr ((bx g1).add 0) := (hN 1 (anyb rfl))
  obtain ⟨vs, rfl⟩ := up_eq e1_
  refine Tr.mono (Run.tr (R.ld (v := vI x0.Kind) rfl rfl ((b25.up lW rfl).cell rfl))) ?_
  rintro _ _ ⟨hu, rfl⟩
  obtain rfl := hu.symm
  exact ⟨W35, rfl, Le.refl _ _, (show (vI x0.Kind : Value) = vI x0.Kind from rfl)⟩
 ·intro vs W lW hN
  obtain ⟨W38, hW38⟩ : ∃ X, X = W := ⟨W, rfl⟩
  subst hW38
  obtain ⟨pv0, e0_⟩ : ∃ v, vs 0 = v := ⟨_, rfl⟩
  obtain ⟨vs, rfl⟩ := up_eq e0_
  have o41 : Ow W38 3 [] [pv0] z6 := (hN 0 (anyb rfl))
  have e2_ : vs 2 = vI x0.Kind := (hN 2 (anyb rfl))
  obtain ⟨vs, rfl⟩ := up_eq e2_
  refine Tr.mono (Run.tr (R.ix (α := Str) o41.rd e12 rfl rfl rfl)) ?_
  rintro _ _ ⟨hu, rfl⟩
  obtain rfl := hu.symm
  exact ⟨W38, rfl, Le.refl _ _, (show (ptr ((slA pv0).add ((x0.Kind).toNat * Rp.sz (Str))) : Value) = ptr ((slA pv0).add ((x0.Kind).toNat * Rp.sz (Str))) from rfl)⟩
 ·intro vs W lW hN
  obtain ⟨W42, hW42⟩ : ∃ X, X = W := ⟨W, rfl⟩
  subst hW42
  obtain ⟨pv0, e0_⟩ : ∃ v, vs 0 = v := ⟨_, rfl⟩
  obtain ⟨vs, rfl⟩ := up_eq e0_
  have o45 : Ow W42 3 [] [pv0] z6 := (hN 0 (anyb rfl))
  have e3_ : vs 3 = ptr ((slA pv0).add ((x0.Kind).toNat * Rp.sz (Str))) := (hN 3 (anyb rfl))
  obtain ⟨vs, rfl⟩ := up_eq e3_
  refine Tr.mono (Run.tr (R.ld rfl rfl (o45.rd.at_ e12).str)) ?_
  rintro _ _ ⟨hu, rfl⟩
  obtain rfl := hu.symm
  exact ⟨W42, rfl, Le.refl _ _, (show (vS u11 : Value) = vS u11 from rfl)⟩
 ·intro vs W lW hN
  obtain ⟨W46, hW46⟩ : ∃ X, X = W := ⟨W, rfl⟩
  subst hW46
  have e4_ : vs 4 = vS u11 := (hN 4 (anyb rfl))
  obtain ⟨vs, rfl⟩ := up_eq e4_
  refine Tr.mono (Run.tr (R.sad e14 rfl rfl)) ?_
  rintro _ _ ⟨hu, rfl⟩
  obtain rfl := hu.symm
  exact ⟨W46, rfl, Le.refl _ _, (show (vS q13 : Value) = vS q13 from rfl)⟩
 ·intro vs W lW hN
  obtain ⟨W49, hW49⟩ : ∃ X, X = W := ⟨W, rfl⟩
  subst hW49
  refine Tr.mono (Run.tr (R.fa rfl)) ?_
  rintro _ _ ⟨hu, rfl⟩
  obtain rfl := hu.symm
  exact ⟨W49, rfl, Le.refl _ _, (show (ptr ((bx g1).add 1) : Value) = ptr ((bx g1).add 1) from rfl)⟩
 ·intro vs W lW hN
  obtain ⟨W52, hW52⟩ : ∃ X, X = W := ⟨W, rfl⟩
  subst hW52
  have e6_ : vs 6 = ptr ((bx g1).add 1) := (hN 6 (anyb rfl))
  obtain ⟨vs, rfl⟩ := up_eq e6_
  refine Tr.mono (Run.tr (R.ld (v := vS x0.Branch) rfl rfl ((b25.up lW rfl).cell rfl))) ?_
  rintro _ _ ⟨hu, rfl⟩
  obtain rfl := hu.symm
  exact ⟨W52, rfl, Le.refl _ _, (show (vS x0.Branch : Value) = vS x0.Branch from rfl)⟩
 ·intro vs W lW hN
  obtain ⟨W55, hW55⟩ : ∃ X, X = W := ⟨W, rfl⟩
  subst hW55
  have e5_ : vs 5 = vS q13 := (hN 5 (anyb rfl))
  obtain ⟨vs, rfl⟩ := up_eq e5_
  have e7_ : vs 7 = vS x0.Branch := (hN 7 (anyb rfl))
  obtain ⟨vs, rfl⟩ := up_eq e7_
  refine Tr.mono (Run.tr (R.sad e16 rfl rfl)) ?_
  rintro _ _ ⟨hu, rfl⟩
  obtain rfl := hu.symm
  exact ⟨W55, rfl, Le.refl _ _, (show (vS q15 : Value) = vS q15 from rfl)⟩
 ·intro vs W lW hN
  obtain ⟨W58, hW58⟩ : ∃ X, X = W := ⟨W, rfl⟩
  subst hW58
  have e8_ : vs 8 = vS q15 := (hN 8 (anyb rfl))
  obtain ⟨vs, rfl⟩ := up_eq e8_
  refine Tr.mono (Run.tr (R.sad e18 rfl rfl)) ?_
  rintro _ _ ⟨hu, rfl⟩
  obtain rfl := hu.symm
  exact ⟨W58, rfl, Le.refl _ _, (show (vS q17 : Value) = vS q17 from rfl)⟩
 ·intro vs W lW hN
  obtain ⟨W61, hW61⟩ : ∃ X, X = W := ⟨W, rfl⟩
  subst hW61
  refine Tr.mono (Run.tr (R.fa rfl)) ?_
  rintro _ _ ⟨hu, rfl⟩
  obtain rfl := hu.symm
  exact ⟨W61, rfl, Le.refl _ _, (show (ptr ((bx g1).add 2) : Value) = ptr ((bx g1).add 2) from rfl)⟩
 ·intro vs W lW hN
  obtain ⟨W64, hW64⟩ : ∃ X, X = W := ⟨W, rfl⟩
  subst hW64
  have e10_ : vs 10 = ptr ((bx g1).add 2) := (hN 10 (anyb rfl))
  obtain ⟨vs, rfl⟩ := up_eq e10_
  refine Tr.mono (Run.tr (R.ld (v := vS x0.Who) rfl rfl ((b25.up lW rfl).cell rfl))) ?_
  rintro _ _ ⟨hu, rfl⟩
  obtain rfl := hu.symm
  exact ⟨W64, rfl, Le.refl _ _, (show (vS x0.Who : Value) = vS x0.Who from rfl)⟩
 ·intro vs W lW hN
  obtain ⟨W67, hW67⟩ : ∃ X, X = W := ⟨W, rfl⟩
  subst hW67
  have e9_ : vs 9 = vS q17 := (hN 9 (anyb rfl))
  obtain ⟨vs, rfl⟩ := up_eq e9_
  have e11_ : vs 11 = vS x0.Who := (hN 11 (anyb rfl))
  obtain ⟨vs, rfl⟩ := up_eq e11_
  refine Tr.mono (Run.tr (R.sad e20 rfl rfl)) ?_
  rintro _ _ ⟨hu, rfl⟩
  obtain rfl := hu.symm
  exact ⟨W67, rfl, Le.refl _ _, (show (vS q19 : Value) = vS q19 from rfl)⟩
 ·intro vs W lW hN
  obtain ⟨W70, hW70⟩ : ∃ X, X = W := ⟨W, rfl⟩
  subst hW70
  have e12_ : vs 12 = vS q19 := (hN 12 (anyb rfl))
  obtain ⟨vs, rfl⟩ := up_eq e12_
  refine Tr.mono (Run.tr (R.sad e22 rfl rfl)) ?_
  rintro _ _ ⟨hu, rfl⟩
  obtain rfl := hu.symm
  exact ⟨W70, rfl, Le.refl _ _, (show (vS q21 : Value) = vS q21 from rfl)⟩
 ·intro vs W lW hN
  obtain ⟨W73, hW73⟩ : ∃ X, X = W := ⟨W, rfl⟩
  subst hW73
  have e13_ : vs 13 = vS q21 := (hN 13 (anyb rfl))
  obtain ⟨vs, rfl⟩ := up_eq e13_
  refine Tr.mono (Run.tr (R.as (v := vS q21) rfl)) ?_
  rintro _ _ ⟨hu, rfl⟩
  obtain rfl := hu.symm
  exact ⟨W73, rfl, Le.refl _ _, (show (vS q21 : Value) = vS q21 from rfl)⟩
 ·intro vs W lW hN
  obtain ⟨W76, hW76⟩ : ∃ X, X = W := ⟨W, rfl⟩
  subst hW76
  have a77 := a24.n lW
  have b78 := b25.up lW rfl
  obtain ⟨l76, hl76⟩ : ∃ x, x = lW := ⟨lW, rfl⟩
  obtain ⟨pv0, e0_⟩ : ∃ v, vs 0 = v := ⟨_, rfl⟩
  obtain ⟨vs, rfl⟩ := up_eq e0_
  have o79 : Ow W76 3 [] [pv0] z6 := (hN 0 (anyb rfl))
  have e1_ : vs 1 = ptr ((bx g1).add 0) := (hN 1 (anyb rfl))
  obtain ⟨vs, rfl⟩ := up_eq e1_
  have e2_ : vs 2 = vI x0.Kind := (hN 2 (anyb rfl))
  obtain ⟨vs, rfl⟩ := up_eq e2_
  have e3_ : vs 3 = ptr ((slA pv0).add ((x0.Kind).toNat * Rp.sz (Str))) := (hN 3 (anyb rfl))
  obtain ⟨vs, rfl⟩ := up_eq e3_
  have e4_ : vs 4 = vS u11 := (hN 4 (anyb rfl))
  obtain ⟨vs, rfl⟩ := up_eq e4_
  have e5_ : vs 5 = vS q13 := (hN 5 (anyb rfl))
  obtain ⟨vs, rfl⟩ := up_eq e5_
  have e6_ : vs 6 = ptr ((bx g1).add 1) := (hN 6 (anyb rfl))
  obtain ⟨vs, rfl⟩ := up_eq e6_
  have e7_ : vs 7 = vS x0.Branch := (hN 7 (anyb rfl))
  obtain ⟨vs, rfl⟩ := up_eq e7_
  have e8_ : vs 8 = vS q15 := (hN 8 (anyb rfl))
  obtain ⟨vs, rfl⟩ := up_eq e8_
  have e9_ : vs 9 = vS q17 := (hN 9 (anyb rfl))
  obtain ⟨vs, rfl⟩ := up_eq e9_
  have e10_ : vs 10 = ptr ((bx g1).add 2) := (hN 10 (anyb rfl))
  obtain ⟨vs, rfl⟩ := up_eq e10_
  have e11_ : vs 11 = vS x0.Who := (hN 11 (anyb rfl))
  obtain ⟨vs, rfl⟩ := up_eq e11_
  have e12_ : vs 12 = vS q19 := (hN 12 (anyb rfl))
  obtain ⟨vs, rfl⟩ := up_eq e12_
  have e13_ : vs 13 = vS q21 := (hN 13 (anyb rfl))
  obtain ⟨vs, rfl⟩ := up_eq e13_
  have e14_ : vs 14 = vS q21 := (hN 14 (anyb rfl))
  obtain ⟨vs, rfl⟩ := up_eq e14_
  refine ssr (fl b78 rfl (nl (Cw.block (sr (Lw.eq rfl (Nb rfl (cn hm (fun hm => ?_) fun hm => ?_)))))))
  ·refine Cw.seq (Cw.draw [] [(0, 0), (1, 0), (2, 1), (3, 0), (4, 0), (5, 0), (6, 1), (7, 2), (8, 0), (9, 0)] mixed (by kernel_rfl) fun W81 l81 => ?_)
   have a82 := a77.n l81
   refine Ds rfl (Dfl (b78.up l81) rfl rfl rfl ?_)
   obtain ⟨q85, e86, hm⟩ := ob hm
   refine Mw.p rfl rfl (fun _ => R.sad e86 rfl rfl) ?_
   obtain ⟨q87, e88, hm⟩ := ob hm
   refine Mw.p rfl rfl (fun _ => R.sad e88 rfl rfl) (Dfl (b78.up l81) rfl rfl rfl ?_)
   obtain ⟨z90, e91, hm⟩ := ob hm
   refine Mw.t rfl rfl (T.call rfl (p118  (h0_6.ul a82) e91)) ?_
   rintro _ _ ⟨W92, rfl, l92, rfl⟩
   have a93 := a82.n l92
   refine m0 l92 fun d92 => ?_
   obtain ⟨q96, e97, hm⟩ := ob hm
   exact Mw.p rfl rfl (fun _ => R.sad e97 rfl rfl) (Hs rfl (Mw.nil (.ret (rt hm a93))))
  ·refine sr (Lw.eq rfl (Nb rfl (cn hm (fun hm => ?_) fun hm => ?_)))
   ·refine sr (ms rfl (fl b78 rfl ?_))
    obtain ⟨q99, e100, hm⟩ := ob hm
    exact Lw.r rfl (R.sad e100 rfl rfl) (Ns rfl (.ret (rt hm a77)))
   ·refine sr (Lw.eq rfl (Nb rfl (cn hm (fun hm => ?_) fun hm => ?_)))
    ·refine sr (ms rfl (fl b78 rfl ?_))
     obtain ⟨q102, e103, hm⟩ := ob hm
     refine Lw.r rfl (R.sad e103 rfl rfl) ?_
     obtain ⟨q104, e105, hm⟩ := ob hm
     refine Lw.r rfl (R.sad e105 rfl rfl) (fl b78 rfl ?_)
     obtain ⟨q106, e107, hm⟩ := ob hm
     exact Lw.r rfl (R.sad e107 rfl rfl) (Ns rfl (.ret (rt hm a77)))
    ·obtain ⟨K110, hK110, hm⟩ := jn_e hm
     refine Cw.join 47 49 [47] (fun l w => ∃ y108 W109, CW.w W109 = w ∧ Le [] W76 W109 ∧ l = [vB y108] ∧ K110 y108 = some r) ?_ ?_
     ·rintro _ _ σ ⟨y108, W109, rfl, l109, rfl, hm⟩
      rw [hK110] at hm
      have a111 := a77.n l109
      refine cn hm (fun hm => ?_) fun hm => ?_
      ·refine sr (ms rfl (fl (b78.up l109) rfl ?_))
       obtain ⟨q115, e116, hm⟩ := ob hm
       exact Lw.r rfl (R.sad e116 rfl rfl) (Ns rfl (.ret (rt hm a111)))
      ·refine sk (sr (ms rfl (fl (b78.up l109) rfl (ca hm (fun _ => p119) fun z117 W119 hm l119 => ?_))))
       have a120 := a111.n l119
       obtain ⟨q123, e124, hm⟩ := ob hm
       exact Lw.r rfl (R.sad e124 rfl rfl) (Ns rfl (.ret (rt hm a120)))
     ·refine sr (Lw.eq rfl (Nb rfl (cn hm (fun hm => ?_) fun hm => ?_)))
      ·exact sk ((ag) ⟨((x0.Kind : Int) == (4 : Int)), W76, rfl, Le.refl _ _, rfl, hm⟩)
      ·exact rg (Lw.eq rfl (Nb rfl ((ag) ⟨((x0.Kind : Int) == (5 : Int)), W76, rfl, Le.refl _ _, rfl, hm⟩)))

theorem p82 {x0 v0_6_ r} (h0 : Rd W K [vI x0.Kind, vS x0.Branch, vS x0.Who, vS x0.Path, vS x0.To, vI x0.At, v0_6_] x0) (hm : Vm.impl_opPut x0 = some r) : Q1 82 [.agg [vI x0.Kind, vS x0.Branch, vS x0.Who, vS x0.Path, vS x0.To, vI x0.At, v0_6_].toArray] W [] fun W' v => v = vS r :=
 (c82 (h0.view _) hm).ad (fk 0) fun _ _ e => e

theorem c34 {x0 v0_6_ r} (h0 : Rd W0 [0] [vI x0.Kind, vS x0.Branch, vS x0.Who, vS x0.Path, vS x0.To, vI x0.At, v0_6_] x0) (h99 : Gk 2 0 1 W0 [0]) (hm : Vm.impl_OpPut x0 = some r) : Q0 34 [.agg [vI x0.Kind, vS x0.Branch, vS x0.Who, vS x0.Path, vS x0.To, vI x0.At, v0_6_].toArray] W0 fun Wf v => v = vS r := by
 unfold Vm.impl_OpPut at hm
 obtain ⟨w0_0, he0, h0_6⟩ := Op.split h0
 simp only [List.cons.injEq, and_true, true_and] at he0
 obtain rfl := he0
 refine CallR.of Tryd.func34 rfl rfl rfl rfl (sr (bo 2 rfl fun g1 W1 l1 b1 => ?_))
 have a2 := l1.o
 refine Ns rfl (ssr (la b1 (ca hm (fun _ => p36 (Op.rd (K := [0]) x0.Kind x0.Branch x0.Who x0.Path x0.To x0.At x0.Text (h0_6.ul a2)) (h99.ul a2)) fun z5 W7 hm l7 => ?_)))
 have a8 := a2.n l7
 refine Lw.r rfl (R.not rfl) (nl (cn hm (fun hm => ?_) fun hm => ?_))
 ·exact sr (Ns rfl (.ret (rt hm a8)))
 ·refine sk (sr (la (b1.up l7) (ca hm (fun _ => p82 (Op.rd (K := [0]) x0.Kind x0.Branch x0.Who x0.Path x0.To x0.At x0.Text (h0_6.ul a8))) fun z12 W14 hm l14 => ?_)))
  have a15 := a8.n l14
  exact Ns rfl (.ret (rt hm a15))

theorem p34 {x0 v0_6_ r} (h0 : Rd W K [vI x0.Kind, vS x0.Branch, vS x0.Who, vS x0.Path, vS x0.To, vI x0.At, v0_6_] x0) (h99 : Gk 2 0 1 W K) (hm : Vm.impl_OpPut x0 = some r) : Q1 34 [.agg [vI x0.Kind, vS x0.Branch, vS x0.Who, vS x0.Path, vS x0.To, vI x0.At, v0_6_].toArray] W [] fun W' v => v = vS r :=
 (c34 (h0.view _) (h99.view _) hm).ad (fk 0) fun _ _ e => e

theorem c63 {x0 x1 x2 r} (hm : Vm.spec_l1In x0 x1 x2 = some r) : Q0 63 [vI x0, vI x1, vI x2] W0 fun Wf v => v = vB r := by
 unfold Vm.spec_l1In at hm
 refine CallR.of Tryd.func63 rfl rfl rfl rfl (sr (Nb rfl ?_))
 obtain ⟨K3, hK3, hm⟩ := jn_e hm
 refine Cw.join 7 14 [6] (fun l w => ∃ y1 W2, CW.w W2 = w ∧ Le [] W0 W2 ∧ l = [vB y1] ∧ K3 y1 = some r) ?_ ?_
 ·rintro _ _ σ ⟨y1, W2, rfl, l2, rfl, hm⟩
  rw [hK3] at hm
  have a4 := l2.o
  exact .ret (rt hm a4)
 ·refine rg (mi rfl (mi rfl (Lw.ge rfl (mb rfl (bs hm (fun hc5 hm => ?_) fun hc5 hm => ?_)))))
  ·exact wak 3 hc5 (mi rfl (mi rfl (Lw.le rfl (Pb hc5 rfl (Nb rfl ((ag) ⟨decide ((x0 : Int) ≤ (x2 : Int)), W0, rfl, Le.refl _ _, rfl, hm⟩))))))
  ·exact psk 3 hc5 rfl (Pb hc5 rfl (Nb rfl ((ag) ⟨false, W0, rfl, Le.refl _ _, rfl, hm⟩)))

theorem p63 {x0 x1 x2 r} (hm : Vm.spec_l1In x0 x1 x2 = some r) : Q1 63 [vI x0, vI x1, vI x2] W [] fun W' v => v = vB r :=
 (c63 (W0 := W.view [] [])  hm).ad (fk 0) fun _ _ e => e

theorem c98 {x0 r} (hm : Vm.spec_l4Name x0 = some r) : Q0 98 [vS x0] W0 fun Wf v => v = vB r := by
 unfold Vm.spec_l4Name at hm
 refine CallR.of Tryd.func98 rfl rfl rfl rfl (sr (Nb rfl (ssr (Ni rfl (Cw.block ?_)))))
 obtain ⟨K4, hK4, hm⟩ := jn_e hm
 refine Cw.loop 4 31 [2, 3] (fun m l w => ∃ y1 y2 W3, CW.w W3 = w ∧ Le [] W0 W3 ∧ l = [vB y1, vI y2] ∧ Vm.spec_l4Name_l1 x0 K4 m y1 y2 = some r) _ ⟨false, 0, W0, rfl, Le.refl _ _, rfl, hm⟩ ?_
 rintro (_ | m5) _ _ σ ⟨y1, y2, W3, rfl, l3, rfl, hm⟩
 ·cases hm
 unfold Vm.spec_l4Name_l1 at hm
 have a6 := l3.o
 refine ssr (mi rfl (ms rfl (Lw.r rfl (R.lenS rfl) (Lw.lt rfl (nl (cn hm (fun hm => ?_) fun hm => ?_))))))
 ·refine sk (Cw.seq (Cw.block ?_))
  obtain ⟨K10, hK10, hm⟩ := jn_e hm
  refine Cw.join 10 31 [31] (fun l w => ∃ y8 W9, CW.w W9 = w ∧ Le [] W3 W9 ∧ l = [vB y8] ∧ K10 y8 = some r) ?_ ?_
  ·rintro _ _ σ ⟨y8, W9, rfl, l9, rfl, hm⟩
   rw [hK10] at hm
   have a11 := a6.n l9
   refine cn hm (fun hm => ?_) fun hm => ?_
   ·exact sr (Nb rfl (.ret (rt hm a11)))
   ·exact sk (rg (mi rfl (Lw.add rfl (Ni rfl ((agm) ⟨y1, w64 (y2 + 1), W9, rfl, (l3.j l9).w, rfl, hm⟩)))))
  ·refine rg (ms rfl (mi rfl ?_))
   obtain ⟨u13, e14, hm⟩ := ob hm
   refine Lw.r rfl (R.chm e14 rfl rfl) (Lw.lt rfl (mb rfl (bs hm (fun hc15 hm => ?_) fun hc15 hm => ?_)))
   ·refine psk 4 hc15 rfl (Pb hc15 rfl (mb rfl (wak 5 rfl (ms rfl (mi rfl ?_)))))
    obtain ⟨u16, e17, hm⟩ := ob hm
    refine Lw.r rfl (R.chm e17 rfl rfl) (Lw.lt rfl (mb rfl (bs hm (fun hc18 hm => ?_) fun hc18 hm => ?_)))
    ·exact psk 4 hc18 rfl (wak 1 rfl (Pb hc18 rfl (Pb rfl rfl (nl ((ag) ⟨true, W3, rfl, Le.refl _ _, rfl, hm⟩)))))
    ·refine wak 4 hc18 (ms rfl (mi rfl ?_))
     obtain ⟨u19, e20, hm⟩ := ob hm
     exact Lw.r rfl (R.chm e20 rfl rfl) (Lw.gt rfl (wak 1 rfl (Pb hc18 rfl (Pb rfl rfl (nl ((ag) ⟨decide ((57 : Int) < ((UInt8.toNat u19 : Int) : Int)), W3, rfl, Le.refl _ _, rfl, hm⟩))))))
   ·refine wak 4 hc15 (ms rfl (mi rfl ?_))
    obtain ⟨u21, e22, hm⟩ := ob hm
    refine Lw.r rfl (R.chm e22 rfl rfl) (Lw.gt rfl (Pb hc15 rfl (mb rfl (bs hm (fun hc23 hm => ?_) fun hc23 hm => ?_))))
    ·refine wak 5 hc23 (ms rfl (mi rfl ?_))
     obtain ⟨u24, e25, hm⟩ := ob hm
     refine Lw.r rfl (R.chm e25 rfl rfl) (Lw.lt rfl (mb rfl (bs hm (fun hc26 hm => ?_) fun hc26 hm => ?_)))
     ·exact psk 4 hc26 rfl (wak 1 hc23 (Pb hc26 rfl (Pb hc23 rfl (nl ((ag) ⟨true, W3, rfl, Le.refl _ _, rfl, hm⟩)))))
     ·refine wak 4 hc26 (ms rfl (mi rfl ?_))
      obtain ⟨u27, e28, hm⟩ := ob hm
      exact Lw.r rfl (R.chm e28 rfl rfl) (Lw.gt rfl (wak 1 hc23 (Pb hc26 rfl (Pb hc23 rfl (nl ((ag) ⟨decide ((57 : Int) < ((UInt8.toNat u27 : Int) : Int)), W3, rfl, Le.refl _ _, rfl, hm⟩))))))
    ·exact psk 5 hc23 rfl (puk 4 rfl (psk 1 hc23 rfl (Pb hc23 rfl (nl ((ag) ⟨false, W3, rfl, Le.refl _ _, rfl, hm⟩)))))
 ·refine Cw.exit ?_
  rw [hK4] at hm
  refine sr (ms rfl (Lw.r rfl (R.lenS rfl) (ca hm (fun _ => p63) fun z29 W31 hm l31 => ?_)))
  have a32 := a6.n l31
  exact Nb rfl (.ret (rt hm a32))

theorem p98 {x0 r} (hm : Vm.spec_l4Name x0 = some r) : Q1 98 [vS x0] W [] fun W' v => v = vB r :=
 (c98 (W0 := W.view [] [])  hm).ad (fk 0) fun _ _ e => e

theorem c111 {x0 v0_6_ x1 x2 x3 x4 r} (h0 : Rd W0 [0] [vI x0.Kind, vS x0.Branch, vS x0.Who, vS x0.Path, vS x0.To, vI x0.At, v0_6_] x0) (hm : Vm.spec_l19Bare x0 x1 x2 x3 x4 = some r) : Q0 111 [.agg [vI x0.Kind, vS x0.Branch, vS x0.Who, vS x0.Path, vS x0.To, vI x0.At, v0_6_].toArray, vB x1, vB x2, vB x3, vB x4] W0 fun Wf v => v = vB r := by
 unfold Vm.spec_l19Bare at hm
 obtain ⟨w0_0, he0, h0_6⟩ := Op.split h0
 simp only [List.cons.injEq, and_true, true_and] at he0
 obtain rfl := he0
 refine CallR.of Tryd.func111 rfl rfl rfl rfl (sr (bo 2 rfl fun g1 W1 l1 b1 => ?_))
 have a2 := l1.o
 refine Nb rfl ?_
 obtain ⟨K5, hK5, hm⟩ := jn_e hm
 refine Cw.join 11 41 [10] (fun l w => ∃ y3 W4, CW.w W4 = w ∧ Le [] W1 W4 ∧ l = [vB y3] ∧ K5 y3 = some r) ?_ ?_
 ·rintro _ _ σ ⟨y3, W4, rfl, l4, rfl, hm⟩
  rw [hK5] at hm
  have a6 := a2.n l4
  exact .ret (rt hm a6)
 ·refine rg (mb rfl (mb rfl (bs hm (fun hc8 hm => ?_) fun hc8 hm => ?_)))
  ·refine psk 3 hc8 rfl (Pb hc8 rfl (mb rfl (wak 2 rfl (mb rfl (mb rfl (bs hm (fun hc9 hm => ?_) fun hc9 hm => ?_))))))
   ·refine psk 3 hc9 rfl (wak 1 rfl (Pb hc9 rfl (Pb rfl rfl (mb rfl (wak 2 rfl (mb rfl (mb rfl (bs hm (fun hc10 hm => ?_) fun hc10 hm => ?_))))))))
    ·refine psk 3 hc10 rfl (wak 1 rfl (Pb hc10 rfl (Pb rfl rfl (mb rfl (wak 2 rfl (mb rfl (mb rfl (bs hm (fun hc11 hm => ?_) fun hc11 hm => ?_))))))))
     ·exact psk 4 hc11 rfl (wak 1 rfl (Pb hc11 rfl (Pb rfl rfl (Nb rfl ((ag) ⟨true, W1, rfl, Le.refl _ _, rfl, hm⟩)))))
     ·exact wak 4 hc11 (fl b1 rfl (Lw.ln x0.Text (h0_6.ul a2) rfl (Lw.eq rfl (wak 1 rfl (Pb hc11 rfl (Pb rfl rfl (Nb rfl ((ag) ⟨(((x0.Text.length : Int) : Int) == (0 : Int)), W1, rfl, Le.refl _ _, rfl, hm⟩))))))))
    ·refine wak 3 hc10 (fl b1 rfl (Lw.eq rfl (wak 1 rfl (Pb hc10 rfl (Pb rfl rfl (mb rfl (bs hm (fun hc13 hm => ?_) fun hc13 hm => ?_)))))))
     ·refine wak 2 hc13 (mb rfl (mb rfl (bs hm (fun hc14 hm => ?_) fun hc14 hm => ?_)))
      ·exact psk 4 hc14 rfl (wak 1 hc13 (Pb hc14 rfl (Pb hc13 rfl (Nb rfl ((ag) ⟨true, W1, rfl, Le.refl _ _, rfl, hm⟩)))))
      ·exact wak 4 hc14 (fl b1 rfl (Lw.ln x0.Text (h0_6.ul a2) rfl (Lw.eq rfl (wak 1 hc13 (Pb hc14 rfl (Pb hc13 rfl (Nb rfl ((ag) ⟨(((x0.Text.length : Int) : Int) == (0 : Int)), W1, rfl, Le.refl _ _, rfl, hm⟩))))))))
     ·exact psk 2 hc13 rfl (puk 4 rfl (psk 1 hc13 rfl (Pb hc13 rfl (Nb rfl ((ag) ⟨false, W1, rfl, Le.refl _ _, rfl, hm⟩)))))
   ·refine wak 3 hc9 (fl b1 rfl (Lw.seq rfl (wak 1 rfl (Pb hc9 rfl (Pb rfl rfl (mb rfl (bs hm (fun hc16 hm => ?_) fun hc16 hm => ?_)))))))
    ·refine wak 2 hc16 (mb rfl (mb rfl (bs hm (fun hc17 hm => ?_) fun hc17 hm => ?_)))
     ·refine psk 3 hc17 rfl (wak 1 hc16 (Pb hc17 rfl (Pb hc16 rfl (mb rfl (wak 2 rfl (mb rfl (mb rfl (bs hm (fun hc18 hm => ?_) fun hc18 hm => ?_))))))))
      ·exact psk 4 hc18 rfl (wak 1 rfl (Pb hc18 rfl (Pb rfl rfl (Nb rfl ((ag) ⟨true, W1, rfl, Le.refl _ _, rfl, hm⟩)))))
      ·exact wak 4 hc18 (fl b1 rfl (Lw.ln x0.Text (h0_6.ul a2) rfl (Lw.eq rfl (wak 1 rfl (Pb hc18 rfl (Pb rfl rfl (Nb rfl ((ag) ⟨(((x0.Text.length : Int) : Int) == (0 : Int)), W1, rfl, Le.refl _ _, rfl, hm⟩))))))))
     ·refine wak 3 hc17 (fl b1 rfl (Lw.eq rfl (wak 1 hc16 (Pb hc17 rfl (Pb hc16 rfl (mb rfl (bs hm (fun hc20 hm => ?_) fun hc20 hm => ?_)))))))
      ·refine wak 2 hc20 (mb rfl (mb rfl (bs hm (fun hc21 hm => ?_) fun hc21 hm => ?_)))
       ·exact psk 4 hc21 rfl (wak 1 hc20 (Pb hc21 rfl (Pb hc20 rfl (Nb rfl ((ag) ⟨true, W1, rfl, Le.refl _ _, rfl, hm⟩)))))
       ·exact wak 4 hc21 (fl b1 rfl (Lw.ln x0.Text (h0_6.ul a2) rfl (Lw.eq rfl (wak 1 hc20 (Pb hc21 rfl (Pb hc20 rfl (Nb rfl ((ag) ⟨(((x0.Text.length : Int) : Int) == (0 : Int)), W1, rfl, Le.refl _ _, rfl, hm⟩))))))))
      ·exact psk 2 hc20 rfl (puk 4 rfl (psk 1 hc20 rfl (Pb hc20 rfl (Nb rfl ((ag) ⟨false, W1, rfl, Le.refl _ _, rfl, hm⟩)))))
    ·exact psk 2 hc16 rfl (puk 3 rfl (psk 1 hc16 rfl (Pb hc16 rfl (mb rfl (psk 2 rfl rfl (puk 4 rfl (psk 1 rfl rfl (Pb rfl rfl (Nb rfl ((ag) ⟨false, W1, rfl, Le.refl _ _, rfl, hm⟩))))))))))
  ·refine wak 3 hc8 (fl b1 rfl (Lw.seq rfl (Pb hc8 rfl (mb rfl (bs hm (fun hc23 hm => ?_) fun hc23 hm => ?_)))))
   ·refine wak 2 hc23 (mb rfl (mb rfl (bs hm (fun hc24 hm => ?_) fun hc24 hm => ?_)))
    ·refine psk 3 hc24 rfl (wak 1 hc23 (Pb hc24 rfl (Pb hc23 rfl (mb rfl (wak 2 rfl (mb rfl (mb rfl (bs hm (fun hc25 hm => ?_) fun hc25 hm => ?_))))))))
     ·refine psk 3 hc25 rfl (wak 1 rfl (Pb hc25 rfl (Pb rfl rfl (mb rfl (wak 2 rfl (mb rfl (mb rfl (bs hm (fun hc26 hm => ?_) fun hc26 hm => ?_))))))))
      ·exact psk 4 hc26 rfl (wak 1 rfl (Pb hc26 rfl (Pb rfl rfl (Nb rfl ((ag) ⟨true, W1, rfl, Le.refl _ _, rfl, hm⟩)))))
      ·exact wak 4 hc26 (fl b1 rfl (Lw.ln x0.Text (h0_6.ul a2) rfl (Lw.eq rfl (wak 1 rfl (Pb hc26 rfl (Pb rfl rfl (Nb rfl ((ag) ⟨(((x0.Text.length : Int) : Int) == (0 : Int)), W1, rfl, Le.refl _ _, rfl, hm⟩))))))))
     ·refine wak 3 hc25 (fl b1 rfl (Lw.eq rfl (wak 1 rfl (Pb hc25 rfl (Pb rfl rfl (mb rfl (bs hm (fun hc28 hm => ?_) fun hc28 hm => ?_)))))))
      ·refine wak 2 hc28 (mb rfl (mb rfl (bs hm (fun hc29 hm => ?_) fun hc29 hm => ?_)))
       ·exact psk 4 hc29 rfl (wak 1 hc28 (Pb hc29 rfl (Pb hc28 rfl (Nb rfl ((ag) ⟨true, W1, rfl, Le.refl _ _, rfl, hm⟩)))))
       ·exact wak 4 hc29 (fl b1 rfl (Lw.ln x0.Text (h0_6.ul a2) rfl (Lw.eq rfl (wak 1 hc28 (Pb hc29 rfl (Pb hc28 rfl (Nb rfl ((ag) ⟨(((x0.Text.length : Int) : Int) == (0 : Int)), W1, rfl, Le.refl _ _, rfl, hm⟩))))))))
      ·exact psk 2 hc28 rfl (puk 4 rfl (psk 1 hc28 rfl (Pb hc28 rfl (Nb rfl ((ag) ⟨false, W1, rfl, Le.refl _ _, rfl, hm⟩)))))
    ·refine wak 3 hc24 (fl b1 rfl (Lw.seq rfl (wak 1 hc23 (Pb hc24 rfl (Pb hc23 rfl (mb rfl (bs hm (fun hc31 hm => ?_) fun hc31 hm => ?_)))))))
     ·refine wak 2 hc31 (mb rfl (mb rfl (bs hm (fun hc32 hm => ?_) fun hc32 hm => ?_)))
      ·refine psk 3 hc32 rfl (wak 1 hc31 (Pb hc32 rfl (Pb hc31 rfl (mb rfl (wak 2 rfl (mb rfl (mb rfl (bs hm (fun hc33 hm => ?_) fun hc33 hm => ?_))))))))
       ·exact psk 4 hc33 rfl (wak 1 rfl (Pb hc33 rfl (Pb rfl rfl (Nb rfl ((ag) ⟨true, W1, rfl, Le.refl _ _, rfl, hm⟩)))))
       ·exact wak 4 hc33 (fl b1 rfl (Lw.ln x0.Text (h0_6.ul a2) rfl (Lw.eq rfl (wak 1 rfl (Pb hc33 rfl (Pb rfl rfl (Nb rfl ((ag) ⟨(((x0.Text.length : Int) : Int) == (0 : Int)), W1, rfl, Le.refl _ _, rfl, hm⟩))))))))
      ·refine wak 3 hc32 (fl b1 rfl (Lw.eq rfl (wak 1 hc31 (Pb hc32 rfl (Pb hc31 rfl (mb rfl (bs hm (fun hc35 hm => ?_) fun hc35 hm => ?_)))))))
       ·refine wak 2 hc35 (mb rfl (mb rfl (bs hm (fun hc36 hm => ?_) fun hc36 hm => ?_)))
        ·exact psk 4 hc36 rfl (wak 1 hc35 (Pb hc36 rfl (Pb hc35 rfl (Nb rfl ((ag) ⟨true, W1, rfl, Le.refl _ _, rfl, hm⟩)))))
        ·exact wak 4 hc36 (fl b1 rfl (Lw.ln x0.Text (h0_6.ul a2) rfl (Lw.eq rfl (wak 1 hc35 (Pb hc36 rfl (Pb hc35 rfl (Nb rfl ((ag) ⟨(((x0.Text.length : Int) : Int) == (0 : Int)), W1, rfl, Le.refl _ _, rfl, hm⟩))))))))
       ·exact psk 2 hc35 rfl (puk 4 rfl (psk 1 hc35 rfl (Pb hc35 rfl (Nb rfl ((ag) ⟨false, W1, rfl, Le.refl _ _, rfl, hm⟩)))))
     ·exact psk 2 hc31 rfl (puk 3 rfl (psk 1 hc31 rfl (Pb hc31 rfl (mb rfl (psk 2 rfl rfl (puk 4 rfl (psk 1 rfl rfl (Pb rfl rfl (Nb rfl ((ag) ⟨false, W1, rfl, Le.refl _ _, rfl, hm⟩))))))))))
   ·exact psk 2 hc23 rfl (puk 3 rfl (psk 1 hc23 rfl (Pb hc23 rfl (mb rfl (psk 2 rfl rfl (puk 3 rfl (psk 1 rfl rfl (Pb rfl rfl (mb rfl (psk 2 rfl rfl (puk 4 rfl (psk 1 rfl rfl (Pb rfl rfl (Nb rfl ((ag) ⟨false, W1, rfl, Le.refl _ _, rfl, hm⟩)))))))))))))))

theorem p111 {x0 v0_6_ x1 x2 x3 x4 r} (h0 : Rd W K [vI x0.Kind, vS x0.Branch, vS x0.Who, vS x0.Path, vS x0.To, vI x0.At, v0_6_] x0) (hm : Vm.spec_l19Bare x0 x1 x2 x3 x4 = some r) : Q1 111 [.agg [vI x0.Kind, vS x0.Branch, vS x0.Who, vS x0.Path, vS x0.To, vI x0.At, v0_6_].toArray, vB x1, vB x2, vB x3, vB x4] W [] fun W' v => v = vB r :=
 (c111 (h0.view _) hm).ad (fk 0) fun _ _ e => e

theorem c72 {x0 x1 x2 r} (hm : Vm.spec_l1Cut x0 x1 x2 = some r) : Q0 72 [vS x0, .int .u8 (UInt8.toNat x1 : Int), vI x2] W0 fun Wf v => ∃ u0, v = u0 ∧ OwS Wf LL [] [u0] r := by
 unfold Vm.spec_l1Cut at hm
 refine CallR.of Tryd.func72 rfl rfl rfl rfl (sr (Nv (.slice none 0 0) rfl (sr (Lw.t rfl (T.lit0 (α := Str) 2 []) ?_))))
 rintro v1 _ ⟨W1, rfl, l1, o1⟩
 have a2 := l1.o
 refine Nv v1 rfl (sr (Ni rfl (ssr (Ni rfl (Cw.block ?_)))))
 obtain ⟨K9, hK9, hm⟩ := jn_e hm
 refine Cw.loop 11 36 [7, 8, 9] (fun m l w => ∃ y3 y6 y7 v4 W8, CW.w W8 = w ∧ Le [2] W1 W8 ∧ l = [v4, vI y6, vI y7] ∧ Ow W8 2 [] [v4] y3 ∧ Vm.spec_l1Cut_l1 x0 x1 x2 K9 m y3 y6 y7 = some r) _ ⟨([] : List Str), 0, 0, v1, W1, rfl, Le.refl _ _, rfl, o1, hm⟩ ?_
 rintro (_ | m10) _ _ σ ⟨y3, y6, y7, v4, W8, rfl, l8, rfl, o5, hm⟩
 ·cases hm
 unfold Vm.spec_l1Cut_l1 at hm
 have a11 := a2.t l8
 refine Cw.seq ?_
 obtain ⟨K14, hK14, hm⟩ := jn_e hm
 refine Cw.join 11 20 [20] (fun l w => ∃ y12 W13, CW.w W13 = w ∧ Le [] W8 W13 ∧ l = [vB y12] ∧ K14 y12 = some r) ?_ ?_
 ·rintro _ _ σ ⟨y12, W13, rfl, l13, rfl, hm⟩
  rw [hK14] at hm
  have a15 := a11.n l13
  have o16 := o5.up l13
  refine cn hm (fun hm => ?_) fun hm => ?_
  ·refine sk ?_
   obtain ⟨K23, hK23, hm⟩ := jn_e hm
   refine Cw.join 23 36 [7, 8] (fun l w => ∃ y18 y21 v19 W22, CW.w W22 = w ∧ Le [2] W13 W22 ∧ l = [v19, vI y21] ∧ Ow W22 2 [] [v19] y18 ∧ K23 y18 y21 = some r) ?_ ?_
   ·rintro _ _ σ ⟨y18, y21, v19, W22, rfl, l22, rfl, o20, hm⟩
    rw [hK23] at hm
    exact rg (mi rfl (Lw.add rfl (Ni rfl ((agm) ⟨y18, y21, w64 (y7 + 1), v19, W22, rfl, ((l8.j l13).j l22).w, rfl, o20, hm⟩))))
   ·refine Cw.block (sr (ms rfl (mi rfl ?_)))
    obtain ⟨u25, e26, hm⟩ := ob hm
    refine Lw.r rfl (R.chm e26 rfl rfl) (mv (.int .u8 (UInt8.toNat x1 : Int)) rfl (Lw.eq rfl (nl (cn hm (fun hm => ?_) fun hm => ?_))))
    ·refine sr (mv v4 rfl (ms rfl (mi rfl (mi rfl ?_))))
     obtain ⟨q28, e29, hm⟩ := ob hm
     refine Lw.r rfl (R.ss e29 rfl (.inr rfl) (.inr rfl)) (Lw.t rfl (T.bs 3 [vS q28] (cs := [vS q28]) rfl rfl (bsv rfl)) ?_)
     rintro _ _ ⟨g30, W30, rfl, rfl, l30, b30⟩
     obtain ⟨q33, e34, hm⟩ := ob hm
     refine Lw.t rfl (T.app1S (α := Str) (K' := []) (o16.up l30) b30 (rdS _) rfl rfl e34) ?_
     rintro v35 _ ⟨W35, rfl, l35, o35⟩
     exact Nv v35 rfl (rg (mi rfl (Lw.add rfl (Ni rfl ((ag) ⟨q33, w64 (y7 + 1), v35, W35, rfl, (l30.j l35).w, rfl, o35, hm⟩)))))
    ·exact sk ((ag) ⟨y3, y6, v4, W13, rfl, Le.refl _ _, rfl, o16, hm⟩)
  ·refine Cw.exit ?_
   rw [hK9] at hm
   refine sr (mv v4 rfl (ms rfl (mi rfl ?_)))
   obtain ⟨q38, e39, hm⟩ := ob hm
   refine Lw.r rfl (R.ss e39 rfl (.inr rfl) (.inl ⟨rfl, rfl⟩)) (Lw.t rfl (T.bs 4 [vS q38] (cs := [vS q38]) rfl rfl (bsv rfl)) ?_)
   rintro _ _ ⟨g40, W40, rfl, rfl, l40, b40⟩
   have a41 := a15.n l40
   obtain ⟨q43, e44, hm⟩ := ob hm
   refine Lw.t rfl (T.app1S (α := Str) (K' := []) (o16.up l40) b40 (rdS _) rfl rfl e44) ?_
   rintro v45 _ ⟨W45, rfl, l45, o45⟩
   have a46 := a41.t l45
   refine Nv v45 rfl ?_
   cases hm
   exact Cw.ret (ret1 rfl (Res.mk a46 ⟨v45, rfl, o45.s.sub rfl rfl⟩))
 ·refine rg (mi rfl (ms rfl (Lw.r rfl (R.lenS rfl) (Lw.lt rfl (mb rfl (bs hm (fun hc48 hm => ?_) fun hc48 hm => ?_))))))
  ·exact wak 4 hc48 (mv v4 rfl (Lw.ln y3 o5.rd rfl (mi rfl (Lw.lt rfl (Pb hc48 rfl (nl ((ag) ⟨decide (((y3.length : Int) : Int) < (x2 : Int)), W8, rfl, Le.refl _ _, rfl, hm⟩)))))))
  ·exact psk 4 hc48 rfl (Pb hc48 rfl (nl ((ag) ⟨false, W8, rfl, Le.refl _ _, rfl, hm⟩)))

theorem p72 {x0 x1 x2 k0 r} (hm : Vm.spec_l1Cut x0 x1 x2 = some r) : Q1 72 [vS x0, .int .u8 (UInt8.toNat x1 : Int), vI x2] W [] fun W' v => ∃ u0, v = u0 ∧ Ow W' k0 [] [u0] r :=
 (c72 (W0 := W.view [] [])  hm).ad (fk k0) fun _ _ ⟨u0, e, f0⟩ => ⟨u0, e, f0.back (fk_LL _)⟩

theorem c112 {x0 r} (hm : Vm.spec_l4Path x0 = some r) : Q0 112 [vS x0] W0 fun Wf v => v = vB r := by
 unfold Vm.spec_l4Path at hm
 refine CallR.of Tryd.func112 rfl rfl rfl rfl (sr (Nb rfl (sr (ms rfl (cr hm (fun _ => p72 (k0 := 2)) ?_)))))
 rintro z1 v0_3 W3 hm l3 ⟨_, rfl, f3_0⟩
 have a4 := l3.o
 refine Nv v0_3 rfl (ssr (Ni rfl (Cw.block ?_)))
 obtain ⟨K8, hK8, hm⟩ := jn_e hm
 refine Cw.loop 7 18 [2, 4] (fun m l w => ∃ y5 y6 W7, CW.w W7 = w ∧ Le [] W3 W7 ∧ l = [vB y5, vI y6] ∧ Vm.spec_l4Path_l1 z1 K8 m y5 y6 = some r) _ ⟨false, 0, W3, rfl, Le.refl _ _, rfl, hm⟩ ?_
 rintro (_ | m9) _ _ σ ⟨y5, y6, W7, rfl, l7, rfl, hm⟩
 ·cases hm
 unfold Vm.spec_l4Path_l1 at hm
 have a10 := a4.n l7
 have o11 := f3_0.up l7
 refine ssr (mi rfl (mv v0_3 rfl (Lw.ln z1 o11.rd rfl (Lw.lt rfl (nl (cn hm (fun hm => ?_) fun hm => ?_))))))
 ·refine sk (Cw.seq (Cw.block (sr (mv v0_3 rfl (mi rfl ?_)))))
  obtain ⟨u13, e14, hm⟩ := ob hm
  refine Lw.r rfl (R.ix (α := Str) o11.rd e14 rfl rfl rfl) (Lw.r rfl (R.ld rfl rfl (o11.rd.at_ e14).str) (ca hm (fun _ => p98) fun z15 W17 hm l17 => ?_))
  have a18 := a10.n l17
  refine Lw.r rfl (R.not rfl) (nl (cn hm (fun hm => ?_) fun hm => ?_))
  ·exact sr (Nb rfl (.ret (rt hm a18)))
  ·exact sk (rg (mi rfl (Lw.add rfl (Ni rfl ((agm) ⟨y5, w64 (y6 + 1), W17, rfl, (l7.j l17).w, rfl, hm⟩)))))
 ·refine Cw.exit ?_
  rw [hK8] at hm
  exact sr (mv v0_3 rfl (Lw.ln z1 o11.rd rfl (Lw.le rfl (Nb rfl (.ret (rt hm a10))))))

theorem p112 {x0 r} (hm : Vm.spec_l4Path x0 = some r) : Q1 112 [vS x0] W [] fun W' v => v = vB r :=
 (c112 (W0 := W.view [] [])  hm).ad (fk 0) fun _ _ e => e

theorem c147 {x0 r} (hm : Vm.spec_l1Line x0 = some r) : Q0 147 [vS x0] W0 fun Wf v => v = vB r := by
 unfold Vm.spec_l1Line at hm
 refine CallR.of Tryd.func147 rfl rfl rfl rfl (sr (Nb rfl (ssr (Ni rfl (Cw.block ?_)))))
 obtain ⟨K4, hK4, hm⟩ := jn_e hm
 refine Cw.loop 4 19 [2, 3] (fun m l w => ∃ y1 y2 W3, CW.w W3 = w ∧ Le [] W0 W3 ∧ l = [vB y1, vI y2] ∧ Vm.spec_l1Line_l1 x0 K4 m y1 y2 = some r) _ ⟨false, 0, W0, rfl, Le.refl _ _, rfl, hm⟩ ?_
 rintro (_ | m5) _ _ σ ⟨y1, y2, W3, rfl, l3, rfl, hm⟩
 ·cases hm
 unfold Vm.spec_l1Line_l1 at hm
 have a6 := l3.o
 refine ssr (mi rfl (ms rfl (Lw.r rfl (R.lenS rfl) (Lw.lt rfl (nl (cn hm (fun hm => ?_) fun hm => ?_))))))
 ·refine sk (Cw.seq (Cw.block ?_))
  obtain ⟨K10, hK10, hm⟩ := jn_e hm
  refine Cw.join 10 19 [19] (fun l w => ∃ y8 W9, CW.w W9 = w ∧ Le [] W3 W9 ∧ l = [vB y8] ∧ K10 y8 = some r) ?_ ?_
  ·rintro _ _ σ ⟨y8, W9, rfl, l9, rfl, hm⟩
   rw [hK10] at hm
   have a11 := a6.n l9
   refine cn hm (fun hm => ?_) fun hm => ?_
   ·exact sr (Nb rfl (.ret (rt hm a11)))
   ·exact sk (rg (mi rfl (Lw.add rfl (Ni rfl ((agm) ⟨y1, w64 (y2 + 1), W9, rfl, (l3.j l9).w, rfl, hm⟩)))))
  ·refine rg (ms rfl (mi rfl ?_))
   obtain ⟨u13, e14, hm⟩ := ob hm
   refine Lw.r rfl (R.chm e14 rfl rfl) (Lw.lt rfl (mb rfl (bs hm (fun hc15 hm => ?_) fun hc15 hm => ?_)))
   ·exact psk 4 hc15 rfl (Pb hc15 rfl (nl ((ag) ⟨true, W3, rfl, Le.refl _ _, rfl, hm⟩)))
   ·refine wak 4 hc15 (ms rfl (mi rfl ?_))
    obtain ⟨u16, e17, hm⟩ := ob hm
    exact Lw.r rfl (R.chm e17 rfl rfl) (Lw.gt rfl (Pb hc15 rfl (nl ((ag) ⟨decide ((126 : Int) < ((UInt8.toNat u16 : Int) : Int)), W3, rfl, Le.refl _ _, rfl, hm⟩))))
 ·refine Cw.exit ?_
  rw [hK4] at hm
  exact sr (ms rfl (Lw.r rfl (R.lenS rfl) (Lw.le rfl (Nb rfl (.ret (rt hm a6))))))

theorem p147 {x0 r} (hm : Vm.spec_l1Line x0 = some r) : Q1 147 [vS x0] W [] fun W' v => v = vB r :=
 (c147 (W0 := W.view [] [])  hm).ad (fk 0) fun _ _ e => e

theorem c131 {x0 v0_ r} (h0 : Rd W0 [0] [v0_] x0) (hm : Vm.spec_l1Ok x0 = some r) : Q0 131 [v0_] W0 fun Wf v => v = vB r := by
 unfold Vm.spec_l1Ok at hm
 refine CallR.of Tryd.func131 rfl rfl rfl rfl (sr (Nb rfl (ssr (Ni rfl (Cw.block ?_)))))
 obtain ⟨K4, hK4, hm⟩ := jn_e hm
 refine Cw.loop 4 15 [2, 3] (fun m l w => ∃ y1 y2 W3, CW.w W3 = w ∧ Le [] W0 W3 ∧ l = [vB y1, vI y2] ∧ Vm.spec_l1Ok_l1 x0 K4 m y1 y2 = some r) _ ⟨false, 0, W0, rfl, Le.refl _ _, rfl, hm⟩ ?_
 rintro (_ | m5) _ _ σ ⟨y1, y2, W3, rfl, l3, rfl, hm⟩
 ·cases hm
 unfold Vm.spec_l1Ok_l1 at hm
 have a6 := l3.o
 refine ssr ?_
 have s7 := h0.ul a6
 refine mi rfl (mv v0_ rfl (Lw.ln x0 s7 rfl (Lw.lt rfl (nl (cn hm (fun hm => ?_) fun hm => ?_)))))
 ·refine sk (Cw.seq (Cw.block (sr (mv v0_ rfl (mi rfl ?_)))))
  obtain ⟨u9, e10, hm⟩ := ob hm
  refine Lw.r rfl (R.ix (α := Str) s7 e10 rfl rfl rfl) (Lw.r rfl (R.ld rfl rfl (s7.at_ e10).str) (ca hm (fun _ => p147) fun z11 W13 hm l13 => ?_))
  have a14 := a6.n l13
  refine Lw.r rfl (R.not rfl) (nl (cn hm (fun hm => ?_) fun hm => ?_))
  ·exact sr (Nb rfl (.ret (rt hm a14)))
  ·exact sk (rg (mi rfl (Lw.add rfl (Ni rfl ((agm) ⟨y1, w64 (y2 + 1), W13, rfl, (l3.j l13).w, rfl, hm⟩)))))
 ·refine Cw.exit ?_
  rw [hK4] at hm
  exact sr (mv v0_ rfl (Lw.ln x0 s7 rfl (Lw.le rfl (Nb rfl (.ret (rt hm a6))))))

theorem p131 {x0 v0_ r} (h0 : Rd W K [v0_] x0) (hm : Vm.spec_l1Ok x0 = some r) : Q1 131 [v0_] W [] fun W' v => v = vB r :=
 (c131 (h0.view _) hm).ad (fk 0) fun _ _ e => e

theorem c113 {x0 v0_ r} (h0 : Rd W0 [0] [v0_] x0) (hm : Vm.spec_l19Lines x0 = some r) : Q0 113 [v0_] W0 fun Wf v => v = vB r := by
 unfold Vm.spec_l19Lines at hm
 refine CallR.of Tryd.func113 rfl rfl rfl rfl (sr (Nb rfl (ssr (Ni rfl (Cw.block ?_)))))
 obtain ⟨K5, hK5, hm⟩ := jn_e hm
 refine Cw.loop 5 26 [2, 3, 4] (fun m l w => ∃ y1 y2 j3 W4, CW.w W4 = w ∧ Le [] W0 W4 ∧ l = [vB y1, vI y2, j3] ∧ Vm.spec_l19Lines_l1 x0 K5 m y1 y2 = some r) _ ⟨false, 0, undef, W0, rfl, Le.refl _ _, rfl, hm⟩ ?_
 rintro (_ | m6) _ _ σ ⟨y1, y2, j3, W4, rfl, l4, rfl, hm⟩
 ·cases hm
 unfold Vm.spec_l19Lines_l1 at hm
 have a7 := l4.o
 refine ssr (mi rfl (mv v0_ rfl (Lw.ln x0 (h0.ul a7) rfl (Lw.lt rfl (nl (cn hm (fun hm => ?_) fun hm => ?_))))))
 ·refine sk (Cw.seq (Cw.block (sr (Ni rfl (Cw.block ?_)))))
  obtain ⟨K13, hK13, hm⟩ := jn_e hm
  refine Cw.loop 11 26 [2, 4] (fun m l w => ∃ y10 y11 W12, CW.w W12 = w ∧ Le [] W4 W12 ∧ l = [vB y10, vI y11] ∧ Vm.spec_l19Lines_l2 x0 y2 K13 m y10 y11 = some r) _ ⟨y1, 0, W4, rfl, Le.refl _ _, rfl, hm⟩ ?_
  rintro (_ | m14) _ _ σ ⟨y10, y11, W12, rfl, l12, rfl, hm⟩
  ·cases hm
  unfold Vm.spec_l19Lines_l2 at hm
  have a15 := a7.n l12
  refine ssr (mi rfl (mv v0_ rfl (mi rfl ?_)))
  obtain ⟨u16, e17, hm⟩ := ob hm
  have s18 := h0.ul a15
  refine Lw.r rfl (R.ix (α := Str) s18 e17 rfl rfl rfl) (Lw.r rfl (R.ld rfl rfl (s18.at_ e17).str) (Lw.r rfl (R.lenS rfl) (Lw.lt rfl (nl (cn hm (fun hm => ?_) fun hm => ?_)))))
  ·refine sk (Cw.seq (Cw.block (sr (mv v0_ rfl (mi rfl ?_)))))
   obtain ⟨u20, e21, hm⟩ := ob hm
   refine Lw.r rfl (R.ix (α := Str) s18 e21 rfl rfl rfl) (Lw.r rfl (R.ld rfl rfl (s18.at_ e21).str) (mi rfl ?_))
   obtain ⟨u22, e23, hm⟩ := ob hm
   refine Lw.r rfl (R.chm e23 rfl rfl) (Lw.eq rfl (nl (cn hm (fun hm => ?_) fun hm => ?_)))
   ·exact sr (Nb rfl (.ret (rt hm a15)))
   ·exact sk (rg (mi rfl (Lw.add rfl (Ni rfl ((agm) ⟨y10, w64 (y11 + 1), W12, rfl, l12, rfl, hm⟩)))))
  ·refine Cw.exit ?_
   rw [hK13] at hm
   exact rg (mi rfl (Lw.add rfl (Ni rfl ((agm) ⟨y10, w64 (y2 + 1), vI y11, W12, rfl, (l4.j l12).w, rfl, hm⟩))))
 ·refine Cw.exit ?_
  rw [hK5] at hm
  refine sr (mv v0_ rfl (ca hm (fun _ => p131 (h0.ul a7)) fun z25 W27 hm l27 => ?_))
  have a28 := a7.n l27
  exact Nb rfl (.ret (rt hm a28))

theorem p113 {x0 v0_ r} (h0 : Rd W K [v0_] x0) (hm : Vm.spec_l19Lines x0 = some r) : Q1 113 [v0_] W [] fun W' v => v = vB r :=
 (c113 (h0.view _) hm).ad (fk 0) fun _ _ e => e

theorem c75 {x0 v0_6_ r} (h0 : Rd W0 [0] [vI x0.Kind, vS x0.Branch, vS x0.Who, vS x0.Path, vS x0.To, vI x0.At, v0_6_] x0) (hm : Vm.spec_l19Ok x0 = some r) : Q0 75 [.agg [vI x0.Kind, vS x0.Branch, vS x0.Who, vS x0.Path, vS x0.To, vI x0.At, v0_6_].toArray] W0 fun Wf v => v = vB r := by
 unfold Vm.spec_l19Ok at hm
 obtain ⟨w0_0, he0, h0_6⟩ := Op.split h0
 simp only [List.cons.injEq, and_true, true_and] at he0
 obtain rfl := he0
 refine CallR.of Tryd.func75 rfl rfl rfl rfl (sr (bo 2 rfl fun g1 W1 l1 b1 => ?_))
 have a2 := l1.o
 refine Nb rfl (Cw.seq ?_)
 obtain ⟨K5, hK5, hm⟩ := jn_e hm
 refine Cw.join 3 12 [12] (fun l w => ∃ y3 W4, CW.w W4 = w ∧ Le [] W1 W4 ∧ l = [vB y3] ∧ K5 y3 = some r) ?_ ?_
 ·rintro _ _ σ ⟨y3, W4, rfl, l4, rfl, hm⟩
  rw [hK5] at hm
  have a6 := a2.n l4
  have b7 := b1.up l4
  refine cn hm (fun hm => ?_) fun hm => ?_
  ·exact sr (Nb rfl (.ret (rt hm a6)))
  ·refine sk (ssr (fl b7 rfl (nl (Cw.block (sr (Lw.eq rfl (Nb rfl (cn hm (fun hm => ?_) fun hm => ?_))))))))
   ·obtain ⟨K12, hK12, hm⟩ := jn_e hm
    refine Cw.join 17 28 [2] (fun l w => ∃ y10 W11, CW.w W11 = w ∧ Le [] W4 W11 ∧ l = [vB y10] ∧ K12 y10 = some r) ?_ ?_
    ·rintro _ _ σ ⟨y10, W11, rfl, l11, rfl, hm⟩
     rw [hK12] at hm
     have a13 := a6.n l11
     exact .ret (rt hm a13)
    ·refine rg (la b7 (ca hm (fun _ => p111 (Op.rd (K := [0]) x0.Kind x0.Branch x0.Who x0.Path x0.To x0.At x0.Text (h0_6.ul a6))) fun z16 W18 hm l18 => ?_))
     have a19 := a6.n l18
     refine mb rfl (bs hm (fun hc21 hm => ?_) fun hc21 hm => ?_)
     ·refine wak 3 hc21 (fl (b7.up l18) rfl (ca hm (fun _ => p112) fun z22 W24 hm l24 => ?_))
      have a25 := a19.n l24
      refine Pb hc21 rfl (mb rfl (bs hm (fun hc27 hm => ?_) fun hc27 hm => ?_))
      ·exact wak 3 hc27 (fl ((b7.up l18).up l24) rfl (ca hm (fun _ => p113 (h0_6.ul a25)) fun z29 W31 hm l31 => Pb hc27 rfl (Nb rfl ((ag) ⟨z29, W31, rfl, ((l18.j l24).j l31).w, rfl, hm⟩))))
      ·exact psk 3 hc27 rfl (Pb hc27 rfl (Nb rfl ((ag) ⟨false, W24, rfl, (l18.j l24).w, rfl, hm⟩)))
     ·exact psk 3 hc21 rfl (Pb hc21 rfl (mb rfl (psk 3 rfl rfl (Pb rfl rfl (Nb rfl ((ag) ⟨false, W18, rfl, l18, rfl, hm⟩))))))
   ·refine sr (Lw.eq rfl (Nb rfl (cn hm (fun hm => ?_) fun hm => ?_)))
    ·obtain ⟨K37, hK37, hm⟩ := jn_e hm
     refine Cw.join 31 37 [2] (fun l w => ∃ y35 W36, CW.w W36 = w ∧ Le [] W4 W36 ∧ l = [vB y35] ∧ K37 y35 = some r) ?_ ?_
     ·rintro _ _ σ ⟨y35, W36, rfl, l36, rfl, hm⟩
      rw [hK37] at hm
      have a38 := a6.n l36
      exact .ret (rt hm a38)
     ·refine rg (la b7 (ca hm (fun _ => p111 (Op.rd (K := [0]) x0.Kind x0.Branch x0.Who x0.Path x0.To x0.At x0.Text (h0_6.ul a6))) fun z41 W43 hm l43 => mb rfl (bs hm (fun hc46 hm => ?_) fun hc46 hm => ?_)))
      ·exact wak 3 hc46 (fl (b7.up l43) rfl (ca hm (fun _ => p112) fun z47 W49 hm l49 => Pb hc46 rfl (Nb rfl ((ag) ⟨z47, W49, rfl, (l43.j l49).w, rfl, hm⟩))))
      ·exact psk 3 hc46 rfl (Pb hc46 rfl (Nb rfl ((ag) ⟨false, W43, rfl, l43, rfl, hm⟩)))
    ·refine sr (Lw.eq rfl (Nb rfl (cn hm (fun hm => ?_) fun hm => ?_)))
     ·obtain ⟨K55, hK55, hm⟩ := jn_e hm
      refine Cw.join 40 51 [2] (fun l w => ∃ y53 W54, CW.w W54 = w ∧ Le [] W4 W54 ∧ l = [vB y53] ∧ K55 y53 = some r) ?_ ?_
      ·rintro _ _ σ ⟨y53, W54, rfl, l54, rfl, hm⟩
       rw [hK55] at hm
       have a56 := a6.n l54
       exact .ret (rt hm a56)
      ·refine rg (la b7 (ca hm (fun _ => p111 (Op.rd (K := [0]) x0.Kind x0.Branch x0.Who x0.Path x0.To x0.At x0.Text (h0_6.ul a6))) fun z59 W61 hm l61 => mb rfl (bs hm (fun hc64 hm => ?_) fun hc64 hm => ?_)))
       ·refine wak 3 hc64 (fl (b7.up l61) rfl (ca hm (fun _ => p112) fun z65 W67 hm l67 => Pb hc64 rfl (mb rfl (bs hm (fun hc70 hm => ?_) fun hc70 hm => ?_))))
        ·exact wak 3 hc70 (fl ((b7.up l61).up l67) rfl (ca hm (fun _ => p112) fun z71 W73 hm l73 => Pb hc70 rfl (Nb rfl ((ag) ⟨z71, W73, rfl, ((l61.j l67).j l73).w, rfl, hm⟩))))
        ·exact psk 3 hc70 rfl (Pb hc70 rfl (Nb rfl ((ag) ⟨false, W67, rfl, (l61.j l67).w, rfl, hm⟩)))
       ·exact psk 3 hc64 rfl (Pb hc64 rfl (mb rfl (psk 3 rfl rfl (Pb rfl rfl (Nb rfl ((ag) ⟨false, W61, rfl, l61, rfl, hm⟩))))))
     ·obtain ⟨K78, hK78, hm⟩ := jn_e hm
      refine Cw.join 52 54 [52] (fun l w => ∃ y76 W77, CW.w W77 = w ∧ Le [] W4 W77 ∧ l = [vB y76] ∧ K78 y76 = some r) ?_ ?_
      ·rintro _ _ σ ⟨y76, W77, rfl, l77, rfl, hm⟩
       rw [hK78] at hm
       have a79 := a6.n l77
       have b80 := b7.up l77
       refine cn hm (fun hm => ?_) fun hm => ?_
       ·obtain ⟨K84, hK84, hm⟩ := jn_e hm
        refine Cw.join 55 61 [2] (fun l w => ∃ y82 W83, CW.w W83 = w ∧ Le [] W77 W83 ∧ l = [vB y82] ∧ K84 y82 = some r) ?_ ?_
        ·rintro _ _ σ ⟨y82, W83, rfl, l83, rfl, hm⟩
         rw [hK84] at hm
         have a85 := a79.n l83
         exact .ret (rt hm a85)
        ·refine rg (la b80 (ca hm (fun _ => p111 (Op.rd (K := [0]) x0.Kind x0.Branch x0.Who x0.Path x0.To x0.At x0.Text (h0_6.ul a79))) fun z88 W90 hm l90 => mb rfl (bs hm (fun hc93 hm => ?_) fun hc93 hm => ?_)))
         ·exact wak 3 hc93 (fl (b80.up l90) rfl (ca hm (fun _ => p98) fun z94 W96 hm l96 => Pb hc93 rfl (Nb rfl ((ag) ⟨z94, W96, rfl, (l90.j l96).w, rfl, hm⟩))))
         ·exact psk 3 hc93 rfl (Pb hc93 rfl (Nb rfl ((ag) ⟨false, W90, rfl, l90, rfl, hm⟩)))
       ·obtain ⟨K101, hK101, hm⟩ := jn_e hm
        refine Cw.join 62 64 [62] (fun l w => ∃ y99 W100, CW.w W100 = w ∧ Le [] W77 W100 ∧ l = [vB y99] ∧ K101 y99 = some r) ?_ ?_
        ·rintro _ _ σ ⟨y99, W100, rfl, l100, rfl, hm⟩
         rw [hK101] at hm
         have a102 := a79.n l100
         refine cn hm (fun hm => ?_) fun hm => ?_
         ·obtain ⟨K107, hK107, hm⟩ := jn_e hm
          refine Cw.join 65 71 [2] (fun l w => ∃ y105 W106, CW.w W106 = w ∧ Le [] W100 W106 ∧ l = [vB y105] ∧ K107 y105 = some r) ?_ ?_
          ·rintro _ _ σ ⟨y105, W106, rfl, l106, rfl, hm⟩
           rw [hK107] at hm
           have a108 := a102.n l106
           exact .ret (rt hm a108)
          ·refine rg (la (b80.up l100) (ca hm (fun _ => p111 (Op.rd (K := [0]) x0.Kind x0.Branch x0.Who x0.Path x0.To x0.At x0.Text (h0_6.ul a102))) fun z111 W113 hm l113 => mb rfl (bs hm (fun hc116 hm => ?_) fun hc116 hm => ?_)))
           ·exact wak 3 hc116 (fl ((b80.up l100).up l113) rfl (ca hm (fun _ => p63) fun z117 W119 hm l119 => Pb hc116 rfl (Nb rfl ((ag) ⟨z117, W119, rfl, (l113.j l119).w, rfl, hm⟩))))
           ·exact psk 3 hc116 rfl (Pb hc116 rfl (Nb rfl ((ag) ⟨false, W113, rfl, l113, rfl, hm⟩)))
         ·exact sk (sr (Nb rfl (.ret (rt hm a102))))
        ·refine sr (Lw.eq rfl (Nb rfl (cn hm (fun hm => ?_) fun hm => ?_)))
         ·exact sk ((ag) ⟨((x0.Kind : Int) == (6 : Int)), W77, rfl, Le.refl _ _, rfl, hm⟩)
         ·exact rg (Lw.eq rfl (Nb rfl ((ag) ⟨((x0.Kind : Int) == (7 : Int)), W77, rfl, Le.refl _ _, rfl, hm⟩)))
      ·refine sr (Lw.eq rfl (Nb rfl (cn hm (fun hm => ?_) fun hm => ?_)))
       ·exact sk ((ag) ⟨((x0.Kind : Int) == (4 : Int)), W4, rfl, Le.refl _ _, rfl, hm⟩)
       ·exact rg (Lw.eq rfl (Nb rfl ((ag) ⟨((x0.Kind : Int) == (5 : Int)), W4, rfl, Le.refl _ _, rfl, hm⟩)))
 ·refine rg (fl b1 rfl (ca hm (fun _ => p98) fun z124 W126 hm l126 => Lw.r rfl (R.not rfl) (mb rfl (bs hm (fun hc129 hm => ?_) fun hc129 hm => ?_))))
  ·exact psk 4 hc129 rfl (Pb hc129 rfl (nl ((ag) ⟨true, W126, rfl, l126, rfl, hm⟩)))
  ·exact wak 4 hc129 (fl (b1.up l126) rfl (ca hm (fun _ => p98) fun z130 W132 hm l132 => Lw.r rfl (R.not rfl) (Pb hc129 rfl (nl ((ag) ⟨(!z130), W132, rfl, (l126.j l132).w, rfl, hm⟩)))))

theorem p75 {x0 v0_6_ r} (h0 : Rd W K [vI x0.Kind, vS x0.Branch, vS x0.Who, vS x0.Path, vS x0.To, vI x0.At, v0_6_] x0) (hm : Vm.spec_l19Ok x0 = some r) : Q1 75 [.agg [vI x0.Kind, vS x0.Branch, vS x0.Who, vS x0.Path, vS x0.To, vI x0.At, v0_6_].toArray] W [] fun W' v => v = vB r :=
 (c75 (h0.view _) hm).ad (fk 0) fun _ _ e => e

theorem c73 {r} (hm : Vm.spec_l19Words = some r) : Q0 73 [] W0 fun Wf v => ∃ u0, v = u0 ∧ OwS Wf LL [] [u0] r := by
 unfold Vm.spec_l19Words at hm
 refine CallR.of Tryd.func73 rfl rfl rfl rfl (sr (Nv (.slice none 0 0) rfl (sr (Lw.t rfl (T.bsS (α := Str) (xs := [([] : Str), ([115, 101, 116] : Str), ([100, 114, 111, 112] : Str), ([109, 111, 118, 101] : Str), ([102, 111, 114, 107] : Str), ([117, 110, 105, 116, 101] : Str), ([112, 105, 99, 107] : Str), ([98, 97, 99, 107] : Str)]) 2 [] (W := W0) [vS ([] : Str), vS ([115, 101, 116] : Str), vS ([100, 114, 111, 112] : Str), vS ([109, 111, 118, 101] : Str), vS ([102, 111, 114, 107] : Str), vS ([117, 110, 105, 116, 101] : Str), vS ([112, 105, 99, 107] : Str), vS ([98, 97, 99, 107] : Str)] (Each.cons ((rdS _)) (Each.cons ((rdS _)) (Each.cons ((rdS _)) (Each.cons ((rdS _)) (Each.cons ((rdS _)) (Each.cons ((rdS _)) (Each.cons ((rdS _)) (Each.cons ((rdS _)) Each.nil)))))))) rfl) ?_))))
 rintro v1 _ ⟨W1, rfl, l1, o1⟩
 have a2 := l1.o
 refine Nv v1 rfl ?_
 cases hm
 exact Cw.ret (ret1 rfl (Res.mk a2 ⟨v1, rfl, o1.s.sub rfl rfl⟩))

theorem p73 {k0 r} (hm : Vm.spec_l19Words = some r) : Q1 73 [] W [] fun W' v => ∃ u0, v = u0 ∧ Ow W' k0 [] [u0] r :=
 (c73 (W0 := W.view [] [])  hm).ad (fk k0) fun _ _ ⟨u0, e, f0⟩ => ⟨u0, e, f0.back (fk_LL _)⟩

theorem c114 (m : Nat) : ∀ {W0 : CW} {x0 : Int} {r : Str}  (hm : Vm.spec_l1Dec_r m x0 = some r), CallR Tryd.prog 114 [vI x0].toArray W0.w (Res W0 LL fun Wf v => v = vS r) := by
 induction m with
 | zero => intro W0 x0 r  hm; exact absurd hm (by unfold Vm.spec_l1Dec_r; exact nofun)
 | succ m ih =>
  have p114 : ∀ {W : CW} {x0 : Int} {r : Str}  (hm : Vm.spec_l1Dec_r m x0 = some r), CallR Tryd.prog 114 [vI x0].toArray W.w (Res W [] fun W' v => v = vS r) := fun {W} {x0} {r}  hm => (ih (W0 := W.view [0] [])  hm).ad (fk 0) fun _ _ e => e
  intro W0 x0 r  hm
  unfold Vm.spec_l1Dec_r at hm
  refine CallR.of Tryd.func114 rfl rfl rfl rfl (sr (Ns rfl (ssr (mi rfl (Lw.lt rfl (nl (cn hm (fun hm => ?_) fun hm => ?_)))))))
  ·exact sr (Ns rfl (.ret (rt hm (Le.refl _ _))))
  ·refine sk (ssr (mi rfl (Lw.lt rfl (nl (cn hm (fun hm => ?_) fun hm => ?_)))))
   ·refine sr (mi rfl (Lw.r rfl (R.neg rfl) (ca hm (fun _ => p114) fun z3 W5 hm l5 => ?_)))
    have a6 := l5.o
    obtain ⟨q7, e8, hm⟩ := ob hm
    exact Lw.r rfl (R.sad e8 rfl rfl) (Ns rfl (.ret (rt hm a6)))
   ·refine sk (ssr (mi rfl (Lw.lt rfl (nl (cn hm (fun hm => ?_) fun hm => ?_)))))
    ·refine sr (mi rfl (Lw.add rfl (Lw.r rfl (R.cv8 rfl rfl) (Lw.t rfl (T.bsS (α := Byte) (xs := [(by8 (w64 (48 + x0)))]) 2 [] (W := W0) [.int .u8 (UInt8.toNat (by8 (w64 (48 + x0))) : Int)] (Each.cons ((rdY _)) Each.nil) rfl) ?_))))
     rintro v10 _ ⟨W10, rfl, l10, o10⟩
     have a11 := l10.o
     exact Lw.r rfl (R.cvB (xs := ([(by8 (w64 (48 + x0)))] : List Byte)) o10.rd rfl (fun h => h.1)) (Ns rfl (.ret (rt hm a11)))
    ·refine sk (Cw.seq ?_)
     obtain ⟨z14, e15, hm⟩ := ob hm
     obtain ⟨q20, e21, hm⟩ := ob hm
     refine Cw.par [[], [0], [0, 1], [], [3], [3, 4], [3, 4, 5], [3, 4, 5, 6], [3, 4, 5, 6, 7], [0, 1, 2, 3, 4, 5, 6, 7, 8], [0, 1, 2, 3, 4, 5, 6, 7, 8, 9]] [[], [0], [1], [], [3], [4], [5], [6], [7], [2, 8], [9]] [[], [], [], [], [], [], [], [], [], [], []] [[0], [1], [2], [3], [4], [5], [6], [7], [8], [9], [10]] [[], [], [], [], [], [], [], [3], [], [], []] [0, 1, 2, 3, 4, 5, 6, 7, 8, 9, 10] [] [fun vs W => (vs 0) = vI x0, fun vs W => (vs 1) = vI (w64 (Int.tdiv x0 10)), fun vs W => (vs 2) = vS z14, fun vs W => (vs 3) = vI x0, fun vs W => (vs 4) = vI (Int.tmod x0 10), fun vs W => (vs 5) = vI (w64 (48 + (Int.tmod x0 10))), fun vs W => (vs 6) = .int .u8 (UInt8.toNat (by8 (w64 (48 + (Int.tmod x0 10)))) : Int), fun vs W => Ow W 3 [] [(vs 7)] ([(by8 (w64 (48 + (Int.tmod x0 10))))] : List Byte), fun vs W => (vs 8) = vS (([(by8 (w64 (48 + (Int.tmod x0 10))))] : List Byte) : Str), fun vs W => (vs 9) = vS q20, fun vs W => (vs 10) = vS q20] [] mixed (by kernel_rfl) rfl AllF.nil ?_
     intro W22 l22
     have a23 := l22.o
     refine ⟨(Steps.cons ?_ (Steps.cons ?_ (Steps.cons ?_ (Steps.cons ?_ (Steps.cons ?_ (Steps.cons ?_ (Steps.cons ?_ (Steps.cons ?_ (Steps.cons ?_ (Steps.cons ?_ (Steps.cons ?_ Steps.nil))))))))))), (Sups.cons (fun vs vs' W W' _ hv l hd h => by (show (vs' 0) = vI x0); rw [hv 0 (anyb rfl)]; exact h) (Sups.cons (fun vs vs' W W' _ hv l hd h => by (show (vs' 1) = vI (w64 (Int.tdiv x0 10))); rw [hv 1 (anyb rfl)]; exact h) (Sups.cons (fun vs vs' W W' _ hv l hd h => by (show (vs' 2) = vS z14); rw [hv 2 (anyb rfl)]; exact h) (Sups.cons (fun vs vs' W W' _ hv l hd h => by (show (vs' 3) = vI x0); rw [hv 3 (anyb rfl)]; exact h) (Sups.cons (fun vs vs' W W' _ hv l hd h => by (show (vs' 4) = vI (Int.tmod x0 10)); rw [hv 4 (anyb rfl)]; exact h) (Sups.cons (fun vs vs' W W' _ hv l hd h => by (show (vs' 5) = vI (w64 (48 + (Int.tmod x0 10)))); rw [hv 5 (anyb rfl)]; exact h) (Sups.cons (fun vs vs' W W' _ hv l hd h => by (show (vs' 6) = .int .u8 (UInt8.toNat (by8 (w64 (48 + (Int.tmod x0 10)))) : Int)); rw [hv 6 (anyb rfl)]; exact h) (Sups.cons (fun vs vs' W W' _ hv l hd h => by (show Ow W' 3 [] [(vs' 7)] ([(by8 (w64 (48 + (Int.tmod x0 10))))] : List Byte)); rw [hv 7 (anyb rfl)]; exact h.upv l (disj_mem hd (c := 3) rfl)) (Sups.cons (fun vs vs' W W' _ hv l hd h => by (show (vs' 8) = vS (([(by8 (w64 (48 + (Int.tmod x0 10))))] : List Byte) : Str)); rw [hv 8 (anyb rfl)]; exact h) (Sups.cons (fun vs vs' W W' _ hv l hd h => by (show (vs' 9) = vS q20); rw [hv 9 (anyb rfl)]; exact h) (Sups.cons (fun vs vs' W W' _ hv l hd h => by (show (vs' 10) = vS q20); rw [hv 10 (anyb rfl)]; exact h) Sups.nil))))))))))), ?_⟩
     ·intro vs W lW hN
      obtain ⟨W24, hW24⟩ : ∃ X, X = W := ⟨W, rfl⟩
      subst hW24
      refine Tr.mono (Run.tr (R.mv (v := vI x0) rfl)) ?_
      rintro _ _ ⟨hu, rfl⟩
      obtain rfl := hu.symm
      exact ⟨W24, rfl, Le.refl _ _, (show (vI x0 : Value) = vI x0 from rfl)⟩
     ·intro vs W lW hN
      obtain ⟨W26, hW26⟩ : ∃ X, X = W := ⟨W, rfl⟩
      subst hW26
      have e0_ : vs 0 = vI x0 := (hN 0 (anyb rfl))
      obtain ⟨vs, rfl⟩ := up_eq e0_
      refine Tr.mono (Run.tr (R.quo rfl rfl (by decide))) ?_
      rintro _ _ ⟨hu, rfl⟩
      obtain rfl := hu.symm
      exact ⟨W26, rfl, Le.refl _ _, (show (vI (w64 (Int.tdiv x0 10)) : Value) = vI (w64 (Int.tdiv x0 10)) from rfl)⟩
     ·intro vs W lW hN
      obtain ⟨W28, hW28⟩ : ∃ X, X = W := ⟨W, rfl⟩
      subst hW28
      have e1_ : vs 1 = vI (w64 (Int.tdiv x0 10)) := (hN 1 (anyb rfl))
      obtain ⟨vs, rfl⟩ := up_eq e1_
      refine Tr.mono (T.call rfl (p114   e15)) ?_
      rintro _ _ ⟨W30, rfl, l30, rfl⟩
      exact ⟨W30, rfl, l30, (show (vS z14 : Value) = vS z14 from rfl)⟩
     ·intro vs W lW hN
      obtain ⟨W32, hW32⟩ : ∃ X, X = W := ⟨W, rfl⟩
      subst hW32
      refine Tr.mono (Run.tr (R.mv (v := vI x0) rfl)) ?_
      rintro _ _ ⟨hu, rfl⟩
      obtain rfl := hu.symm
      exact ⟨W32, rfl, Le.refl _ _, (show (vI x0 : Value) = vI x0 from rfl)⟩
     ·intro vs W lW hN
      obtain ⟨W34, hW34⟩ : ∃ X, X = W := ⟨W, rfl⟩
      subst hW34
      have e3_ : vs 3 = vI x0 := (hN 3 (anyb rfl))
      obtain ⟨vs, rfl⟩ := up_eq e3_
      refine Tr.mono (Run.tr (R.rem rfl rfl (by decide))) ?_
      rintro _ _ ⟨hu, rfl⟩
      obtain rfl := hu.symm
      exact ⟨W34, rfl, Le.refl _ _, (show (vI (Int.tmod x0 10) : Value) = vI (Int.tmod x0 10) from rfl)⟩
     ·intro vs W lW hN
      obtain ⟨W36, hW36⟩ : ∃ X, X = W := ⟨W, rfl⟩
      subst hW36
      have e4_ : vs 4 = vI (Int.tmod x0 10) := (hN 4 (anyb rfl))
      obtain ⟨vs, rfl⟩ := up_eq e4_
      refine Tr.mono (Run.tr (R.add rfl rfl)) ?_
      rintro _ _ ⟨hu, rfl⟩
      obtain rfl := hu.symm
      exact ⟨W36, rfl, Le.refl _ _, (show (vI (w64 (48 + (Int.tmod x0 10))) : Value) = vI (w64 (48 + (Int.tmod x0 10))) from rfl)⟩
     ·intro vs W lW hN
      obtain ⟨W38, hW38⟩ : ∃ X, X = W := ⟨W, rfl⟩
      subst hW38
      have e5_ : vs 5 = vI (w64 (48 + (Int.tmod x0 10))) := (hN 5 (anyb rfl))
      obtain ⟨vs, rfl⟩ := up_eq e5_
      refine Tr.mono (Run.tr (R.cv8 rfl rfl)) ?_
      rintro _ _ ⟨hu, rfl⟩
      obtain rfl := hu.symm
      exact ⟨W38, rfl, Le.refl _ _, (show (.int .u8 (UInt8.toNat (by8 (w64 (48 + (Int.tmod x0 10)))) : Int) : Value) = .int .u8 (UInt8.toNat (by8 (w64 (48 + (Int.tmod x0 10)))) : Int) from rfl)⟩
     ·intro vs W lW hN
      obtain ⟨W40, hW40⟩ : ∃ X, X = W := ⟨W, rfl⟩
      subst hW40
      have e6_ : vs 6 = .int .u8 (UInt8.toNat (by8 (w64 (48 + (Int.tmod x0 10)))) : Int) := (hN 6 (anyb rfl))
      obtain ⟨vs, rfl⟩ := up_eq e6_
      refine Tr.mono (T.bsS (α := Byte) (xs := [(by8 (w64 (48 + (Int.tmod x0 10))))]) 3 [] (W := W40) [.int .u8 (UInt8.toNat (by8 (w64 (48 + (Int.tmod x0 10)))) : Int)] (Each.cons ((rdY _)) Each.nil) rfl) ?_
      rintro v42 _ ⟨W42, rfl, l42, o42⟩
      exact ⟨W42, rfl, l42, (show Ow W42 3 [] [v42] ([(by8 (w64 (48 + (Int.tmod x0 10))))] : List Byte) from o42)⟩
     ·intro vs W lW hN
      obtain ⟨W44, hW44⟩ : ∃ X, X = W := ⟨W, rfl⟩
      subst hW44
      obtain ⟨pv7, e7_⟩ : ∃ v, vs 7 = v := ⟨_, rfl⟩
      obtain ⟨vs, rfl⟩ := up_eq e7_
      have o46 : Ow W44 3 [] [pv7] ([(by8 (w64 (48 + (Int.tmod x0 10))))] : List Byte) := (hN 7 (anyb rfl))
      refine Tr.mono (Run.tr (R.cvB (xs := ([(by8 (w64 (48 + (Int.tmod x0 10))))] : List Byte)) o46.rd rfl (fun h => h.1))) ?_
      rintro _ _ ⟨hu, rfl⟩
      obtain rfl := hu.symm
      exact ⟨W44, rfl, Le.refl _ _, (show (vS (([(by8 (w64 (48 + (Int.tmod x0 10))))] : List Byte) : Str) : Value) = vS (([(by8 (w64 (48 + (Int.tmod x0 10))))] : List Byte) : Str) from rfl)⟩
     ·intro vs W lW hN
      obtain ⟨W47, hW47⟩ : ∃ X, X = W := ⟨W, rfl⟩
      subst hW47
      have e2_ : vs 2 = vS z14 := (hN 2 (anyb rfl))
      obtain ⟨vs, rfl⟩ := up_eq e2_
      have e8_ : vs 8 = vS (([(by8 (w64 (48 + (Int.tmod x0 10))))] : List Byte) : Str) := (hN 8 (anyb rfl))
      obtain ⟨vs, rfl⟩ := up_eq e8_
      refine Tr.mono (Run.tr (R.sad e21 rfl rfl)) ?_
      rintro _ _ ⟨hu, rfl⟩
      obtain rfl := hu.symm
      exact ⟨W47, rfl, Le.refl _ _, (show (vS q20 : Value) = vS q20 from rfl)⟩
     ·intro vs W lW hN
      obtain ⟨W49, hW49⟩ : ∃ X, X = W := ⟨W, rfl⟩
      subst hW49
      have e9_ : vs 9 = vS q20 := (hN 9 (anyb rfl))
      obtain ⟨vs, rfl⟩ := up_eq e9_
      refine Tr.mono (Run.tr (R.as (v := vS q20) rfl)) ?_
      rintro _ _ ⟨hu, rfl⟩
      obtain rfl := hu.symm
      exact ⟨W49, rfl, Le.refl _ _, (show (vS q20 : Value) = vS q20 from rfl)⟩
     ·intro vs W lW hN
      obtain ⟨W51, hW51⟩ : ∃ X, X = W := ⟨W, rfl⟩
      subst hW51
      have a52 := a23.n lW
      obtain ⟨l51, hl51⟩ : ∃ x, x = lW := ⟨lW, rfl⟩
      have e0_ : vs 0 = vI x0 := (hN 0 (anyb rfl))
      obtain ⟨vs, rfl⟩ := up_eq e0_
      have e1_ : vs 1 = vI (w64 (Int.tdiv x0 10)) := (hN 1 (anyb rfl))
      obtain ⟨vs, rfl⟩ := up_eq e1_
      have e2_ : vs 2 = vS z14 := (hN 2 (anyb rfl))
      obtain ⟨vs, rfl⟩ := up_eq e2_
      have e3_ : vs 3 = vI x0 := (hN 3 (anyb rfl))
      obtain ⟨vs, rfl⟩ := up_eq e3_
      have e4_ : vs 4 = vI (Int.tmod x0 10) := (hN 4 (anyb rfl))
      obtain ⟨vs, rfl⟩ := up_eq e4_
      have e5_ : vs 5 = vI (w64 (48 + (Int.tmod x0 10))) := (hN 5 (anyb rfl))
      obtain ⟨vs, rfl⟩ := up_eq e5_
      have e6_ : vs 6 = .int .u8 (UInt8.toNat (by8 (w64 (48 + (Int.tmod x0 10)))) : Int) := (hN 6 (anyb rfl))
      obtain ⟨vs, rfl⟩ := up_eq e6_
      obtain ⟨pv7, e7_⟩ : ∃ v, vs 7 = v := ⟨_, rfl⟩
      obtain ⟨vs, rfl⟩ := up_eq e7_
      have o53 : Ow W51 3 [] [pv7] ([(by8 (w64 (48 + (Int.tmod x0 10))))] : List Byte) := (hN 7 (anyb rfl))
      have e8_ : vs 8 = vS (([(by8 (w64 (48 + (Int.tmod x0 10))))] : List Byte) : Str) := (hN 8 (anyb rfl))
      obtain ⟨vs, rfl⟩ := up_eq e8_
      have e9_ : vs 9 = vS q20 := (hN 9 (anyb rfl))
      obtain ⟨vs, rfl⟩ := up_eq e9_
      have e10_ : vs 10 = vS q20 := (hN 10 (anyb rfl))
      obtain ⟨vs, rfl⟩ := up_eq e10_
      exact .ret (rt hm a52)

theorem p114 {x0 r} (hm : Vm.spec_l1Dec x0 = some r) : Q1 114 [vI x0] W [] fun W' v => v = vS r :=
 (c114 (x0.natAbs + 2) (W0 := W.view [] [])  hm).ad (fk 0) fun _ _ e => e

end Go.Sx
