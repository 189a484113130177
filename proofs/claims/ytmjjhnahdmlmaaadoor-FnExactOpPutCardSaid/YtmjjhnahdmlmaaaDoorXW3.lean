/- Walks: each function answers as its model, printed by a program of ours. Conditions: the arguments read as they are given. -/
import Derived.Test.YtmjjhnahdmlmaaaDoorXTs
import Derived.Test.YtmjjhnahdmlmaaaDoorXMd
import Derived.Test.YtmjjhnahdmlmaaaDoorXW0
import Derived.Test.YtmjjhnahdmlmaaaDoorXW2
import Derived.Test.YtmjjhnahdmlmaaaDoorXE
namespace Go.Sx
open Go Go.Proofs Go.Vm Rp
set_option linter.unusedVariables false
set_option linter.unusedSimpArgs false

theorem c52 {V : CW} {x0 : Vm.Op} {v0_6_ : Value} {r : Str} (h0 : Rd V [0] [vI x0.Kind, vS x0.Branch, vS x0.Who, vS x0.Path, vS x0.To, vI x0.At, v0_6_] x0) (hm : Vm.impl_opPut x0 = some r) : CallR Tryd.prog 52 [.agg [vI x0.Kind, vS x0.Branch, vS x0.Who, vS x0.Path, vS x0.To, vI x0.At, v0_6_].toArray].toArray V.w (Res V LL fun Wf v => v = vS r) := by
 unfold Vm.impl_opPut at hm
 obtain ⟨w0_0, he0, h0_6⟩ := Op.split h0
 simp only [List.cons.injEq, and_true, true_and] at he0
 obtain rfl := he0
 obtain ⟨W0, hW0⟩ : ∃ W, W = V := ⟨V, rfl⟩
 subst hW0
 refine CallR.of Tryd.func52 rfl rfl rfl rfl (Cw.seq (Cw.region (Lw.t rfl (T.box 2 (v := .agg [vI x0.Kind, vS x0.Branch, vS x0.Who, vS x0.Path, vS x0.To, vI x0.At, v0_6_].toArray) (cs := [vI x0.Kind, vS x0.Branch, vS x0.Who, vS x0.Path, vS x0.To, vI x0.At, v0_6_]) rfl rfl) ?_)))
 rintro _ _ ⟨g1, W1, rfl, rfl, l1, b1⟩
 have a2 := l1.o
 refine Lw.g (vS ([] : Str)) rfl (Lw.nil (Cw.seq ?_))
 obtain ⟨z6, e7, hm⟩ := ob hm
 obtain ⟨u11, e12, hm⟩ := ob hm
 obtain ⟨q13, e14, hm⟩ := ob hm
 obtain ⟨q15, e16, hm⟩ := ob hm
 obtain ⟨q17, e18, hm⟩ := ob hm
 obtain ⟨q19, e20, hm⟩ := ob hm
 obtain ⟨q21, e22, hm⟩ := ob hm
 refine Cw.par [[], [], [1], [0, 1, 2], [0, 1, 2, 3], [0, 1, 2, 3, 4], [], [6], [0, 1, 2, 3, 4, 5, 6, 7], [0, 1, 2, 3, 4, 5, 6, 7, 8], [], [10], [0, 1, 2, 3, 4, 5, 6, 7, 8, 9, 10, 11], [0, 1, 2, 3, 4, 5, 6, 7, 8, 9, 10, 11, 12], [0, 1, 2, 3, 4, 5, 6, 7, 8, 9, 10, 11, 12, 13]] [[], [], [1], [0, 2], [0, 3], [4], [], [6], [5, 7], [8], [], [10], [9, 11], [12], [13]] [[], [], [], [], [], [], [], [], [], [], [], [], [], [], []] [[0], [1], [2], [0, 3], [4], [5], [6], [7], [8], [9], [10], [11], [12], [13], [14]] [[3], [], [], [], [], [], [], [], [], [], [], [], [], [], []] [0, 1, 2, 3, 4, 5, 6, 7, 8, 9, 10, 11, 12, 13, 14] [] [fun vs W => Ow W 3 [] [(vs 0)] z6, fun vs W => (vs 1) = ptr ((bx g1).add 0), fun vs W => (vs 2) = vI x0.Kind, fun vs W => (vs 3) = ptr ((slA (vs 0)).add ((x0.Kind).toNat * Rp.sz (Str))), fun vs W => (vs 4) = vS u11, fun vs W => (vs 5) = vS q13, fun vs W => (vs 6) = ptr ((bx g1).add 1), fun vs W => (vs 7) = vS x0.Branch, fun vs W => (vs 8) = vS q15, fun vs W => (vs 9) = vS q17, fun vs W => (vs 10) = ptr ((bx g1).add 2), fun vs W => (vs 11) = vS x0.Who, fun vs W => (vs 12) = vS q19, fun vs W => (vs 13) = vS q21, fun vs W => (vs 14) = vS q21] [] mixed (by kernel_rfl) rfl AllF.nil ?_
 intro W23 l23
 have a24 := a2.n l23
 have b25 := b1.up l23 rfl
 refine ⟨(Steps.cons ?_ (Steps.cons ?_ (Steps.cons ?_ (Steps.cons ?_ (Steps.cons ?_ (Steps.cons ?_ (Steps.cons ?_ (Steps.cons ?_ (Steps.cons ?_ (Steps.cons ?_ (Steps.cons ?_ (Steps.cons ?_ (Steps.cons ?_ (Steps.cons ?_ (Steps.cons ?_ Steps.nil))))))))))))))), (Sups.cons (fun vs vs' W W' _ hv l hd h => by (show Ow W' 3 [] [(vs' 0)] z6); rw [hv 0 (anyb rfl)]; exact h.upv l (disj_mem hd (c := 3) rfl)) (Sups.cons (fun vs vs' W W' _ hv l hd h => by (show (vs' 1) = ptr ((bx g1).add 0)); rw [hv 1 (anyb rfl)]; exact h) (Sups.cons (fun vs vs' W W' _ hv l hd h => by (show (vs' 2) = vI x0.Kind); rw [hv 2 (anyb rfl)]; exact h) (Sups.cons (fun vs vs' W W' _ hv l hd h => by (show (vs' 3) = ptr ((slA (vs' 0)).add ((x0.Kind).toNat * Rp.sz (Str)))); rw [hv 0 (anyb rfl), hv 3 (anyb rfl)]; exact h) (Sups.cons (fun vs vs' W W' _ hv l hd h => by (show (vs' 4) = vS u11); rw [hv 4 (anyb rfl)]; exact h) (Sups.cons (fun vs vs' W W' _ hv l hd h => by (show (vs' 5) = vS q13); rw [hv 5 (anyb rfl)]; exact h) (Sups.cons (fun vs vs' W W' _ hv l hd h => by (show (vs' 6) = ptr ((bx g1).add 1)); rw [hv 6 (anyb rfl)]; exact h) (Sups.cons (fun vs vs' W W' _ hv l hd h => by (show (vs' 7) = vS x0.Branch); rw [hv 7 (anyb rfl)]; exact h) (Sups.cons (fun vs vs' W W' _ hv l hd h => by (show (vs' 8) = vS q15); rw [hv 8 (anyb rfl)]; exact h) (Sups.cons (fun vs vs' W W' _ hv l hd h => by (show (vs' 9) = vS q17); rw [hv 9 (anyb rfl)]; exact h) (Sups.cons (fun vs vs' W W' _ hv l hd h => by (show (vs' 10) = ptr ((bx g1).add 2)); rw [hv 10 (anyb rfl)]; exact h) (Sups.cons (fun vs vs' W W' _ hv l hd h => by (show (vs' 11) = vS x0.Who); rw [hv 11 (anyb rfl)]; exact h) (Sups.cons (fun vs vs' W W' _ hv l hd h => by (show (vs' 12) = vS q19); rw [hv 12 (anyb rfl)]; exact h) (Sups.cons (fun vs vs' W W' _ hv l hd h => by (show (vs' 13) = vS q21); rw [hv 13 (anyb rfl)]; exact h) (Sups.cons (fun vs vs' W W' _ hv l hd h => by (show (vs' 14) = vS q21); rw [hv 14 (anyb rfl)]; exact h) Sups.nil))))))))))))))), ?_⟩
 ·intro vs W lW hN
  obtain ⟨W26, hW26⟩ : ∃ X, X = W := ⟨W, rfl⟩
  subst hW26
  refine Tr.mono (T.call rfl (p98 (K := [0]) (k0 := 3)  e7)) ?_
  rintro v0_29 _ ⟨W29, rfl, l29, ⟨_, rfl, f29_0⟩⟩
  exact ⟨W29, rfl, l29, (show Ow W29 3 [] [v0_29] z6 from f29_0)⟩
 ·intro vs W lW hN
  obtain ⟨W32, hW32⟩ : ∃ X, X = W := ⟨W, rfl⟩
  subst hW32
  refine Tr.mono (Run.tr (R.fa rfl)) ?_
  rintro _ _ ⟨hu, rfl⟩
  obtain rfl := hu.symm
  exact ⟨W32, rfl, Le.refl _ _, (show (ptr ((bx g1).add 0) : Value) = ptr ((bx g1).add 0) from rfl)⟩
 ·intro vs W lW hN
  obtain ⟨W35, hW35⟩ : ∃ X, X = W := ⟨W, rfl⟩
  subst hW35
  have e1_ : vs 1 = ptr ((bx g1).add 0) := (hN 1 (anyb rfl))
  obtain ⟨vs, rfl⟩ := up_eq e1_
  refine Tr.mono (Run.tr (R.ld (v := vI x0.Kind) rfl rfl ((b25.up lW rfl).cell rfl))) ?_
  rintro _ _ ⟨hu, rfl⟩
  obtain rfl := hu.symm
  exact ⟨W35, rfl, Le.refl _ _, (show (vI x0.Kind : Value) = vI x0.Kind from rfl)⟩
 ·intro vs W lW hN
  obtain ⟨W38, hW38⟩ : ∃ X, X = W := ⟨W, rfl⟩
  subst hW38
  obtain ⟨pv0, e0_⟩ : ∃ v, vs 0 = v := ⟨_, rfl⟩
  obtain ⟨vs, rfl⟩ := up_eq e0_
  have o41 : Ow W38 3 [] [pv0] z6 := (hN 0 (anyb rfl))
  have e2_ : vs 2 = vI x0.Kind := (hN 2 (anyb rfl))
  obtain ⟨vs, rfl⟩ := up_eq e2_
  refine Tr.mono (Run.tr (R.ix (α := Str) o41.rd e12 rfl rfl rfl)) ?_
  rintro _ _ ⟨hu, rfl⟩
  obtain rfl := hu.symm
  exact ⟨W38, rfl, Le.refl _ _, (show (ptr ((slA pv0).add ((x0.Kind).toNat * Rp.sz (Str))) : Value) = ptr ((slA pv0).add ((x0.Kind).toNat * Rp.sz (Str))) from rfl)⟩
 ·intro vs W lW hN
  obtain ⟨W42, hW42⟩ : ∃ X, X = W := ⟨W, rfl⟩
  subst hW42
  obtain ⟨pv0, e0_⟩ : ∃ v, vs 0 = v := ⟨_, rfl⟩
  obtain ⟨vs, rfl⟩ := up_eq e0_
  have o45 : Ow W42 3 [] [pv0] z6 := (hN 0 (anyb rfl))
  have e3_ : vs 3 = ptr ((slA pv0).add ((x0.Kind).toNat * Rp.sz (Str))) := (hN 3 (anyb rfl))
  obtain ⟨vs, rfl⟩ := up_eq e3_
  refine Tr.mono (Run.tr (R.ld rfl rfl (o45.rd.at_ e12).str)) ?_
  rintro _ _ ⟨hu, rfl⟩
  obtain rfl := hu.symm
  exact ⟨W42, rfl, Le.refl _ _, (show (vS u11 : Value) = vS u11 from rfl)⟩
 ·intro vs W lW hN
  obtain ⟨W46, hW46⟩ : ∃ X, X = W := ⟨W, rfl⟩
  subst hW46
  have e4_ : vs 4 = vS u11 := (hN 4 (anyb rfl))
  obtain ⟨vs, rfl⟩ := up_eq e4_
  refine Tr.mono (Run.tr (R.sad e14 rfl rfl)) ?_
  rintro _ _ ⟨hu, rfl⟩
  obtain rfl := hu.symm
  exact ⟨W46, rfl, Le.refl _ _, (show (vS q13 : Value) = vS q13 from rfl)⟩
 ·intro vs W lW hN
  obtain ⟨W49, hW49⟩ : ∃ X, X = W := ⟨W, rfl⟩
  subst hW49
  refine Tr.mono (Run.tr (R.fa rfl)) ?_
  rintro _ _ ⟨hu, rfl⟩
  obtain rfl := hu.symm
  exact ⟨W49, rfl, Le.refl _ _, (show (ptr ((bx g1).add 1) : Value) = ptr ((bx g1).add 1) from rfl)⟩
 ·intro vs W lW hN
  obtain ⟨W52, hW52⟩ : ∃ X, X = W := ⟨W, rfl⟩
  subst hW52
  have e6_ : vs 6 = ptr ((bx g1).add 1) := (hN 6 (anyb rfl))
  obtain ⟨vs, rfl⟩ := up_eq e6_
  refine Tr.mono (Run.tr (R.ld (v := vS x0.Branch) rfl rfl ((b25.up lW rfl).cell rfl))) ?_
  rintro _ _ ⟨hu, rfl⟩
  obtain rfl := hu.symm
  exact ⟨W52, rfl, Le.refl _ _, (show (vS x0.Branch : Value) = vS x0.Branch from rfl)⟩
 ·intro vs W lW hN
  obtain ⟨W55, hW55⟩ : ∃ X, X = W := ⟨W, rfl⟩
  subst hW55
  have e5_ : vs 5 = vS q13 := (hN 5 (anyb rfl))
  obtain ⟨vs, rfl⟩ := up_eq e5_
  have e7_ : vs 7 = vS x0.Branch := (hN 7 (anyb rfl))
  obtain ⟨vs, rfl⟩ := up_eq e7_
  refine Tr.mono (Run.tr (R.sad e16 rfl rfl)) ?_
  rintro _ _ ⟨hu, rfl⟩
  obtain rfl := hu.symm
  exact ⟨W55, rfl, Le.refl _ _, (show (vS q15 : Value) = vS q15 from rfl)⟩
 ·intro vs W lW hN
  obtain ⟨W58, hW58⟩ : ∃ X, X = W := ⟨W, rfl⟩
  subst hW58
  have e8_ : vs 8 = vS q15 := (hN 8 (anyb rfl))
  obtain ⟨vs, rfl⟩ := up_eq e8_
  refine Tr.mono (Run.tr (R.sad e18 rfl rfl)) ?_
  rintro _ _ ⟨hu, rfl⟩
  obtain rfl := hu.symm
  exact ⟨W58, rfl, Le.refl _ _, (show (vS q17 : Value) = vS q17 from rfl)⟩
 ·intro vs W lW hN
  obtain ⟨W61, hW61⟩ : ∃ X, X = W := ⟨W, rfl⟩
  subst hW61
  refine Tr.mono (Run.tr (R.fa rfl)) ?_
  rintro _ _ ⟨hu, rfl⟩
  obtain rfl := hu.symm
  exact ⟨W61, rfl, Le.refl _ _, (show (ptr ((bx g1).add 2) : Value) = ptr ((bx g1).add 2) from rfl)⟩
 ·intro vs W lW hN
  obtain ⟨W64, hW64⟩ : ∃ X, X = W := ⟨W, rfl⟩
  subst hW64
  have e10_ : vs 10 = ptr ((bx g1).add 2) := (hN 10 (anyb rfl))
  obtain ⟨vs, rfl⟩ := up_eq e10_
  refine Tr.mono (Run.tr (R.ld (v := vS x0.Who) rfl rfl ((b25.up lW rfl).cell rfl))) ?_
  rintro _ _ ⟨hu, rfl⟩
  obtain rfl := hu.symm
  exact ⟨W64, rfl, Le.refl _ _, (show (vS x0.Who : Value) = vS x0.Who from rfl)⟩
 ·intro vs W lW hN
  obtain ⟨W67, hW67⟩ : ∃ X, X = W := ⟨W, rfl⟩
  subst hW67
  have e9_ : vs 9 = vS q17 := (hN 9 (anyb rfl))
  obtain ⟨vs, rfl⟩ := up_eq e9_
  have e11_ : vs 11 = vS x0.Who := (hN 11 (anyb rfl))
  obtain ⟨vs, rfl⟩ := up_eq e11_
  refine Tr.mono (Run.tr (R.sad e20 rfl rfl)) ?_
  rintro _ _ ⟨hu, rfl⟩
  obtain rfl := hu.symm
  exact ⟨W67, rfl, Le.refl _ _, (show (vS q19 : Value) = vS q19 from rfl)⟩
 ·intro vs W lW hN
  obtain ⟨W70, hW70⟩ : ∃ X, X = W := ⟨W, rfl⟩
  subst hW70
  have e12_ : vs 12 = vS q19 := (hN 12 (anyb rfl))
  obtain ⟨vs, rfl⟩ := up_eq e12_
  refine Tr.mono (Run.tr (R.sad e22 rfl rfl)) ?_
  rintro _ _ ⟨hu, rfl⟩
  obtain rfl := hu.symm
  exact ⟨W70, rfl, Le.refl _ _, (show (vS q21 : Value) = vS q21 from rfl)⟩
 ·intro vs W lW hN
  obtain ⟨W73, hW73⟩ : ∃ X, X = W := ⟨W, rfl⟩
  subst hW73
  have e13_ : vs 13 = vS q21 := (hN 13 (anyb rfl))
  obtain ⟨vs, rfl⟩ := up_eq e13_
  refine Tr.mono (Run.tr (R.as (v := vS q21) rfl)) ?_
  rintro _ _ ⟨hu, rfl⟩
  obtain rfl := hu.symm
  exact ⟨W73, rfl, Le.refl _ _, (show (vS q21 : Value) = vS q21 from rfl)⟩
 ·intro vs W lW hN
  obtain ⟨W76, hW76⟩ : ∃ X, X = W := ⟨W, rfl⟩
  subst hW76
  have a77 := a24.n lW
  have b78 := b25.up lW rfl
  obtain ⟨l76, hl76⟩ : ∃ x, x = lW := ⟨lW, rfl⟩
  obtain ⟨pv0, e0_⟩ : ∃ v, vs 0 = v := ⟨_, rfl⟩
  obtain ⟨vs, rfl⟩ := up_eq e0_
  have o79 : Ow W76 3 [] [pv0] z6 := (hN 0 (anyb rfl))
  have e1_ : vs 1 = ptr ((bx g1).add 0) := (hN 1 (anyb rfl))
  obtain ⟨vs, rfl⟩ := up_eq e1_
  have e2_ : vs 2 = vI x0.Kind := (hN 2 (anyb rfl))
  obtain ⟨vs, rfl⟩ := up_eq e2_
  have e3_ : vs 3 = ptr ((slA pv0).add ((x0.Kind).toNat * Rp.sz (Str))) := (hN 3 (anyb rfl))
  obtain ⟨vs, rfl⟩ := up_eq e3_
  have e4_ : vs 4 = vS u11 := (hN 4 (anyb rfl))
  obtain ⟨vs, rfl⟩ := up_eq e4_
  have e5_ : vs 5 = vS q13 := (hN 5 (anyb rfl))
  obtain ⟨vs, rfl⟩ := up_eq e5_
  have e6_ : vs 6 = ptr ((bx g1).add 1) := (hN 6 (anyb rfl))
  obtain ⟨vs, rfl⟩ := up_eq e6_
  have e7_ : vs 7 = vS x0.Branch := (hN 7 (anyb rfl))
  obtain ⟨vs, rfl⟩ := up_eq e7_
  have e8_ : vs 8 = vS q15 := (hN 8 (anyb rfl))
  obtain ⟨vs, rfl⟩ := up_eq e8_
  have e9_ : vs 9 = vS q17 := (hN 9 (anyb rfl))
  obtain ⟨vs, rfl⟩ := up_eq e9_
  have e10_ : vs 10 = ptr ((bx g1).add 2) := (hN 10 (anyb rfl))
  obtain ⟨vs, rfl⟩ := up_eq e10_
  have e11_ : vs 11 = vS x0.Who := (hN 11 (anyb rfl))
  obtain ⟨vs, rfl⟩ := up_eq e11_
  have e12_ : vs 12 = vS q19 := (hN 12 (anyb rfl))
  obtain ⟨vs, rfl⟩ := up_eq e12_
  have e13_ : vs 13 = vS q21 := (hN 13 (anyb rfl))
  obtain ⟨vs, rfl⟩ := up_eq e13_
  have e14_ : vs 14 = vS q21 := (hN 14 (anyb rfl))
  obtain ⟨vs, rfl⟩ := up_eq e14_
  refine Cw.seq (Cw.seq (Cw.region (Lw.fa rfl (Lw.r rfl (R.ld (v := vI x0.Kind) rfl rfl (b78.cell rfl)) (Lw.nil (Cw.block (Cw.seq (Cw.region (Lw.eq rfl (Lw.g (vB ((x0.Kind : Int) == (1 : Int))) rfl (Lw.nil (Cw.cond (b := ((x0.Kind : Int) == (1 : Int))) rfl (fun hc80 => ?_) (fun hc80 => ?_)))))))))))))
  ·replace hm := bt hm hc80
   refine Cw.seq (Cw.draw [] [(0, 0), (1, 0), (2, 1), (3, 0), (4, 0), (5, 0), (6, 1), (7, 2), (8, 0), (9, 0)] mixed (by kernel_rfl) fun W81 l81 => ?_)
   have a82 := a77.n l81
   refine Mw.p rfl rfl (fun _ => R.mv (v := vS q21) rfl) (Mw.p rfl rfl (fun _ => R.fa rfl) (Mw.q rfl rfl (fun _ c => R.ld (v := vS x0.Path) rfl rfl ((b78.up l81 rfl).clc rfl rfl c)) ?_))
   obtain ⟨q85, e86, hm⟩ := ob hm
   refine Mw.p rfl rfl (fun _ => R.sad e86 rfl rfl) ?_
   obtain ⟨q87, e88, hm⟩ := ob hm
   refine Mw.p rfl rfl (fun _ => R.sad e88 rfl rfl) (Mw.p rfl rfl (fun _ => R.fa rfl) (Mw.q rfl rfl (fun _ c => R.ld (v := v0_6_) rfl rfl ((b78.up l81 rfl).clc rfl rfl c)) ?_))
   obtain ⟨z90, e91, hm⟩ := ob hm
   refine Mw.t rfl rfl (T.call rfl (p111 (K := [0])  (h0_6.ul a82) e91)) ?_
   rintro _ _ ⟨W92, rfl, l92, rfl⟩
   have a93 := a82.n l92
   refine ⟨⟨_, rfl, (l92.sub (M := []) rfl)⟩, ?_⟩
   obtain ⟨q96, e97, hm⟩ := ob hm
   refine Mw.p rfl rfl (fun _ => R.sad e97 rfl rfl) (Mw.p rfl rfl (fun _ => R.as (v := vS q96) rfl) (Mw.nil ?_))
   cases hm
   exact Cw.ret (ret1 rfl (Res.mk a93 rfl))
  ·replace hm := bf hm hc80
   refine Cw.seq (Cw.region (Lw.eq rfl (Lw.g (vB ((x0.Kind : Int) == (2 : Int))) rfl (Lw.nil (Cw.cond (b := ((x0.Kind : Int) == (2 : Int))) rfl (fun hc98 => ?_) (fun hc98 => ?_))))))
   ·replace hm := bt hm hc98
    refine Cw.seq (Cw.region (Lw.m (vS q21) rfl (Lw.fa rfl (Lw.r rfl (R.ld (v := vS x0.Path) rfl rfl (b78.cell rfl)) ?_))))
    obtain ⟨q99, e100, hm⟩ := ob hm
    refine Lw.r rfl (R.sad e100 rfl rfl) (Lw.g (vS q99) rfl (Lw.nil ?_))
    cases hm
    exact Cw.ret (ret1 rfl (Res.mk a77 rfl))
   ·replace hm := bf hm hc98
    refine Cw.seq (Cw.region (Lw.eq rfl (Lw.g (vB ((x0.Kind : Int) == (3 : Int))) rfl (Lw.nil (Cw.cond (b := ((x0.Kind : Int) == (3 : Int))) rfl (fun hc101 => ?_) (fun hc101 => ?_))))))
    ·replace hm := bt hm hc101
     refine Cw.seq (Cw.region (Lw.m (vS q21) rfl (Lw.fa rfl (Lw.r rfl (R.ld (v := vS x0.Path) rfl rfl (b78.cell rfl)) ?_))))
     obtain ⟨q102, e103, hm⟩ := ob hm
     refine Lw.r rfl (R.sad e103 rfl rfl) ?_
     obtain ⟨q104, e105, hm⟩ := ob hm
     refine Lw.r rfl (R.sad e105 rfl rfl) (Lw.fa rfl (Lw.r rfl (R.ld (v := vS x0.To) rfl rfl (b78.cell rfl)) ?_))
     obtain ⟨q106, e107, hm⟩ := ob hm
     refine Lw.r rfl (R.sad e107 rfl rfl) (Lw.g (vS q106) rfl (Lw.nil ?_))
     cases hm
     exact Cw.ret (ret1 rfl (Res.mk a77 rfl))
    ·replace hm := bf hm hc101
     obtain ⟨K110, hK110, hm⟩ := jn_e hm
     refine Cw.join 47 49 [47] (fun l w => ∃ (y108 : Bool) (W109 : CW), W109.w = w ∧ Le [] W76 W109 ∧ l = [vB y108] ∧ K110 y108 = some r) ?_ ?_
     ·rintro _ _ σ ⟨y108, W109, rfl, l109, rfl, hm⟩
      rw [hK110] at hm
      have a111 := a77.n l109
      refine Cw.cond (b := y108) rfl (fun hc114 => ?_) (fun hc114 => ?_)
      ·replace hm := bt hm hc114
       refine Cw.seq (Cw.region (Lw.m (vS q21) rfl (Lw.fa rfl (Lw.r rfl (R.ld (v := vS x0.To) rfl rfl ((b78.up l109 rfl).cell rfl)) ?_))))
       obtain ⟨q115, e116, hm⟩ := ob hm
       refine Lw.r rfl (R.sad e116 rfl rfl) (Lw.g (vS q115) rfl (Lw.nil ?_))
       cases hm
       exact Cw.ret (ret1 rfl (Res.mk a111 rfl))
      ·replace hm := bf hm hc114
       refine Cw.skip (Cw.seq (Cw.region (Lw.m (vS q21) rfl (Lw.fa rfl (Lw.r rfl (R.ld (v := vI x0.At) rfl rfl ((b78.up l109 rfl).cell rfl)) ?_)))))
       obtain ⟨z117, e118, hm⟩ := ob hm
       refine Lw.t rfl (T.call rfl (p112 (K := [0])   e118)) ?_
       rintro _ _ ⟨W119, rfl, l119, rfl⟩
       have a120 := a111.n l119
       obtain ⟨q123, e124, hm⟩ := ob hm
       refine Lw.r rfl (R.sad e124 rfl rfl) (Lw.g (vS q123) rfl (Lw.nil ?_))
       cases hm
       exact Cw.ret (ret1 rfl (Res.mk a120 rfl))
     ·refine Cw.seq (Cw.region (Lw.eq rfl (Lw.g (vB ((x0.Kind : Int) == (4 : Int))) rfl (Lw.nil (Cw.cond (b := ((x0.Kind : Int) == (4 : Int))) rfl (fun hc125 => ?_) (fun hc125 => ?_))))))
      ·replace hm := bt hm hc125
       refine Cw.skip (⟨?_, ⟨((x0.Kind : Int) == (4 : Int)), W76, rfl, Le.refl _ _, rfl, hm⟩⟩)
       iterate 2 (refine Agree.up rfl ?_)
       exact Agree.refl _
      ·replace hm := bf hm hc125
       refine Cw.region (Lw.eq rfl (Lw.g (vB ((x0.Kind : Int) == (5 : Int))) rfl (Lw.nil (⟨?_, ⟨((x0.Kind : Int) == (5 : Int)), W76, rfl, Le.refl _ _, rfl, hm⟩⟩))))
       iterate 4 (refine Agree.up rfl ?_)
       exact Agree.refl _

theorem p52 {W : CW} {K : List Nat} {x0 : Vm.Op} {v0_6_ : Value} {r : Str} (h0 : Rd W K [vI x0.Kind, vS x0.Branch, vS x0.Who, vS x0.Path, vS x0.To, vI x0.At, v0_6_] x0) (hm : Vm.impl_opPut x0 = some r) : CallR Tryd.prog 52 [.agg [vI x0.Kind, vS x0.Branch, vS x0.Who, vS x0.Path, vS x0.To, vI x0.At, v0_6_].toArray].toArray W.w (Res W [] fun W' v => v = vS r) :=
 (c52 (V := W.view K []) (h0.view _) hm).ad (fk 0) fun _ _ e => e

theorem c13 {V : CW} {x0 : Vm.Op} {v0_6_ : Value} {r : Str} (h0 : Rd V [0] [vI x0.Kind, vS x0.Branch, vS x0.Who, vS x0.Path, vS x0.To, vI x0.At, v0_6_] x0) (h99 : Gl 2 V [0]) (hm : Vm.impl_OpPut x0 = some r) : CallR Tryd.prog 13 [.agg [vI x0.Kind, vS x0.Branch, vS x0.Who, vS x0.Path, vS x0.To, vI x0.At, v0_6_].toArray].toArray V.w (Res V LL fun Wf v => v = vS r) := by
 unfold Vm.impl_OpPut at hm
 obtain ⟨w0_0, he0, h0_6⟩ := Op.split h0
 simp only [List.cons.injEq, and_true, true_and] at he0
 obtain rfl := he0
 obtain ⟨W0, hW0⟩ : ∃ W, W = V := ⟨V, rfl⟩
 subst hW0
 refine CallR.of Tryd.func13 rfl rfl rfl rfl (Cw.seq (Cw.region (Lw.t rfl (T.box 2 (v := .agg [vI x0.Kind, vS x0.Branch, vS x0.Who, vS x0.Path, vS x0.To, vI x0.At, v0_6_].toArray) (cs := [vI x0.Kind, vS x0.Branch, vS x0.Who, vS x0.Path, vS x0.To, vI x0.At, v0_6_]) rfl rfl) ?_)))
 rintro _ _ ⟨g1, W1, rfl, rfl, l1, b1⟩
 have a2 := l1.o
 refine Lw.g (vS ([] : Str)) rfl (Lw.nil (Cw.seq (Cw.seq (Cw.region (Lw.r rfl (R.lda (cs := [vI x0.Kind, vS x0.Branch, vS x0.Who, vS x0.Path, vS x0.To, vI x0.At, v0_6_]) b1.cells rfl rfl) ?_)))))
 obtain ⟨z5, e6, hm⟩ := ob hm
 refine Lw.t rfl (T.call rfl (p51 (K := [0])  (Op.rd (K := [0]) x0.Kind x0.Branch x0.Who x0.Path x0.To x0.At x0.Text (h0_6.ul a2)) (h99.ul a2) e6)) ?_
 rintro _ _ ⟨W7, rfl, l7, rfl⟩
 have a8 := a2.n l7
 refine Lw.r rfl (R.not rfl) (Lw.nil (Cw.cond (b := (!z5)) rfl (fun hc10 => ?_) (fun hc10 => ?_)))
 ·replace hm := bt hm hc10
  refine Cw.seq (Cw.region (Lw.g (vS ([] : Str)) rfl (Lw.nil ?_)))
  cases hm
  exact Cw.ret (ret1 rfl (Res.mk a8 rfl))
 ·replace hm := bf hm hc10
  refine Cw.skip (Cw.seq (Cw.region (Lw.r rfl (R.lda (cs := [vI x0.Kind, vS x0.Branch, vS x0.Who, vS x0.Path, vS x0.To, vI x0.At, v0_6_]) (b1.up l7 rfl).cells rfl rfl) ?_)))
  obtain ⟨z12, e13, hm⟩ := ob hm
  refine Lw.t rfl (T.call rfl (p52 (K := [0])  (Op.rd (K := [0]) x0.Kind x0.Branch x0.Who x0.Path x0.To x0.At x0.Text (h0_6.ul a8)) e13)) ?_
  rintro _ _ ⟨W14, rfl, l14, rfl⟩
  have a15 := a8.n l14
  refine Lw.g (vS z12) rfl (Lw.nil ?_)
  cases hm
  exact Cw.ret (ret1 rfl (Res.mk a15 rfl))

theorem p13 {W : CW} {K : List Nat} {x0 : Vm.Op} {v0_6_ : Value} {r : Str} (h0 : Rd W K [vI x0.Kind, vS x0.Branch, vS x0.Who, vS x0.Path, vS x0.To, vI x0.At, v0_6_] x0) (h99 : Gl 2 W K) (hm : Vm.impl_OpPut x0 = some r) : CallR Tryd.prog 13 [.agg [vI x0.Kind, vS x0.Branch, vS x0.Who, vS x0.Path, vS x0.To, vI x0.At, v0_6_].toArray].toArray W.w (Res W [] fun W' v => v = vS r) :=
 (c13 (V := W.view K []) (h0.view _) (h99.view _) hm).ad (fk 0) fun _ _ e => e

theorem c53 {V : CW} {x0 : List Str} {v0_ : Value} {x1 : List Str} {v1_ : Value} {r : Bool} (h0 : Rd V [0] [v0_] x0) (h1 : Rd V [0] [v1_] x1) (hm : Vm.laws_eqStringS x0 x1 = some r) : CallR Tryd.prog 53 [v0_, v1_].toArray V.w (Res V LL fun Wf v => v = vB r) := by
 unfold Vm.laws_eqStringS at hm
 obtain ⟨W0, hW0⟩ : ∃ W, W = V := ⟨V, rfl⟩
 subst hW0
 refine CallR.of Tryd.func53 rfl rfl rfl rfl (Cw.seq (Cw.region (Lw.g (vB false) rfl (Lw.nil (Cw.seq (Cw.seq (Cw.region (Lw.m v0_ rfl (Lw.ln x0 h0 rfl (Lw.m v1_ rfl (Lw.ln x1 h1 rfl (Lw.ne rfl (Lw.nil (Cw.cond (b := (((x0.length : Int) : Int) != ((x1.length : Int) : Int))) rfl (fun hc1 => ?_) (fun hc1 => ?_)))))))))))))))
 ·replace hm := bt hm hc1
  refine Cw.seq (Cw.region (Lw.g (vB false) rfl (Lw.nil ?_)))
  cases hm
  exact Cw.ret (ret1 rfl (Res.mk (Le.refl _ _) rfl))
 ·replace hm := bf hm hc1
  refine Cw.skip (Cw.seq (Cw.seq (Cw.region (Lw.g (vI 0) rfl (Lw.nil (Cw.block ?_))))))
  obtain ⟨K5, hK5, hm⟩ := jn_e hm
  refine Cw.loop 11 25 [4, 5] (fun m l w => ∃ (y2 : Bool) (y3 : Int) (W4 : CW), W4.w = w ∧ Le [] W0 W4 ∧ l = [vB y2, vI y3] ∧ Vm.laws_eqStringS_l1 x0 x1 K5 m y2 y3 = some r) (((x0.length : Int) - 0).toNat + 1) ⟨false, 0, W0, rfl, Le.refl _ _, rfl, hm⟩ ?_
  rintro m6 _ _ σ ⟨y2, y3, W4, rfl, l4, rfl, hm⟩
  obtain _ | m6 := m6
  ·cases hm
  unfold Vm.laws_eqStringS_l1 at hm
  have a7 := l4.o
  refine Cw.seq (Cw.seq (Cw.region (Lw.m (vI y3) rfl (Lw.m v0_ rfl (Lw.ln x0 (h0.ul a7) rfl (Lw.lt rfl (Lw.nil (Cw.cond (b := decide ((y3 : Int) < ((x0.length : Int) : Int))) rfl (fun hc9 => ?_) (fun hc9 => ?_)))))))))
  ·replace hm := bt hm hc9
   refine Cw.skip (Cw.seq (Cw.block (Cw.seq (Cw.draw [] [(0, 0), (1, 0), (2, 0), (3, 1), (4, 0), (5, 0), (6, 0), (7, 1), (8, 0)] mixed (by kernel_rfl) fun W10 l10 => ?_))))
   have a11 := a7.n l10
   refine Mw.p rfl rfl (fun _ => R.mv (v := v0_) rfl) (Mw.p rfl rfl (fun _ => R.mv (v := vI y3) rfl) ?_)
   obtain ⟨u12, e13, hm⟩ := ob hm
   refine Mw.p rfl rfl (fun _ => R.ix (α := Str) (h0.ul a11) e13 rfl rfl rfl) (Mw.q rfl rfl (fun _ c => R.ld rfl rfl (cl_cell ((h0.ul a11).at_ e13).1 rfl ((h0.ul a11).at_ e13).str c)) (Mw.p rfl rfl (fun _ => R.mv (v := v1_) rfl) (Mw.p rfl rfl (fun _ => R.mv (v := vI y3) rfl) ?_)))
   obtain ⟨u15, e16, hm⟩ := ob hm
   refine Mw.p rfl rfl (fun _ => R.ix (α := Str) (h1.ul a11) e16 rfl rfl rfl) (Mw.q rfl rfl (fun _ c => R.ld rfl rfl (cl_cell ((h1.ul a11).at_ e16).1 rfl ((h1.ul a11).at_ e16).str c)) (Mw.p rfl rfl (fun _ => R.sne rfl rfl) (Mw.nil (Cw.cond (b := (u12 != u15)) rfl (fun hc18 => ?_) (fun hc18 => ?_)))))
   ·replace hm := bt hm hc18
    refine Cw.seq (Cw.region (Lw.g (vB false) rfl (Lw.nil ?_)))
    cases hm
    exact Cw.ret (ret1 rfl (Res.mk a11 rfl))
   ·replace hm := bf hm hc18
    refine Cw.skip (Cw.region (Lw.m (vI y3) rfl (Lw.add rfl (Lw.g (vI (w64 (y3 + 1))) rfl (Lw.nil (⟨?_, m6, Nat.lt_succ_self m6, ⟨y2, w64 (y3 + 1), W10, rfl, (l4.trans l10), rfl, hm⟩⟩))))))
    iterate 16 (refine Agree.up rfl ?_)
    iterate 2 (refine Agree.up rfl ?_)
    exact Agree.base
  ·replace hm := bf hm hc9
   refine Cw.exit ?_
   rw [hK5] at hm
   refine Cw.seq (Cw.region (Lw.g (vB true) rfl (Lw.nil ?_)))
   cases hm
   exact Cw.ret (ret1 rfl (Res.mk a7 rfl))

theorem p53 {W : CW} {K : List Nat} {x0 : List Str} {v0_ : Value} {x1 : List Str} {v1_ : Value} {r : Bool} (h0 : Rd W K [v0_] x0) (h1 : Rd W K [v1_] x1) (hm : Vm.laws_eqStringS x0 x1 = some r) : CallR Tryd.prog 53 [v0_, v1_].toArray W.w (Res W [] fun W' v => v = vB r) :=
 (c53 (V := W.view K []) (h0.view _) (h1.view _) hm).ad (fk 0) fun _ _ e => e

theorem c14 {V : CW} {x0 : Vm.Op} {v0_6_ : Value} {x1 : Vm.Op} {v1_6_ : Value} {r : Bool} (h0 : Rd V [0] [vI x0.Kind, vS x0.Branch, vS x0.Who, vS x0.Path, vS x0.To, vI x0.At, v0_6_] x0) (h1 : Rd V [0] [vI x1.Kind, vS x1.Branch, vS x1.Who, vS x1.Path, vS x1.To, vI x1.At, v1_6_] x1) (hm : Vm.laws_eqOp x0 x1 = some r) : CallR Tryd.prog 14 [.agg [vI x0.Kind, vS x0.Branch, vS x0.Who, vS x0.Path, vS x0.To, vI x0.At, v0_6_].toArray, .agg [vI x1.Kind, vS x1.Branch, vS x1.Who, vS x1.Path, vS x1.To, vI x1.At, v1_6_].toArray].toArray V.w (Res V LL fun Wf v => v = vB r) := by
 unfold Vm.laws_eqOp at hm
 obtain ⟨w0_0, he0, h0_6⟩ := Op.split h0
 simp only [List.cons.injEq, and_true, true_and] at he0
 obtain rfl := he0
 obtain ⟨w1_0, he1, h1_6⟩ := Op.split h1
 simp only [List.cons.injEq, and_true, true_and] at he1
 obtain rfl := he1
 obtain ⟨W0, hW0⟩ : ∃ W, W = V := ⟨V, rfl⟩
 subst hW0
 refine CallR.of Tryd.func14 rfl rfl rfl rfl (Cw.seq (Cw.region (Lw.t rfl (T.box 2 (v := .agg [vI x0.Kind, vS x0.Branch, vS x0.Who, vS x0.Path, vS x0.To, vI x0.At, v0_6_].toArray) (cs := [vI x0.Kind, vS x0.Branch, vS x0.Who, vS x0.Path, vS x0.To, vI x0.At, v0_6_]) rfl rfl) ?_)))
 rintro _ _ ⟨g1, W1, rfl, rfl, l1, b1⟩
 have a2 := l1.o
 refine Lw.t rfl (T.box 3 (v := .agg [vI x1.Kind, vS x1.Branch, vS x1.Who, vS x1.Path, vS x1.To, vI x1.At, v1_6_].toArray) (cs := [vI x1.Kind, vS x1.Branch, vS x1.Who, vS x1.Path, vS x1.To, vI x1.At, v1_6_]) rfl rfl) ?_
 rintro _ _ ⟨g3, W3, rfl, rfl, l3, b3⟩
 have a4 := a2.n l3
 have b5 := b1.up l3 rfl
 refine Lw.g (vB false) rfl (Lw.nil (Cw.seq (Cw.seq (Cw.region (Lw.fa rfl (Lw.r rfl (R.ld (v := vI x0.Kind) rfl rfl (b5.cell rfl)) (Lw.fa rfl (Lw.r rfl (R.ld (v := vI x1.Kind) rfl rfl (b3.cell rfl)) (Lw.ne rfl (Lw.nil (Cw.cond (b := ((x0.Kind : Int) != (x1.Kind : Int))) rfl (fun hc6 => ?_) (fun hc6 => ?_))))))))))))
 ·replace hm := bt hm hc6
  refine Cw.seq (Cw.region (Lw.g (vB false) rfl (Lw.nil ?_)))
  cases hm
  exact Cw.ret (ret1 rfl (Res.mk a4 rfl))
 ·replace hm := bf hm hc6
  refine Cw.skip (Cw.seq (Cw.seq (Cw.region (Lw.fa rfl (Lw.r rfl (R.ld (v := vS x0.Branch) rfl rfl (b5.cell rfl)) (Lw.fa rfl (Lw.r rfl (R.ld (v := vS x1.Branch) rfl rfl (b3.cell rfl)) (Lw.sne rfl (Lw.nil (Cw.cond (b := (x0.Branch != x1.Branch)) rfl (fun hc7 => ?_) (fun hc7 => ?_)))))))))))
  ·replace hm := bt hm hc7
   refine Cw.seq (Cw.region (Lw.g (vB false) rfl (Lw.nil ?_)))
   cases hm
   exact Cw.ret (ret1 rfl (Res.mk a4 rfl))
  ·replace hm := bf hm hc7
   refine Cw.skip (Cw.seq (Cw.seq (Cw.region (Lw.fa rfl (Lw.r rfl (R.ld (v := vS x0.Who) rfl rfl (b5.cell rfl)) (Lw.fa rfl (Lw.r rfl (R.ld (v := vS x1.Who) rfl rfl (b3.cell rfl)) (Lw.sne rfl (Lw.nil (Cw.cond (b := (x0.Who != x1.Who)) rfl (fun hc8 => ?_) (fun hc8 => ?_)))))))))))
   ·replace hm := bt hm hc8
    refine Cw.seq (Cw.region (Lw.g (vB false) rfl (Lw.nil ?_)))
    cases hm
    exact Cw.ret (ret1 rfl (Res.mk a4 rfl))
   ·replace hm := bf hm hc8
    refine Cw.skip (Cw.seq (Cw.seq (Cw.region (Lw.fa rfl (Lw.r rfl (R.ld (v := vS x0.Path) rfl rfl (b5.cell rfl)) (Lw.fa rfl (Lw.r rfl (R.ld (v := vS x1.Path) rfl rfl (b3.cell rfl)) (Lw.sne rfl (Lw.nil (Cw.cond (b := (x0.Path != x1.Path)) rfl (fun hc9 => ?_) (fun hc9 => ?_)))))))))))
    ·replace hm := bt hm hc9
     refine Cw.seq (Cw.region (Lw.g (vB false) rfl (Lw.nil ?_)))
     cases hm
     exact Cw.ret (ret1 rfl (Res.mk a4 rfl))
    ·replace hm := bf hm hc9
     refine Cw.skip (Cw.seq (Cw.seq (Cw.region (Lw.fa rfl (Lw.r rfl (R.ld (v := vS x0.To) rfl rfl (b5.cell rfl)) (Lw.fa rfl (Lw.r rfl (R.ld (v := vS x1.To) rfl rfl (b3.cell rfl)) (Lw.sne rfl (Lw.nil (Cw.cond (b := (x0.To != x1.To)) rfl (fun hc10 => ?_) (fun hc10 => ?_)))))))))))
     ·replace hm := bt hm hc10
      refine Cw.seq (Cw.region (Lw.g (vB false) rfl (Lw.nil ?_)))
      cases hm
      exact Cw.ret (ret1 rfl (Res.mk a4 rfl))
     ·replace hm := bf hm hc10
      refine Cw.skip (Cw.seq (Cw.seq (Cw.region (Lw.fa rfl (Lw.r rfl (R.ld (v := vI x0.At) rfl rfl (b5.cell rfl)) (Lw.fa rfl (Lw.r rfl (R.ld (v := vI x1.At) rfl rfl (b3.cell rfl)) (Lw.ne rfl (Lw.nil (Cw.cond (b := ((x0.At : Int) != (x1.At : Int))) rfl (fun hc11 => ?_) (fun hc11 => ?_)))))))))))
      ·replace hm := bt hm hc11
       refine Cw.seq (Cw.region (Lw.g (vB false) rfl (Lw.nil ?_)))
       cases hm
       exact Cw.ret (ret1 rfl (Res.mk a4 rfl))
      ·replace hm := bf hm hc11
       refine Cw.skip (Cw.seq (Cw.seq (Cw.region (Lw.fa rfl (Lw.r rfl (R.ld (v := v0_6_) rfl rfl (b5.cell rfl)) (Lw.fa rfl (Lw.r rfl (R.ld (v := v1_6_) rfl rfl (b3.cell rfl)) ?_)))))))
       obtain ⟨z14, e15, hm⟩ := ob hm
       refine Lw.t rfl (T.call rfl (p53 (K := [0])  (h0_6.ul a4) (h1_6.ul a4) e15)) ?_
       rintro _ _ ⟨W16, rfl, l16, rfl⟩
       have a17 := a4.n l16
       refine Lw.r rfl (R.not rfl) (Lw.nil (Cw.cond (b := (!z14)) rfl (fun hc20 => ?_) (fun hc20 => ?_)))
       ·replace hm := bt hm hc20
        refine Cw.seq (Cw.region (Lw.g (vB false) rfl (Lw.nil ?_)))
        cases hm
        exact Cw.ret (ret1 rfl (Res.mk a17 rfl))
       ·replace hm := bf hm hc20
        refine Cw.skip (Cw.seq (Cw.region (Lw.g (vB true) rfl (Lw.nil ?_))))
        cases hm
        exact Cw.ret (ret1 rfl (Res.mk a17 rfl))

theorem p14 {W : CW} {K : List Nat} {x0 : Vm.Op} {v0_6_ : Value} {x1 : Vm.Op} {v1_6_ : Value} {r : Bool} (h0 : Rd W K [vI x0.Kind, vS x0.Branch, vS x0.Who, vS x0.Path, vS x0.To, vI x0.At, v0_6_] x0) (h1 : Rd W K [vI x1.Kind, vS x1.Branch, vS x1.Who, vS x1.Path, vS x1.To, vI x1.At, v1_6_] x1) (hm : Vm.laws_eqOp x0 x1 = some r) : CallR Tryd.prog 14 [.agg [vI x0.Kind, vS x0.Branch, vS x0.Who, vS x0.Path, vS x0.To, vI x0.At, v0_6_].toArray, .agg [vI x1.Kind, vS x1.Branch, vS x1.Who, vS x1.Path, vS x1.To, vI x1.At, v1_6_].toArray].toArray W.w (Res W [] fun W' v => v = vB r) :=
 (c14 (V := W.view K []) (h0.view _) (h1.view _) hm).ad (fk 0) fun _ _ e => e

theorem c3 {V : CW} {x0 : Vm.Op} {v0_6_ : Value} {r : Bool} (h0 : Rd V [0] [vI x0.Kind, vS x0.Branch, vS x0.Who, vS x0.Path, vS x0.To, vI x0.At, v0_6_] x0) (h99 : Gl 2 V [0]) (hm : Vm.laws_FnExactOpPut x0 = some r) : CallR Tryd.prog 3 [.agg [vI x0.Kind, vS x0.Branch, vS x0.Who, vS x0.Path, vS x0.To, vI x0.At, v0_6_].toArray].toArray V.w (Res V LL fun Wf v => v = vB r) := by
 unfold Vm.laws_FnExactOpPut at hm
 obtain ⟨w0_0, he0, h0_6⟩ := Op.split h0
 simp only [List.cons.injEq, and_true, true_and] at he0
 obtain rfl := he0
 obtain ⟨W0, hW0⟩ : ∃ W, W = V := ⟨V, rfl⟩
 subst hW0
 refine CallR.of Tryd.func3 rfl rfl rfl rfl (Cw.seq (Cw.region (Lw.t rfl (T.box 2 (v := .agg [vI x0.Kind, vS x0.Branch, vS x0.Who, vS x0.Path, vS x0.To, vI x0.At, v0_6_].toArray) (cs := [vI x0.Kind, vS x0.Branch, vS x0.Who, vS x0.Path, vS x0.To, vI x0.At, v0_6_]) rfl rfl) ?_)))
 rintro _ _ ⟨g1, W1, rfl, rfl, l1, b1⟩
 have a2 := l1.o
 refine Lw.g (vB false) rfl (Lw.nil (Cw.seq (Cw.region (Lw.g (vI 1048576) rfl (Lw.nil (Cw.seq (Cw.region (Lw.r rfl (R.lda (cs := [vI x0.Kind, vS x0.Branch, vS x0.Who, vS x0.Path, vS x0.To, vI x0.At, v0_6_]) b1.cells rfl rfl) (Lw.m (vI 1048576) rfl ?_)))))))))
 obtain ⟨z4, e5, hm⟩ := ob hm
 refine Lw.t rfl (T.call rfl (p10 (K := [0])  (Op.rd (K := [0]) x0.Kind x0.Branch x0.Who x0.Path x0.To x0.At x0.Text (h0_6.ul a2)) e5)) ?_
 rintro _ _ ⟨W6, rfl, l6, rfl⟩
 have a7 := a2.n l6
 refine Lw.g (vI z4) rfl (Lw.nil (Cw.seq (Cw.seq (Cw.region (Lw.m (vI z4) rfl (Lw.lt rfl (Lw.nil (Cw.cond (b := decide ((z4 : Int) < (0 : Int))) rfl (fun hc9 => ?_) (fun hc9 => ?_)))))))))
 ·replace hm := bt hm hc9
  refine Cw.seq (Cw.region (Lw.g (vB true) rfl (Lw.nil ?_)))
  cases hm
  exact Cw.ret (ret1 rfl (Res.mk a7 rfl))
 ·replace hm := bf hm hc9
  refine Cw.skip (Cw.seq (Cw.region (Lw.r rfl (R.lda (cs := [vI x0.Kind, vS x0.Branch, vS x0.Who, vS x0.Path, vS x0.To, vI x0.At, v0_6_]) (b1.up l6 rfl).cells rfl rfl) ?_)))
  obtain ⟨z11, e12, hm⟩ := ob hm
  refine Lw.t rfl (T.call rfl (p12 (K := [0]) (k0 := 3) (Op.rd (K := [0]) x0.Kind x0.Branch x0.Who x0.Path x0.To x0.At x0.Text (h0_6.ul a7)) e12)) ?_
  rintro _ _ ⟨W13, rfl, l13, ⟨v0_6_13, rfl, f13_0⟩⟩
  have a14 := a7.n l13
  obtain ⟨z16, e17, hm⟩ := ob hm
  refine Lw.t rfl (T.call rfl (p11 (K := [3])  (x0 := (Vm.Op.mk z11.Kind z11.Branch z11.Who z11.Path z11.To z11.At z11.Text)) (Op.rd (K := [3]) z11.Kind z11.Branch z11.Who z11.Path z11.To z11.At z11.Text f13_0.rd) e17)) ?_
  rintro _ _ ⟨W18, rfl, l18, rfl⟩
  have a19 := a14.n l18
  have b21 := ((b1.up l6 rfl).up l13 rfl).up l18 rfl
  refine Lw.g (vS z16) rfl (Lw.nil (Cw.seq (Cw.region (Lw.r rfl (R.lda (cs := [vI x0.Kind, vS x0.Branch, vS x0.Who, vS x0.Path, vS x0.To, vI x0.At, v0_6_]) b21.cells rfl rfl) ?_))))
  obtain ⟨z23, e24, hm⟩ := ob hm
  refine Lw.t rfl (T.call rfl (p12 (K := [0]) (k0 := 4) (Op.rd (K := [0]) x0.Kind x0.Branch x0.Who x0.Path x0.To x0.At x0.Text (h0_6.ul a19)) e24)) ?_
  rintro _ _ ⟨W25, rfl, l25, ⟨v0_6_25, rfl, f25_0⟩⟩
  have a26 := a19.n l25
  refine Lw.t rfl (T.alloc 5 (cs := [vI 0, vS ([] : Str), vS ([] : Str), vS ([] : Str), vS ([] : Str), vI 0, .slice none 0 0]) rfl) ?_
  rintro _ _ ⟨g29, W29, rfl, rfl, l29, b29⟩
  have a30 := a26.n l29
  refine Lw.u (T.sta (vs := [vI z23.Kind, vS z23.Branch, vS z23.Who, vS z23.Path, vS z23.To, vI z23.At, v0_6_25]) b29 rfl rfl (oc_cons rfl (oc_cons rfl (oc_cons rfl (oc_cons rfl (oc_cons rfl (oc_cons rfl (oc_cons (f25_0.up l29 rfl).oc oc_nil))))))) rfl rfl) ?_
  rintro _ _ ⟨W34, rfl, l34, b34⟩
  have a35 := a30.t l34 rfl
  have o37 := (f25_0.up l29 rfl).up l34 rfl
  refine Lw.nil (Cw.seq (Cw.region (Lw.r rfl (R.lda (cs := [vI z23.Kind, vS z23.Branch, vS z23.Who, vS z23.Path, vS z23.To, vI z23.At, v0_6_25]) b34.cells rfl rfl) ?_)))
  obtain ⟨z40, e41, hm⟩ := ob hm
  refine Lw.t rfl (T.call rfl (p13 (K := [0, 4])  (x0 := (Vm.Op.mk z23.Kind z23.Branch z23.Who z23.Path z23.To z23.At z23.Text)) ((Op.rd (K := [4]) z23.Kind z23.Branch z23.Who z23.Path z23.To z23.At z23.Text o37.rd).sub (M := [0, 4]) rfl) ((h99.ul a35).sub (M := [0, 4]) rfl) e41)) ?_
  rintro _ _ ⟨W42, rfl, l42, rfl⟩
  have a43 := a35.n l42
  refine Lw.g (vS z40) rfl (Lw.nil (Cw.seq (Cw.seq (Cw.region (Lw.m (vS z40) rfl (Lw.m (vS z16) rfl (Lw.sne rfl (Lw.nil (Cw.cond (b := (z40 != z16)) rfl (fun hc48 => ?_) (fun hc48 => ?_))))))))))
  ·replace hm := bt hm hc48
   refine Cw.seq (Cw.region (Lw.g (vB false) rfl (Lw.nil ?_)))
   cases hm
   exact Cw.ret (ret1 rfl (Res.mk a43 rfl))
  ·replace hm := bf hm hc48
   refine Cw.skip (Cw.seq (Cw.seq (Cw.draw [] [(0, 1), (1, 1), (2, 2), (3, 2), (4, 0)] mixed (by kernel_rfl) fun W49 l49 => ?_)))
   have a50 := a43.n l49
   refine Mw.q rfl rfl (fun _ c => R.lda (cs := [vI z23.Kind, vS z23.Branch, vS z23.Who, vS z23.Path, vS z23.To, vI z23.At, v0_6_25]) (((b34.up l42 rfl).up l49 rfl).clcs rfl c) rfl rfl) (Mw.q rfl rfl (fun _ c => R.lda (cs := [vI x0.Kind, vS x0.Branch, vS x0.Who, vS x0.Path, vS x0.To, vI x0.At, v0_6_]) ((((((b21.up l25 rfl).up l29 rfl).up l34 rfl).up l42 rfl).up l49 rfl).clcs rfl c) rfl rfl) ?_)
   obtain ⟨z56, e57, hm⟩ := ob hm
   refine Mw.t rfl rfl (T.call rfl (p12 (K := [0]) (k0 := 6) (Op.rd (K := [0]) x0.Kind x0.Branch x0.Who x0.Path x0.To x0.At x0.Text (h0_6.ul a50)) e57)) ?_
   rintro _ _ ⟨W58, rfl, l58, ⟨v0_6_58, rfl, f58_0⟩⟩
   have a59 := a50.n l58
   refine ⟨⟨_, rfl, (l58.sub (M := []) rfl)⟩, ?_⟩
   obtain ⟨z64, e65, hm⟩ := ob hm
   refine Mw.t rfl rfl (T.call rfl (p14 (K := [4, 6])  (x0 := (Vm.Op.mk z23.Kind z23.Branch z23.Who z23.Path z23.To z23.At z23.Text)) (x1 := (Vm.Op.mk z56.Kind z56.Branch z56.Who z56.Path z56.To z56.At z56.Text)) ((Op.rd (K := [4]) z23.Kind z23.Branch z23.Who z23.Path z23.To z23.At z23.Text (((o37.up l42 rfl).up l49 rfl).up l58 rfl).rd).sub (M := [4, 6]) rfl) ((Op.rd (K := [6]) z56.Kind z56.Branch z56.Who z56.Path z56.To z56.At z56.Text f58_0.rd).sub (M := [4, 6]) rfl) e65)) ?_
   rintro _ _ ⟨W66, rfl, l66, rfl⟩
   have a67 := a59.n l66
   refine ⟨⟨_, rfl, ((l58.sub (M := []) rfl).trans (l66.sub (M := []) rfl))⟩, ?_⟩
   refine Mw.p rfl rfl (fun _ => R.not rfl) (Mw.nil (Cw.cond (b := (!z64)) rfl (fun hc73 => ?_) (fun hc73 => ?_)))
   ·replace hm := bt hm hc73
    refine Cw.seq (Cw.region (Lw.g (vB false) rfl (Lw.nil ?_)))
    cases hm
    exact Cw.ret (ret1 rfl (Res.mk a67 rfl))
   ·replace hm := bf hm hc73
    refine Cw.skip (Cw.seq (Cw.region (Lw.g (vB true) rfl (Lw.nil ?_))))
    cases hm
    exact Cw.ret (ret1 rfl (Res.mk a67 rfl))

theorem p3 {W : CW} {K : List Nat} {x0 : Vm.Op} {v0_6_ : Value} {r : Bool} (h0 : Rd W K [vI x0.Kind, vS x0.Branch, vS x0.Who, vS x0.Path, vS x0.To, vI x0.At, v0_6_] x0) (h99 : Gl 2 W K) (hm : Vm.laws_FnExactOpPut x0 = some r) : CallR Tryd.prog 3 [.agg [vI x0.Kind, vS x0.Branch, vS x0.Who, vS x0.Path, vS x0.To, vI x0.At, v0_6_].toArray].toArray W.w (Res W [] fun W' v => v = vB r) :=
 (c3 (V := W.view K []) (h0.view _) (h99.view _) hm).ad (fk 0) fun _ _ e => e

end Go.Sx
