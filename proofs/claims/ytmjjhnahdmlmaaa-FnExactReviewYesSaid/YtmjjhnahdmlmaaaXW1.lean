/- Walks: each function answers as its model, printed by a program of ours. Conditions: the arguments read as they are given. -/
import Derived.Test.YtmjjhnahdmlmaaaXTs
import Derived.Test.YtmjjhnahdmlmaaaXMd
import Derived.Test.YtmjjhnahdmlmaaaXW0
import Derived.Test.YtmjjhnahdmlmaaaXE
namespace Go.Sx
open Go Go.Proofs Go.Vm Rp
set_option linter.unusedVariables false
set_option linter.unusedSimpArgs false

theorem c5 {V : CW} {x0 : Vm.Review} {v0_3_ : Value} {x1 : Str} {r : Vm.Review × Bool} (h0 : Rd V [0] [vS x0.Branch, vS x0.Into, vS x0.By, v0_3_] x0) (hm : Vm.spec_ReviewYes x0 x1 = some r) : CallR Try.prog 5 [.agg [vS x0.Branch, vS x0.Into, vS x0.By, v0_3_].toArray, vS x1].toArray V.w (Res V LL fun Wf v => ∃ (u0_3 : Value), v = .tuple [.agg [vS r.1.Branch, vS r.1.Into, vS r.1.By, u0_3].toArray, vB r.2].toArray ∧ Rd Wf [0] [u0_3] r.1.Yes) := by
 unfold Vm.spec_ReviewYes at hm
 obtain ⟨w0_0, he0, h0_3⟩ := Review.split h0
 simp only [List.cons.injEq, and_true, true_and] at he0
 obtain rfl := he0
 obtain ⟨W0, hW0⟩ : ∃ W, W = V := ⟨V, rfl⟩
 subst hW0
 refine CallR.of Try.func5 rfl rfl rfl rfl (Cw.seq (Cw.region (Lw.t rfl (T.box 2 (v := .agg [vS x0.Branch, vS x0.Into, vS x0.By, v0_3_].toArray) (cs := [vS x0.Branch, vS x0.Into, vS x0.By, v0_3_]) rfl rfl) ?_)))
 rintro _ _ ⟨g1, W1, rfl, rfl, l1, b1⟩
 have a2 := l1.o
 refine Lw.t rfl (T.alloc 3 (cs := [vS ([] : Str), vS ([] : Str), vS ([] : Str), .slice none 0 0]) rfl) ?_
 rintro _ _ ⟨g3, W3, rfl, rfl, l3, b3⟩
 have a4 := a2.n l3
 refine Lw.g (vB false) rfl (Lw.nil (Cw.seq (Cw.seq (Cw.region (Lw.r rfl (R.lda (cs := [vS x0.Branch, vS x0.Into, vS x0.By, v0_3_]) (b1.up l3 rfl).cells rfl rfl) ?_)))))
 obtain ⟨z7, e8, hm⟩ := ob hm
 refine Lw.t rfl (T.call rfl (p12 (K := [0])  (Review.rd (K := [0]) x0.Branch x0.Into x0.By x0.Yes (h0_3.ul a4)) e8)) ?_
 rintro _ _ ⟨W9, rfl, l9, rfl⟩
 have a10 := a4.n l9
 refine Lw.r rfl (R.not rfl) (Lw.nil (Cw.cond (b := (!z7)) rfl (fun hc13 => ?_) (fun hc13 => ?_)))
 ·replace hm := bt hm hc13
  refine Cw.seq (Cw.region (Lw.r rfl (R.bd (zs := [vS ([] : Str), vS ([] : Str), vS ([] : Str), .slice none 0 0]) (cs := [vS ([] : Str), vS ([] : Str), vS ([] : Str), .slice none 0 0]) [] rfl rfl rfl bp_nil) (Lw.u (T.sta (vs := [vS ([] : Str), vS ([] : Str), vS ([] : Str), .slice none 0 0]) (b3.up l9 rfl) rfl rfl (oc_cons rfl (oc_cons rfl (oc_cons rfl (oc_cons rfl oc_nil)))) rfl rfl) ?_)))
  rintro _ _ ⟨W14, rfl, l14, b14⟩
  have a15 := a10.t l14 rfl
  refine Lw.g (vB false) rfl (Lw.nil ?_)
  cases hm
  exact Cw.ret (retA2 rfl b14 rfl (Res.mk a15 ⟨.slice none 0 0, rfl, (rdN (K := [0]))⟩))
 ·replace hm := bf hm hc13
  refine Cw.skip (Cw.seq ?_)
  obtain ⟨q25, e26, hm⟩ := ob hm
  obtain ⟨z32, e33, hm⟩ := ob hm
  refine Cw.par [[], [0], [], [2], [], [4], [], [], [7], [6, 7, 8], [], [6, 7, 8, 9, 10], [0, 1, 2, 3, 4, 5, 6, 7, 8, 9, 10, 11], [], [0, 1, 2, 3, 4, 5, 6, 7, 8, 9, 10, 11, 12, 13]] [[], [0], [], [2], [], [4], [], [], [7], [6, 8], [], [9, 10], [1, 3, 5, 11], [], [11, 12, 13]] [[], [], [], [], [], [], [], [], [], [4], [], [], [], [], [5]] [[0], [1], [2], [3], [4], [5], [6], [7], [8], [9], [10], [11], [11, 12], [13], [11, 13]] [[], [], [], [], [], [], [4], [], [], [4], [], [0, 4], [], [5], [5]] [0, 1, 2, 3, 4, 5, 7, 8, 9, 10, 11, 12, 14] [4, 5] [fun vs W => (vs 0) = ptr ((bx g1).add 0), fun vs W => (vs 1) = vS x0.Branch, fun vs W => (vs 2) = ptr ((bx g1).add 1), fun vs W => (vs 3) = vS x0.Into, fun vs W => (vs 4) = ptr ((bx g1).add 2), fun vs W => (vs 5) = vS x0.By, fun vs W => Ow W 4 [] [(vs 6)] ([] : List Str), fun vs W => (vs 7) = ptr ((bx g1).add 3), fun vs W => (vs 8) = v0_3_, fun vs W => Ow W 4 [] [(vs 9)] q25, fun vs W => (vs 10) = vS x1, fun vs W => Rd W [0, 4] [(vs 11)] z32, fun vs W => (vs 12) = .agg [vS x0.Branch, vS x0.Into, vS x0.By, (vs 11)].toArray, fun vs W => (vs 13) = ptr (bx (pg (vs 13))) ∧ Bx W 5 (pg (vs 13)) [vS ([] : Str), vS ([] : Str), vS ([] : Str), .slice none 0 0], fun vs W => (vs 13) = ptr (bx (pg (vs 13))) ∧ Bx W 5 (pg (vs 13)) [vS x0.Branch, vS x0.Into, vS x0.By, (vs 11)]] [] mixed (by kernel_rfl) rfl AllF.nil ?_
  intro W50 l50
  have a51 := a10.n l50
  have b52 := ((b1.up l3 rfl).up l9 rfl).up l50 rfl
  refine ⟨(Steps.cons ?_ (Steps.cons ?_ (Steps.cons ?_ (Steps.cons ?_ (Steps.cons ?_ (Steps.cons ?_ (Steps.cons ?_ (Steps.cons ?_ (Steps.cons ?_ (Steps.cons ?_ (Steps.cons ?_ (Steps.cons ?_ (Steps.cons ?_ (Steps.cons ?_ (Steps.cons ?_ Steps.nil))))))))))))))), (Sups.cons (fun vs vs' W W' _ hv l hd h => by (show (vs' 0) = ptr ((bx g1).add 0)); rw [hv 0 (anyb rfl)]; exact h) (Sups.cons (fun vs vs' W W' _ hv l hd h => by (show (vs' 1) = vS x0.Branch); rw [hv 1 (anyb rfl)]; exact h) (Sups.cons (fun vs vs' W W' _ hv l hd h => by (show (vs' 2) = ptr ((bx g1).add 1)); rw [hv 2 (anyb rfl)]; exact h) (Sups.cons (fun vs vs' W W' _ hv l hd h => by (show (vs' 3) = vS x0.Into); rw [hv 3 (anyb rfl)]; exact h) (Sups.cons (fun vs vs' W W' _ hv l hd h => by (show (vs' 4) = ptr ((bx g1).add 2)); rw [hv 4 (anyb rfl)]; exact h) (Sups.cons (fun vs vs' W W' _ hv l hd h => by (show (vs' 5) = vS x0.By); rw [hv 5 (anyb rfl)]; exact h) (Sups.cons (fun vs vs' W W' _ hv l hd h => by (show Ow W' 4 [] [(vs' 6)] ([] : List Str)); rw [hv 6 (anyb rfl)]; exact h.upv l (disj_mem hd (c := 4) rfl)) (Sups.cons (fun vs vs' W W' _ hv l hd h => by (show (vs' 7) = ptr ((bx g1).add 3)); rw [hv 7 (anyb rfl)]; exact h) (Sups.cons (fun vs vs' W W' _ hv l hd h => by (show (vs' 8) = v0_3_); rw [hv 8 (anyb rfl)]; exact h) (Sups.cons (fun vs vs' W W' _ hv l hd h => by (show Ow W' 4 [] [(vs' 9)] q25); rw [hv 9 (anyb rfl)]; exact h.upv l (disj_mem hd (c := 4) rfl)) (Sups.cons (fun vs vs' W W' _ hv l hd h => by (show (vs' 10) = vS x1); rw [hv 10 (anyb rfl)]; exact h) (Sups.cons (fun vs vs' W W' _ hv l hd h => by (show Rd W' [0, 4] [(vs' 11)] z32); rw [hv 11 (anyb rfl)]; exact h.up l (disj_sub hd (K := [0, 4]) rfl)) (Sups.cons (fun vs vs' W W' _ hv l hd h => by (show (vs' 12) = .agg [vS x0.Branch, vS x0.Into, vS x0.By, (vs' 11)].toArray); rw [hv 11 (anyb rfl), hv 12 (anyb rfl)]; exact h) (Sups.cons (fun vs vs' W W' _ hv l hd h => by (show (vs' 13) = ptr (bx (pg (vs' 13))) ∧ Bx W' 5 (pg (vs' 13)) [vS ([] : Str), vS ([] : Str), vS ([] : Str), .slice none 0 0]); rw [hv 13 (anyb rfl)]; exact ⟨h.1, h.2.up l (disj_mem hd (c := 5) rfl)⟩) (Sups.cons (fun vs vs' W W' _ hv l hd h => by (show (vs' 13) = ptr (bx (pg (vs' 13))) ∧ Bx W' 5 (pg (vs' 13)) [vS x0.Branch, vS x0.Into, vS x0.By, (vs' 11)]); rw [hv 11 (anyb rfl), hv 13 (anyb rfl)]; exact ⟨h.1, h.2.up l (disj_mem hd (c := 5) rfl)⟩) Sups.nil))))))))))))))), ?_⟩
  ·intro vs W lW hN
   obtain ⟨W54, hW54⟩ : ∃ X, X = W := ⟨W, rfl⟩
   subst hW54
   refine Tr.mono (Run.tr (R.fa rfl)) ?_
   rintro _ _ ⟨hu, rfl⟩
   obtain rfl := hu.symm
   exact ⟨W54, rfl, Le.refl _ _, (show (ptr ((bx g1).add 0) : Value) = ptr ((bx g1).add 0) from rfl)⟩
  ·intro vs W lW hN
   obtain ⟨W58, hW58⟩ : ∃ X, X = W := ⟨W, rfl⟩
   subst hW58
   have e0_ : vs 0 = ptr ((bx g1).add 0) := (hN 0 (anyb rfl))
   obtain ⟨vs, rfl⟩ := up_eq e0_
   refine Tr.mono (Run.tr (R.ld (v := vS x0.Branch) rfl rfl ((b52.up lW rfl).cell rfl))) ?_
   rintro _ _ ⟨hu, rfl⟩
   obtain rfl := hu.symm
   exact ⟨W58, rfl, Le.refl _ _, (show (vS x0.Branch : Value) = vS x0.Branch from rfl)⟩
  ·intro vs W lW hN
   obtain ⟨W62, hW62⟩ : ∃ X, X = W := ⟨W, rfl⟩
   subst hW62
   refine Tr.mono (Run.tr (R.fa rfl)) ?_
   rintro _ _ ⟨hu, rfl⟩
   obtain rfl := hu.symm
   exact ⟨W62, rfl, Le.refl _ _, (show (ptr ((bx g1).add 1) : Value) = ptr ((bx g1).add 1) from rfl)⟩
  ·intro vs W lW hN
   obtain ⟨W66, hW66⟩ : ∃ X, X = W := ⟨W, rfl⟩
   subst hW66
   have e2_ : vs 2 = ptr ((bx g1).add 1) := (hN 2 (anyb rfl))
   obtain ⟨vs, rfl⟩ := up_eq e2_
   refine Tr.mono (Run.tr (R.ld (v := vS x0.Into) rfl rfl ((b52.up lW rfl).cell rfl))) ?_
   rintro _ _ ⟨hu, rfl⟩
   obtain rfl := hu.symm
   exact ⟨W66, rfl, Le.refl _ _, (show (vS x0.Into : Value) = vS x0.Into from rfl)⟩
  ·intro vs W lW hN
   obtain ⟨W70, hW70⟩ : ∃ X, X = W := ⟨W, rfl⟩
   subst hW70
   refine Tr.mono (Run.tr (R.fa rfl)) ?_
   rintro _ _ ⟨hu, rfl⟩
   obtain rfl := hu.symm
   exact ⟨W70, rfl, Le.refl _ _, (show (ptr ((bx g1).add 2) : Value) = ptr ((bx g1).add 2) from rfl)⟩
  ·intro vs W lW hN
   obtain ⟨W74, hW74⟩ : ∃ X, X = W := ⟨W, rfl⟩
   subst hW74
   have e4_ : vs 4 = ptr ((bx g1).add 2) := (hN 4 (anyb rfl))
   obtain ⟨vs, rfl⟩ := up_eq e4_
   refine Tr.mono (Run.tr (R.ld (v := vS x0.By) rfl rfl ((b52.up lW rfl).cell rfl))) ?_
   rintro _ _ ⟨hu, rfl⟩
   obtain rfl := hu.symm
   exact ⟨W74, rfl, Le.refl _ _, (show (vS x0.By : Value) = vS x0.By from rfl)⟩
  ·intro vs W lW hN
   obtain ⟨W78, hW78⟩ : ∃ X, X = W := ⟨W, rfl⟩
   subst hW78
   refine Tr.mono (T.lit0 (α := Str) 4 []) ?_
   rintro v82 _ ⟨W82, rfl, l82, o82⟩
   exact ⟨W82, rfl, l82, (show Ow W82 4 [] [v82] ([] : List Str) from o82)⟩
  ·intro vs W lW hN
   obtain ⟨W86, hW86⟩ : ∃ X, X = W := ⟨W, rfl⟩
   subst hW86
   refine Tr.mono (Run.tr (R.fa rfl)) ?_
   rintro _ _ ⟨hu, rfl⟩
   obtain rfl := hu.symm
   exact ⟨W86, rfl, Le.refl _ _, (show (ptr ((bx g1).add 3) : Value) = ptr ((bx g1).add 3) from rfl)⟩
  ·intro vs W lW hN
   obtain ⟨W90, hW90⟩ : ∃ X, X = W := ⟨W, rfl⟩
   subst hW90
   have e7_ : vs 7 = ptr ((bx g1).add 3) := (hN 7 (anyb rfl))
   obtain ⟨vs, rfl⟩ := up_eq e7_
   refine Tr.mono (Run.tr (R.ld (v := v0_3_) rfl rfl ((b52.up lW rfl).cell rfl))) ?_
   rintro _ _ ⟨hu, rfl⟩
   obtain rfl := hu.symm
   exact ⟨W90, rfl, Le.refl _ _, (show (v0_3_ : Value) = v0_3_ from rfl)⟩
  ·intro vs W lW hN
   obtain ⟨W94, hW94⟩ : ∃ X, X = W := ⟨W, rfl⟩
   subst hW94
   have a95 := a51.t lW rfl
   obtain ⟨pv6, e6_⟩ : ∃ v, vs 6 = v := ⟨_, rfl⟩
   obtain ⟨vs, rfl⟩ := up_eq e6_
   have o98 : Ow W94 4 [] [pv6] ([] : List Str) := (hN 6 (anyb rfl))
   have e8_ : vs 8 = v0_3_ := (hN 8 (anyb rfl))
   obtain ⟨vs, rfl⟩ := up_eq e8_
   refine Tr.mono (T.appP (α := Str) o98 (h0_3.ul a95) rfl rfl e26) ?_
   rintro v99 _ ⟨W99, rfl, l99, o99⟩
   exact ⟨W99, rfl, l99, (show Ow W99 4 [] [v99] q25 from o99)⟩
  ·intro vs W lW hN
   obtain ⟨W104, hW104⟩ : ∃ X, X = W := ⟨W, rfl⟩
   subst hW104
   refine Tr.mono (Run.tr (R.mv (v := vS x1) rfl)) ?_
   rintro _ _ ⟨hu, rfl⟩
   obtain rfl := hu.symm
   exact ⟨W104, rfl, Le.refl _ _, (show (vS x1 : Value) = vS x1 from rfl)⟩
  ·intro vs W lW hN
   obtain ⟨W108, hW108⟩ : ∃ X, X = W := ⟨W, rfl⟩
   subst hW108
   obtain ⟨pv9, e9_⟩ : ∃ v, vs 9 = v := ⟨_, rfl⟩
   obtain ⟨vs, rfl⟩ := up_eq e9_
   have o112 : Ow W108 4 [] [pv9] q25 := (hN 9 (anyb rfl))
   have e10_ : vs 10 = vS x1 := (hN 10 (anyb rfl))
   obtain ⟨vs, rfl⟩ := up_eq e10_
   refine Tr.mono (T.call rfl (p13 (K := [4])  o112.rd e33)) ?_
   rintro v0_113 _ ⟨W113, rfl, l113, ⟨_, rfl, f113_0⟩⟩
   have s114 := f113_0.sub (M := [0, 4]) rfl
   exact ⟨W113, rfl, l113, (show Rd W113 [0, 4] [v0_113] z32 from s114)⟩
  ·intro vs W lW hN
   obtain ⟨W119, hW119⟩ : ∃ X, X = W := ⟨W, rfl⟩
   subst hW119
   have e1_ : vs 1 = vS x0.Branch := (hN 1 (anyb rfl))
   obtain ⟨vs, rfl⟩ := up_eq e1_
   have e3_ : vs 3 = vS x0.Into := (hN 3 (anyb rfl))
   obtain ⟨vs, rfl⟩ := up_eq e3_
   have e5_ : vs 5 = vS x0.By := (hN 5 (anyb rfl))
   obtain ⟨vs, rfl⟩ := up_eq e5_
   obtain ⟨pv11, e11_⟩ : ∃ v, vs 11 = v := ⟨_, rfl⟩
   obtain ⟨vs, rfl⟩ := up_eq e11_
   have o123 : Rd W119 [0, 4] [pv11] z32 := (hN 11 (anyb rfl))
   refine Tr.mono (Run.tr (R.bd (zs := [vS ([] : Str), vS ([] : Str), vS ([] : Str), .slice none 0 0]) (cs := [vS x0.Branch, vS x0.Into, vS x0.By, pv11]) [(0, vS x0.Branch), (1, vS x0.Into), (2, vS x0.By), (3, pv11)] rfl rfl rfl (bp_cons rfl rfl (bp_cons rfl rfl (bp_cons rfl rfl (bp_cons o123.oc rfl bp_nil)))))) ?_
   rintro _ _ ⟨hu, rfl⟩
   obtain rfl := hu.symm
   exact ⟨W119, rfl, Le.refl _ _, (show (.agg [vS x0.Branch, vS x0.Into, vS x0.By, pv11].toArray : Value) = .agg [vS x0.Branch, vS x0.Into, vS x0.By, pv11].toArray from rfl)⟩
  ·intro vs W lW hN
   obtain ⟨W124, hW124⟩ : ∃ X, X = W := ⟨W, rfl⟩
   subst hW124
   refine Tr.mono (T.alloc 5 (cs := [vS ([] : Str), vS ([] : Str), vS ([] : Str), .slice none 0 0]) rfl) ?_
   rintro _ _ ⟨g128, W128, rfl, rfl, l128, b128⟩
   exact ⟨W128, rfl, l128, (show (ptr (bx g128) : Value) = ptr (bx g128) ∧ Bx W128 5 g128 [vS ([] : Str), vS ([] : Str), vS ([] : Str), .slice none 0 0] from ⟨rfl, b128⟩)⟩
  ·intro vs W lW hN
   obtain ⟨W132, hW132⟩ : ∃ X, X = W := ⟨W, rfl⟩
   subst hW132
   obtain ⟨pv11, e11_⟩ : ∃ v, vs 11 = v := ⟨_, rfl⟩
   obtain ⟨vs, rfl⟩ := up_eq e11_
   have o136 : Rd W132 [0, 4] [pv11] z32 := (hN 11 (anyb rfl))
   have e12_ : vs 12 = .agg [vS x0.Branch, vS x0.Into, vS x0.By, pv11].toArray := (hN 12 (anyb rfl))
   obtain ⟨vs, rfl⟩ := up_eq e12_
   obtain ⟨pg13, e13_⟩ : ∃ pg13, vs 13 = ptr (bx pg13) := ⟨_, ((hN 13 (anyb rfl))).1⟩
   obtain ⟨vs, rfl⟩ := up_eq e13_
   have o137 : Bx W132 5 pg13 [vS ([] : Str), vS ([] : Str), vS ([] : Str), .slice none 0 0] := (hN 13 (anyb rfl)).2
   refine Tr.mono (T.sta (vs := [vS x0.Branch, vS x0.Into, vS x0.By, pv11]) o137 rfl rfl (oc_cons rfl (oc_cons rfl (oc_cons rfl (oc_cons o136.oc oc_nil)))) rfl rfl) ?_
   rintro _ _ ⟨W138, rfl, l138, b138⟩
   exact ⟨W138, rfl, l138, (show (ptr (bx pg13)) = ptr (bx pg13) ∧ Bx W138 5 pg13 [vS x0.Branch, vS x0.Into, vS x0.By, pv11] from ⟨rfl, b138⟩)⟩
  ·intro vs W lW hN
   obtain ⟨W142, hW142⟩ : ∃ X, X = W := ⟨W, rfl⟩
   subst hW142
   have a143 := a51.t lW rfl
   obtain ⟨l142, hl142⟩ : ∃ x, x = lW := ⟨lW, rfl⟩
   have e0_ : vs 0 = ptr ((bx g1).add 0) := (hN 0 (anyb rfl))
   obtain ⟨vs, rfl⟩ := up_eq e0_
   have e1_ : vs 1 = vS x0.Branch := (hN 1 (anyb rfl))
   obtain ⟨vs, rfl⟩ := up_eq e1_
   have e2_ : vs 2 = ptr ((bx g1).add 1) := (hN 2 (anyb rfl))
   obtain ⟨vs, rfl⟩ := up_eq e2_
   have e3_ : vs 3 = vS x0.Into := (hN 3 (anyb rfl))
   obtain ⟨vs, rfl⟩ := up_eq e3_
   have e4_ : vs 4 = ptr ((bx g1).add 2) := (hN 4 (anyb rfl))
   obtain ⟨vs, rfl⟩ := up_eq e4_
   have e5_ : vs 5 = vS x0.By := (hN 5 (anyb rfl))
   obtain ⟨vs, rfl⟩ := up_eq e5_
   have e7_ : vs 7 = ptr ((bx g1).add 3) := (hN 7 (anyb rfl))
   obtain ⟨vs, rfl⟩ := up_eq e7_
   have e8_ : vs 8 = v0_3_ := (hN 8 (anyb rfl))
   obtain ⟨vs, rfl⟩ := up_eq e8_
   obtain ⟨pv9, e9_⟩ : ∃ v, vs 9 = v := ⟨_, rfl⟩
   obtain ⟨vs, rfl⟩ := up_eq e9_
   have o146 : Ow W142 4 [] [pv9] q25 := (hN 9 (anyb rfl))
   have e10_ : vs 10 = vS x1 := (hN 10 (anyb rfl))
   obtain ⟨vs, rfl⟩ := up_eq e10_
   obtain ⟨pv11, e11_⟩ : ∃ v, vs 11 = v := ⟨_, rfl⟩
   obtain ⟨vs, rfl⟩ := up_eq e11_
   have o147 : Rd W142 [0, 4] [pv11] z32 := (hN 11 (anyb rfl))
   have e12_ : vs 12 = .agg [vS x0.Branch, vS x0.Into, vS x0.By, pv11].toArray := (hN 12 (anyb rfl))
   obtain ⟨vs, rfl⟩ := up_eq e12_
   obtain ⟨pg13, e13_⟩ : ∃ pg13, vs 13 = ptr (bx pg13) := ⟨_, (hN 14 (anyb rfl)).1⟩
   obtain ⟨vs, rfl⟩ := up_eq e13_
   have o148 : Bx W142 5 pg13 [vS x0.Branch, vS x0.Into, vS x0.By, pv11] := (hN 14 (anyb rfl)).2
   refine Cw.seq (Cw.seq (Cw.region (Lw.r rfl (R.lda (cs := [vS x0.Branch, vS x0.Into, vS x0.By, pv11]) o148.cells rfl rfl) ?_)))
   obtain ⟨z149, e150, hm⟩ := ob hm
   refine Lw.t rfl (T.call rfl (p12 (K := [0, 4])  (x0 := (Vm.Review.mk x0.Branch x0.Into x0.By z32)) (Review.rd (K := [0, 4]) x0.Branch x0.Into x0.By z32 o147) e150)) ?_
   rintro _ _ ⟨W151, rfl, l151, rfl⟩
   have a152 := a143.n l151
   have b155 := (((b3.up l9 rfl).up l50 rfl).up lW rfl).up l151 rfl
   refine Lw.r rfl (R.not rfl) (Lw.nil (Cw.cond (b := (!z149)) rfl (fun hc157 => ?_) (fun hc157 => ?_)))
   ·replace hm := bt hm hc157
    refine Cw.seq (Cw.region (Lw.t rfl (T.lit0 (α := Str) 6 []) ?_))
    rintro v158 _ ⟨W158, rfl, l158, o158⟩
    have a159 := a152.n l158
    refine Lw.fa rfl (Lw.r rfl (R.ld (v := v0_3_) rfl rfl ((((b52.up lW rfl).up l151 rfl).up l158 rfl).cell rfl)) ?_)
    obtain ⟨q164, e165, hm⟩ := ob hm
    refine Lw.t rfl (T.appP (α := Str) o158 (h0_3.ul a159) rfl rfl e165) ?_
    rintro v166 _ ⟨W166, rfl, l166, o166⟩
    have a168 := a159.t l166 rfl
    refine Lw.fa rfl (Lw.u (T.st (j := 3) (v := v166) (((o148.up l151 rfl).up l158 rfl).up l166 rfl) rfl rfl o166.oc rfl rfl) ?_)
    rintro _ _ ⟨W173, rfl, l173, b173⟩
    have a174 := a168.t l173 rfl
    refine Lw.nil (Cw.seq (Cw.region (Lw.r rfl (R.lda (cs := [vS x0.Branch, vS x0.Into, vS x0.By, v166]) b173.cells rfl rfl) (Lw.u (T.sta (vs := [vS x0.Branch, vS x0.Into, vS x0.By, v166]) (((b155.up l158 rfl).up l166 rfl).up l173 rfl) rfl rfl (oc_cons rfl (oc_cons rfl (oc_cons rfl (oc_cons (o166.up l173 rfl).oc oc_nil)))) rfl rfl) ?_))))
    rintro _ _ ⟨W179, rfl, l179, b179⟩
    have a180 := a174.t l179 rfl
    refine Lw.g (vB false) rfl (Lw.nil ?_)
    obtain ⟨W185, ew185, l185, dj185⟩ := dyeE _ 6
    have s186 : Rd (α := List Str) W185 [0] [v166] q164 := by rw [dj185]; exact (((o166.up l173 rfl).up l179 rfl).rd.dye 6).sub (M := [0]) rfl
    have a187 := a180.t l185 rfl
    cases hm
    rw [← ew185]
    exact Cw.ret (retA2 rfl (b179.up l185 rfl) rfl (Res.mk a187 ⟨v166, rfl, s186⟩))
   ·replace hm := bf hm hc157
    refine Cw.skip (Cw.seq (Cw.region (Lw.r rfl (R.lda (cs := [vS x0.Branch, vS x0.Into, vS x0.By, pv11]) (o148.up l151 rfl).cells rfl rfl) (Lw.u (T.sta (vs := [vS x0.Branch, vS x0.Into, vS x0.By, pv11]) b155 rfl rfl (oc_cons rfl (oc_cons rfl (oc_cons rfl (oc_cons o147.oc oc_nil)))) rfl rfl) ?_))))
    rintro _ _ ⟨W192, rfl, l192, b192⟩
    have a193 := a152.t l192 rfl
    refine Lw.g (vB true) rfl (Lw.nil ?_)
    have s197 := o147.up ((l151.sub (M := [3]) rfl).trans (l192.sub (M := [3]) rfl)) rfl
    obtain ⟨W198, ew198, l198, dj198⟩ := dyeE _ 4
    have s199 : Rd W198 [0] [pv11] z32 := by rw [dj198]; exact (s197.dye 4).sub (M := [0]) rfl
    have s200 : Rd (α := List Str) W198 [0] [pv9] q25 := by rw [dj198]; exact (((o146.up l151 rfl).up l192 rfl).rd.dye 4).sub (M := [0]) rfl
    have a201 := a193.t l198 rfl
    cases hm
    rw [← ew198]
    exact Cw.ret (retA2 rfl (b192.up l198 rfl) rfl (Res.mk a201 ⟨pv11, rfl, s199⟩))

theorem p5 {W : CW} {K : List Nat} {x0 : Vm.Review} {v0_3_ : Value} {x1 : Str} {r : Vm.Review × Bool} (h0 : Rd W K [vS x0.Branch, vS x0.Into, vS x0.By, v0_3_] x0) (hm : Vm.spec_ReviewYes x0 x1 = some r) : CallR Try.prog 5 [.agg [vS x0.Branch, vS x0.Into, vS x0.By, v0_3_].toArray, vS x1].toArray W.w (Res W [] fun W' v => ∃ (u0_3 : Value), v = .tuple [.agg [vS r.1.Branch, vS r.1.Into, vS r.1.By, u0_3].toArray, vB r.2].toArray ∧ Rd W' (0 :: K) [u0_3] r.1.Yes) :=
 (c5 (V := W.view K []) (h0.view _) hm).ad (fk 0) fun _ _ ⟨u0_3, e, f0⟩ => ⟨u0_3, e, f0.back rfl⟩

theorem c27 {V : CW} {x0 : Int} {x1 : Int} {x2 : Int} {r : Bool}  (hm : Vm.impl_within x0 x1 x2 = some r) : CallR Try.prog 27 [vI x0, vI x1, vI x2].toArray V.w (Res V LL fun Wf v => v = vB r) := by
 unfold Vm.impl_within at hm
 obtain ⟨W0, hW0⟩ : ∃ W, W = V := ⟨V, rfl⟩
 subst hW0
 refine CallR.of Try.func27 rfl rfl rfl rfl (Cw.seq (Cw.region (Lw.g (vB false) rfl (Lw.nil ?_))))
 obtain ⟨K3, hK3, hm⟩ := jn_e hm
 refine Cw.join 7 14 [6] (fun l w => ∃ (y1 : Bool) (W2 : CW), W2.w = w ∧ Le [] W0 W2 ∧ l = [vB y1] ∧ K3 y1 = some r) ?_ ?_
 ·rintro _ _ σ ⟨y1, W2, rfl, l2, rfl, hm⟩
  rw [hK3] at hm
  have a4 := l2.o
  cases hm
  exact Cw.ret (ret1 rfl (Res.mk a4 rfl))
 ·refine Cw.region (Lw.m (vI x1) rfl (Lw.m (vI x0) rfl (Lw.le rfl (Lw.m (vB (decide ((x1 : Int) ≤ (x0 : Int)))) rfl (bsplit (decide ((x1 : Int) ≤ (x0 : Int))) (fun hc5 => ?_) (fun hc5 => ?_))))))
  ·replace hm := bt hm hc5
   refine Lw.want' hc5 rfl rfl rfl rfl (Lw.m (vI x0) rfl (Lw.want' hc5 rfl rfl rfl rfl (Lw.m (vI x2) rfl (Lw.want' hc5 rfl rfl rfl rfl (Lw.le rfl (Lw.p hc5 (vB (decide ((x0 : Int) ≤ (x2 : Int)))) rfl (Lw.g (vB (decide ((x0 : Int) ≤ (x2 : Int)))) rfl (Lw.nil (⟨?_, ⟨decide ((x0 : Int) ≤ (x2 : Int)), W0, rfl, Le.refl _ _, rfl, hm⟩⟩)))))))))
   iterate 9 (refine Agree.up rfl ?_)
   exact Agree.refl _
  ·replace hm := bf hm hc5
   refine Lw.pass' hc5 rfl rfl rfl rfl rfl rfl rfl (Lw.pass' hc5 rfl rfl rfl rfl rfl rfl rfl (Lw.pass' hc5 rfl rfl rfl rfl rfl rfl rfl (Lw.p hc5 (vB false) rfl (Lw.g (vB false) rfl (Lw.nil (⟨?_, ⟨false, W0, rfl, Le.refl _ _, rfl, hm⟩⟩))))))
   iterate 9 (refine Agree.up rfl ?_)
   exact Agree.refl _

theorem p27 {W : CW} {K : List Nat} {x0 : Int} {x1 : Int} {x2 : Int} {r : Bool}  (hm : Vm.impl_within x0 x1 x2 = some r) : CallR Try.prog 27 [vI x0, vI x1, vI x2].toArray W.w (Res W [] fun W' v => v = vB r) :=
 (c27 (V := W.view K [])  hm).ad (fk 0) fun _ _ e => e

theorem c28 {V : CW} {x0 : Byte} {r : Bool}  (hm : Vm.impl_wordByte x0 = some r) : CallR Try.prog 28 [.int .u8 (UInt8.toNat x0 : Int)].toArray V.w (Res V LL fun Wf v => v = vB r) := by
 unfold Vm.impl_wordByte at hm
 obtain ⟨W0, hW0⟩ : ∃ W, W = V := ⟨V, rfl⟩
 subst hW0
 refine CallR.of Try.func28 rfl rfl rfl rfl (Cw.seq (Cw.region (Lw.g (vB false) rfl (Lw.nil ?_))))
 obtain ⟨K3, hK3, hm⟩ := jn_e hm
 refine Cw.join 3 16 [2] (fun l w => ∃ (y1 : Bool) (W2 : CW), W2.w = w ∧ Le [] W0 W2 ∧ l = [vB y1] ∧ K3 y1 = some r) ?_ ?_
 ·rintro _ _ σ ⟨y1, W2, rfl, l2, rfl, hm⟩
  rw [hK3] at hm
  have a4 := l2.o
  cases hm
  exact Cw.ret (ret1 rfl (Res.mk a4 rfl))
 ·refine Cw.region (Lw.m (.int .u8 (UInt8.toNat x0 : Int)) rfl (Lw.ge rfl (Lw.m (vB (decide ((97 : Int) ≤ ((UInt8.toNat x0 : Int) : Int)))) rfl (bsplit (decide ((97 : Int) ≤ ((UInt8.toNat x0 : Int) : Int))) (fun hc5 => ?_) (fun hc5 => ?_)))))
  ·replace hm := bt hm hc5
   refine Lw.want' hc5 rfl rfl rfl rfl (Lw.m (.int .u8 (UInt8.toNat x0 : Int)) rfl (Lw.want' hc5 rfl rfl rfl rfl (Lw.le rfl (Lw.p hc5 (vB (decide (((UInt8.toNat x0 : Int) : Int) ≤ (122 : Int)))) rfl (Lw.m (vB (decide (((UInt8.toNat x0 : Int) : Int) ≤ (122 : Int)))) rfl (bsplit (decide (((UInt8.toNat x0 : Int) : Int) ≤ (122 : Int))) (fun hc6 => ?_) (fun hc6 => ?_)))))))
   ·replace hm := bt hm hc6
    refine Lw.pass' hc6 rfl rfl rfl rfl rfl rfl rfl (Lw.pass' hc6 rfl rfl rfl rfl rfl rfl rfl (Lw.pass' hc6 rfl rfl rfl rfl rfl rfl rfl (Lw.passU rfl rfl rfl rfl rfl rfl (Lw.passU rfl rfl rfl rfl rfl rfl (Lw.pass' hc6 rfl rfl rfl rfl rfl rfl rfl (Lw.p hc6 (vB true) rfl (Lw.g (vB true) rfl (Lw.nil (⟨?_, ⟨true, W0, rfl, Le.refl _ _, rfl, hm⟩⟩)))))))))
    iterate 15 (refine Agree.up rfl ?_)
    exact Agree.refl _
   ·replace hm := bf hm hc6
    refine Lw.want' hc6 rfl rfl rfl rfl (Lw.m (.int .u8 (UInt8.toNat x0 : Int)) rfl (Lw.want' hc6 rfl rfl rfl rfl (Lw.ge rfl (Lw.want' hc6 rfl rfl rfl rfl (Lw.m (vB (decide ((48 : Int) ≤ ((UInt8.toNat x0 : Int) : Int)))) rfl (bsplit (decide ((48 : Int) ≤ ((UInt8.toNat x0 : Int) : Int))) (fun hc7 => ?_) (fun hc7 => ?_)))))))
    ·replace hm := bt hm hc7
     refine Lw.want' hc7 rfl rfl rfl rfl (Lw.m (.int .u8 (UInt8.toNat x0 : Int)) rfl (Lw.want' hc7 rfl rfl rfl rfl (Lw.le rfl (Lw.want' hc6 rfl rfl rfl rfl (Lw.p hc7 (vB (decide (((UInt8.toNat x0 : Int) : Int) ≤ (57 : Int)))) rfl (Lw.p hc6 (vB (decide (((UInt8.toNat x0 : Int) : Int) ≤ (57 : Int)))) rfl (Lw.g (vB (decide (((UInt8.toNat x0 : Int) : Int) ≤ (57 : Int)))) rfl (Lw.nil (⟨?_, ⟨decide (((UInt8.toNat x0 : Int) : Int) ≤ (57 : Int)), W0, rfl, Le.refl _ _, rfl, hm⟩⟩)))))))))
     iterate 15 (refine Agree.up rfl ?_)
     exact Agree.refl _
    ·replace hm := bf hm hc7
     refine Lw.pass' hc7 rfl rfl rfl rfl rfl rfl rfl (Lw.pass' hc7 rfl rfl rfl rfl rfl rfl rfl (Lw.want' hc6 rfl rfl rfl rfl (Lw.p hc7 (vB false) rfl (Lw.p hc6 (vB false) rfl (Lw.g (vB false) rfl (Lw.nil (⟨?_, ⟨false, W0, rfl, Le.refl _ _, rfl, hm⟩⟩)))))))
     iterate 15 (refine Agree.up rfl ?_)
     exact Agree.refl _
  ·replace hm := bf hm hc5
   refine Lw.pass' hc5 rfl rfl rfl rfl rfl rfl rfl (Lw.pass' hc5 rfl rfl rfl rfl rfl rfl rfl (Lw.p hc5 (vB false) rfl (Lw.m (vB false) rfl (Lw.want' rfl rfl rfl rfl rfl (Lw.m (.int .u8 (UInt8.toNat x0 : Int)) rfl (Lw.want' rfl rfl rfl rfl rfl (Lw.ge rfl (Lw.want' rfl rfl rfl rfl rfl (Lw.m (vB (decide ((48 : Int) ≤ ((UInt8.toNat x0 : Int) : Int)))) rfl (bsplit (decide ((48 : Int) ≤ ((UInt8.toNat x0 : Int) : Int))) (fun hc8 => ?_) (fun hc8 => ?_)))))))))))
   ·replace hm := bt hm hc8
    refine Lw.want' hc8 rfl rfl rfl rfl (Lw.m (.int .u8 (UInt8.toNat x0 : Int)) rfl (Lw.want' hc8 rfl rfl rfl rfl (Lw.le rfl (Lw.want' rfl rfl rfl rfl rfl (Lw.p hc8 (vB (decide (((UInt8.toNat x0 : Int) : Int) ≤ (57 : Int)))) rfl (Lw.p rfl (vB (decide (((UInt8.toNat x0 : Int) : Int) ≤ (57 : Int)))) rfl (Lw.g (vB (decide (((UInt8.toNat x0 : Int) : Int) ≤ (57 : Int)))) rfl (Lw.nil (⟨?_, ⟨decide (((UInt8.toNat x0 : Int) : Int) ≤ (57 : Int)), W0, rfl, Le.refl _ _, rfl, hm⟩⟩)))))))))
    iterate 15 (refine Agree.up rfl ?_)
    exact Agree.refl _
   ·replace hm := bf hm hc8
    refine Lw.pass' hc8 rfl rfl rfl rfl rfl rfl rfl (Lw.pass' hc8 rfl rfl rfl rfl rfl rfl rfl (Lw.want' rfl rfl rfl rfl rfl (Lw.p hc8 (vB false) rfl (Lw.p rfl (vB false) rfl (Lw.g (vB false) rfl (Lw.nil (⟨?_, ⟨false, W0, rfl, Le.refl _ _, rfl, hm⟩⟩)))))))
    iterate 15 (refine Agree.up rfl ?_)
    exact Agree.refl _

theorem p28 {W : CW} {K : List Nat} {x0 : Byte} {r : Bool}  (hm : Vm.impl_wordByte x0 = some r) : CallR Try.prog 28 [.int .u8 (UInt8.toNat x0 : Int)].toArray W.w (Res W [] fun W' v => v = vB r) :=
 (c28 (V := W.view K [])  hm).ad (fk 0) fun _ _ e => e

theorem c21 {V : CW} {x0 : Str} {r : Bool}  (hm : Vm.impl_nameOk x0 = some r) : CallR Try.prog 21 [vS x0].toArray V.w (Res V LL fun Wf v => v = vB r) := by
 unfold Vm.impl_nameOk at hm
 obtain ⟨W0, hW0⟩ : ∃ W, W = V := ⟨V, rfl⟩
 subst hW0
 refine CallR.of Try.func21 rfl rfl rfl rfl (Cw.seq (Cw.region (Lw.g (vB false) rfl (Lw.nil (Cw.seq (Cw.seq (Cw.region (Lw.m (vS x0) rfl (Lw.r rfl (R.lenS rfl) ?_)))))))))
 obtain ⟨z1, e2, hm⟩ := ob hm
 refine Lw.t rfl (T.call rfl (p27 (K := [0])   e2)) ?_
 rintro _ _ ⟨W3, rfl, l3, rfl⟩
 have a4 := l3.o
 refine Lw.r rfl (R.not rfl) (Lw.nil (Cw.cond (b := (!z1)) rfl (fun hc5 => ?_) (fun hc5 => ?_)))
 ·replace hm := bt hm hc5
  refine Cw.seq (Cw.region (Lw.g (vB false) rfl (Lw.nil ?_)))
  cases hm
  exact Cw.ret (ret1 rfl (Res.mk a4 rfl))
 ·replace hm := bf hm hc5
  refine Cw.skip (Cw.seq (Cw.seq (Cw.region (Lw.g (vI 0) rfl (Lw.nil (Cw.block ?_))))))
  obtain ⟨K9, hK9, hm⟩ := jn_e hm
  refine Cw.loop 8 18 [2, 3] (fun m l w => ∃ (y6 : Bool) (y7 : Int) (W8 : CW), W8.w = w ∧ Le [] W3 W8 ∧ l = [vB y6, vI y7] ∧ Vm.impl_nameOk_l1 x0 K9 m y6 y7 = some r) (((x0.length : Int) - 0).toNat + 1) ⟨false, 0, W3, rfl, Le.refl _ _, rfl, hm⟩ ?_
  rintro m10 _ _ σ ⟨y6, y7, W8, rfl, l8, rfl, hm⟩
  obtain _ | m10 := m10
  ·cases hm
  unfold Vm.impl_nameOk_l1 at hm
  have a11 := a4.n l8
  refine Cw.seq (Cw.seq (Cw.region (Lw.m (vI y7) rfl (Lw.m (vS x0) rfl (Lw.r rfl (R.lenS rfl) (Lw.lt rfl (Lw.nil (Cw.cond (b := decide ((y7 : Int) < ((x0.length : Int) : Int))) rfl (fun hc12 => ?_) (fun hc12 => ?_)))))))))
  ·replace hm := bt hm hc12
   refine Cw.skip (Cw.seq (Cw.block (Cw.seq (Cw.region (Lw.m (vS x0) rfl (Lw.m (vI y7) rfl ?_))))))
   obtain ⟨u13, e14, hm⟩ := ob hm
   refine Lw.r rfl (R.chm e14 rfl rfl) ?_
   obtain ⟨z15, e16, hm⟩ := ob hm
   refine Lw.t rfl (T.call rfl (p28 (K := [0])   e16)) ?_
   rintro _ _ ⟨W17, rfl, l17, rfl⟩
   have a18 := a11.n l17
   refine Lw.r rfl (R.not rfl) (Lw.nil (Cw.cond (b := (!z15)) rfl (fun hc19 => ?_) (fun hc19 => ?_)))
   ·replace hm := bt hm hc19
    refine Cw.seq (Cw.region (Lw.g (vB false) rfl (Lw.nil ?_)))
    cases hm
    exact Cw.ret (ret1 rfl (Res.mk a18 rfl))
   ·replace hm := bf hm hc19
    refine Cw.skip (Cw.region (Lw.m (vI y7) rfl (Lw.add rfl (Lw.g (vI (w64 (y7 + 1))) rfl (Lw.nil (⟨?_, m10, Nat.lt_succ_self m10, ⟨y6, w64 (y7 + 1), W17, rfl, (l8.trans l17), rfl, hm⟩⟩))))))
    iterate 12 (refine Agree.up rfl ?_)
    iterate 2 (refine Agree.up rfl ?_)
    exact Agree.base
  ·replace hm := bf hm hc12
   refine Cw.exit ?_
   rw [hK9] at hm
   refine Cw.seq (Cw.region (Lw.g (vB true) rfl (Lw.nil ?_)))
   cases hm
   exact Cw.ret (ret1 rfl (Res.mk a11 rfl))

theorem p21 {W : CW} {K : List Nat} {x0 : Str} {r : Bool}  (hm : Vm.impl_nameOk x0 = some r) : CallR Try.prog 21 [vS x0].toArray W.w (Res W [] fun W' v => v = vB r) :=
 (c21 (V := W.view K [])  hm).ad (fk 0) fun _ _ e => e

theorem c22 {V : CW} {x0 : List Str} {v0_ : Value} {r : Bool} (h0 : Rd V [0] [v0_] x0) (hm : Vm.impl_namesOk x0 = some r) : CallR Try.prog 22 [v0_].toArray V.w (Res V LL fun Wf v => v = vB r) := by
 unfold Vm.impl_namesOk at hm
 obtain ⟨W0, hW0⟩ : ∃ W, W = V := ⟨V, rfl⟩
 subst hW0
 refine CallR.of Try.func22 rfl rfl rfl rfl (Cw.seq (Cw.region (Lw.g (vB false) rfl (Lw.nil (Cw.seq (Cw.seq (Cw.region (Lw.m v0_ rfl (Lw.ln x0 h0 rfl (Lw.m (vI 0) rfl (Lw.nil (Cw.block ?_))))))))))))
 obtain ⟨K6, hK6, hm⟩ := jn_e hm
 refine Cw.loop 7 28 [2, 3, 4, 7] (fun m l w => ∃ (y1 : Bool) (y4 : Int) (j2 j3 : Value) (W5 : CW), W5.w = w ∧ Le [] W0 W5 ∧ l = [vB y1, j2, j3, vI y4] ∧ Vm.impl_namesOk_l1 x0 K6 m y1 y4 = some r) (((x0.length : Int) - 0).toNat + 1) ⟨false, 0, undef, undef, W0, rfl, Le.refl _ _, rfl, hm⟩ ?_
 rintro m7 _ _ σ ⟨y1, y4, j2, j3, W5, rfl, l5, rfl, hm⟩
 obtain _ | m7 := m7
 ·cases hm
 unfold Vm.impl_namesOk_l1 at hm
 have a8 := l5.o
 refine Cw.seq (Cw.region (Lw.lt rfl (Lw.nil (Cw.seq (Cw.cond (b := decide ((y4 : Int) < ((x0.length : Int) : Int))) rfl (fun hc9 => ?_) (fun hc9 => ?_))))))
 ·replace hm := bt hm hc9
  refine Cw.skip (Cw.seq (Cw.block (Cw.seq (Cw.region (Lw.m (vI y4) rfl ?_)))))
  obtain ⟨u10, e11, hm⟩ := ob hm
  refine Lw.r rfl (R.ix (α := Str) (h0.ul a8) e11 rfl rfl rfl) (Lw.r rfl (R.ld rfl rfl ((h0.ul a8).at_ e11).str) (Lw.g (vI y4) rfl (Lw.g (vS u10) rfl (Lw.nil ?_))))
  obtain ⟨K15, hK15, hm⟩ := jn_e hm
  refine Cw.join 12 27 [27] (fun l w => ∃ (y13 : Bool) (W14 : CW), W14.w = w ∧ Le [] W5 W14 ∧ l = [vB y13] ∧ K15 y13 = some r) ?_ ?_
  ·rintro _ _ σ ⟨y13, W14, rfl, l14, rfl, hm⟩
   rw [hK15] at hm
   have a16 := a8.n l14
   refine Cw.cond (b := y13) rfl (fun hc17 => ?_) (fun hc17 => ?_)
   ·replace hm := bt hm hc17
    refine Cw.seq (Cw.region (Lw.g (vB false) rfl (Lw.nil ?_)))
    cases hm
    exact Cw.ret (ret1 rfl (Res.mk a16 rfl))
   ·replace hm := bf hm hc17
    refine Cw.skip (Cw.region (Lw.add rfl (Lw.m (vI (w64 (y4 + 1))) rfl (Lw.nil (⟨?_, m7, Nat.lt_succ_self m7, ⟨y1, w64 (y4 + 1), vI y4, vS u10, W14, rfl, (l5.trans l14), rfl, hm⟩⟩)))))
    iterate 2 (refine Agree.up rfl ?_)
    iterate 1 (refine Agree.up rfl ?_)
    refine Agree.ov0 rfl ?_
    iterate 6 (refine Agree.up rfl ?_)
    iterate 4 (refine Agree.up rfl ?_)
    exact Agree.base
  ·refine Cw.region (Lw.m (vS u10) rfl ?_)
   obtain ⟨z18, e19, hm⟩ := ob hm
   refine Lw.t rfl (T.call rfl (p21 (K := [0])   e19)) ?_
   rintro _ _ ⟨W20, rfl, l20, rfl⟩
   have a21 := a8.n l20
   refine Lw.r rfl (R.not rfl) (Lw.m (vB (!z18)) rfl (bsplit (!z18) (fun hc22 => ?_) (fun hc22 => ?_)))
   ·replace hm := bt hm hc22
    refine Lw.pass' hc22 rfl rfl rfl rfl rfl rfl rfl (Lw.pass' hc22 rfl rfl rfl rfl rfl rfl rfl (Lw.pass' hc22 rfl rfl rfl rfl rfl rfl rfl (Lw.passU rfl rfl rfl rfl rfl rfl (Lw.passU rfl rfl rfl rfl rfl rfl (Lw.passU rfl rfl rfl rfl rfl rfl (Lw.passU rfl rfl rfl rfl rfl rfl (Lw.passU rfl rfl rfl rfl rfl rfl (Lw.passU rfl rfl rfl rfl rfl rfl (Lw.passU rfl rfl rfl rfl rfl rfl (Lw.pass' hc22 rfl rfl rfl rfl rfl rfl rfl (Lw.p hc22 (vB true) rfl (Lw.nil (⟨?_, ⟨true, W20, rfl, l20, rfl, hm⟩⟩)))))))))))))
    iterate 16 (refine Agree.up rfl ?_)
    exact Agree.refl _
   ·replace hm := bf hm hc22
    refine Lw.want' hc22 rfl rfl rfl rfl (Lw.m (vI y4) rfl (Lw.want' hc22 rfl rfl rfl rfl (Lw.gt rfl (Lw.want' hc22 rfl rfl rfl rfl (Lw.m (vB (decide ((0 : Int) < (y4 : Int)))) rfl (bsplit (decide ((0 : Int) < (y4 : Int))) (fun hc23 => ?_) (fun hc23 => ?_)))))))
    ·replace hm := bt hm hc23
     refine Lw.want' hc23 rfl rfl rfl rfl (Lw.m v0_ rfl (Lw.want' hc23 rfl rfl rfl rfl (Lw.m (vI y4) rfl (Lw.want' hc23 rfl rfl rfl rfl (Lw.sub rfl (Lw.want' hc23 rfl rfl rfl rfl ?_))))))
     obtain ⟨u24, e25, hm⟩ := ob hm
     refine Lw.r rfl (R.ix (α := Str) (h0.ul a21) e25 rfl rfl rfl) (Lw.want' hc23 rfl rfl rfl rfl (Lw.r rfl (R.ld rfl rfl ((h0.ul a21).at_ e25).str) (Lw.want' hc23 rfl rfl rfl rfl (Lw.m (vS u10) rfl (Lw.want' hc23 rfl rfl rfl rfl (Lw.r rfl (R.sge rfl rfl) (Lw.want' hc22 rfl rfl rfl rfl (Lw.p hc23 (vB (!Op.bytesLess u24 u10)) rfl (Lw.p hc22 (vB (!Op.bytesLess u24 u10)) rfl (Lw.nil (⟨?_, ⟨(!Op.bytesLess u24 u10), W20, rfl, l20, rfl, hm⟩⟩)))))))))))
     iterate 16 (refine Agree.up rfl ?_)
     exact Agree.refl _
    ·replace hm := bf hm hc23
     refine Lw.pass' hc23 rfl rfl rfl rfl rfl rfl rfl (Lw.pass' hc23 rfl rfl rfl rfl rfl rfl rfl (Lw.pass' hc23 rfl rfl rfl rfl rfl rfl rfl (Lw.pass' hc23 rfl rfl rfl rfl rfl rfl rfl (Lw.pass' hc23 rfl rfl rfl rfl rfl rfl rfl (Lw.pass' hc23 rfl rfl rfl rfl rfl rfl rfl (Lw.pass' hc23 rfl rfl rfl rfl rfl rfl rfl (Lw.want' hc22 rfl rfl rfl rfl (Lw.p hc23 (vB false) rfl (Lw.p hc22 (vB false) rfl (Lw.nil (⟨?_, ⟨false, W20, rfl, l20, rfl, hm⟩⟩)))))))))))
     iterate 16 (refine Agree.up rfl ?_)
     exact Agree.refl _
 ·replace hm := bf hm hc9
  refine Cw.exit ?_
  rw [hK6] at hm
  refine Cw.seq (Cw.region (Lw.g (vB true) rfl (Lw.nil ?_)))
  cases hm
  exact Cw.ret (ret1 rfl (Res.mk a8 rfl))

theorem p22 {W : CW} {K : List Nat} {x0 : List Str} {v0_ : Value} {r : Bool} (h0 : Rd W K [v0_] x0) (hm : Vm.impl_namesOk x0 = some r) : CallR Try.prog 22 [v0_].toArray W.w (Res W [] fun W' v => v = vB r) :=
 (c22 (V := W.view K []) (h0.view _) hm).ad (fk 0) fun _ _ e => e

theorem c15 {V : CW} {x0 : Vm.Review} {v0_3_ : Value} {r : Bool} (h0 : Rd V [0] [vS x0.Branch, vS x0.Into, vS x0.By, v0_3_] x0) (hm : Vm.impl_ReviewOk x0 = some r) : CallR Try.prog 15 [.agg [vS x0.Branch, vS x0.Into, vS x0.By, v0_3_].toArray].toArray V.w (Res V LL fun Wf v => v = vB r) := by
 unfold Vm.impl_ReviewOk at hm
 obtain ⟨w0_0, he0, h0_3⟩ := Review.split h0
 simp only [List.cons.injEq, and_true, true_and] at he0
 obtain rfl := he0
 obtain ⟨W0, hW0⟩ : ∃ W, W = V := ⟨V, rfl⟩
 subst hW0
 refine CallR.of Try.func15 rfl rfl rfl rfl (Cw.seq (Cw.region (Lw.t rfl (T.box 2 (v := .agg [vS x0.Branch, vS x0.Into, vS x0.By, v0_3_].toArray) (cs := [vS x0.Branch, vS x0.Into, vS x0.By, v0_3_]) rfl rfl) ?_)))
 rintro _ _ ⟨g1, W1, rfl, rfl, l1, b1⟩
 have a2 := l1.o
 refine Lw.g (vB false) rfl (Lw.nil ?_)
 obtain ⟨K5, hK5, hm⟩ := jn_e hm
 refine Cw.join 3 33 [2] (fun l w => ∃ (y3 : Bool) (W4 : CW), W4.w = w ∧ Le [] W1 W4 ∧ l = [vB y3] ∧ K5 y3 = some r) ?_ ?_
 ·rintro _ _ σ ⟨y3, W4, rfl, l4, rfl, hm⟩
  rw [hK5] at hm
  have a6 := a2.n l4
  cases hm
  exact Cw.ret (ret1 rfl (Res.mk a6 rfl))
 ·refine Cw.region (Lw.fa rfl (Lw.r rfl (R.ld (v := vS x0.Branch) rfl rfl (b1.cell rfl)) ?_))
  obtain ⟨z8, e9, hm⟩ := ob hm
  refine Lw.t rfl (T.call rfl (p21 (K := [0])   e9)) ?_
  rintro _ _ ⟨W10, rfl, l10, rfl⟩
  have a11 := a2.n l10
  refine Lw.m (vB z8) rfl (bsplit z8 (fun hc13 => ?_) (fun hc13 => ?_))
  ·replace hm := bt hm hc13
   refine Lw.want' hc13 rfl rfl rfl rfl (Lw.fa rfl (Lw.want' hc13 rfl rfl rfl rfl (Lw.r rfl (R.ld (v := vS x0.Into) rfl rfl ((b1.up l10 rfl).cell rfl)) (Lw.want' hc13 rfl rfl rfl rfl ?_))))
   obtain ⟨z14, e15, hm⟩ := ob hm
   refine Lw.t rfl (T.call rfl (p21 (K := [0])   e15)) ?_
   rintro _ _ ⟨W16, rfl, l16, rfl⟩
   have a17 := a11.n l16
   have b18 := (b1.up l10 rfl).up l16 rfl
   refine Lw.p hc13 (vB z14) rfl (Lw.m (vB z14) rfl (bsplit z14 (fun hc19 => ?_) (fun hc19 => ?_)))
   ·replace hm := bt hm hc19
    refine Lw.want' hc19 rfl rfl rfl rfl (Lw.fa rfl (Lw.want' hc19 rfl rfl rfl rfl (Lw.r rfl (R.ld (v := vS x0.By) rfl rfl (b18.cell rfl)) (Lw.want' hc19 rfl rfl rfl rfl ?_))))
    obtain ⟨z20, e21, hm⟩ := ob hm
    refine Lw.t rfl (T.call rfl (p21 (K := [0])   e21)) ?_
    rintro _ _ ⟨W22, rfl, l22, rfl⟩
    have a23 := a17.n l22
    have b24 := b18.up l22 rfl
    refine Lw.p hc19 (vB z20) rfl (Lw.m (vB z20) rfl (bsplit z20 (fun hc25 => ?_) (fun hc25 => ?_)))
    ·replace hm := bt hm hc25
     refine Lw.want' hc25 rfl rfl rfl rfl (Lw.fa rfl (Lw.want' hc25 rfl rfl rfl rfl (Lw.r rfl (R.ld (v := vS x0.Branch) rfl rfl (b24.cell rfl)) (Lw.want' hc25 rfl rfl rfl rfl (Lw.fa rfl (Lw.want' hc25 rfl rfl rfl rfl (Lw.r rfl (R.ld (v := vS x0.Into) rfl rfl (b24.cell rfl)) (Lw.want' hc25 rfl rfl rfl rfl (Lw.sne rfl (Lw.p hc25 (vB (x0.Branch != x0.Into)) rfl (Lw.m (vB (x0.Branch != x0.Into)) rfl (bsplit (x0.Branch != x0.Into) (fun hc26 => ?_) (fun hc26 => ?_)))))))))))))
     ·replace hm := bt hm hc26
      refine Lw.want' hc26 rfl rfl rfl rfl (Lw.fa rfl (Lw.want' hc26 rfl rfl rfl rfl (Lw.r rfl (R.ld (v := v0_3_) rfl rfl (b24.cell rfl)) (Lw.want' hc26 rfl rfl rfl rfl (Lw.ln x0.Yes (h0_3.ul a23) rfl (Lw.want' hc26 rfl rfl rfl rfl (Lw.le rfl (Lw.p hc26 (vB (decide (((x0.Yes.length : Int) : Int) ≤ (5 : Int)))) rfl (Lw.m (vB (decide (((x0.Yes.length : Int) : Int) ≤ (5 : Int)))) rfl (bsplit (decide (((x0.Yes.length : Int) : Int) ≤ (5 : Int))) (fun hc28 => ?_) (fun hc28 => ?_)))))))))))
      ·replace hm := bt hm hc28
       refine Lw.want' hc28 rfl rfl rfl rfl (Lw.fa rfl (Lw.want' hc28 rfl rfl rfl rfl (Lw.r rfl (R.ld (v := v0_3_) rfl rfl (b24.cell rfl)) (Lw.want' hc28 rfl rfl rfl rfl ?_))))
       obtain ⟨z29, e30, hm⟩ := ob hm
       refine Lw.t rfl (T.call rfl (p22 (K := [0])  (h0_3.ul a23) e30)) ?_
       rintro _ _ ⟨W31, rfl, l31, rfl⟩
       refine Lw.p hc28 (vB z29) rfl (Lw.g (vB z29) rfl (Lw.nil (⟨?_, ⟨z29, W31, rfl, (l10.trans (l16.trans (l22.trans l31))), rfl, hm⟩⟩)))
       iterate 32 (refine Agree.up rfl ?_)
       exact Agree.refl _
      ·replace hm := bf hm hc28
       refine Lw.pass' hc28 rfl rfl rfl rfl rfl rfl rfl (Lw.pass' hc28 rfl rfl rfl rfl rfl rfl rfl (Lw.pass' hc28 rfl rfl rfl rfl rfl rfl rfl (Lw.p hc28 (vB false) rfl (Lw.g (vB false) rfl (Lw.nil (⟨?_, ⟨false, W22, rfl, (l10.trans (l16.trans l22)), rfl, hm⟩⟩))))))
       iterate 32 (refine Agree.up rfl ?_)
       exact Agree.refl _
     ·replace hm := bf hm hc26
      refine Lw.pass' hc26 rfl rfl rfl rfl rfl rfl rfl (Lw.pass' hc26 rfl rfl rfl rfl rfl rfl rfl (Lw.pass' hc26 rfl rfl rfl rfl rfl rfl rfl (Lw.pass' hc26 rfl rfl rfl rfl rfl rfl rfl (Lw.p hc26 (vB false) rfl (Lw.m (vB false) rfl (Lw.pass' rfl rfl rfl rfl rfl rfl rfl rfl (Lw.pass' rfl rfl rfl rfl rfl rfl rfl rfl (Lw.pass' rfl rfl rfl rfl rfl rfl rfl rfl (Lw.p rfl (vB false) rfl (Lw.g (vB false) rfl (Lw.nil (⟨?_, ⟨false, W22, rfl, (l10.trans (l16.trans l22)), rfl, hm⟩⟩))))))))))))
      iterate 32 (refine Agree.up rfl ?_)
      exact Agree.refl _
    ·replace hm := bf hm hc25
     refine Lw.pass' hc25 rfl rfl rfl rfl rfl rfl rfl (Lw.pass' hc25 rfl rfl rfl rfl rfl rfl rfl (Lw.pass' hc25 rfl rfl rfl rfl rfl rfl rfl (Lw.pass' hc25 rfl rfl rfl rfl rfl rfl rfl (Lw.pass' hc25 rfl rfl rfl rfl rfl rfl rfl (Lw.p hc25 (vB false) rfl (Lw.m (vB false) rfl (Lw.pass' rfl rfl rfl rfl rfl rfl rfl rfl (Lw.pass' rfl rfl rfl rfl rfl rfl rfl rfl (Lw.pass' rfl rfl rfl rfl rfl rfl rfl rfl (Lw.pass' rfl rfl rfl rfl rfl rfl rfl rfl (Lw.p rfl (vB false) rfl (Lw.m (vB false) rfl (Lw.pass' rfl rfl rfl rfl rfl rfl rfl rfl (Lw.pass' rfl rfl rfl rfl rfl rfl rfl rfl (Lw.pass' rfl rfl rfl rfl rfl rfl rfl rfl (Lw.p rfl (vB false) rfl (Lw.g (vB false) rfl (Lw.nil (⟨?_, ⟨false, W22, rfl, (l10.trans (l16.trans l22)), rfl, hm⟩⟩)))))))))))))))))))
     iterate 32 (refine Agree.up rfl ?_)
     exact Agree.refl _
   ·replace hm := bf hm hc19
    refine Lw.pass' hc19 rfl rfl rfl rfl rfl rfl rfl (Lw.pass' hc19 rfl rfl rfl rfl rfl rfl rfl (Lw.pass' hc19 rfl rfl rfl rfl rfl rfl rfl (Lw.p hc19 (vB false) rfl (Lw.m (vB false) rfl (Lw.pass' rfl rfl rfl rfl rfl rfl rfl rfl (Lw.pass' rfl rfl rfl rfl rfl rfl rfl rfl (Lw.pass' rfl rfl rfl rfl rfl rfl rfl rfl (Lw.pass' rfl rfl rfl rfl rfl rfl rfl rfl (Lw.pass' rfl rfl rfl rfl rfl rfl rfl rfl (Lw.p rfl (vB false) rfl (Lw.m (vB false) rfl (Lw.pass' rfl rfl rfl rfl rfl rfl rfl rfl (Lw.pass' rfl rfl rfl rfl rfl rfl rfl rfl (Lw.pass' rfl rfl rfl rfl rfl rfl rfl rfl (Lw.pass' rfl rfl rfl rfl rfl rfl rfl rfl (Lw.p rfl (vB false) rfl (Lw.m (vB false) rfl (Lw.pass' rfl rfl rfl rfl rfl rfl rfl rfl (Lw.pass' rfl rfl rfl rfl rfl rfl rfl rfl (Lw.pass' rfl rfl rfl rfl rfl rfl rfl rfl (Lw.p rfl (vB false) rfl (Lw.g (vB false) rfl (Lw.nil (⟨?_, ⟨false, W16, rfl, (l10.trans l16), rfl, hm⟩⟩))))))))))))))))))))))))
    iterate 32 (refine Agree.up rfl ?_)
    exact Agree.refl _
  ·replace hm := bf hm hc13
   refine Lw.pass' hc13 rfl rfl rfl rfl rfl rfl rfl (Lw.pass' hc13 rfl rfl rfl rfl rfl rfl rfl (Lw.pass' hc13 rfl rfl rfl rfl rfl rfl rfl (Lw.p hc13 (vB false) rfl (Lw.m (vB false) rfl (Lw.pass' rfl rfl rfl rfl rfl rfl rfl rfl (Lw.pass' rfl rfl rfl rfl rfl rfl rfl rfl (Lw.pass' rfl rfl rfl rfl rfl rfl rfl rfl (Lw.p rfl (vB false) rfl (Lw.m (vB false) rfl (Lw.pass' rfl rfl rfl rfl rfl rfl rfl rfl (Lw.pass' rfl rfl rfl rfl rfl rfl rfl rfl (Lw.pass' rfl rfl rfl rfl rfl rfl rfl rfl (Lw.pass' rfl rfl rfl rfl rfl rfl rfl rfl (Lw.pass' rfl rfl rfl rfl rfl rfl rfl rfl (Lw.p rfl (vB false) rfl (Lw.m (vB false) rfl (Lw.pass' rfl rfl rfl rfl rfl rfl rfl rfl (Lw.pass' rfl rfl rfl rfl rfl rfl rfl rfl (Lw.pass' rfl rfl rfl rfl rfl rfl rfl rfl (Lw.pass' rfl rfl rfl rfl rfl rfl rfl rfl (Lw.p rfl (vB false) rfl (Lw.m (vB false) rfl (Lw.pass' rfl rfl rfl rfl rfl rfl rfl rfl (Lw.pass' rfl rfl rfl rfl rfl rfl rfl rfl (Lw.pass' rfl rfl rfl rfl rfl rfl rfl rfl (Lw.p rfl (vB false) rfl (Lw.g (vB false) rfl (Lw.nil (⟨?_, ⟨false, W10, rfl, l10, rfl, hm⟩⟩)))))))))))))))))))))))))))))
   iterate 32 (refine Agree.up rfl ?_)
   exact Agree.refl _

theorem p15 {W : CW} {K : List Nat} {x0 : Vm.Review} {v0_3_ : Value} {r : Bool} (h0 : Rd W K [vS x0.Branch, vS x0.Into, vS x0.By, v0_3_] x0) (hm : Vm.impl_ReviewOk x0 = some r) : CallR Try.prog 15 [.agg [vS x0.Branch, vS x0.Into, vS x0.By, v0_3_].toArray].toArray W.w (Res W [] fun W' v => v = vB r) :=
 (c15 (V := W.view K []) (h0.view _) hm).ad (fk 0) fun _ _ e => e

theorem c16 {V : CW} {x0 : List Str} {v0_ : Value} {x1 : Str} {r : (List Str)} (h0 : Rd V [0] [v0_] x0) (hm : Vm.impl_putName x0 x1 = some r) : CallR Try.prog 16 [v0_, vS x1].toArray V.w (Res V LL fun Wf v => ∃ (u0 : Value), v = u0 ∧ OwS Wf LL [] [u0] r) := by
 unfold Vm.impl_putName at hm
 obtain ⟨W0, hW0⟩ : ∃ W, W = V := ⟨V, rfl⟩
 subst hW0
 refine CallR.of Try.func16 rfl rfl rfl rfl (Cw.seq (Cw.region (Lw.g (.slice none 0 0) rfl (Lw.nil (Cw.seq (Cw.region (Lw.t rfl (T.lit0 (α := Str) 2 []) ?_)))))))
 rintro v1 _ ⟨W1, rfl, l1, o1⟩
 have a2 := l1.o
 refine Lw.m v0_ rfl ?_
 obtain ⟨q3, e4, hm⟩ := ob hm
 refine Lw.t rfl (T.appP (α := Str) o1 (h0.ul a2) rfl rfl e4) ?_
 rintro v5 _ ⟨W5, rfl, l5, o5⟩
 have a7 := a2.t l5 rfl
 refine Lw.m (vS x1) rfl (Lw.t rfl (T.bs 3 [vS x1] (cs := [vS x1]) rfl rfl (bsv rfl)) ?_)
 rintro _ _ ⟨g8, W8, rfl, rfl, l8, b8⟩
 have a9 := a7.n l8
 obtain ⟨q11, e12, hm⟩ := ob hm
 refine Lw.t rfl (T.app1S (α := Str) (K' := []) (o5.up l8 rfl) b8 (rdS _) rfl rfl e12) ?_
 rintro v13 _ ⟨W13, rfl, l13, o13⟩
 have a14 := a9.t l13 rfl
 refine Lw.g v13 rfl (Lw.nil (Cw.seq (Cw.region (Lw.m v13 rfl ?_))))
 obtain ⟨z16, e17, hm⟩ := ob hm
 refine Lw.t rfl (T.call rfl (p23 (K := [0])  (c0 := 2) o13 rfl e17)) ?_
 rintro _ _ ⟨W18, rfl, l18, ⟨rfl, f18_0⟩⟩
 have a19 := a14.t l18 rfl
 refine Lw.nil (Cw.seq (Cw.region (Lw.m v13 rfl ?_)))
 obtain ⟨z21, e22, hm⟩ := ob hm
 refine Lw.t rfl (T.call rfl (p24 (K := [0]) (k0 := 4) (c0 := 2) f18_0 rfl e22)) ?_
 rintro v0_23 _ ⟨W23, rfl, l23, ⟨_, rfl, f23_0⟩⟩
 have a24 := a19.t l23 rfl
 refine Lw.g v0_23 rfl (Lw.nil ?_)
 cases hm
 exact Cw.ret (ret1 rfl (Res.mk a24 ⟨v0_23, rfl, f23_0.s.sub rfl rfl⟩))

theorem p16 {W : CW} {K : List Nat} {x0 : List Str} {v0_ : Value} {x1 : Str} {k0 : Nat} {r : (List Str)} (h0 : Rd W K [v0_] x0) (hm : Vm.impl_putName x0 x1 = some r) : CallR Try.prog 16 [v0_, vS x1].toArray W.w (Res W [] fun W' v => ∃ (u0 : Value), v = u0 ∧ Ow W' k0 [] [u0] r) :=
 (c16 (V := W.view K []) (h0.view _) hm).ad (fk k0) fun _ _ ⟨u0, e, f0⟩ => ⟨u0, e, f0.back (fk_LL _)⟩

theorem c7 {V : CW} {x0 : Vm.Review} {v0_3_ : Value} {x1 : Str} {r : Vm.Review × Bool} (h0 : Rd V [0] [vS x0.Branch, vS x0.Into, vS x0.By, v0_3_] x0) (hm : Vm.impl_ReviewYes x0 x1 = some r) : CallR Try.prog 7 [.agg [vS x0.Branch, vS x0.Into, vS x0.By, v0_3_].toArray, vS x1].toArray V.w (Res V LL fun Wf v => ∃ (u0_3 : Value), v = .tuple [.agg [vS r.1.Branch, vS r.1.Into, vS r.1.By, u0_3].toArray, vB r.2].toArray ∧ OwS Wf LL [] [u0_3] r.1.Yes) := by
 unfold Vm.impl_ReviewYes at hm
 obtain ⟨w0_0, he0, h0_3⟩ := Review.split h0
 simp only [List.cons.injEq, and_true, true_and] at he0
 obtain rfl := he0
 obtain ⟨W0, hW0⟩ : ∃ W, W = V := ⟨V, rfl⟩
 subst hW0
 refine CallR.of Try.func7 rfl rfl rfl rfl (Cw.seq (Cw.region (Lw.t rfl (T.box 2 (v := .agg [vS x0.Branch, vS x0.Into, vS x0.By, v0_3_].toArray) (cs := [vS x0.Branch, vS x0.Into, vS x0.By, v0_3_]) rfl rfl) ?_)))
 rintro _ _ ⟨g1, W1, rfl, rfl, l1, b1⟩
 have a2 := l1.o
 refine Lw.t rfl (T.alloc 3 (cs := [vS ([] : Str), vS ([] : Str), vS ([] : Str), .slice none 0 0]) rfl) ?_
 rintro _ _ ⟨g3, W3, rfl, rfl, l3, b3⟩
 have a4 := a2.n l3
 refine Lw.g (vB false) rfl (Lw.nil (Cw.seq (Cw.seq (Cw.region (Lw.r rfl (R.lda (cs := [vS x0.Branch, vS x0.Into, vS x0.By, v0_3_]) (b1.up l3 rfl).cells rfl rfl) ?_)))))
 obtain ⟨z7, e8, hm⟩ := ob hm
 refine Lw.t rfl (T.call rfl (p15 (K := [0])  (Review.rd (K := [0]) x0.Branch x0.Into x0.By x0.Yes (h0_3.ul a4)) e8)) ?_
 rintro _ _ ⟨W9, rfl, l9, rfl⟩
 have a10 := a4.n l9
 have b11 := (b1.up l3 rfl).up l9 rfl
 refine Lw.r rfl (R.not rfl) (Lw.nil (Cw.cond (b := (!z7)) rfl (fun hc13 => ?_) (fun hc13 => ?_)))
 ·replace hm := bt hm hc13
  refine Cw.seq (Cw.region (Lw.r rfl (R.bd (zs := [vS ([] : Str), vS ([] : Str), vS ([] : Str), .slice none 0 0]) (cs := [vS ([] : Str), vS ([] : Str), vS ([] : Str), .slice none 0 0]) [] rfl rfl rfl bp_nil) (Lw.u (T.sta (vs := [vS ([] : Str), vS ([] : Str), vS ([] : Str), .slice none 0 0]) (b3.up l9 rfl) rfl rfl (oc_cons rfl (oc_cons rfl (oc_cons rfl (oc_cons rfl oc_nil)))) rfl rfl) ?_)))
  rintro _ _ ⟨W14, rfl, l14, b14⟩
  have a15 := a10.t l14 rfl
  refine Lw.g (vB false) rfl (Lw.nil ?_)
  cases hm
  exact Cw.ret (retA2 rfl b14 rfl (Res.mk a15 ⟨.slice none 0 0, rfl, (owsN []).sub rfl rfl⟩))
 ·replace hm := bf hm hc13
  refine Cw.skip (Cw.seq (Cw.region (Lw.r rfl (R.lda (cs := [vS x0.Branch, vS x0.Into, vS x0.By, v0_3_]) b11.cells rfl rfl) (Lw.t rfl (T.alloc 4 (cs := [vS ([] : Str), vS ([] : Str), vS ([] : Str), .slice none 0 0]) rfl) ?_))))
  rintro _ _ ⟨g17, W17, rfl, rfl, l17, b17⟩
  have a18 := a10.n l17
  refine Lw.u (T.sta (vs := [vS x0.Branch, vS x0.Into, vS x0.By, v0_3_]) b17 rfl rfl (oc_cons rfl (oc_cons rfl (oc_cons rfl (oc_cons h0_3.oc oc_nil)))) rfl rfl) ?_
  rintro _ _ ⟨W21, rfl, l21, b21⟩
  have a22 := a18.t l21 rfl
  have b23 := (b11.up l17 rfl).up l21 rfl
  refine Lw.nil (Cw.seq (Cw.region (Lw.fa rfl (Lw.r rfl (R.ld (v := v0_3_) rfl rfl (b23.cell rfl)) (Lw.m (vS x1) rfl ?_)))))
  obtain ⟨z26, e27, hm⟩ := ob hm
  refine Lw.t rfl (T.call rfl (p16 (K := [0]) (k0 := 5) (h0_3.ul a22) e27)) ?_
  rintro v0_28 _ ⟨W28, rfl, l28, ⟨_, rfl, f28_0⟩⟩
  have a29 := a22.n l28
  refine Lw.fa rfl (Lw.u (T.st (j := 3) (v := v0_28) (b21.up l28 rfl) rfl rfl f28_0.oc rfl rfl) ?_)
  rintro _ _ ⟨W33, rfl, l33, b33⟩
  have a34 := a29.t l33 rfl
  refine Lw.nil (Cw.seq (Cw.seq (Cw.region (Lw.r rfl (R.lda (cs := [vS x0.Branch, vS x0.Into, vS x0.By, v0_28]) b33.cells rfl rfl) ?_))))
  obtain ⟨z38, e39, hm⟩ := ob hm
  refine Lw.t rfl (T.call rfl (p15 (K := [5])  (x0 := (Vm.Review.mk x0.Branch x0.Into x0.By z26)) (Review.rd (K := [5]) x0.Branch x0.Into x0.By z26 (f28_0.up l33 rfl).rd) e39)) ?_
  rintro _ _ ⟨W40, rfl, l40, rfl⟩
  have a41 := a34.n l40
  have o42 := (f28_0.up l33 rfl).up l40 rfl
  have b44 := (((((b3.up l9 rfl).up l17 rfl).up l21 rfl).up l28 rfl).up l33 rfl).up l40 rfl
  refine Lw.r rfl (R.not rfl) (Lw.nil (Cw.cond (b := (!z38)) rfl (fun hc46 => ?_) (fun hc46 => ?_)))
  ·replace hm := bt hm hc46
   refine Cw.seq (Cw.region (Lw.t rfl (T.lit0 (α := Str) 6 []) ?_))
   rintro v47 _ ⟨W47, rfl, l47, o47⟩
   have a48 := a41.n l47
   refine Lw.fa rfl (Lw.r rfl (R.ld (v := v0_3_) rfl rfl (((((b23.up l28 rfl).up l33 rfl).up l40 rfl).up l47 rfl).cell rfl)) ?_)
   obtain ⟨q53, e54, hm⟩ := ob hm
   refine Lw.t rfl (T.appP (α := Str) o47 (h0_3.ul a48) rfl rfl e54) ?_
   rintro v55 _ ⟨W55, rfl, l55, o55⟩
   have a57 := a48.t l55 rfl
   refine Lw.fa rfl (Lw.u (T.st (j := 3) (v := v55) (((b33.up l40 rfl).up l47 rfl).up l55 rfl) rfl rfl o55.oc rfl rfl) ?_)
   rintro _ _ ⟨W62, rfl, l62, b62⟩
   have a63 := a57.t l62 rfl
   refine Lw.nil (Cw.seq (Cw.region (Lw.r rfl (R.lda (cs := [vS x0.Branch, vS x0.Into, vS x0.By, v55]) b62.cells rfl rfl) (Lw.u (T.sta (vs := [vS x0.Branch, vS x0.Into, vS x0.By, v55]) (((b44.up l47 rfl).up l55 rfl).up l62 rfl) rfl rfl (oc_cons rfl (oc_cons rfl (oc_cons rfl (oc_cons (o55.up l62 rfl).oc oc_nil)))) rfl rfl) ?_))))
   rintro _ _ ⟨W68, rfl, l68, b68⟩
   have a69 := a63.t l68 rfl
   refine Lw.g (vB false) rfl (Lw.nil ?_)
   cases hm
   exact Cw.ret (retA2 rfl b68 rfl (Res.mk a69 ⟨v55, rfl, ((o55.up l62 rfl).up l68 rfl).s.sub rfl rfl⟩))
  ·replace hm := bf hm hc46
   refine Cw.skip (Cw.seq (Cw.region (Lw.r rfl (R.lda (cs := [vS x0.Branch, vS x0.Into, vS x0.By, v0_28]) (b33.up l40 rfl).cells rfl rfl) (Lw.u (T.sta (vs := [vS x0.Branch, vS x0.Into, vS x0.By, v0_28]) b44 rfl rfl (oc_cons rfl (oc_cons rfl (oc_cons rfl (oc_cons o42.oc oc_nil)))) rfl rfl) ?_))))
   rintro _ _ ⟨W74, rfl, l74, b74⟩
   have a75 := a41.t l74 rfl
   refine Lw.g (vB true) rfl (Lw.nil ?_)
   cases hm
   exact Cw.ret (retA2 rfl b74 rfl (Res.mk a75 ⟨v0_28, rfl, (o42.up l74 rfl).s.sub rfl rfl⟩))

theorem p7 {W : CW} {K : List Nat} {x0 : Vm.Review} {v0_3_ : Value} {x1 : Str} {k0 : Nat} {r : Vm.Review × Bool} (h0 : Rd W K [vS x0.Branch, vS x0.Into, vS x0.By, v0_3_] x0) (hm : Vm.impl_ReviewYes x0 x1 = some r) : CallR Try.prog 7 [.agg [vS x0.Branch, vS x0.Into, vS x0.By, v0_3_].toArray, vS x1].toArray W.w (Res W [] fun W' v => ∃ (u0_3 : Value), v = .tuple [.agg [vS r.1.Branch, vS r.1.Into, vS r.1.By, u0_3].toArray, vB r.2].toArray ∧ Ow W' k0 [] [u0_3] r.1.Yes) :=
 (c7 (V := W.view K []) (h0.view _) hm).ad (fk k0) fun _ _ ⟨u0_3, e, f0⟩ => ⟨u0_3, e, f0.back (fk_LL _)⟩

theorem c17 {V : CW} {x0 : List Str} {v0_ : Value} {x1 : List Str} {v1_ : Value} {r : Bool} (h0 : Rd V [0] [v0_] x0) (h1 : Rd V [0] [v1_] x1) (hm : Vm.laws_eqStringS x0 x1 = some r) : CallR Try.prog 17 [v0_, v1_].toArray V.w (Res V LL fun Wf v => v = vB r) := by
 unfold Vm.laws_eqStringS at hm
 obtain ⟨W0, hW0⟩ : ∃ W, W = V := ⟨V, rfl⟩
 subst hW0
 refine CallR.of Try.func17 rfl rfl rfl rfl (Cw.seq (Cw.region (Lw.g (vB false) rfl (Lw.nil (Cw.seq (Cw.seq (Cw.region (Lw.m v0_ rfl (Lw.ln x0 h0 rfl (Lw.m v1_ rfl (Lw.ln x1 h1 rfl (Lw.ne rfl (Lw.nil (Cw.cond (b := (((x0.length : Int) : Int) != ((x1.length : Int) : Int))) rfl (fun hc1 => ?_) (fun hc1 => ?_)))))))))))))))
 ·replace hm := bt hm hc1
  refine Cw.seq (Cw.region (Lw.g (vB false) rfl (Lw.nil ?_)))
  cases hm
  exact Cw.ret (ret1 rfl (Res.mk (Le.refl _ _) rfl))
 ·replace hm := bf hm hc1
  refine Cw.skip (Cw.seq (Cw.seq (Cw.region (Lw.g (vI 0) rfl (Lw.nil (Cw.block ?_))))))
  obtain ⟨K5, hK5, hm⟩ := jn_e hm
  refine Cw.loop 11 25 [4, 5] (fun m l w => ∃ (y2 : Bool) (y3 : Int) (W4 : CW), W4.w = w ∧ Le [] W0 W4 ∧ l = [vB y2, vI y3] ∧ Vm.laws_eqStringS_l1 x0 x1 K5 m y2 y3 = some r) (((x0.length : Int) - 0).toNat + 1) ⟨false, 0, W0, rfl, Le.refl _ _, rfl, hm⟩ ?_
  rintro m6 _ _ σ ⟨y2, y3, W4, rfl, l4, rfl, hm⟩
  obtain _ | m6 := m6
  ·cases hm
  unfold Vm.laws_eqStringS_l1 at hm
  have a7 := l4.o
  refine Cw.seq (Cw.seq (Cw.region (Lw.m (vI y3) rfl (Lw.m v0_ rfl (Lw.ln x0 (h0.ul a7) rfl (Lw.lt rfl (Lw.nil (Cw.cond (b := decide ((y3 : Int) < ((x0.length : Int) : Int))) rfl (fun hc9 => ?_) (fun hc9 => ?_)))))))))
  ·replace hm := bt hm hc9
   refine Cw.skip (Cw.seq (Cw.block (Cw.seq (Cw.draw [] [(0, 0), (1, 0), (2, 0), (3, 1), (4, 0), (5, 0), (6, 0), (7, 1), (8, 0)] mixed (by kernel_rfl) fun W10 l10 => ?_))))
   have a11 := a7.n l10
   refine Mw.p rfl rfl (fun _ => R.mv (v := v0_) rfl) (Mw.p rfl rfl (fun _ => R.mv (v := vI y3) rfl) ?_)
   obtain ⟨u12, e13, hm⟩ := ob hm
   refine Mw.p rfl rfl (fun _ => R.ix (α := Str) (h0.ul a11) e13 rfl rfl rfl) (Mw.q rfl rfl (fun _ c => R.ld rfl rfl (cl_cell ((h0.ul a11).at_ e13).1 rfl ((h0.ul a11).at_ e13).str c)) (Mw.p rfl rfl (fun _ => R.mv (v := v1_) rfl) (Mw.p rfl rfl (fun _ => R.mv (v := vI y3) rfl) ?_)))
   obtain ⟨u15, e16, hm⟩ := ob hm
   refine Mw.p rfl rfl (fun _ => R.ix (α := Str) (h1.ul a11) e16 rfl rfl rfl) (Mw.q rfl rfl (fun _ c => R.ld rfl rfl (cl_cell ((h1.ul a11).at_ e16).1 rfl ((h1.ul a11).at_ e16).str c)) (Mw.p rfl rfl (fun _ => R.sne rfl rfl) (Mw.nil (Cw.cond (b := (u12 != u15)) rfl (fun hc18 => ?_) (fun hc18 => ?_)))))
   ·replace hm := bt hm hc18
    refine Cw.seq (Cw.region (Lw.g (vB false) rfl (Lw.nil ?_)))
    cases hm
    exact Cw.ret (ret1 rfl (Res.mk a11 rfl))
   ·replace hm := bf hm hc18
    refine Cw.skip (Cw.region (Lw.m (vI y3) rfl (Lw.add rfl (Lw.g (vI (w64 (y3 + 1))) rfl (Lw.nil (⟨?_, m6, Nat.lt_succ_self m6, ⟨y2, w64 (y3 + 1), W10, rfl, (l4.trans l10), rfl, hm⟩⟩))))))
    iterate 16 (refine Agree.up rfl ?_)
    iterate 2 (refine Agree.up rfl ?_)
    exact Agree.base
  ·replace hm := bf hm hc9
   refine Cw.exit ?_
   rw [hK5] at hm
   refine Cw.seq (Cw.region (Lw.g (vB true) rfl (Lw.nil ?_)))
   cases hm
   exact Cw.ret (ret1 rfl (Res.mk a7 rfl))

theorem p17 {W : CW} {K : List Nat} {x0 : List Str} {v0_ : Value} {x1 : List Str} {v1_ : Value} {r : Bool} (h0 : Rd W K [v0_] x0) (h1 : Rd W K [v1_] x1) (hm : Vm.laws_eqStringS x0 x1 = some r) : CallR Try.prog 17 [v0_, v1_].toArray W.w (Res W [] fun W' v => v = vB r) :=
 (c17 (V := W.view K []) (h0.view _) (h1.view _) hm).ad (fk 0) fun _ _ e => e

theorem c8 {V : CW} {x0 : Vm.Review} {v0_3_ : Value} {x1 : Vm.Review} {v1_3_ : Value} {r : Bool} (h0 : Rd V [0] [vS x0.Branch, vS x0.Into, vS x0.By, v0_3_] x0) (h1 : Rd V [0] [vS x1.Branch, vS x1.Into, vS x1.By, v1_3_] x1) (hm : Vm.laws_eqReview x0 x1 = some r) : CallR Try.prog 8 [.agg [vS x0.Branch, vS x0.Into, vS x0.By, v0_3_].toArray, .agg [vS x1.Branch, vS x1.Into, vS x1.By, v1_3_].toArray].toArray V.w (Res V LL fun Wf v => v = vB r) := by
 unfold Vm.laws_eqReview at hm
 obtain ⟨w0_0, he0, h0_3⟩ := Review.split h0
 simp only [List.cons.injEq, and_true, true_and] at he0
 obtain rfl := he0
 obtain ⟨w1_0, he1, h1_3⟩ := Review.split h1
 simp only [List.cons.injEq, and_true, true_and] at he1
 obtain rfl := he1
 obtain ⟨W0, hW0⟩ : ∃ W, W = V := ⟨V, rfl⟩
 subst hW0
 refine CallR.of Try.func8 rfl rfl rfl rfl (Cw.seq (Cw.region (Lw.t rfl (T.box 2 (v := .agg [vS x0.Branch, vS x0.Into, vS x0.By, v0_3_].toArray) (cs := [vS x0.Branch, vS x0.Into, vS x0.By, v0_3_]) rfl rfl) ?_)))
 rintro _ _ ⟨g1, W1, rfl, rfl, l1, b1⟩
 have a2 := l1.o
 refine Lw.t rfl (T.box 3 (v := .agg [vS x1.Branch, vS x1.Into, vS x1.By, v1_3_].toArray) (cs := [vS x1.Branch, vS x1.Into, vS x1.By, v1_3_]) rfl rfl) ?_
 rintro _ _ ⟨g3, W3, rfl, rfl, l3, b3⟩
 have a4 := a2.n l3
 have b5 := b1.up l3 rfl
 refine Lw.g (vB false) rfl (Lw.nil (Cw.seq (Cw.seq (Cw.region (Lw.fa rfl (Lw.r rfl (R.ld (v := vS x0.Branch) rfl rfl (b5.cell rfl)) (Lw.fa rfl (Lw.r rfl (R.ld (v := vS x1.Branch) rfl rfl (b3.cell rfl)) (Lw.sne rfl (Lw.nil (Cw.cond (b := (x0.Branch != x1.Branch)) rfl (fun hc6 => ?_) (fun hc6 => ?_))))))))))))
 ·replace hm := bt hm hc6
  refine Cw.seq (Cw.region (Lw.g (vB false) rfl (Lw.nil ?_)))
  cases hm
  exact Cw.ret (ret1 rfl (Res.mk a4 rfl))
 ·replace hm := bf hm hc6
  refine Cw.skip (Cw.seq (Cw.seq (Cw.region (Lw.fa rfl (Lw.r rfl (R.ld (v := vS x0.Into) rfl rfl (b5.cell rfl)) (Lw.fa rfl (Lw.r rfl (R.ld (v := vS x1.Into) rfl rfl (b3.cell rfl)) (Lw.sne rfl (Lw.nil (Cw.cond (b := (x0.Into != x1.Into)) rfl (fun hc7 => ?_) (fun hc7 => ?_)))))))))))
  ·replace hm := bt hm hc7
   refine Cw.seq (Cw.region (Lw.g (vB false) rfl (Lw.nil ?_)))
   cases hm
   exact Cw.ret (ret1 rfl (Res.mk a4 rfl))
  ·replace hm := bf hm hc7
   refine Cw.skip (Cw.seq (Cw.seq (Cw.region (Lw.fa rfl (Lw.r rfl (R.ld (v := vS x0.By) rfl rfl (b5.cell rfl)) (Lw.fa rfl (Lw.r rfl (R.ld (v := vS x1.By) rfl rfl (b3.cell rfl)) (Lw.sne rfl (Lw.nil (Cw.cond (b := (x0.By != x1.By)) rfl (fun hc8 => ?_) (fun hc8 => ?_)))))))))))
   ·replace hm := bt hm hc8
    refine Cw.seq (Cw.region (Lw.g (vB false) rfl (Lw.nil ?_)))
    cases hm
    exact Cw.ret (ret1 rfl (Res.mk a4 rfl))
   ·replace hm := bf hm hc8
    refine Cw.skip (Cw.seq (Cw.seq (Cw.region (Lw.fa rfl (Lw.r rfl (R.ld (v := v0_3_) rfl rfl (b5.cell rfl)) (Lw.fa rfl (Lw.r rfl (R.ld (v := v1_3_) rfl rfl (b3.cell rfl)) ?_)))))))
    obtain ⟨z11, e12, hm⟩ := ob hm
    refine Lw.t rfl (T.call rfl (p17 (K := [0])  (h0_3.ul a4) (h1_3.ul a4) e12)) ?_
    rintro _ _ ⟨W13, rfl, l13, rfl⟩
    have a14 := a4.n l13
    refine Lw.r rfl (R.not rfl) (Lw.nil (Cw.cond (b := (!z11)) rfl (fun hc17 => ?_) (fun hc17 => ?_)))
    ·replace hm := bt hm hc17
     refine Cw.seq (Cw.region (Lw.g (vB false) rfl (Lw.nil ?_)))
     cases hm
     exact Cw.ret (ret1 rfl (Res.mk a14 rfl))
    ·replace hm := bf hm hc17
     refine Cw.skip (Cw.seq (Cw.region (Lw.g (vB true) rfl (Lw.nil ?_))))
     cases hm
     exact Cw.ret (ret1 rfl (Res.mk a14 rfl))

theorem p8 {W : CW} {K : List Nat} {x0 : Vm.Review} {v0_3_ : Value} {x1 : Vm.Review} {v1_3_ : Value} {r : Bool} (h0 : Rd W K [vS x0.Branch, vS x0.Into, vS x0.By, v0_3_] x0) (h1 : Rd W K [vS x1.Branch, vS x1.Into, vS x1.By, v1_3_] x1) (hm : Vm.laws_eqReview x0 x1 = some r) : CallR Try.prog 8 [.agg [vS x0.Branch, vS x0.Into, vS x0.By, v0_3_].toArray, .agg [vS x1.Branch, vS x1.Into, vS x1.By, v1_3_].toArray].toArray W.w (Res W [] fun W' v => v = vB r) :=
 (c8 (V := W.view K []) (h0.view _) (h1.view _) hm).ad (fk 0) fun _ _ e => e

theorem c25 {V : CW} {x0 : Int} {r : Str}  (hm : Vm.laws_markText x0 = some r) : CallR Try.prog 25 [vI x0].toArray V.w (Res V LL fun Wf v => v = vS r) := by
 unfold Vm.laws_markText at hm
 obtain ⟨W0, hW0⟩ : ∃ W, W = V := ⟨V, rfl⟩
 subst hW0
 refine CallR.of Try.func25 rfl rfl rfl rfl (Cw.seq (Cw.region (Lw.g (vS ([] : Str)) rfl (Lw.nil (Cw.seq (Cw.seq (Cw.region (Lw.m (vI x0) rfl (Lw.le rfl (Lw.nil (Cw.cond (b := decide ((x0 : Int) ≤ (0 : Int))) rfl (fun hc1 => ?_) (fun hc1 => ?_))))))))))))
 ·replace hm := bt hm hc1
  refine Cw.seq (Cw.region (Lw.g (vS ([109, 48] : Str)) rfl (Lw.nil ?_)))
  cases hm
  exact Cw.ret (ret1 rfl (Res.mk (Le.refl _ _) rfl))
 ·replace hm := bf hm hc1
  refine Cw.skip (Cw.seq (Cw.region (Lw.g (vS ([] : Str)) rfl (Lw.nil (Cw.seq (Cw.block ?_))))))
  obtain ⟨K5, hK5, hm⟩ := jn_e hm
  refine Cw.loop 6 17 [0, 3] (fun m l w => ∃ (y2 : Int) (y3 : Str) (W4 : CW), W4.w = w ∧ Le [] W0 W4 ∧ l = [vI y2, vS y3] ∧ Vm.laws_markText_l1 K5 m y2 y3 = some r) ((x0 - 0).toNat + 1) ⟨x0, ([] : Str), W0, rfl, Le.refl _ _, rfl, hm⟩ ?_
  rintro m6 _ _ σ ⟨y2, y3, W4, rfl, l4, rfl, hm⟩
  obtain _ | m6 := m6
  ·cases hm
  unfold Vm.laws_markText_l1 at hm
  have a7 := l4.o
  refine Cw.seq (Cw.seq (Cw.region (Lw.m (vI y2) rfl (Lw.gt rfl (Lw.nil (Cw.cond (b := decide ((0 : Int) < (y2 : Int))) rfl (fun hc8 => ?_) (fun hc8 => ?_)))))))
  ·replace hm := bt hm hc8
   refine Cw.skip (Cw.block (Cw.seq (Cw.region (Lw.m (vI y2) rfl (Lw.r rfl (R.rem rfl rfl (by decide)) (Lw.add rfl (Lw.r rfl (R.cv8 rfl rfl) (Lw.t rfl (T.bsS (α := Byte) (xs := [(by8 (w64 (48 + (Int.tmod y2 10))))]) 2 [] (W := W4) [.int .u8 (UInt8.toNat (by8 (w64 (48 + (Int.tmod y2 10)))) : Int)] (Each.cons ((rdY _)) Each.nil) rfl) ?_))))))))
   rintro v9 _ ⟨W9, rfl, l9, o9⟩
   refine Lw.r rfl (R.cvB (xs := ([(by8 (w64 (48 + (Int.tmod y2 10))))] : List Byte)) o9.rd rfl (fun h => h.1)) (Lw.m (vS y3) rfl ?_)
   obtain ⟨q11, e12, hm⟩ := ob hm
   refine Lw.r rfl (R.sad e12 rfl rfl) (Lw.g (vS q11) rfl (Lw.nil (Cw.region (Lw.m (vI y2) rfl (Lw.r rfl (R.quo rfl rfl (by decide)) (Lw.g (vI (w64 (Int.tdiv y2 10))) rfl (Lw.nil (⟨?_, m6, Nat.lt_succ_self m6, ⟨w64 (Int.tdiv y2 10), q11, W9, rfl, (l4.trans l9), rfl, hm⟩⟩))))))))
   iterate 14 (refine Agree.up rfl ?_)
   iterate 2 (refine Agree.up rfl ?_)
   exact Agree.base
  ·replace hm := bf hm hc8
   refine Cw.exit ?_
   rw [hK5] at hm
   refine Cw.seq (Cw.region (Lw.m (vS y3) rfl ?_))
   obtain ⟨q13, e14, hm⟩ := ob hm
   refine Lw.r rfl (R.sad e14 rfl rfl) (Lw.g (vS q13) rfl (Lw.nil ?_))
   cases hm
   exact Cw.ret (ret1 rfl (Res.mk a7 rfl))

theorem p25 {W : CW} {K : List Nat} {x0 : Int} {r : Str}  (hm : Vm.laws_markText x0 = some r) : CallR Try.prog 25 [vI x0].toArray W.w (Res W [] fun W' v => v = vS r) :=
 (c25 (V := W.view K [])  hm).ad (fk 0) fun _ _ e => e

end Go.Sx
