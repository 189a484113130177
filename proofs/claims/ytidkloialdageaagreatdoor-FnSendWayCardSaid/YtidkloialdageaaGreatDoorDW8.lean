/- Walks: each function answers as its model, printed by a program of ours. Conditions: the arguments read as they are given. -/
import Derived.Test.YtidkloialdageaaGreatDoorDTs
import Derived.Test.YtidkloialdageaaGreatDoorDM0
import Derived.Test.YtidkloialdageaaGreatDoorDW6
import Derived.Test.YtidkloialdageaaGreatDoorDW7
import Derived.Test.YtidkloialdageaaGreatDoorDE
namespace Go.Sx
open Go Go.Proofs Go.Vm Rp
set_option linter.unusedVariables false
set_option linter.unusedSimpArgs false
variable {W W0 : CW} {K : List Nat}
theorem c44 {x0 v0_0_ v0_1_ x1 v1_ x2 r} (h0 : Rd W0 [0] [v0_0_, v0_1_] x0) (h1 : Rd W0 [0] [v1_] x1) (h99 : Gl 0 W0 [0]) (hm : Vm.impl_SendOf x0 x1 x2 = some r) : Q0 44 [.agg [v0_0_, v0_1_].toArray, v1_, vI x2] W0 fun Wf v => ∃ u0, v = .tuple [u0, vB r.2].toArray ∧ OwS Wf LL [] [u0] r.1 := by
 unfold Vm.impl_SendOf at hm
 obtain ⟨w0_0, w0_1, he0, h0_0, h0_1⟩ := Repo.split h0
 simp only [List.cons.injEq, and_true, true_and] at he0
 obtain ⟨rfl, rfl⟩ := he0
 refine CallR.of Tryz.func44 rfl rfl rfl rfl (sr (bo 2 rfl fun g1 W1 l1 b1 => ?_))
 have a2 := l1.o
 refine Gv (.slice none 0 0) rfl (Nb rfl (ssr (la b1 (mv v1_ rfl (mi rfl (ca hm (fun _ => p112 (Repo.rd (K := [0]) x0.Commits x0.Heads (h0_0.ul a2) (h0_1.ul a2)) (h1.ul a2) (h99.ul a2)) fun z7 W9 hm l9 => ?_))))))
 have a10 := a2.n l9
 refine Lw.r rfl (R.not rfl) (nl (cn hm (fun hm => ?_) fun hm => ?_))
 ·refine sr (Gv (.slice none 0 0) rfl (Nb rfl ?_))
  cases hm
  exact Cw.ret (ret2 rfl rfl (Res.mk a10 ⟨.slice none 0 0, rfl, (owsN []).sub rfl rfl⟩))
 ·refine sk (sr (la (b1.up l9) (mi rfl (mv v1_ rfl (cr hm (fun _ => p113 (k0 := 3) (Repo.rd (K := [0]) x0.Commits x0.Heads (h0_0.ul a10) (h0_1.ul a10)) (h1.ul a10)) ?_)))))
  rintro z16 v0_18 W18 hm l18 ⟨_, rfl, f18_0⟩
  have a19 := a10.n l18
  refine Nv v0_18 rfl (sr (Nv (.slice none 0 0) rfl (ssr (mv v0_18 rfl (Lw.ln z16 f18_0.rd rfl (mi rfl (nl (Cw.block ?_))))))))
  obtain ⟨K35, hK35, hm⟩ := jn_e hm
  refine Cw.loop 28 84 [6, 7, 9, 11, 12, 14, 15, 16, 28] (fun m l w => ∃ y21 y24 y25 y33 v22 v26 j28 j29 j30 j31 j32 W34, CW.w W34 = w ∧ Le [5, 6, 7, 8] W18 W34 ∧ l = [v22, vB y24, v26, j28, j29, j30, j31, j32, vI y33] ∧ Ow W34 4 [] [v22] y21 ∧ Ow W34 5 [] [v26] y25 ∧ Vm.impl_SendOf_l1 x0 x1 z16 K35 m y21 y24 y25 y33 = some r) _ ⟨([] : List Commit), false, ([] : List Commit), 0, .slice none 0 0, .slice none 0 0, undef, undef, undef, undef, undef, W18, rfl, Le.refl _ _, rfl, owN 4 [], owN 5 [], hm⟩ ?_
  rintro (_ | m36) _ _ σ ⟨y21, y24, y25, y33, v22, v26, j28, j29, j30, j31, j32, W34, rfl, l34, rfl, o23, o27, hm⟩
  ·cases hm
  unfold Vm.impl_SendOf_l1 at hm
  have a37 := a19.t l34
  have o38 := f18_0.up l34
  refine sr (Lw.lt rfl (nl (Cw.seq (cn hm (fun hm => ?_) fun hm => ?_))))
  ·refine sk (Cw.seq (Cw.block (sr ?_)))
   obtain ⟨u41, e42, hm⟩ := ob hm
   refine Lw.r rfl (R.ix (α := Int) o38.rd e42 rfl rfl rfl) (Lw.r rfl (R.ld rfl rfl (o38.rd.at_ e42).int) (Ni rfl (Cw.seq ?_)))
   obtain ⟨u49, e50, hm⟩ := ob hm
   obtain ⟨z53, e54, hm⟩ := ob hm
   obtain ⟨z62, e63, hm⟩ := ob hm
   refine Cw.par [[], [0], [], [0, 1, 2], [0, 1, 2, 3], [0, 1, 2, 3, 4], [], [], [6, 7], [6, 7, 8], [0, 1, 2, 3, 4, 5, 6, 7, 8, 9], [], [0, 1, 2, 3, 4, 5, 6, 7, 8, 9, 10, 11]] [[], [0], [], [1, 2], [3], [4], [], [], [6, 7], [8], [5, 9], [], [9, 10, 11]] [[], [], [], [], [], [], [], [], [], [], [], [], [7]] [[0], [1], [2], [3], [4], [5], [6], [7], [8], [9], [9, 10], [11], [9, 11]] [[], [], [], [], [], [], [], [], [0], [6], [], [7], [7]] [0, 1, 2, 3, 4, 5, 6, 7, 8, 9, 10, 12] [7] [fun vs W => (vs 0) = ptr ((bx g1).add 0), fun vs W => (vs 1) = v0_0_, fun vs W => (vs 2) = vI u41, fun vs W => (vs 3) = ptr ((slA v0_0_).add ((u41).toNat * Rp.sz (Commit))), fun vs W => (vs 4) = ptr (((slA v0_0_).add ((u41).toNat * Rp.sz (Commit))).add 1), fun vs W => (vs 5) = vS u49.Who, fun vs W => (vs 6) = .agg [v0_0_, v0_1_].toArray, fun vs W => (vs 7) = vI u41, fun vs W => Rd W [0] [(vs 8)] z53, fun vs W => Ow W 6 [] [(vs 9)] z62, fun vs W => (vs 10) = .agg [.slice none 0 0, vS u49.Who, (vs 9)].toArray, fun vs W => (vs 11) = ptr (bx (pg (vs 11))) ∧ Bx W 7 (pg (vs 11)) [.slice none 0 0, vS ([] : Str), .slice none 0 0], fun vs W => (vs 11) = ptr (bx (pg (vs 11))) ∧ Bx W 7 (pg (vs 11)) [.slice none 0 0, vS u49.Who, (vs 9)]] [] mixed (by kernel_rfl) rfl AllF.nil ?_
   intro W84 l84
   have a85 := a37.n l84
   have b89 := (((b1.up l9).up l18).up l34).up l84
   refine ⟨(Steps.cons ?_ (Steps.cons ?_ (Steps.cons ?_ (Steps.cons ?_ (Steps.cons ?_ (Steps.cons ?_ (Steps.cons ?_ (Steps.cons ?_ (Steps.cons ?_ (Steps.cons ?_ (Steps.cons ?_ (Steps.cons ?_ (Steps.cons ?_ Steps.nil))))))))))))), (Sups.cons (fun vs vs' W W' _ hv l hd h => by (show (vs' 0) = ptr ((bx g1).add 0)); rw [hv 0 (anyb rfl)]; exact h) (Sups.cons (fun vs vs' W W' _ hv l hd h => by (show (vs' 1) = v0_0_); rw [hv 1 (anyb rfl)]; exact h) (Sups.cons (fun vs vs' W W' _ hv l hd h => by (show (vs' 2) = vI u41); rw [hv 2 (anyb rfl)]; exact h) (Sups.cons (fun vs vs' W W' _ hv l hd h => by (show (vs' 3) = ptr ((slA v0_0_).add ((u41).toNat * Rp.sz (Commit)))); rw [hv 3 (anyb rfl)]; exact h) (Sups.cons (fun vs vs' W W' _ hv l hd h => by (show (vs' 4) = ptr (((slA v0_0_).add ((u41).toNat * Rp.sz (Commit))).add 1)); rw [hv 4 (anyb rfl)]; exact h) (Sups.cons (fun vs vs' W W' _ hv l hd h => by (show (vs' 5) = vS u49.Who); rw [hv 5 (anyb rfl)]; exact h) (Sups.cons (fun vs vs' W W' _ hv l hd h => by (show (vs' 6) = .agg [v0_0_, v0_1_].toArray); rw [hv 6 (anyb rfl)]; exact h) (Sups.cons (fun vs vs' W W' _ hv l hd h => by (show (vs' 7) = vI u41); rw [hv 7 (anyb rfl)]; exact h) (Sups.cons (fun vs vs' W W' _ hv l hd h => by (show Rd W' [0] [(vs' 8)] z53); rw [hv 8 (anyb rfl)]; exact h.up l (disj_sub hd (K := [0]) rfl)) (Sups.cons (fun vs vs' W W' _ hv l hd h => by (show Ow W' 6 [] [(vs' 9)] z62); rw [hv 9 (anyb rfl)]; exact h.upv l (disj_mem hd (c := 6) rfl)) (Sups.cons (fun vs vs' W W' _ hv l hd h => by (show (vs' 10) = .agg [.slice none 0 0, vS u49.Who, (vs' 9)].toArray); rw [hv 9 (anyb rfl), hv 10 (anyb rfl)]; exact h) (Sups.cons (fun vs vs' W W' _ hv l hd h => by (show (vs' 11) = ptr (bx (pg (vs' 11))) ∧ Bx W' 7 (pg (vs' 11)) [.slice none 0 0, vS ([] : Str), .slice none 0 0]); rw [hv 11 (anyb rfl)]; exact ⟨h.1, h.2.up l (disj_mem hd (c := 7) rfl)⟩) (Sups.cons (fun vs vs' W W' _ hv l hd h => by (show (vs' 11) = ptr (bx (pg (vs' 11))) ∧ Bx W' 7 (pg (vs' 11)) [.slice none 0 0, vS u49.Who, (vs' 9)]); rw [hv 9 (anyb rfl), hv 11 (anyb rfl)]; exact ⟨h.1, h.2.up l (disj_mem hd (c := 7) rfl)⟩) Sups.nil))))))))))))), ?_⟩
   ·intro vs W lW hN
    obtain ⟨W90, hW90⟩ : ∃ X, X = W := ⟨W, rfl⟩
    subst hW90
    refine Tr.mono (Run.tr (R.fa rfl)) ?_
    rintro _ _ ⟨hu, rfl⟩
    obtain rfl := hu.symm
    exact ⟨W90, rfl, Le.refl _ _, (show (ptr ((bx g1).add 0) : Value) = ptr ((bx g1).add 0) from rfl)⟩
   ·intro vs W lW hN
    obtain ⟨W96, hW96⟩ : ∃ X, X = W := ⟨W, rfl⟩
    subst hW96
    have e0_ : vs 0 = ptr ((bx g1).add 0) := (hN 0 (anyb rfl))
    obtain ⟨vs, rfl⟩ := up_eq e0_
    refine Tr.mono (Run.tr (R.ld (v := v0_0_) rfl rfl ((b89.up lW rfl).cell rfl))) ?_
    rintro _ _ ⟨hu, rfl⟩
    obtain rfl := hu.symm
    exact ⟨W96, rfl, Le.refl _ _, (show (v0_0_ : Value) = v0_0_ from rfl)⟩
   ·intro vs W lW hN
    obtain ⟨W102, hW102⟩ : ∃ X, X = W := ⟨W, rfl⟩
    subst hW102
    refine Tr.mono (Run.tr (R.mv (v := vI u41) rfl)) ?_
    rintro _ _ ⟨hu, rfl⟩
    obtain rfl := hu.symm
    exact ⟨W102, rfl, Le.refl _ _, (show (vI u41 : Value) = vI u41 from rfl)⟩
   ·intro vs W lW hN
    obtain ⟨W108, hW108⟩ : ∃ X, X = W := ⟨W, rfl⟩
    subst hW108
    have a109 := a85.t lW rfl
    have e1_ : vs 1 = v0_0_ := (hN 1 (anyb rfl))
    obtain ⟨vs, rfl⟩ := up_eq e1_
    have e2_ : vs 2 = vI u41 := (hN 2 (anyb rfl))
    obtain ⟨vs, rfl⟩ := up_eq e2_
    refine Tr.mono (Run.tr (R.ix (α := Commit) (h0_0.ul a109) e50 rfl rfl rfl)) ?_
    rintro _ _ ⟨hu, rfl⟩
    obtain rfl := hu.symm
    exact ⟨W108, rfl, Le.refl _ _, (show (ptr ((slA v0_0_).add ((u41).toNat * Rp.sz (Commit))) : Value) = ptr ((slA v0_0_).add ((u41).toNat * Rp.sz (Commit))) from rfl)⟩
   ·intro vs W lW hN
    obtain ⟨W115, hW115⟩ : ∃ X, X = W := ⟨W, rfl⟩
    subst hW115
    have e3_ : vs 3 = ptr ((slA v0_0_).add ((u41).toNat * Rp.sz (Commit))) := (hN 3 (anyb rfl))
    obtain ⟨vs, rfl⟩ := up_eq e3_
    refine Tr.mono (Run.tr (R.fa rfl)) ?_
    rintro _ _ ⟨hu, rfl⟩
    obtain rfl := hu.symm
    exact ⟨W115, rfl, Le.refl _ _, (show (ptr (((slA v0_0_).add ((u41).toNat * Rp.sz (Commit))).add 1) : Value) = ptr (((slA v0_0_).add ((u41).toNat * Rp.sz (Commit))).add 1) from rfl)⟩
   ·intro vs W lW hN
    obtain ⟨W121, hW121⟩ : ∃ X, X = W := ⟨W, rfl⟩
    subst hW121
    have a122 := a85.t lW rfl
    have e4_ : vs 4 = ptr (((slA v0_0_).add ((u41).toNat * Rp.sz (Commit))).add 1) := (hN 4 (anyb rfl))
    obtain ⟨vs, rfl⟩ := up_eq e4_
    refine Tr.mono (Run.tr (R.ld rfl rfl (Commit.at1 ((h0_0.ul a122).at_ e50)).str)) ?_
    rintro _ _ ⟨hu, rfl⟩
    obtain rfl := hu.symm
    exact ⟨W121, rfl, Le.refl _ _, (show (vS u49.Who : Value) = vS u49.Who from rfl)⟩
   ·intro vs W lW hN
    obtain ⟨W128, hW128⟩ : ∃ X, X = W := ⟨W, rfl⟩
    subst hW128
    refine Tr.mono (Run.tr (R.lda (cs := [v0_0_, v0_1_]) (b89.up lW rfl).cells rfl rfl)) ?_
    rintro _ _ ⟨hu, rfl⟩
    obtain rfl := hu.symm
    exact ⟨W128, rfl, Le.refl _ _, (show (.agg [v0_0_, v0_1_].toArray : Value) = .agg [v0_0_, v0_1_].toArray from rfl)⟩
   ·intro vs W lW hN
    obtain ⟨W134, hW134⟩ : ∃ X, X = W := ⟨W, rfl⟩
    subst hW134
    refine Tr.mono (Run.tr (R.mv (v := vI u41) rfl)) ?_
    rintro _ _ ⟨hu, rfl⟩
    obtain rfl := hu.symm
    exact ⟨W134, rfl, Le.refl _ _, (show (vI u41 : Value) = vI u41 from rfl)⟩
   ·intro vs W lW hN
    obtain ⟨W140, hW140⟩ : ∃ X, X = W := ⟨W, rfl⟩
    subst hW140
    have a141 := a85.t lW rfl
    have e6_ : vs 6 = .agg [v0_0_, v0_1_].toArray := (hN 6 (anyb rfl))
    obtain ⟨vs, rfl⟩ := up_eq e6_
    have e7_ : vs 7 = vI u41 := (hN 7 (anyb rfl))
    obtain ⟨vs, rfl⟩ := up_eq e7_
    refine Tr.mono (T.call rfl (p115  (Repo.rd (K := [0]) x0.Commits x0.Heads (h0_0.ul a141) (h0_1.ul a141)) e54)) ?_
    rintro v0_148 _ ⟨W148, rfl, l148, ⟨_, rfl, f148_0⟩⟩
    have s149 := f148_0.sub (M := [0]) rfl
    exact ⟨W148, rfl, l148, (show Rd W148 [0] [v0_148] z53 from s149)⟩
   ·intro vs W lW hN
    obtain ⟨W155, hW155⟩ : ∃ X, X = W := ⟨W, rfl⟩
    subst hW155
    obtain ⟨pv8, e8_⟩ : ∃ v, vs 8 = v := ⟨_, rfl⟩
    obtain ⟨vs, rfl⟩ := up_eq e8_
    have o161 : Rd W155 [0] [pv8] z53 := (hN 8 (anyb rfl))
    refine Tr.mono (T.call rfl (p114 (k0 := 6) o161 e63)) ?_
    rintro v0_162 _ ⟨W162, rfl, l162, ⟨_, rfl, f162_0⟩⟩
    exact ⟨W162, rfl, l162, (show Ow W162 6 [] [v0_162] z62 from f162_0)⟩
   ·intro vs W lW hN
    obtain ⟨W168, hW168⟩ : ∃ X, X = W := ⟨W, rfl⟩
    subst hW168
    have e5_ : vs 5 = vS u49.Who := (hN 5 (anyb rfl))
    obtain ⟨vs, rfl⟩ := up_eq e5_
    obtain ⟨pv9, e9_⟩ : ∃ v, vs 9 = v := ⟨_, rfl⟩
    obtain ⟨vs, rfl⟩ := up_eq e9_
    have o174 : Ow W168 6 [] [pv9] z62 := (hN 9 (anyb rfl))
    refine Tr.mono (Run.tr (R.bd (zs := [.slice none 0 0, vS ([] : Str), .slice none 0 0]) (cs := [.slice none 0 0, vS u49.Who, pv9]) [(1, vS u49.Who), (2, pv9)] rfl rfl rfl (bp_cons rfl rfl (bp_cons o174.oc rfl bp_nil)))) ?_
    rintro _ _ ⟨hu, rfl⟩
    obtain rfl := hu.symm
    exact ⟨W168, rfl, Le.refl _ _, (show (.agg [.slice none 0 0, vS u49.Who, pv9].toArray : Value) = .agg [.slice none 0 0, vS u49.Who, pv9].toArray from rfl)⟩
   ·intro vs W lW hN
    obtain ⟨W175, hW175⟩ : ∃ X, X = W := ⟨W, rfl⟩
    subst hW175
    refine Tr.mono (T.alloc 7 (cs := [.slice none 0 0, vS ([] : Str), .slice none 0 0]) rfl) ?_
    rintro _ _ ⟨g181, W181, rfl, rfl, l181, b181⟩
    exact ⟨W181, rfl, l181, (show (ptr (bx g181) : Value) = ptr (bx g181) ∧ Bx W181 7 g181 [.slice none 0 0, vS ([] : Str), .slice none 0 0] from ⟨rfl, b181⟩)⟩
   ·intro vs W lW hN
    obtain ⟨W187, hW187⟩ : ∃ X, X = W := ⟨W, rfl⟩
    subst hW187
    obtain ⟨pv9, e9_⟩ : ∃ v, vs 9 = v := ⟨_, rfl⟩
    obtain ⟨vs, rfl⟩ := up_eq e9_
    have o193 : Ow W187 6 [] [pv9] z62 := (hN 9 (anyb rfl))
    have e10_ : vs 10 = .agg [.slice none 0 0, vS u49.Who, pv9].toArray := (hN 10 (anyb rfl))
    obtain ⟨vs, rfl⟩ := up_eq e10_
    obtain ⟨pg11, e11_⟩ : ∃ pg11, vs 11 = ptr (bx pg11) := ⟨_, ((hN 11 (anyb rfl))).1⟩
    obtain ⟨vs, rfl⟩ := up_eq e11_
    have o194 : Bx W187 7 pg11 [.slice none 0 0, vS ([] : Str), .slice none 0 0] := (hN 11 (anyb rfl)).2
    refine Tr.mono (T.sta (vs := [.slice none 0 0, vS u49.Who, pv9]) o194 rfl rfl (oc_cons rfl (oc_cons rfl (oc_cons o193.oc oc_nil))) rfl rfl) ?_
    rintro _ _ ⟨W195, rfl, l195, b195⟩
    exact ⟨W195, rfl, l195, (show (ptr (bx pg11)) = ptr (bx pg11) ∧ Bx W195 7 pg11 [.slice none 0 0, vS u49.Who, pv9] from ⟨rfl, b195⟩)⟩
   ·intro vs W lW hN
    obtain ⟨W202, hW202⟩ : ∃ X, X = W := ⟨W, rfl⟩
    subst hW202
    have a203 := a85.t lW rfl
    obtain ⟨l202, hl202⟩ : ∃ x, x = lW := ⟨lW, rfl⟩
    have e0_ : vs 0 = ptr ((bx g1).add 0) := (hN 0 (anyb rfl))
    obtain ⟨vs, rfl⟩ := up_eq e0_
    have e1_ : vs 1 = v0_0_ := (hN 1 (anyb rfl))
    obtain ⟨vs, rfl⟩ := up_eq e1_
    have e2_ : vs 2 = vI u41 := (hN 2 (anyb rfl))
    obtain ⟨vs, rfl⟩ := up_eq e2_
    have e3_ : vs 3 = ptr ((slA v0_0_).add ((u41).toNat * Rp.sz (Commit))) := (hN 3 (anyb rfl))
    obtain ⟨vs, rfl⟩ := up_eq e3_
    have e4_ : vs 4 = ptr (((slA v0_0_).add ((u41).toNat * Rp.sz (Commit))).add 1) := (hN 4 (anyb rfl))
    obtain ⟨vs, rfl⟩ := up_eq e4_
    have e5_ : vs 5 = vS u49.Who := (hN 5 (anyb rfl))
    obtain ⟨vs, rfl⟩ := up_eq e5_
    have e6_ : vs 6 = .agg [v0_0_, v0_1_].toArray := (hN 6 (anyb rfl))
    obtain ⟨vs, rfl⟩ := up_eq e6_
    have e7_ : vs 7 = vI u41 := (hN 7 (anyb rfl))
    obtain ⟨vs, rfl⟩ := up_eq e7_
    obtain ⟨pv8, e8_⟩ : ∃ v, vs 8 = v := ⟨_, rfl⟩
    obtain ⟨vs, rfl⟩ := up_eq e8_
    have o208 : Rd W202 [0] [pv8] z53 := (hN 8 (anyb rfl))
    obtain ⟨pv9, e9_⟩ : ∃ v, vs 9 = v := ⟨_, rfl⟩
    obtain ⟨vs, rfl⟩ := up_eq e9_
    have o209 : Ow W202 6 [] [pv9] z62 := (hN 9 (anyb rfl))
    have e10_ : vs 10 = .agg [.slice none 0 0, vS u49.Who, pv9].toArray := (hN 10 (anyb rfl))
    obtain ⟨vs, rfl⟩ := up_eq e10_
    obtain ⟨pg11, e11_⟩ : ∃ pg11, vs 11 = ptr (bx pg11) := ⟨_, (hN 12 (anyb rfl)).1⟩
    obtain ⟨vs, rfl⟩ := up_eq e11_
    have o210 : Bx W202 7 pg11 [.slice none 0 0, vS u49.Who, pv9] := (hN 12 (anyb rfl)).2
    refine ssr (fl (b89.up lW rfl) rfl (mi rfl ?_))
    obtain ⟨u211, e212, hm⟩ := ob hm
    refine Lw.r rfl (R.ix (α := Commit) (h0_0.ul a203) e212 rfl rfl rfl) (Lw.fa rfl ?_)
    obtain ⟨v214, c215, r216⟩ := (Commit.at0 ((h0_0.ul a203).at_ e212)).cell rfl
    refine Lw.r rfl (R.ld rfl rfl c215) (Lw.ln u211.Parents r216 rfl (mi rfl (nl (Cw.block ?_))))
    obtain ⟨K234, hK234, hm⟩ := jn_e hm
    refine Cw.loop 50 79 [6, 7, 14, 15, 16, 50] (fun m l w => ∃ y217 y220 y224 y225 y228 y229 v218 j221 j222 j223 v226 v230 W233, CW.w W233 = w ∧ Le [7, 8] W202 W233 ∧ l = [v218, vB y220, j221, j222, j223, vI y224] ∧ Ow W233 4 [] [v218] y217 ∧ Ow W233 8 [] [v226] y225 ∧ Ow W233 6 [] [v230] y229 ∧ Bx W233 7 pg11 [v226, vS y228, v230] ∧ Vm.impl_SendOf_l2 x1 z16 u211 K234 m y217 y220 y224 y225 y228 y229 = some r) _ ⟨y21, y24, 0, ([] : List Int), u49.Who, z62, v22, j30, j31, j32, .slice none 0 0, pv9, W202, rfl, Le.refl _ _, rfl, ((o23.up l84).up lW rfl), owN 8 [], o209, o210, hm⟩ ?_
    rintro (_ | m235) _ _ σ ⟨y217, y220, y224, y225, y228, y229, v218, j221, j222, j223, v226, v230, W233, rfl, l233, rfl, o219, o227, o231, b232, hm⟩
    ·cases hm
    unfold Vm.impl_SendOf_l2 at hm
    have a236 := l233.s
    refine sr (Lw.lt rfl (nl (Cw.seq (cn hm (fun hm => ?_) fun hm => ?_))))
    ·refine sk ?_
     obtain ⟨K257, hK257, hm⟩ := jn_e hm
     refine Cw.join 52 78 [6, 7, 14, 15, 16] (fun l w => ∃ y241 y244 y248 y251 y252 v242 j245 j246 j247 v249 v253 W256, CW.w W256 = w ∧ Le [7, 8] W233 W256 ∧ l = [v242, vB y244, j245, j246, j247] ∧ Ow W256 4 [] [v242] y241 ∧ Ow W256 8 [] [v249] y248 ∧ Ow W256 6 [] [v253] y252 ∧ Bx W256 7 pg11 [v249, vS y251, v253] ∧ K257 y241 y244 y248 y251 y252 = some r) ?_ ?_
     ·rintro _ _ σ ⟨y241, y244, y248, y251, y252, v242, j245, j246, j247, v249, v253, W256, rfl, l256, rfl, o243, o250, o254, b255, hm⟩
      rw [hK257] at hm
      exact rg (Lw.add rfl (mi rfl (nl ((agm) ⟨y241, y244, w64 (y224 + 1), y248, y251, y252, v242, j245, j246, j247, v249, v253, W256, rfl, (l233.j l256).w, rfl, o243, o250, o254, b255, hm⟩))))
     ·refine Cw.block (sr ?_)
      obtain ⟨u262, e263, hm⟩ := ob hm
      refine Lw.r rfl (R.ix (α := Int) (r216.ul a236) e263 rfl rfl rfl) (Lw.r rfl (R.ld rfl rfl ((r216.ul a236).at_ e263).int) (Ni rfl (sr (mv v0_18 rfl (mi rfl (ca hm (fun _ => p116 (K := [3]) (((o38.up l84).up lW rfl).up l233).rd) fun z265 W267 hm l267 => ?_))))))
      have a268 := (a203.trans a236).n l267
      refine mv v1_ rfl (mi rfl (ca hm (fun _ => p116 (h1.ul a268)) fun z277 W279 hm l279 => ?_))
      have a280 := a268.n l279
      have o282 := (o219.up l267).up l279
      have o284 := (o231.up l267).up l279
      have o285 := (o227.up l267).up l279
      have b287 := (b232.up l267).up l279
      refine Gi rfl (Ni rfl (Cw.block (sr (mi rfl (Lw.ge rfl (Nb rfl (cn hm (fun hm => ?_) fun hm => ?_)))))))
      ·refine rg (fl b287 rfl (mi rfl (Lw.t rfl (T.bs 9 [vI z265] (cs := [vI z265]) rfl rfl (bsv rfl)) ?_)))
       rintro _ _ ⟨g289, W289, rfl, rfl, l289, b289⟩
       obtain ⟨q298, e299, hm⟩ := ob hm
       refine Lw.t rfl (T.app1S (α := Int) (K' := []) (o285.up l289) b289 (rdI _) rfl rfl e299) ?_
       rintro v300 _ ⟨W300, rfl, l300, o300⟩
       refine Lw.fa rfl (Lw.u (T.st (j := 0) (v := v300) ((b287.up l289).up l300) rfl rfl o300.oc rfl rfl) ?_)
       rintro _ _ ⟨W309, rfl, l309, b309⟩
       exact nl ((ag) ⟨y217, y220, q298, y228, y229, v218, vI u262, vI z265, vI z277, v300, v230, W309, rfl, ((((l267.j l279).j l289).j l300).j l309).w, rfl, (((o282.up l289).up l300).up l309), (o300.up l309), (((o284.up l289).up l300).up l309), b309, hm⟩)
      ·refine sr (mi rfl (Lw.ge rfl (Nb rfl (cn hm (fun hm => ?_) fun hm => ?_))))
       ·refine rg (fl b287 rfl (mi rfl (Lw.sub rfl (Lw.t rfl (T.bs 10 [vI (w64 ((-1) - z277))] (cs := [vI (w64 ((-1) - z277))]) rfl rfl (bsv rfl)) ?_))))
        rintro _ _ ⟨g319, W319, rfl, rfl, l319, b319⟩
        obtain ⟨q328, e329, hm⟩ := ob hm
        refine Lw.t rfl (T.app1S (α := Int) (K' := []) (o285.up l319) b319 (rdI _) rfl rfl e329) ?_
        rintro v330 _ ⟨W330, rfl, l330, o330⟩
        refine Lw.fa rfl (Lw.u (T.st (j := 0) (v := v330) ((b287.up l319).up l330) rfl rfl o330.oc rfl rfl) ?_)
        rintro _ _ ⟨W339, rfl, l339, b339⟩
        exact nl ((ag) ⟨y217, y220, q328, y228, y229, v218, vI u262, vI z265, vI z277, v330, v230, W339, rfl, ((((l267.j l279).j l319).j l330).j l339).w, rfl, (((o282.up l319).up l330).up l339), (o330.up l339), (((o284.up l319).up l330).up l339), b339, hm⟩)
       ·refine sr (Gv (.slice none 0 0) rfl (Nb rfl ?_))
        cases hm
        exact Cw.ret (ret2 rfl rfl (Res.mk a280 ⟨.slice none 0 0, rfl, (owsN []).sub rfl rfl⟩))
    ·refine Cw.exit ?_
     rw [hK234] at hm
     refine rg (mv v26 rfl (la b232 (Lw.t rfl (T.bs 11 [.agg [v226, vS y228, v230].toArray] (cs := [v226, vS y228, v230]) rfl rfl (bsA rfl)) ?_)))
     rintro _ _ ⟨g348, W348, rfl, rfl, l348, b348⟩
     obtain ⟨q357, e358, hm⟩ := ob hm
     refine Lw.t rfl (T.app1 (α := Commit) (J := [8, 6]) (K' := []) ((((o27.up l84).up lW rfl).up l233).up l348) b348 (Commit.own y225 y228 y229 (o227.up l348).s (o231.up l348).s) rfl rfl e358) ?_
     rintro v359 _ ⟨W359, rfl, l359, o359⟩
     exact Nv v359 rfl (rg (Lw.add rfl (mi rfl (nl ((agm) ⟨y217, y220, q357, w64 (y33 + 1), v218, v359, vI u41, ptr (bx pg11), j221, j222, j223, W359, rfl, (((((l34.j l84).j l202).j l233).j l348).j l359).w, rfl, ((o219.up l348).up l359), o359, hm⟩)))))
  ·refine Cw.exit ?_
   rw [hK35] at hm
   refine sr (mv v26 rfl (Gv v26 rfl (Nb rfl ?_)))
   cases hm
   exact Cw.ret (ret2 rfl rfl (Res.mk a37 ⟨v26, rfl, o27.s.sub rfl rfl⟩))
theorem p44 {x0 v0_0_ v0_1_ x1 v1_ x2 k0 r} (h0 : Rd W K [v0_0_, v0_1_] x0) (h1 : Rd W K [v1_] x1) (h99 : Gl 0 W K) (hm : Vm.impl_SendOf x0 x1 x2 = some r) : Q1 44 [.agg [v0_0_, v0_1_].toArray, v1_, vI x2] W [] fun W' v => ∃ u0, v = .tuple [u0, vB r.2].toArray ∧ Ow W' k0 [] [u0] r.1 :=
 (c44 (h0.view _) (h1.view _) (h99.view _) hm).ad (fk k0) fun _ _ ⟨u0, e, f0⟩ => ⟨u0, e, f0.back (fk_LL _)⟩
theorem c71 {x0 v0_0_ v0_1_ r} (h0 : Rd W0 [0] [v0_0_, v0_1_] x0) (hm : Vm.impl_Repo_own x0 = some r) : Q0 71 [.agg [v0_0_, v0_1_].toArray] W0 fun Wf v => ∃ u0_0 u0_1, v = .agg [u0_0, u0_1].toArray ∧ OwS Wf [31] [] [u0_0] r.Commits ∧ OwS Wf [32] [] [u0_1] r.Heads := by
 unfold Vm.impl_Repo_own at hm
 obtain ⟨w0_0, w0_1, he0, h0_0, h0_1⟩ := Repo.split h0
 simp only [List.cons.injEq, and_true, true_and] at he0
 obtain ⟨rfl, rfl⟩ := he0
 refine CallR.of Tryz.func71 rfl rfl rfl rfl (sr (bo 2 rfl fun g1 W1 l1 b1 => ?_))
 have a2 := l1.o
 refine al 3 [.slice none 0 0, .slice none 0 0] fun g3 W3 l3 b3 => ?_
 have a4 := a2.n l3
 refine nl (sr (Lw.t rfl (T.lit0 (α := Head) 4 []) ?_))
 rintro v6 _ ⟨W6, rfl, l6, o6⟩
 have a7 := a4.n l6
 have b8 := (b1.up l3).up l6
 refine fl b8 rfl ?_
 obtain ⟨q10, e11, hm⟩ := ob hm
 refine Lw.t rfl (T.appP (α := Head) o6 (h0_1.ul a7) rfl rfl e11) ?_
 rintro v12 _ ⟨W12, rfl, l12, o12⟩
 have a14 := a7.t l12
 refine Lw.r rfl (R.bd (zs := [.slice none 0 0, .slice none 0 0]) (cs := [.slice none 0 0, v12]) [(1, v12)] rfl rfl rfl (bp_cons o12.oc rfl bp_nil)) (al 5 [.slice none 0 0, .slice none 0 0] fun g17 W17 l17 b17 => ?_)
 have a18 := a14.n l17
 refine sta b17 (oc_cons rfl (oc_cons (o12.up l17).oc oc_nil)) fun W22 l22 b22 => ?_
 have a23 := a18.t l22
 refine nl (ssr (fl (((b8.up l12).up l17).up l22) rfl (Lw.ln x0.Commits (h0_0.ul a23) rfl (mi rfl (nl (Cw.block ?_))))))
 obtain ⟨K38, hK38, hm⟩ := jn_e hm
 refine Cw.loop 14 33 [5, 14] (fun m l w => ∃ y29 y30 y33 j28 v31 v34 W37, CW.w W37 = w ∧ Le [5, 6, 7, 8, 9] W22 W37 ∧ l = [j28, vI y29] ∧ Ow W37 6 [] [v31] y30 ∧ Ow W37 4 [] [v34] y33 ∧ Bx W37 5 g17 [v31, v34] ∧ Vm.impl_Repo_own_l1 x0 K38 m y29 y30 y33 = some r) _ ⟨0, ([] : List Commit), q10, undef, .slice none 0 0, v12, W22, rfl, Le.refl _ _, rfl, owN 6 [], ((o12.up l17).up l22), b22, hm⟩ ?_
 rintro (_ | m39) _ _ σ ⟨y29, y30, y33, j28, v31, v34, W37, rfl, l37, rfl, o32, o35, b36, hm⟩
 ·cases hm
 unfold Vm.impl_Repo_own_l1 at hm
 have a40 := a23.t l37
 refine sr (Lw.lt rfl (nl (Cw.seq (cn hm (fun hm => ?_) fun hm => ?_))))
 ·refine sk (Cw.seq (Cw.block (sr ?_)))
  obtain ⟨u44, e45, hm⟩ := ob hm
  refine Lw.r rfl (R.ix (α := Commit) (h0_0.ul a40) e45 rfl rfl rfl) ?_
  obtain ⟨x47, c48, _, r49⟩ := ((h0_0.ul a40).at_ e45).cells
  obtain ⟨v50, v52, rfl, r51, r53⟩ := Commit.split r49
  refine Lw.r rfl (R.lda c48 rfl rfl) (al 7 [.slice none 0 0, vS ([] : Str), .slice none 0 0] fun g54 W54 l54 b54 => ?_)
  have a55 := l54.o
  refine sta b54 (oc_cons r51.oc (oc_cons rfl (oc_cons r53.oc oc_nil))) fun W61 l61 b61 => ?_
  have a62 := a55.t l61
  refine nl (Cw.draw [6, 8, 9] [(0, 0), (1, 1), (3, 0), (4, 1), (6, 0), (7, 1), (8, 0), (9, 1), (2, 2), (5, 2), (10, 2), (11, 0), (12, 2), (13, 2), (14, 0), (15, 3)] mixed (by kernel_rfl) fun W68 l68 => ?_)
  have a69 := a62.n l68
  have b74 := ((b36.up l54).up l61).up l68
  have b75 := b61.up l68
  refine Dfl b74 rfl rfl rfl (Dfl b75 rfl rfl rfl (Dfl b75 rfl rfl rfl (Dfl b75 rfl rfl rfl (Mw.t rfl rfl (T.lit0 (α := Int) 8 []) ?_))))
  rintro v76 _ ⟨W76, rfl, l76, o76⟩
  have a77 := a69.n l76
  refine m0 l76 fun d76 => ?_
  obtain ⟨q84, e85, hm⟩ := ob hm
  refine Mw.t rfl rfl (T.appP (α := Int) o76 (r51.ul a77) rfl rfl e85) ?_
  rintro v86 _ ⟨W86, rfl, l86, o86⟩
  have a88 := a77.t l86
  refine mc d76 l86 fun d86 => Dc hm d86 (fun _ => p114 (k0 := 9) (r53.ul a88)) rfl ?_
  rintro z96 v0_98 W98 hm l98 ⟨_, rfl, f98_0⟩ d98
  refine Mw.p rfl rfl (fun _ => R.bd (zs := [.slice none 0 0, vS ([] : Str), .slice none 0 0]) (cs := [v86, vS u44.Who, v0_98]) [(0, v86), (1, vS u44.Who), (2, v0_98)] rfl rfl rfl (bp_cons (o86.up l98).oc rfl (bp_cons rfl rfl (bp_cons f98_0.oc rfl bp_nil)))) (Mw.t rfl rfl (T.bs 10 [.agg [v86, vS u44.Who, v0_98].toArray] (cs := [v86, vS u44.Who, v0_98]) rfl rfl (bsA rfl)) ?_)
  rintro _ _ ⟨g107, W107, rfl, rfl, l107, b107⟩
  refine mc d98 l107 fun d107 => ?_
  obtain ⟨q117, e118, hm⟩ := ob hm
  refine Mw.t rfl rfl (T.app1 (α := Commit) (J := [8, 9]) (K' := []) (((((((o32.up l54).up l61).up l68).up l76).up l86).up l98).up l107) b107 (Commit.own q84 u44.Who z96 ((o86.up l98).up l107).s (f98_0.up l107).s) rfl rfl e118) ?_
  rintro v119 _ ⟨W119, rfl, l119, o119⟩
  refine mc d107 l119 fun d119 => Df rfl (Mw.lu rfl (T.st (j := 0) (v := v119) (((((b74.up l76).up l86).up l98).up l107).up l119) rfl rfl o119.oc rfl rfl) ?_)
  rintro _ _ ⟨W127, rfl, l127, b127⟩
  exact Mw.nil (rg (Lw.add rfl (mi rfl (nl ((agm) ⟨w64 (y29 + 1), q117, y33, ptr (bx g54), v119, v34, W127, rfl, (((((((((l37.j l54).j l61).j l68).j l76).j l86).j l98).j l107).j l119).j l127).w, rfl, (o119.up l127), (((((((((o35.up l54).up l61).up l68).up l76).up l86).up l98).up l107).up l119).up l127), b127, hm⟩)))))
 ·refine Cw.exit ?_
  rw [hK38] at hm
  refine sr (la b36 (sta (((((b3.up l6).up l12).up l17).up l22).up l37) (oc_cons o32.oc (oc_cons o35.oc oc_nil)) fun W135 l135 b135 => ?_))
  have a136 := a40.t l135
  refine nl ?_
  obtain ⟨W141, ew141, l141, o141⟩ := (o32.up l135).dyeO 31
  have a142 := a136.t l141
  obtain ⟨W147, ew147, l147, o147⟩ := ((o35.up l135).up l141).dyeO 32
  have a148 := a142.t l147
  cases hm
  rw [← ew147.trans (ew141)]
  exact Cw.ret (retA1 rfl ((b135.up l141).up l147) (Res.mk a148 ⟨v31, v34, rfl, (o141.up l147).s, o147.s⟩))
theorem p71 {x0 v0_0_ v0_1_ k0 k1 r} (h0 : Rd W K [v0_0_, v0_1_] x0) (hm : Vm.impl_Repo_own x0 = some r) : Q1 71 [.agg [v0_0_, v0_1_].toArray] W [] fun W' v => ∃ u0_0 u0_1, v = .agg [u0_0, u0_1].toArray ∧ Ow W' k0 [] [u0_0] r.Commits ∧ Ow W' k1 [] [u0_1] r.Heads :=
 CallR.adJ (J := []) (fun c => bif Nat.beq c 0 then 0 else bif Nat.beq c 31 then k0 else bif Nat.beq c 32 then k1 else 0) (c71 (h0.view _) hm) fun _ _ ⟨u0_0, u0_1, e, f0, f1⟩ => ⟨u0_0, u0_1, e, f0.one1.backN rfl, f1.one1.backN rfl⟩
theorem c157 {x0 v0_ x1 r} (h0 : Rd W0 [0] [v0_] x0) (h1 : Rd W0 [0] [vS x1.Name, vI x1.At] x1) (hm : Vm.impl_insertHead x0 x1 = some r) : Q0 157 [v0_, .agg [vS x1.Name, vI x1.At].toArray] W0 fun Wf v => ∃ u0, v = u0 ∧ OwS Wf LL [] [u0] r := by
 unfold Vm.impl_insertHead at hm
 refine CallR.of Tryz.func157 rfl rfl rfl rfl (sr (bo 2 rfl fun g1 W1 l1 b1 => ?_))
 have a2 := l1.o
 refine Nv (.slice none 0 0) rfl (sr (mv v0_ rfl (Lw.ln x0 (h0.ul a2) rfl (Ni rfl (Cw.seq (Cw.block ?_))))))
 obtain ⟨K6, hK6, hm⟩ := jn_e hm
 refine Cw.loop 8 22 [5] (fun m l w => ∃ y4 W5, CW.w W5 = w ∧ Le [] W1 W5 ∧ l = [vI y4] ∧ Vm.impl_insertHead_l1 x0 x1 K6 m y4 = some r) _ ⟨(x0.length : Int), W1, rfl, Le.refl _ _, rfl, hm⟩ ?_
 rintro (_ | m7) _ _ σ ⟨y4, W5, rfl, l5, rfl, hm⟩
 ·cases hm
 unfold Vm.impl_insertHead_l1 at hm
 have a8 := a2.n l5
 refine Cw.seq ?_
 obtain ⟨K12, hK12, hm⟩ := jn_e hm
 refine Cw.join 8 20 [20] (fun l w => ∃ y10 W11, CW.w W11 = w ∧ Le [] W5 W11 ∧ l = [vB y10] ∧ K12 y10 = some r) ?_ ?_
 ·rintro _ _ σ ⟨y10, W11, rfl, l11, rfl, hm⟩
  rw [hK12] at hm
  have a13 := a8.n l11
  refine cn hm (fun hm => ?_) fun hm => ?_
  ·exact sk (Cw.block (rg (mi rfl (Lw.sub rfl (Ni rfl ((agm) ⟨w64 (y4 - 1), W11, rfl, (l5.j l11).w, rfl, hm⟩))))))
  ·refine Cw.exit ?_
   rw [hK6] at hm
   refine Cw.seq ?_
   obtain ⟨q22, e23, hm⟩ := ob hm
   obtain ⟨z32, e33, hm⟩ := ob hm
   refine Cw.par [[], [], [0, 1], [], [], [4], [0, 1, 2, 3, 4, 5], [0, 1, 2, 3, 4, 5, 6]] [[], [], [0, 1], [], [], [4], [2, 3, 5], [6]] [[], [], [3], [], [], [], [3], []] [[0], [1], [2], [3], [4], [5], [6], [6, 7]] [[3], [], [3], [], [], [4], [5], []] [1, 3, 4, 5, 6, 7] [3] [fun vs W => Ow W 3 [] [(vs 0)] ([] : List Head), fun vs W => (vs 1) = v0_, fun vs W => Ow W 3 [] [(vs 2)] q22, fun vs W => (vs 3) = vI y4, fun vs W => (vs 4) = .agg [vS x1.Name, vI x1.At].toArray, fun vs W => (vs 5) = .slice (some (bx (pg (vs 5)))) 1 1 ∧ Bx W 4 (pg (vs 5)) [vS x1.Name, vI x1.At], fun vs W => Ow W 5 [] [(vs 6)] z32, fun vs W => (vs 7) = (vs 6)] [] mixed (by kernel_rfl) rfl AllF.nil ?_
   intro W38 l38
   have a39 := a13.n l38
   refine ⟨(Steps.cons ?_ (Steps.cons ?_ (Steps.cons ?_ (Steps.cons ?_ (Steps.cons ?_ (Steps.cons ?_ (Steps.cons ?_ (Steps.cons ?_ Steps.nil)))))))), (Sups.cons (fun vs vs' W W' _ hv l hd h => by (show Ow W' 3 [] [(vs' 0)] ([] : List Head)); rw [hv 0 (anyb rfl)]; exact h.upv l (disj_mem hd (c := 3) rfl)) (Sups.cons (fun vs vs' W W' _ hv l hd h => by (show (vs' 1) = v0_); rw [hv 1 (anyb rfl)]; exact h) (Sups.cons (fun vs vs' W W' _ hv l hd h => by (show Ow W' 3 [] [(vs' 2)] q22); rw [hv 2 (anyb rfl)]; exact h.upv l (disj_mem hd (c := 3) rfl)) (Sups.cons (fun vs vs' W W' _ hv l hd h => by (show (vs' 3) = vI y4); rw [hv 3 (anyb rfl)]; exact h) (Sups.cons (fun vs vs' W W' _ hv l hd h => by (show (vs' 4) = .agg [vS x1.Name, vI x1.At].toArray); rw [hv 4 (anyb rfl)]; exact h) (Sups.cons (fun vs vs' W W' _ hv l hd h => by (show (vs' 5) = .slice (some (bx (pg (vs' 5)))) 1 1 ∧ Bx W' 4 (pg (vs' 5)) [vS x1.Name, vI x1.At]); rw [hv 5 (anyb rfl)]; exact ⟨h.1, h.2.up l (disj_mem hd (c := 4) rfl)⟩) (Sups.cons (fun vs vs' W W' _ hv l hd h => by (show Ow W' 5 [] [(vs' 6)] z32); rw [hv 6 (anyb rfl)]; exact h.upv l (disj_mem hd (c := 5) rfl)) (Sups.cons (fun vs vs' W W' _ hv l hd h => by (show (vs' 7) = (vs' 6)); rw [hv 6 (anyb rfl), hv 7 (anyb rfl)]; exact h) Sups.nil)))))))), ?_⟩
   ·intro vs W lW hN
    obtain ⟨W41, hW41⟩ : ∃ X, X = W := ⟨W, rfl⟩
    subst hW41
    refine Tr.mono (T.lit0 (α := Head) 3 []) ?_
    rintro v44 _ ⟨W44, rfl, l44, o44⟩
    exact ⟨W44, rfl, l44, (show Ow W44 3 [] [v44] ([] : List Head) from o44)⟩
   ·intro vs W lW hN
    obtain ⟨W47, hW47⟩ : ∃ X, X = W := ⟨W, rfl⟩
    subst hW47
    refine Tr.mono (Run.tr (R.mv (v := v0_) rfl)) ?_
    rintro _ _ ⟨hu, rfl⟩
    obtain rfl := hu.symm
    exact ⟨W47, rfl, Le.refl _ _, (show (v0_ : Value) = v0_ from rfl)⟩
   ·intro vs W lW hN
    obtain ⟨W50, hW50⟩ : ∃ X, X = W := ⟨W, rfl⟩
    subst hW50
    have a51 := a39.t lW rfl
    obtain ⟨pv0, e0_⟩ : ∃ v, vs 0 = v := ⟨_, rfl⟩
    obtain ⟨vs, rfl⟩ := up_eq e0_
    have o53 : Ow W50 3 [] [pv0] ([] : List Head) := (hN 0 (anyb rfl))
    have e1_ : vs 1 = v0_ := (hN 1 (anyb rfl))
    obtain ⟨vs, rfl⟩ := up_eq e1_
    refine Tr.mono (T.appP (α := Head) o53 (h0.ul a51) rfl rfl e23) ?_
    rintro v54 _ ⟨W54, rfl, l54, o54⟩
    exact ⟨W54, rfl, l54, (show Ow W54 3 [] [v54] q22 from o54)⟩
   ·intro vs W lW hN
    obtain ⟨W58, hW58⟩ : ∃ X, X = W := ⟨W, rfl⟩
    subst hW58
    refine Tr.mono (Run.tr (R.mv (v := vI y4) rfl)) ?_
    rintro _ _ ⟨hu, rfl⟩
    obtain rfl := hu.symm
    exact ⟨W58, rfl, Le.refl _ _, (show (vI y4 : Value) = vI y4 from rfl)⟩
   ·intro vs W lW hN
    obtain ⟨W61, hW61⟩ : ∃ X, X = W := ⟨W, rfl⟩
    subst hW61
    refine Tr.mono (Run.tr (R.lda (cs := [vS x1.Name, vI x1.At]) ((((b1.up l5).up l11).up l38).up lW rfl).cells rfl rfl)) ?_
    rintro _ _ ⟨hu, rfl⟩
    obtain rfl := hu.symm
    exact ⟨W61, rfl, Le.refl _ _, (show (.agg [vS x1.Name, vI x1.At].toArray : Value) = .agg [vS x1.Name, vI x1.At].toArray from rfl)⟩
   ·intro vs W lW hN
    obtain ⟨W64, hW64⟩ : ∃ X, X = W := ⟨W, rfl⟩
    subst hW64
    have e4_ : vs 4 = .agg [vS x1.Name, vI x1.At].toArray := (hN 4 (anyb rfl))
    obtain ⟨vs, rfl⟩ := up_eq e4_
    refine Tr.mono (T.bs 4 [.agg [vS x1.Name, vI x1.At].toArray] (cs := [vS x1.Name, vI x1.At]) rfl rfl (bsA rfl)) ?_
    rintro _ _ ⟨g67, W67, rfl, rfl, l67, b67⟩
    exact ⟨W67, rfl, l67, (show (.slice (some (bx g67)) 1 1 : Value) = .slice (some (bx g67)) 1 1 ∧ Bx W67 4 g67 [vS x1.Name, vI x1.At] from ⟨rfl, b67⟩)⟩
   ·intro vs W lW hN
    obtain ⟨W70, hW70⟩ : ∃ X, X = W := ⟨W, rfl⟩
    subst hW70
    obtain ⟨pv2, e2_⟩ : ∃ v, vs 2 = v := ⟨_, rfl⟩
    obtain ⟨vs, rfl⟩ := up_eq e2_
    have o73 : Ow W70 3 [] [pv2] q22 := (hN 2 (anyb rfl))
    have e3_ : vs 3 = vI y4 := (hN 3 (anyb rfl))
    obtain ⟨vs, rfl⟩ := up_eq e3_
    obtain ⟨pg5, e5_⟩ : ∃ pg5, vs 5 = .slice (some (bx pg5)) 1 1 := ⟨_, ((hN 5 (anyb rfl))).1⟩
    obtain ⟨vs, rfl⟩ := up_eq e5_
    have o74 : Bx W70 4 pg5 [vS x1.Name, vI x1.At] := (hN 5 (anyb rfl)).2
    refine Tr.mono (T.call rfl (p173 (k0 := 5) (c0 := 3) o73 o74 (Head.rd (K := [0]) x1.Name x1.At ) rfl rfl e33)) ?_
    rintro v0_75 _ ⟨W75, rfl, l75, ⟨_, rfl, f75_0⟩⟩
    exact ⟨W75, rfl, l75, (show Ow W75 5 [] [v0_75] z32 from f75_0)⟩
   ·intro vs W lW hN
    obtain ⟨W79, hW79⟩ : ∃ X, X = W := ⟨W, rfl⟩
    subst hW79
    obtain ⟨pv6, e6_⟩ : ∃ v, vs 6 = v := ⟨_, rfl⟩
    obtain ⟨vs, rfl⟩ := up_eq e6_
    have o82 : Ow W79 5 [] [pv6] z32 := (hN 6 (anyb rfl))
    refine Tr.mono (Run.tr (R.as (v := pv6) rfl)) ?_
    rintro _ _ ⟨hu, rfl⟩
    obtain rfl := hu.symm
    exact ⟨W79, rfl, Le.refl _ _, (show (pv6 : Value) = pv6 from rfl)⟩
   ·intro vs W lW hN
    obtain ⟨W83, hW83⟩ : ∃ X, X = W := ⟨W, rfl⟩
    subst hW83
    have a84 := a39.t lW rfl
    obtain ⟨l83, hl83⟩ : ∃ x, x = lW := ⟨lW, rfl⟩
    have e1_ : vs 1 = v0_ := (hN 1 (anyb rfl))
    obtain ⟨vs, rfl⟩ := up_eq e1_
    have e3_ : vs 3 = vI y4 := (hN 3 (anyb rfl))
    obtain ⟨vs, rfl⟩ := up_eq e3_
    have e4_ : vs 4 = .agg [vS x1.Name, vI x1.At].toArray := (hN 4 (anyb rfl))
    obtain ⟨vs, rfl⟩ := up_eq e4_
    obtain ⟨pg5, e5_⟩ : ∃ pg5, vs 5 = .slice (some (bx pg5)) 1 1 := ⟨_, ((hN 5 (anyb rfl))).1⟩
    obtain ⟨vs, rfl⟩ := up_eq e5_
    have o86 : Bx W83 4 pg5 [vS x1.Name, vI x1.At] := (hN 5 (anyb rfl)).2
    obtain ⟨pv6, e6_⟩ : ∃ v, vs 6 = v := ⟨_, rfl⟩
    obtain ⟨vs, rfl⟩ := up_eq e6_
    have o87 : Ow W83 5 [] [pv6] z32 := (hN 6 (anyb rfl))
    have e7_ : vs 7 = pv6 := (hN 7 (anyb rfl))
    obtain ⟨vs, rfl⟩ := up_eq e7_
    cases hm
    exact Cw.ret (ret1 rfl (Res.mk a84 ⟨pv6, rfl, o87.s.sub rfl rfl⟩))
 ·refine Cw.draw [] [(0, 0), (1, 0), (2, 0), (3, 0), (4, 0), (5, 0), (6, 0), (7, 0), (8, 1), (9, 0), (10, 1), (11, 0), (12, 0)] mixed (by kernel_rfl) fun W88 l88 => ?_
  have a89 := a8.n l88
  refine Di rfl (Mw.p rfl rfl (fun _ => R.gt rfl rfl) (Db rfl (bs hm (fun hc91 hm => ?_) fun hc91 hm => ?_)))
  ·refine Wp hc91 rfl (fun _ => R.mv (v := v0_) rfl) (Wp hc91 rfl (fun _ => R.mv (v := vI y4) rfl) (Wp hc91 rfl (fun _ => R.sub rfl rfl) ?_))
   obtain ⟨u92, e93, hm⟩ := ob hm
   exact Wp hc91 rfl (fun _ => R.ix (α := Head) (h0.ul a89) e93 rfl rfl rfl) (Wp hc91 rfl (fun _ => R.fa rfl) (Wq hc91 rfl (fun _ c => R.ld rfl rfl (cl_cell (Head.at0 ((h0.ul a89).at_ e93)).1 rfl (Head.at0 ((h0.ul a89).at_ e93)).str c)) (Wp hc91 rfl (fun _ => R.fa rfl) (Wq hc91 rfl (fun _ c => R.ld (v := vS x1.Name) rfl rfl (((b1.up l5).up l88).clc rfl rfl c)) (Wp hc91 rfl (fun _ => R.sgt rfl rfl) (Mw.p rfl rfl (fun _ => R.pk hc91 rfl (v := vB (!(Op.bytesLess u92.Name x1.Name || u92.Name == x1.Name))) rfl) (Mw.nil ((ag) ⟨(!(Op.bytesLess u92.Name x1.Name || u92.Name == x1.Name)), W88, rfl, l88, rfl, hm⟩))))))))
  ·exact dps 9 hc91 rfl (Mw.p rfl rfl (fun _ => R.pk hc91 rfl (v := vB false) rfl) (Mw.nil ((ag) ⟨false, W88, rfl, l88, rfl, hm⟩)))
theorem p157 {x0 v0_ x1 k0 r} (h0 : Rd W K [v0_] x0) (h1 : Rd W K [vS x1.Name, vI x1.At] x1) (hm : Vm.impl_insertHead x0 x1 = some r) : Q1 157 [v0_, .agg [vS x1.Name, vI x1.At].toArray] W [] fun W' v => ∃ u0, v = u0 ∧ Ow W' k0 [] [u0] r :=
 (c157 (h0.view _) (h1.view _) hm).ad (fk k0) fun _ _ ⟨u0, e, f0⟩ => ⟨u0, e, f0.back (fk_LL _)⟩
theorem c128 {x0 v0_0_ v0_1_ x1 x2 r} (h0_0 : Ow W0 2 [] [v0_0_] x0.Commits) (h0_1 : Ow W0 3 [] [v0_1_] x0.Heads) (hm : Vm.impl_Repo_point x0 x1 x2 = some r) : Q0 128 [.agg [v0_0_, v0_1_].toArray, vS x1, vI x2] W0 fun Wf v => ∃ u0_0 u0_1, v = .agg [u0_0, u0_1].toArray ∧ OwS Wf [31] [] [u0_0] r.Commits ∧ OwS Wf [32] [] [u0_1] r.Heads := by
 unfold Vm.impl_Repo_point at hm
 refine CallR.of Tryz.func128 rfl rfl rfl rfl (sr (bo 4 rfl fun g1 W1 l1 b1 => ?_))
 have a2 := l1.o
 refine al 5 [.slice none 0 0, .slice none 0 0] fun g5 W5 l5 b5 => ?_
 have a6 := a2.n l5
 have o8 := (h0_1.up l1).up l5
 refine nl (ssr (fl (b1.up l5) rfl (Lw.ln x0.Heads o8.rd rfl (mi rfl (nl (Cw.block ?_))))))
 obtain ⟨K22, hK22, hm⟩ := jn_e hm
 refine Cw.loop 11 29 [7, 11] (fun m l w => ∃ y11 y12 y15 y19 j10 v13 v16 W21, CW.w W21 = w ∧ Le [] W5 W21 ∧ l = [j10, vI y11] ∧ Ow W21 6 [] [v13] y12 ∧ Ow W21 7 [] [v16] y15 ∧ Bx W21 5 g5 [v13, v16] ∧ Ow W21 3 [] [v0_1_] y19 ∧ Vm.impl_Repo_point_l1 x0 x1 x2 K22 m y11 y12 y15 y19 = some r) _ ⟨0, ([] : List Commit), ([] : List Head), x0.Heads, undef, .slice none 0 0, .slice none 0 0, W5, rfl, Le.refl _ _, rfl, owN 6 [], owN 7 [], b5, o8, hm⟩ ?_
 rintro (_ | m23) _ _ σ ⟨y11, y12, y15, y19, j10, v13, v16, W21, rfl, l21, rfl, o14, o17, b18, o20, hm⟩
 ·cases hm
 unfold Vm.impl_Repo_point_l1 at hm
 have a24 := a6.n l21
 have o25 := ((h0_0.up l1).up l5).up l21
 have b26 := (b1.up l5).up l21
 refine sr (Lw.lt rfl (nl (Cw.seq (cn hm (fun hm => ?_) fun hm => ?_))))
 ·refine sk (Cw.seq (Cw.block (sr (mi rfl (Ni rfl (sr (fl b26 rfl (mi rfl ?_))))))))
  obtain ⟨u28, e29, hm⟩ := ob hm
  refine Lw.r rfl (R.ix (α := Head) o20.rd e29 rfl rfl rfl) (Lw.fa rfl (Lw.r rfl (R.ld rfl rfl (Head.at0 (o20.rd.at_ e29)).str) (ms rfl (Lw.seq rfl (nl (cn hm (fun hm => ?_) fun hm => ?_))))))
  ·refine sr (fl b26 rfl (mi rfl (mi rfl ?_)))
   obtain ⟨u31, e32, hm⟩ := ob hm
   refine Lw.r rfl (R.ix (α := Head) o20.rd e32 rfl rfl rfl) (Lw.fa rfl ?_)
   obtain ⟨q34, e35, hm⟩ := ob hm
   refine Lw.u (T.stH (α := Head) (β := Int) (J := []) (Ow.hole (α := Head) (β := Int) (jf := 1) o20 e32) (OwS.atm (K := []) (rdI _)) e35 rfl rfl rfl rfl) ?_
   rintro _ _ ⟨W33, rfl, l33, o33⟩
   have a36 := a24.t l33
   refine nl (sr (la (b26.up l33) (sta (b18.up l33) (oc_cons (o25.up l33).oc (oc_cons o33.oc oc_nil)) fun W42 l42 b42 => ?_)))
   have a43 := a36.t l42
   refine nl ?_
   obtain ⟨W49, ew49, l49, o49⟩ := ((o25.up l33).up l42).dyeO 31
   have a50 := a43.t l49
   obtain ⟨W56, ew56, l56, o56⟩ := ((o33.up l42).up l49).dyeO 32
   have a57 := a50.t l56
   cases hm
   rw [← ew56.trans (ew49)]
   exact Cw.ret (retA1 rfl ((b42.up l49).up l56) (Res.mk a57 ⟨v0_0_, v0_1_, rfl, (o49.up l56).s, o56.s⟩))
  ·exact sk (rg (Lw.add rfl (mi rfl (nl ((agm) ⟨w64 (y11 + 1), y12, y15, y19, vI y11, v13, v16, W21, rfl, l21, rfl, o14, o17, b18, o20, hm⟩)))))
 ·refine Cw.exit ?_
  rw [hK22] at hm
  refine sr (fl b26 rfl (ms rfl (mi rfl (Lw.r rfl (R.bd (zs := [vS ([] : Str), vI 0]) (cs := [vS x1, vI x2]) [(0, vS x1), (1, vI x2)] rfl rfl rfl (bp_cons rfl rfl (bp_cons rfl rfl bp_nil))) (cr hm (fun _ => p157 (K := [0, 3]) (k0 := 8) (x1 := (Vm.Head.mk x1 x2)) (o20.rd.sub (M := [0, 3]) rfl) ((Head.rd (K := [0]) x1 x2 ).sub (M := [0, 3]) rfl)) ?_)))))
  rintro z63 v0_65 W65 hm l65 ⟨_, rfl, f65_0⟩
  have a66 := a24.n l65
  refine Lw.fa rfl (Lw.u (T.st (j := 1) (v := v0_65) (b26.up l65) rfl rfl f65_0.oc rfl rfl) ?_)
  rintro _ _ ⟨W73, rfl, l73, b73⟩
  have a74 := a66.t l73
  have o75 := (o25.up l65).up l73
  refine nl (sr (la b73 (sta ((b18.up l65).up l73) (oc_cons o75.oc (oc_cons (f65_0.up l73).oc oc_nil)) fun W81 l81 b81 => ?_)))
  have a82 := a74.t l81
  refine nl ?_
  obtain ⟨W89, ew89, l89, o89⟩ := (o75.up l81).dyeO 31
  have a90 := a82.t l89
  obtain ⟨W97, ew97, l97, o97⟩ := (((f65_0.up l73).up l81).up l89).dyeO 32
  have a98 := a90.t l97
  cases hm
  rw [← ew97.trans (ew89)]
  exact Cw.ret (retA1 rfl ((b81.up l89).up l97) (Res.mk a98 ⟨v0_0_, v0_65, rfl, (o89.up l97).s, o97.s⟩))
theorem p128 {x0 v0_0_ v0_1_ x1 x2 k0 k1 c0 c1 r} (h0_0 : Ow W c0 [] [v0_0_] x0.Commits) (h0_1 : Ow W c1 [] [v0_1_] x0.Heads) (hJ : okJ K [c0, c1] = true) (hm : Vm.impl_Repo_point x0 x1 x2 = some r) : Q1 128 [.agg [v0_0_, v0_1_].toArray, vS x1, vI x2] W [c0, c1] fun W' v => ∃ u0_0 u0_1, v = .agg [u0_0, u0_1].toArray ∧ Ow W' k0 [] [u0_0] r.Commits ∧ Ow W' k1 [] [u0_1] r.Heads :=
 CallR.adJ (J := [c0, c1]) (fun c => bif Nat.beq c 0 then 0 else bif Nat.beq c 2 then c0 else bif Nat.beq c 3 then c1 else bif Nat.beq c 31 then k0 else bif Nat.beq c 32 then k1 else 0) (c128 (h0_0.viewJ 0 hJ) (h0_1.viewJ 1 hJ) hm) fun _ _ ⟨u0_0, u0_1, e, f0, f1⟩ => ⟨u0_0, u0_1, e, f0.one1.backN rfl, f1.one1.backN rfl⟩
theorem c127 {x0 v0_0_ v0_1_ x1 v1_0_ v1_1_ r} (h0 : Rd W0 [0] [v0_0_, v0_1_] x0) (h1_0 : Ow W0 2 [] [v1_0_] x1.Commits) (h1_1 : Ow W0 3 [] [v1_1_] x1.Heads) (h99 : Gl 0 W0 [0]) (hm : Vm.impl_Repo_tried x0 x1 = some r) : Q0 127 [.agg [v0_0_, v0_1_].toArray, .agg [v1_0_, v1_1_].toArray] W0 fun Wf v => ∃ u0_0 u0_1, v = .tuple [.agg [u0_0, u0_1].toArray, vB r.2].toArray ∧ OwS Wf [31] [] [u0_0] r.1.Commits ∧ OwS Wf [32] [] [u0_1] r.1.Heads := by
 unfold Vm.impl_Repo_tried at hm
 obtain ⟨w0_0, w0_1, he0, h0_0, h0_1⟩ := Repo.split h0
 simp only [List.cons.injEq, and_true, true_and] at he0
 obtain ⟨rfl, rfl⟩ := he0
 refine CallR.of Tryz.func127 rfl rfl rfl rfl (sr (bo 4 rfl fun g1 W1 l1 b1 => ?_))
 have a2 := l1.o
 refine bo 5 rfl fun g5 W5 l5 b5 => ?_
 have a6 := a2.n l5
 refine al 6 [.slice none 0 0, .slice none 0 0] fun g10 W10 l10 b10 => ?_
 have a11 := a6.n l10
 have o12 := ((h1_0.up l1).up l5).up l10
 have o13 := ((h1_1.up l1).up l5).up l10
 refine Nb rfl (ssr (la (b5.up l10) (ca hm (fun _ => p19 (K := [0, 2, 3]) (x0 := (Vm.Repo.mk x1.Commits x1.Heads)) ((Repo.rd (K := [2, 3]) x1.Commits x1.Heads (o12.rd.sub (M := [2, 3]) rfl) (o13.rd.sub (M := [2, 3]) rfl)).sub (M := [0, 2, 3]) rfl) ((h99.ul a11).sub (M := [0, 2, 3]) rfl)) fun z17 W19 hm l19 => ?_)))
 have a20 := a11.n l19
 refine Lw.r rfl (R.not rfl) (nl (cn hm (fun hm => ?_) fun hm => ?_))
 ·refine sr (la (((b1.up l5).up l10).up l19) (cr hm (fun _ => p71 (k0 := 7) (k1 := 8) (Repo.rd (K := [0]) x0.Commits x0.Heads (h0_0.ul a20) (h0_1.ul a20))) ?_))
  rintro z29 _ W31 hm l31 ⟨v0_0_31, v0_1_31, rfl, f31_0, f31_1⟩
  have a32 := a20.n l31
  refine sta ((b10.up l19).up l31) (oc_cons f31_0.oc (oc_cons f31_1.oc oc_nil)) fun W38 l38 b38 => ?_
  have a39 := a32.t l38
  refine Nb rfl ?_
  obtain ⟨W46, ew46, l46, o46⟩ := (f31_0.up l38).dyeO 31
  have a47 := a39.t l46
  obtain ⟨W54, ew54, l54, o54⟩ := ((f31_1.up l38).up l46).dyeO 32
  have a55 := a47.t l54
  cases hm
  rw [← ew54.trans (ew46)]
  exact Cw.ret (retA2 rfl ((b38.up l46).up l54) rfl (Res.mk a55 ⟨v0_0_31, v0_1_31, rfl, (o46.up l54).s, o54.s⟩))
 ·refine sk (sr (la ((b5.up l10).up l19) (sta (b10.up l19) (oc_cons (o12.up l19).oc (oc_cons (o13.up l19).oc oc_nil)) fun W62 l62 b62 => ?_)))
  have a63 := a20.t l62
  refine Nb rfl ?_
  obtain ⟨W68, ew68, l68, o68⟩ := ((o12.up l19).up l62).dyeO 31
  have a69 := a63.t l68
  obtain ⟨W74, ew74, l74, o74⟩ := (((o13.up l19).up l62).up l68).dyeO 32
  have a75 := a69.t l74
  cases hm
  rw [← ew74.trans (ew68)]
  exact Cw.ret (retA2 rfl ((b62.up l68).up l74) rfl (Res.mk a75 ⟨v1_0_, v1_1_, rfl, (o68.up l74).s, o74.s⟩))
theorem p127 {x0 v0_0_ v0_1_ x1 v1_0_ v1_1_ k0 k1 c0 c1 r} (h0 : Rd W K [v0_0_, v0_1_] x0) (h1_0 : Ow W c0 [] [v1_0_] x1.Commits) (h1_1 : Ow W c1 [] [v1_1_] x1.Heads) (h99 : Gl 0 W K) (hJ : okJ K [c0, c1] = true) (hm : Vm.impl_Repo_tried x0 x1 = some r) : Q1 127 [.agg [v0_0_, v0_1_].toArray, .agg [v1_0_, v1_1_].toArray] W [c0, c1] fun W' v => ∃ u0_0 u0_1, v = .tuple [.agg [u0_0, u0_1].toArray, vB r.2].toArray ∧ Ow W' k0 [] [u0_0] r.1.Commits ∧ Ow W' k1 [] [u0_1] r.1.Heads :=
 CallR.adJ (J := [c0, c1]) (fun c => bif Nat.beq c 0 then 0 else bif Nat.beq c 2 then c0 else bif Nat.beq c 3 then c1 else bif Nat.beq c 31 then k0 else bif Nat.beq c 32 then k1 else 0) (c127 (h0.view _) (h1_0.viewJ 0 hJ) (h1_1.viewJ 1 hJ) (h99.view _) hm) fun _ _ ⟨u0_0, u0_1, e, f0, f1⟩ => ⟨u0_0, u0_1, e, f0.one1.backN rfl, f1.one1.backN rfl⟩
end Go.Sx
