/- Walks: each function answers as its model, printed by a program of ours. Conditions: the arguments read as they are given. -/
import Derived.Test.YtidkloialdageaaGreatDoorXTs
import Derived.Test.YtidkloialdageaaGreatDoorXM8
import Derived.Test.YtidkloialdageaaGreatDoorXW0
import Derived.Test.YtidkloialdageaaGreatDoorXW1
import Derived.Test.YtidkloialdageaaGreatDoorXW10
import Derived.Test.YtidkloialdageaaGreatDoorXW3
import Derived.Test.YtidkloialdageaaGreatDoorXW6
import Derived.Test.YtidkloialdageaaGreatDoorXW7
import Derived.Test.YtidkloialdageaaGreatDoorXW8
namespace Go.Sx
open Go Go.Proofs Go.Vm Rp
set_option linter.unusedVariables false
set_option linter.unusedSimpArgs false

variable {W W0 : CW} {K : List Nat}
theorem c123 {x0 g0_ v0_0_ r} (hB0 : Bx W0 2 g0_ [v0_0_, vI x0.p]) (h0_0 : Rd W0 [0] [v0_0_] x0.b) (hm : Vm.spec_l30Loose x0 = some r) : Q0 123 [ptr (bx g0_)] W0 fun Wf v => ∃ u0_0 u0_1, v = .agg [u0_0, u0_1].toArray ∧ OwS Wf [31] [] [u0_0] r.1.Commits ∧ OwS Wf [32] [] [u0_1] r.1.Heads ∧ Bx Wf 2 g0_ [v0_0_, vI r.2] := by
 unfold Vm.spec_l30Loose at hm
 refine CallR.of Tryz.func123 rfl rfl rfl rfl (sr (al 3 [.slice none 0 0, .slice none 0 0] fun g1 W1 l1 b1 => ?_))
 have a2 := l1.o
 have b3 := hB0.up l1
 refine nl (sr (mp rfl (cr hm (fun _ => p82 (k0 := 4) (k1 := 5) (c0 := 2) (x0 := x0) b3 (h0_0.ul a2) rfl) ?_)))
 rintro z5 _ W7 hm l7 ⟨v0_0_7, v0_1_7, rfl, f7_0, f7_1, f7_2⟩
 have a8 := a2.t l7
 refine al 6 [.slice none 0 0, .slice none 0 0] fun g10 W10 l10 b10 => ?_
 have a11 := a8.n l10
 refine sta b10 (oc_cons (f7_0.up l10).oc (oc_cons (f7_1.up l10).oc oc_nil)) fun W16 l16 b16 => ?_
 have a17 := a11.t l16
 refine nl (ssr (mp rfl (cr hm (fun _ => p85 (c0 := 2) (x0 := (Vm.l30Rd.mk x0.b z5.2)) ((f7_2.up l10).up l16) (h0_0.ul a17) rfl) ?_)))
 rintro z23 _ W25 hm l25 ⟨rfl, f25_0⟩
 have a26 := a17.t l25
 refine Ni rfl (Cw.block ?_)
 obtain ⟨K44, hK44, hm⟩ := jn_e hm
 refine Cw.loop 11 28 [4, 5, 6] (fun m l w => ∃ y31 y34 y36 y39 j32 j33 v37 v40 W43, CW.w W43 = w ∧ Le [2, 6, 7, 8, 9] W25 W43 ∧ l = [vI y31, j32, j33] ∧ Bx W43 2 g0_ [v0_0_, vI y34] ∧ Ow W43 4 [] [v37] y36 ∧ Ow W43 5 [] [v40] y39 ∧ Bx W43 6 g10 [v37, v40] ∧ Vm.spec_l30Loose_l1 x0 K44 m y31 y34 y36 y39 = some r) _ ⟨z23.1, z23.2, z5.1.Commits, z5.1.Heads, undef, undef, v0_0_7, v0_1_7, W25, rfl, Le.refl _ _, rfl, f25_0, (((f7_0.up l10).up l16).up l25), (((f7_1.up l10).up l16).up l25), (b16.up l25), hm⟩ ?_
 rintro (_ | m45) _ _ σ ⟨y31, y34, y36, y39, j32, j33, v37, v40, W43, rfl, l43, rfl, b35, o38, o41, b42, hm⟩
 ·cases hm
 unfold Vm.spec_l30Loose_l1 at hm
 have a46 := a26.t l43
 refine ssr (mi rfl (Lw.gt rfl (nl (cn hm (fun hm => ?_) fun hm => ?_))))
 ·refine sk ?_
  obtain ⟨K61, hK61, hm⟩ := jn_e hm
  refine Cw.join 15 28 [5, 6] (fun l w => ∃ y51 y53 y56 j49 j50 v54 v57 W60, CW.w W60 = w ∧ Le [2, 6, 7, 8, 9] W43 W60 ∧ l = [j49, j50] ∧ Bx W60 2 g0_ [v0_0_, vI y51] ∧ Ow W60 4 [] [v54] y53 ∧ Ow W60 5 [] [v57] y56 ∧ Bx W60 6 g10 [v54, v57] ∧ K61 y51 y53 y56 = some r) ?_ ?_
  ·rintro _ _ σ ⟨y51, y53, y56, j49, j50, v54, v57, W60, rfl, l60, rfl, b52, o55, o58, b59, hm⟩
   rw [hK61] at hm
   exact rg (mi rfl (Lw.sub rfl (Ni rfl ((agm) ⟨w64 (y31 - 1), y51, y53, y56, j49, j50, v54, v57, W60, rfl, (l43.j l60).w, rfl, b52, o55, o58, b59, hm⟩))))
  ·refine Cw.block (Cw.seq ?_)
   obtain ⟨z72, e73, hm⟩ := ob hm
   obtain ⟨z80, e81, hm⟩ := ob hm
   refine Cw.par [[], [], [1], [0, 1, 2], [0, 1, 2, 3], [0, 1, 2, 3, 4], [0, 1, 2, 3, 4], [], [0, 1, 2, 3, 4, 5, 7], [0, 1, 2, 3, 4, 5, 6, 7, 8]] [[], [10], [1, 10], [0, 2], [3], [3, 4], [3, 4], [], [3, 5, 7], [6]] [[], [], [2], [], [], [], [], [], [9], []] [[0], [1], [2], [3], [3, 4], [3, 5], [6], [7], [3, 7], [9], []] [[], [], [2], [7, 8], [], [], [], [9], [9], [], [2]] [0, 1, 2, 3, 4, 5, 6, 8, 9] [2, 9] [fun vs W => (vs 0) = .agg [v37, v40].toArray, fun vs W => (vs 1) = ptr (bx g0_), fun vs W => (vs 2) = vS z72.1 ∧ Bx W 2 g0_ [v0_0_, vI z72.2], fun vs W => (vs 3) = .tuple [.agg [(cellOf (cellOf (vs 3) 0) 0), (cellOf (cellOf (vs 3) 0) 1)].toArray, vB z80.2].toArray ∧ Ow W 7 [] [(cellOf (cellOf (vs 3) 0) 0)] z80.1.Commits ∧ Ow W 8 [] [(cellOf (cellOf (vs 3) 0) 1)] z80.1.Heads, fun vs W => (vs 4) = .tuple [.agg [(cellOf (cellOf (vs 3) 0) 0), (cellOf (cellOf (vs 3) 0) 1)].toArray, vB z80.2].toArray, fun vs W => (vs 5) = .agg [(cellOf (cellOf (vs 3) 0) 0), (cellOf (cellOf (vs 3) 0) 1)].toArray, fun vs W => (vs 6) = vB z80.2, fun vs W => (vs 7) = ptr (bx (pg (vs 7))) ∧ Bx W 9 (pg (vs 7)) [.slice none 0 0, .slice none 0 0], fun vs W => (vs 7) = ptr (bx (pg (vs 7))) ∧ Bx W 9 (pg (vs 7)) [(cellOf (cellOf (vs 3) 0) 0), (cellOf (cellOf (vs 3) 0) 1)], fun vs W => (vs 9) = vB z80.2] [fun _ W => Bx W 2 g0_ [v0_0_, vI y34]] mixed (by kernel_rfl) rfl (AllF.cons (fun _ _ l => b35.up l rfl) AllF.nil) ?_
   intro W107 l107
   have a108 := a46.n l107
   refine ⟨(Steps.cons ?_ (Steps.cons ?_ (Steps.cons ?_ (Steps.cons ?_ (Steps.cons ?_ (Steps.cons ?_ (Steps.cons ?_ (Steps.cons ?_ (Steps.cons ?_ (Steps.cons ?_ Steps.nil)))))))))), (Sups.cons (fun vs vs' W W' _ hv l hd h => by (show (vs' 0) = .agg [v37, v40].toArray); rw [hv 0 (anyb rfl)]; exact h) (Sups.cons (fun vs vs' W W' _ hv l hd h => by (show (vs' 1) = ptr (bx g0_)); rw [hv 1 (anyb rfl)]; exact h) (Sups.cons (fun vs vs' W W' _ hv l hd h => by (show (vs' 2) = vS z72.1 ∧ Bx W' 2 g0_ [v0_0_, vI z72.2]); rw [hv 2 (anyb rfl)]; exact ⟨h.1, h.2.up l (disj_mem hd (c := 2) rfl)⟩) (Sups.cons (fun vs vs' W W' _ hv l hd h => by (show (vs' 3) = .tuple [.agg [(cellOf (cellOf (vs' 3) 0) 0), (cellOf (cellOf (vs' 3) 0) 1)].toArray, vB z80.2].toArray ∧ Ow W' 7 [] [(cellOf (cellOf (vs' 3) 0) 0)] z80.1.Commits ∧ Ow W' 8 [] [(cellOf (cellOf (vs' 3) 0) 1)] z80.1.Heads); rw [hv 3 (anyb rfl)]; exact ⟨h.1, h.2.1.upv l (disj_mem hd (c := 7) rfl), h.2.2.upv l (disj_mem hd (c := 8) rfl)⟩) (Sups.cons (fun vs vs' W W' _ hv l hd h => by (show (vs' 4) = .tuple [.agg [(cellOf (cellOf (vs' 3) 0) 0), (cellOf (cellOf (vs' 3) 0) 1)].toArray, vB z80.2].toArray); rw [hv 3 (anyb rfl), hv 4 (anyb rfl)]; exact h) (Sups.cons (fun vs vs' W W' _ hv l hd h => by (show (vs' 5) = .agg [(cellOf (cellOf (vs' 3) 0) 0), (cellOf (cellOf (vs' 3) 0) 1)].toArray); rw [hv 3 (anyb rfl), hv 5 (anyb rfl)]; exact h) (Sups.cons (fun vs vs' W W' _ hv l hd h => by (show (vs' 6) = vB z80.2); rw [hv 6 (anyb rfl)]; exact h) (Sups.cons (fun vs vs' W W' _ hv l hd h => by (show (vs' 7) = ptr (bx (pg (vs' 7))) ∧ Bx W' 9 (pg (vs' 7)) [.slice none 0 0, .slice none 0 0]); rw [hv 7 (anyb rfl)]; exact ⟨h.1, h.2.up l (disj_mem hd (c := 9) rfl)⟩) (Sups.cons (fun vs vs' W W' _ hv l hd h => by (show (vs' 7) = ptr (bx (pg (vs' 7))) ∧ Bx W' 9 (pg (vs' 7)) [(cellOf (cellOf (vs' 3) 0) 0), (cellOf (cellOf (vs' 3) 0) 1)]); rw [hv 3 (anyb rfl), hv 7 (anyb rfl)]; exact ⟨h.1, h.2.up l (disj_mem hd (c := 9) rfl)⟩) (Sups.cons (fun vs vs' W W' _ hv l hd h => by (show (vs' 9) = vB z80.2); rw [hv 9 (anyb rfl)]; exact h) (Sups.cons (fun _ _ _ _ _ _ l hd h => h.up l (disj_mem hd (c := 2) rfl)) Sups.nil))))))))))), ?_⟩
   ·intro vs W lW hN
    obtain ⟨W114, hW114⟩ : ∃ X, X = W := ⟨W, rfl⟩
    subst hW114
    refine Tr.mono (Run.tr (R.lda (cs := [v37, v40]) ((b42.up l107).up lW rfl).cells rfl rfl)) ?_
    rintro _ _ ⟨hu, rfl⟩
    obtain rfl := hu.symm
    exact ⟨W114, rfl, Le.refl _ _, (show (.agg [v37, v40].toArray : Value) = .agg [v37, v40].toArray from rfl)⟩
   ·intro vs W lW hN
    obtain ⟨W120, hW120⟩ : ∃ X, X = W := ⟨W, rfl⟩
    subst hW120
    have o126 : Bx W120 2 g0_ [v0_0_, vI y34] := hN 10 (anyb rfl)
    refine Tr.mono (Run.tr (R.mv (v := ptr (bx g0_)) rfl)) ?_
    rintro _ _ ⟨hu, rfl⟩
    obtain rfl := hu.symm
    exact ⟨W120, rfl, Le.refl _ _, (show (ptr (bx g0_) : Value) = ptr (bx g0_) from rfl)⟩
   ·intro vs W lW hN
    obtain ⟨W127, hW127⟩ : ∃ X, X = W := ⟨W, rfl⟩
    subst hW127
    have a128 := a108.t lW rfl
    have e1_ : vs 1 = ptr (bx g0_) := (hN 1 (anyb rfl))
    obtain ⟨vs, rfl⟩ := up_eq e1_
    have o133 : Bx W127 2 g0_ [v0_0_, vI y34] := hN 10 (anyb rfl)
    refine Tr.mono (T.call rfl (p156  (c0 := 2) (x0 := (Vm.l30Rd.mk x0.b y34)) o133 (h0_0.ul a128) rfl e73)) ?_
    rintro _ _ ⟨W135, rfl, l135, ⟨rfl, f135_0⟩⟩
    exact ⟨W135, rfl, l135, (show (vS z72.1 : Value) = vS z72.1 ∧ Bx W135 2 g0_ [v0_0_, vI z72.2] from ⟨rfl, f135_0⟩)⟩
   ·intro vs W lW hN
    obtain ⟨W141, hW141⟩ : ∃ X, X = W := ⟨W, rfl⟩
    subst hW141
    have e0_ : vs 0 = .agg [v37, v40].toArray := (hN 0 (anyb rfl))
    obtain ⟨vs, rfl⟩ := up_eq e0_
    have e2_ : vs 2 = vS z72.1 := (hN 2 (anyb rfl)).1
    obtain ⟨vs, rfl⟩ := up_eq e2_
    have o147 : Bx W141 2 g0_ [v0_0_, vI z72.2] := (hN 2 (anyb rfl)).2
    refine Tr.mono (T.call rfl (p17 (K := [4, 5]) (k0 := 7) (k1 := 8) (x0 := (Vm.Repo.mk y36 y39)) (Repo.rd (K := [4, 5]) y36 y39 (((o38.up l107).up lW rfl).rd.sub (M := [4, 5]) rfl) (((o41.up l107).up lW rfl).rd.sub (M := [4, 5]) rfl)) e81)) ?_
    rintro _ _ ⟨W148, rfl, l148, ⟨v0_0_148, v0_1_148, rfl, f148_0, f148_1⟩⟩
    exact ⟨W148, rfl, l148, (show (.tuple [.agg [v0_0_148, v0_1_148].toArray, vB z80.2].toArray : Value) = .tuple [.agg [v0_0_148, v0_1_148].toArray, vB z80.2].toArray ∧ Ow W148 7 [] [v0_0_148] z80.1.Commits ∧ Ow W148 8 [] [v0_1_148] z80.1.Heads from ⟨rfl, f148_0, f148_1⟩)⟩
   ·intro vs W lW hN
    obtain ⟨W155, hW155⟩ : ∃ X, X = W := ⟨W, rfl⟩
    subst hW155
    obtain ⟨pc3_0n0, pc3_0n1, e3_⟩ : ∃ pc3_0n0 pc3_0n1 : Value, vs 3 = .tuple [.agg [pc3_0n0, pc3_0n1].toArray, vB z80.2].toArray := ⟨_, _, (hN 3 (anyb rfl)).1⟩
    obtain ⟨vs, rfl⟩ := up_eq e3_
    have o161 : Ow W155 7 [] [pc3_0n0] z80.1.Commits := (hN 3 (anyb rfl)).2.1
    have o162 : Ow W155 8 [] [pc3_0n1] z80.1.Heads := (hN 3 (anyb rfl)).2.2
    refine Tr.mono (Run.tr (R.mv (v := .tuple [.agg [pc3_0n0, pc3_0n1].toArray, vB z80.2].toArray) rfl)) ?_
    rintro _ _ ⟨hu, rfl⟩
    obtain rfl := hu.symm
    exact ⟨W155, rfl, Le.refl _ _, (show (.tuple [.agg [pc3_0n0, pc3_0n1].toArray, vB z80.2].toArray : Value) = .tuple [.agg [pc3_0n0, pc3_0n1].toArray, vB z80.2].toArray from rfl)⟩
   ·intro vs W lW hN
    obtain ⟨W163, hW163⟩ : ∃ X, X = W := ⟨W, rfl⟩
    subst hW163
    obtain ⟨pc3_0n0, pc3_0n1, e3_⟩ : ∃ pc3_0n0 pc3_0n1 : Value, vs 3 = .tuple [.agg [pc3_0n0, pc3_0n1].toArray, vB z80.2].toArray := ⟨_, _, (hN 3 (anyb rfl)).1⟩
    obtain ⟨vs, rfl⟩ := up_eq e3_
    have o169 : Ow W163 7 [] [pc3_0n0] z80.1.Commits := (hN 3 (anyb rfl)).2.1
    have o170 : Ow W163 8 [] [pc3_0n1] z80.1.Heads := (hN 3 (anyb rfl)).2.2
    have e4_ : vs 4 = .tuple [.agg [pc3_0n0, pc3_0n1].toArray, vB z80.2].toArray := (hN 4 (anyb rfl))
    obtain ⟨vs, rfl⟩ := up_eq e4_
    refine Tr.mono (Run.tr (R.ext (vs := [.agg [pc3_0n0, pc3_0n1].toArray, vB z80.2]) (v := .agg [pc3_0n0, pc3_0n1].toArray) rfl rfl)) ?_
    rintro _ _ ⟨hu, rfl⟩
    obtain rfl := hu.symm
    exact ⟨W163, rfl, Le.refl _ _, (show (.agg [pc3_0n0, pc3_0n1].toArray : Value) = .agg [pc3_0n0, pc3_0n1].toArray from rfl)⟩
   ·intro vs W lW hN
    obtain ⟨W171, hW171⟩ : ∃ X, X = W := ⟨W, rfl⟩
    subst hW171
    obtain ⟨pc3_0n0, pc3_0n1, e3_⟩ : ∃ pc3_0n0 pc3_0n1 : Value, vs 3 = .tuple [.agg [pc3_0n0, pc3_0n1].toArray, vB z80.2].toArray := ⟨_, _, (hN 3 (anyb rfl)).1⟩
    obtain ⟨vs, rfl⟩ := up_eq e3_
    have o177 : Ow W171 7 [] [pc3_0n0] z80.1.Commits := (hN 3 (anyb rfl)).2.1
    have o178 : Ow W171 8 [] [pc3_0n1] z80.1.Heads := (hN 3 (anyb rfl)).2.2
    have e4_ : vs 4 = .tuple [.agg [pc3_0n0, pc3_0n1].toArray, vB z80.2].toArray := (hN 4 (anyb rfl))
    obtain ⟨vs, rfl⟩ := up_eq e4_
    refine Tr.mono (Run.tr (R.ext (vs := [.agg [pc3_0n0, pc3_0n1].toArray, vB z80.2]) (v := vB z80.2) rfl rfl)) ?_
    rintro _ _ ⟨hu, rfl⟩
    obtain rfl := hu.symm
    exact ⟨W171, rfl, Le.refl _ _, (show (vB z80.2 : Value) = vB z80.2 from rfl)⟩
   ·intro vs W lW hN
    obtain ⟨W179, hW179⟩ : ∃ X, X = W := ⟨W, rfl⟩
    subst hW179
    refine Tr.mono (T.alloc 9 (cs := [.slice none 0 0, .slice none 0 0]) rfl) ?_
    rintro _ _ ⟨g185, W185, rfl, rfl, l185, b185⟩
    exact ⟨W185, rfl, l185, (show (ptr (bx g185) : Value) = ptr (bx g185) ∧ Bx W185 9 g185 [.slice none 0 0, .slice none 0 0] from ⟨rfl, b185⟩)⟩
   ·intro vs W lW hN
    obtain ⟨W191, hW191⟩ : ∃ X, X = W := ⟨W, rfl⟩
    subst hW191
    obtain ⟨pc3_0n0, pc3_0n1, e3_⟩ : ∃ pc3_0n0 pc3_0n1 : Value, vs 3 = .tuple [.agg [pc3_0n0, pc3_0n1].toArray, vB z80.2].toArray := ⟨_, _, (hN 3 (anyb rfl)).1⟩
    obtain ⟨vs, rfl⟩ := up_eq e3_
    have o197 : Ow W191 7 [] [pc3_0n0] z80.1.Commits := (hN 3 (anyb rfl)).2.1
    have o198 : Ow W191 8 [] [pc3_0n1] z80.1.Heads := (hN 3 (anyb rfl)).2.2
    have e5_ : vs 5 = .agg [pc3_0n0, pc3_0n1].toArray := (hN 5 (anyb rfl))
    obtain ⟨vs, rfl⟩ := up_eq e5_
    obtain ⟨pg7, e7_⟩ : ∃ pg7, vs 7 = ptr (bx pg7) := ⟨_, ((hN 7 (anyb rfl))).1⟩
    obtain ⟨vs, rfl⟩ := up_eq e7_
    have o199 : Bx W191 9 pg7 [.slice none 0 0, .slice none 0 0] := (hN 7 (anyb rfl)).2
    refine Tr.mono (T.sta (vs := [pc3_0n0, pc3_0n1]) o199 rfl rfl (oc_cons o197.oc (oc_cons o198.oc oc_nil)) rfl rfl) ?_
    rintro _ _ ⟨W200, rfl, l200, b200⟩
    exact ⟨W200, rfl, l200, (show (ptr (bx pg7)) = ptr (bx pg7) ∧ Bx W200 9 pg7 [pc3_0n0, pc3_0n1] from ⟨rfl, b200⟩)⟩
   ·intro vs W lW hN
    obtain ⟨W208, hW208⟩ : ∃ X, X = W := ⟨W, rfl⟩
    subst hW208
    have e6_ : vs 6 = vB z80.2 := (hN 6 (anyb rfl))
    obtain ⟨vs, rfl⟩ := up_eq e6_
    refine Tr.mono (Run.tr (R.as (v := vB z80.2) rfl)) ?_
    rintro _ _ ⟨hu, rfl⟩
    obtain rfl := hu.symm
    exact ⟨W208, rfl, Le.refl _ _, (show (vB z80.2 : Value) = vB z80.2 from rfl)⟩
   ·intro vs W lW hN
    obtain ⟨W214, hW214⟩ : ∃ X, X = W := ⟨W, rfl⟩
    subst hW214
    have o216 := (o38.up l107).up lW rfl
    have o217 := (o41.up l107).up lW rfl
    have b219 := (b42.up l107).up lW rfl
    obtain ⟨l214, hl214⟩ : ∃ x, x = lW := ⟨lW, rfl⟩
    have e0_ : vs 0 = .agg [v37, v40].toArray := (hN 0 (anyb rfl))
    obtain ⟨vs, rfl⟩ := up_eq e0_
    have e1_ : vs 1 = ptr (bx g0_) := (hN 1 (anyb rfl))
    obtain ⟨vs, rfl⟩ := up_eq e1_
    have e2_ : vs 2 = vS z72.1 := (hN 2 (anyb rfl)).1
    obtain ⟨vs, rfl⟩ := up_eq e2_
    have o220 : Bx W214 2 g0_ [v0_0_, vI z72.2] := (hN 2 (anyb rfl)).2
    obtain ⟨pc3_0n0, pc3_0n1, e3_⟩ : ∃ pc3_0n0 pc3_0n1 : Value, vs 3 = .tuple [.agg [pc3_0n0, pc3_0n1].toArray, vB z80.2].toArray := ⟨_, _, (hN 3 (anyb rfl)).1⟩
    obtain ⟨vs, rfl⟩ := up_eq e3_
    have o221 : Ow W214 7 [] [pc3_0n0] z80.1.Commits := (hN 3 (anyb rfl)).2.1
    have o222 : Ow W214 8 [] [pc3_0n1] z80.1.Heads := (hN 3 (anyb rfl)).2.2
    have e4_ : vs 4 = .tuple [.agg [pc3_0n0, pc3_0n1].toArray, vB z80.2].toArray := (hN 4 (anyb rfl))
    obtain ⟨vs, rfl⟩ := up_eq e4_
    have e5_ : vs 5 = .agg [pc3_0n0, pc3_0n1].toArray := (hN 5 (anyb rfl))
    obtain ⟨vs, rfl⟩ := up_eq e5_
    have e6_ : vs 6 = vB z80.2 := (hN 6 (anyb rfl))
    obtain ⟨vs, rfl⟩ := up_eq e6_
    obtain ⟨pg7, e7_⟩ : ∃ pg7, vs 7 = ptr (bx pg7) := ⟨_, (hN 8 (anyb rfl)).1⟩
    obtain ⟨vs, rfl⟩ := up_eq e7_
    have o223 : Bx W214 9 pg7 [pc3_0n0, pc3_0n1] := (hN 8 (anyb rfl)).2
    have e9_ : vs 9 = vB z80.2 := (hN 9 (anyb rfl))
    obtain ⟨vs, rfl⟩ := up_eq e9_
    obtain ⟨K226, hK226, hm⟩ := jn_e hm
    refine Cw.join 22 27 [27] (fun l w => ∃ y224 W225, CW.w W225 = w ∧ Le [] W214 W225 ∧ l = [vB y224] ∧ K226 y224 = some r) ?_ ?_
    ·rintro _ _ σ ⟨y224, W225, rfl, l225, rfl, hm⟩
     rw [hK226] at hm
     refine cn hm (fun hm => ?_) fun hm => ?_
     ·refine rg (la (o223.up l225) (sta (b219.up l225) (oc_cons (o221.up l225).oc (oc_cons (o222.up l225).oc oc_nil)) fun W237 l237 b237 => nl ?_))
      obtain ⟨W246, ew246, l246, o246⟩ := ((o221.up l225).up l237).dyeO 4
      obtain ⟨W254, ew254, l254, o254⟩ := (((o222.up l225).up l237).up l246).dyeO 5
      exact (ag) ⟨z72.2, z80.1.Commits, z80.1.Heads, ptr (bx pg7), vB z80.2, pc3_0n0, pc3_0n1, W254, ew254.trans (ew246), (((((l107.j l214).j l225).j l237).j l246).j l254).w, rfl, ((((o220.up l225).up l237).up l246).up l254), (o246.up l254), o254, ((b237.up l246).up l254), hm⟩
     ·exact sk ((ag) ⟨z72.2, y36, y39, ptr (bx pg7), vB z80.2, v37, v40, W225, rfl, ((l107.j l214).j l225).w, rfl, (o220.up l225), (o216.up l225), (o217.up l225), (b219.up l225), hm⟩)
    ·refine rg (Lw.r rfl (R.lda (cs := [pc3_0n0, pc3_0n1]) o223.cells rfl rfl) (ca hm (fun _ => p74 (K := [7, 8]) (x0 := (Vm.Repo.mk z80.1.Commits z80.1.Heads)) (Repo.rd (K := [7, 8]) z80.1.Commits z80.1.Heads (o221.rd.sub (M := [7, 8]) rfl) (o222.rd.sub (M := [7, 8]) rfl))) fun z261 W263 hm l263 => mb rfl (bs hm (fun hc273 hm => ?_) fun hc273 hm => ?_)))
     ·exact wak 2 hc273 (la (b219.up l263) (ca hm (fun _ => p74 (K := [4, 5]) (x0 := (Vm.Repo.mk y36 y39)) (Repo.rd (K := [4, 5]) y36 y39 ((o216.up l263).rd.sub (M := [4, 5]) rfl) ((o217.up l263).rd.sub (M := [4, 5]) rfl))) fun z274 W276 hm l276 => Pb hc273 rfl (nl ((ag) ⟨z274, W276, rfl, (l263.j l276).w, rfl, hm⟩))))
     ·exact psk 2 hc273 rfl (Pb hc273 rfl (nl ((ag) ⟨false, W263, rfl, l263, rfl, hm⟩)))
 ·refine Cw.exit ?_
  rw [hK44] at hm
  refine sr (la b42 (sta (((((b1.up l7).up l10).up l16).up l25).up l43) (oc_cons o38.oc (oc_cons o41.oc oc_nil)) fun W286 l286 b286 => ?_))
  have a287 := a46.t l286
  refine nl ?_
  obtain ⟨W292, ew292, l292, o292⟩ := (o38.up l286).dyeO 31
  have a293 := a287.t l292
  obtain ⟨W298, ew298, l298, o298⟩ := ((o41.up l286).up l292).dyeO 32
  have a299 := a293.t l298
  cases hm
  rw [← ew298.trans (ew292)]
  exact Cw.ret (retA1 rfl ((b286.up l292).up l298) (Res.mk a299 ⟨v37, v40, rfl, (o292.up l298).s, o298.s, (((b35.up l286).up l292).up l298)⟩))

theorem p123 {x0 g0_ v0_0_ k0 k1 c0 r} (hB0 : Bx W c0 g0_ [v0_0_, vI x0.p]) (h0_0 : Rd W K [v0_0_] x0.b) (hJ : okJ K [c0] = true) (hm : Vm.spec_l30Loose x0 = some r) : Q1 123 [ptr (bx g0_)] W [c0] fun W' v => ∃ u0_0 u0_1, v = .agg [u0_0, u0_1].toArray ∧ Ow W' k0 [] [u0_0] r.1.Commits ∧ Ow W' k1 [] [u0_1] r.1.Heads ∧ Bx W' c0 g0_ [v0_0_, vI r.2] :=
 CallR.adJ (J := [c0]) (fun c => bif Nat.beq c 0 then 0 else bif Nat.beq c 2 then c0 else bif Nat.beq c 31 then k0 else bif Nat.beq c 32 then k1 else 0) (c123 (hB0.viewJ 0 hJ) (h0_0.view _) hm) fun _ _ ⟨u0_0, u0_1, e, f0, f1, f2⟩ => ⟨u0_0, u0_1, e, f0.one1.backN rfl, f1.one1.backN rfl, Bx.backJ 0 f2 rfl⟩

theorem c53 {x0 v0_ r} (h0 : Rd W0 [0] [v0_] x0) (hm : Vm.spec_DrawKeepOnly x0 = some r) : Q0 53 [v0_] W0 fun Wf v => ∃ u0_0 u0_1, v = .agg [u0_0, u0_1].toArray ∧ OwS Wf [31] [] [u0_0] r.Commits ∧ OwS Wf [32] [] [u0_1] r.Heads := by
 unfold Vm.spec_DrawKeepOnly at hm
 refine CallR.of Tryz.func53 rfl rfl rfl rfl (sr (al 2 [.slice none 0 0, .slice none 0 0] fun g1 W1 l1 b1 => ?_))
 have a2 := l1.o
 refine nl (sr (mv v0_ rfl (cr hm (fun _ => p81 (k0 := 3) (h0.ul a2)) ?_)))
 rintro z4 _ W6 hm l6 ⟨g0_6, v0_0_6, rfl, f6_0, f6_1⟩
 have s7 := f6_1.sub (M := [0]) rfl
 have a8 := a2.n l6
 refine cr hm (fun _ => p123 (k0 := 4) (k1 := 5) (c0 := 3) (x0 := z4) f6_0 s7 rfl) ?_
 rintro z10 _ W12 hm l12 ⟨v0_0_12, v0_1_12, rfl, f12_0, f12_1, f12_2⟩
 have a13 := a8.t l12
 refine sta ((b1.up l6).up l12) (oc_cons f12_0.oc (oc_cons f12_1.oc oc_nil)) fun W15 l15 b15 => ?_
 have a16 := a13.t l15
 refine nl ?_
 obtain ⟨W20, ew20, l20, o20⟩ := (f12_0.up l15).dyeO 31
 have a21 := a16.t l20
 obtain ⟨W25, ew25, l25, o25⟩ := ((f12_1.up l15).up l20).dyeO 32
 have a26 := a21.t l25
 cases hm
 rw [← ew25.trans (ew20)]
 exact Cw.ret (retA1 rfl ((b15.up l20).up l25) (Res.mk a26 ⟨v0_0_12, v0_1_12, rfl, (o20.up l25).s, o25.s⟩))

theorem p53 {x0 v0_ k0 k1 r} (h0 : Rd W K [v0_] x0) (hm : Vm.spec_DrawKeepOnly x0 = some r) : Q1 53 [v0_] W [] fun W' v => ∃ u0_0 u0_1, v = .agg [u0_0, u0_1].toArray ∧ Ow W' k0 [] [u0_0] r.Commits ∧ Ow W' k1 [] [u0_1] r.Heads :=
 CallR.adJ (J := []) (fun c => bif Nat.beq c 0 then 0 else bif Nat.beq c 31 then k0 else bif Nat.beq c 32 then k1 else 0) (c53 (h0.view _) hm) fun _ _ ⟨u0_0, u0_1, e, f0, f1⟩ => ⟨u0_0, u0_1, e, f0.one1.backN rfl, f1.one1.backN rfl⟩

theorem c124 {x0 v0_0_ v0_1_ r} (h0 : Rd W0 [0] [v0_0_, v0_1_] x0) (hm : Vm.impl_Repo_live x0 = some r) : Q0 124 [.agg [v0_0_, v0_1_].toArray] W0 fun Wf v => ∃ u0, v = u0 ∧ OwS Wf LL [] [u0] r := by
 unfold Vm.impl_Repo_live at hm
 obtain ⟨w0_0, w0_1, he0, h0_0, h0_1⟩ := Repo.split h0
 simp only [List.cons.injEq, and_true, true_and] at he0
 obtain ⟨rfl, rfl⟩ := he0
 refine CallR.of Tryz.func124 rfl rfl rfl rfl (sr (bo 2 rfl fun g1 W1 l1 b1 => ?_))
 have a2 := l1.o
 refine Nv (.slice none 0 0) rfl (sr (fl b1 rfl (Lw.ln x0.Commits (h0_0.ul a2) rfl ?_)))
 obtain ⟨q4, e5, hm⟩ := ob hm
 refine Lw.t rfl (T.mk (α := Bool) 3 [] (n := (x0.Commits.length : Int)) rfl rfl e5) ?_
 rintro v6 _ ⟨W6, rfl, l6, o6⟩
 have a7 := a2.n l6
 refine Nv v6 rfl (ssr (fl (b1.up l6) rfl (Lw.ln x0.Heads (h0_1.ul a7) rfl (mi rfl (nl (Cw.block ?_))))))
 obtain ⟨K16, hK16, hm⟩ := jn_e hm
 refine Cw.loop 15 33 [5, 7, 15] (fun m l w => ∃ y12 y13 j10 j11 W15, CW.w W15 = w ∧ Le [3, 4] W6 W15 ∧ l = [j10, j11, vI y12] ∧ Ow W15 3 [] [v6] y13 ∧ Vm.impl_Repo_live_l1 x0 K16 m y12 y13 = some r) _ ⟨0, q4, undef, undef, W6, rfl, Le.refl _ _, rfl, o6, hm⟩ ?_
 rintro (_ | m17) _ _ σ ⟨y12, y13, j10, j11, W15, rfl, l15, rfl, o14, hm⟩
 ·cases hm
 unfold Vm.impl_Repo_live_l1 at hm
 have a18 := a7.t l15
 refine sr (Lw.lt rfl (nl (Cw.seq (cn hm (fun hm => ?_) fun hm => ?_))))
 ·refine sk (Cw.seq (Cw.block (sr ?_)))
  obtain ⟨u21, e22, hm⟩ := ob hm
  refine Lw.r rfl (R.ix (α := Head) (h0_1.ul a18) e22 rfl rfl rfl) ?_
  obtain ⟨x24, c25, _, r26⟩ := ((h0_1.ul a18).at_ e22).cells
  obtain rfl := Head.split r26
  refine Lw.r rfl (R.lda c25 rfl rfl) (al 4 [vS ([] : Str), vI 0] fun g27 W27 l27 b27 => ?_)
  have a28 := a18.n l27
  refine sta b27 (oc_cons rfl (oc_cons rfl oc_nil)) fun W31 l31 b31 => ?_
  have a32 := a28.t l31
  refine nl (sr (la ((((b1.up l6).up l15).up l27).up l31) (fl b31 rfl (cr hm (fun _ => p109 (k0 := 5) (Repo.rd (K := [0]) x0.Commits x0.Heads (h0_0.ul a32) (h0_1.ul a32))) ?_))))
  rintro z37 v0_39 W39 hm l39 ⟨_, rfl, f39_0⟩
  refine cr hm (fun _ => p108 (K := [5]) (k0 := 6) f39_0.rd) ?_
  rintro z44 v0_46 W46 hm l46 ⟨_, rfl, f46_0⟩
  refine Lw.ln z44 f46_0.rd rfl (mi rfl (nl (Cw.block ?_)))
  obtain ⟨K57, hK57, hm⟩ := jn_e hm
  refine Cw.loop 25 32 [7, 25] (fun m l w => ∃ y53 y54 j52 W56, CW.w W56 = w ∧ Le [3] W46 W56 ∧ l = [j52, vI y53] ∧ Ow W56 3 [] [v6] y54 ∧ Vm.impl_Repo_live_l2 z44 K57 m y53 y54 = some r) _ ⟨0, y13, j11, W46, rfl, Le.refl _ _, rfl, ((((o14.up l27).up l31).up l39).up l46), hm⟩ ?_
  rintro (_ | m58) _ _ σ ⟨y53, y54, j52, W56, rfl, l56, rfl, o55, hm⟩
  ·cases hm
  unfold Vm.impl_Repo_live_l2 at hm
  refine sr (Lw.lt rfl (nl (Cw.seq (cn hm (fun hm => ?_) fun hm => ?_))))
  ·refine sk (Cw.seq (Cw.block (sr ?_)))
   obtain ⟨u65, e66, hm⟩ := ob hm
   refine Lw.r rfl (R.ix (α := Int) (f46_0.up l56).rd e66 rfl rfl rfl) (Lw.r rfl (R.ld rfl rfl ((f46_0.up l56).rd.at_ e66).int) (Ni rfl (rg (mv v6 rfl (mi rfl ?_)))))
   obtain ⟨u67, e68, hm⟩ := ob hm
   refine Lw.r rfl (R.ix (α := Bool) o55.rd e68 rfl rfl rfl) ?_
   obtain ⟨q70, e71, hm⟩ := ob hm
   refine Lw.u (T.stS (K' := []) o55 (rdB _) e71 rfl rfl rfl) ?_
   rintro _ _ ⟨W69, rfl, l69, o69⟩
   exact nl (rg (Lw.add rfl (mi rfl (nl ((agm) ⟨w64 (y53 + 1), q70, vI u65, W69, rfl, (l56.j l69).w, rfl, o69, hm⟩)))))
  ·refine Cw.exit ?_
   rw [hK57] at hm
   exact rg (Lw.add rfl (mi rfl (nl ((agm) ⟨w64 (y12 + 1), y54, ptr (bx g27), j52, W56, rfl, (((((l15.j l27).j l31).j l39).j l46).j l56).w, rfl, o55, hm⟩))))
 ·refine Cw.exit ?_
  rw [hK16] at hm
  refine sr (mv v6 rfl (Nv v6 rfl ?_))
  cases hm
  exact Cw.ret (ret1 rfl (Res.mk a18 ⟨v6, rfl, o14.s.sub rfl rfl⟩))

theorem p124 {x0 v0_0_ v0_1_ k0 r} (h0 : Rd W K [v0_0_, v0_1_] x0) (hm : Vm.impl_Repo_live x0 = some r) : Q1 124 [.agg [v0_0_, v0_1_].toArray] W [] fun W' v => ∃ u0, v = u0 ∧ Ow W' k0 [] [u0] r :=
 (c124 (h0.view _) hm).ad (fk k0) fun _ _ ⟨u0, e, f0⟩ => ⟨u0, e, f0.back (fk_LL _)⟩

theorem c54 {x0 v0_0_ v0_1_ r} (h0 : Rd W0 [0] [v0_0_, v0_1_] x0) (h99 : Gl 0 W0 [0]) (hm : Vm.impl_KeepOnly x0 = some r) : Q0 54 [.agg [v0_0_, v0_1_].toArray] W0 fun Wf v => ∃ u0_0 u0_1, v = .agg [u0_0, u0_1].toArray ∧ OwS Wf [31] [] [u0_0] r.Commits ∧ OwS Wf [32] [] [u0_1] r.Heads := by
 unfold Vm.impl_KeepOnly at hm
 obtain ⟨w0_0, w0_1, he0, h0_0, h0_1⟩ := Repo.split h0
 simp only [List.cons.injEq, and_true, true_and] at he0
 obtain ⟨rfl, rfl⟩ := he0
 refine CallR.of Tryz.func54 rfl rfl rfl rfl (sr (bo 2 rfl fun g1 W1 l1 b1 => ?_))
 have a2 := l1.o
 refine al 3 [.slice none 0 0, .slice none 0 0] fun g3 W3 l3 b3 => ?_
 have a4 := a2.n l3
 refine nl (ssr (la (b1.up l3) (ca hm (fun _ => p19 (Repo.rd (K := [0]) x0.Commits x0.Heads (h0_0.ul a4) (h0_1.ul a4)) (h99.ul a4)) fun z9 W11 hm l11 => ?_)))
 have a12 := a4.n l11
 have b13 := (b1.up l3).up l11
 refine Lw.r rfl (R.not rfl) (nl (cn hm (fun hm => ?_) fun hm => ?_))
 ·refine sr (Lw.r rfl (R.bd (zs := [.slice none 0 0, .slice none 0 0]) (cs := [.slice none 0 0, .slice none 0 0]) [] rfl rfl rfl bp_nil) (sta (b3.up l11) (oc_cons rfl (oc_cons rfl oc_nil)) fun W16 l16 b16 => ?_))
  have a17 := a12.t l16
  refine nl ?_
  cases hm
  exact Cw.ret (retA1 rfl b16 (Res.mk a17 ⟨.slice none 0 0, .slice none 0 0, rfl, (owsN []).sub rfl rfl, (owsN []).sub rfl rfl⟩))
 ·refine sk (sr (fl b13 rfl (Lw.ln x0.Commits (h0_0.ul a12) rfl ?_)))
  obtain ⟨q20, e21, hm⟩ := ob hm
  refine Lw.t rfl (T.mk (α := Int) 4 [] (n := (x0.Commits.length : Int)) rfl rfl e21) ?_
  rintro v22 _ ⟨W22, rfl, l22, o22⟩
  have a23 := a12.n l22
  refine Nv v22 rfl (sr (al 5 [.slice none 0 0, .slice none 0 0] fun g26 W26 l26 b26 => ?_))
  have a27 := a23.n l26
  have b29 := (b13.up l22).up l26
  refine nl (ssr (la b29 (cr hm (fun _ => p124 (k0 := 6) (Repo.rd (K := [0]) x0.Commits x0.Heads (h0_0.ul a27) (h0_1.ul a27))) ?_)))
  rintro z33 v0_35 W35 hm l35 ⟨_, rfl, f35_0⟩
  have a36 := a27.n l35
  refine cr hm (fun _ => p108 (K := [6]) (k0 := 7) f35_0.rd) ?_
  rintro z41 v0_43 W43 hm l43 ⟨_, rfl, f43_0⟩
  have a44 := a36.n l43
  refine Lw.ln z41 f43_0.rd rfl (mi rfl (nl (Cw.block ?_)))
  obtain ⟨K64, hK64, hm⟩ := jn_e hm
  refine Cw.loop 24 72 [6, 7, 9, 24] (fun m l w => ∃ y53 y54 y57 y61 j50 j51 j52 v55 v58 W63, CW.w W63 = w ∧ Le [4, 5, 8, 10, 11, 12] W43 W63 ∧ l = [j50, j51, j52, vI y53] ∧ Ow W63 8 [] [v55] y54 ∧ Ow W63 9 [] [v58] y57 ∧ Bx W63 5 g26 [v55, v58] ∧ Ow W63 4 [] [v22] y61 ∧ Vm.impl_KeepOnly_l1 x0 z41 K64 m y53 y54 y57 y61 = some r) _ ⟨0, ([] : List Commit), ([] : List Head), q20, undef, undef, undef, .slice none 0 0, .slice none 0 0, W43, rfl, Le.refl _ _, rfl, owN 8 [], owN 9 [], ((b26.up l35).up l43), (((o22.up l26).up l35).up l43), hm⟩ ?_
  rintro (_ | m65) _ _ σ ⟨y53, y54, y57, y61, j50, j51, j52, v55, v58, W63, rfl, l63, rfl, o56, o59, b60, o62, hm⟩
  ·cases hm
  unfold Vm.impl_KeepOnly_l1 at hm
  have a66 := a44.t l63
  have b69 := ((b29.up l35).up l43).up l63
  refine sr (Lw.lt rfl (nl (Cw.seq (cn hm (fun hm => ?_) fun hm => ?_))))
  ·refine sk (Cw.seq (Cw.block (sr ?_)))
   obtain ⟨u72, e73, hm⟩ := ob hm
   refine Lw.r rfl (R.ix (α := Int) (f43_0.up l63).rd e73 rfl rfl rfl) (Lw.r rfl (R.ld rfl rfl ((f43_0.up l63).rd.at_ e73).int) (Ni rfl (sr (mv v22 rfl (mi rfl (fl b60 rfl (Lw.ln y54 o56.rd rfl ?_)))))))
   obtain ⟨u74, e75, hm⟩ := ob hm
   refine Lw.r rfl (R.ix (α := Int) o62.rd e75 rfl rfl rfl) ?_
   obtain ⟨q77, e78, hm⟩ := ob hm
   refine Lw.u (T.stS (K' := []) o62 (rdI _) e78 rfl rfl rfl) ?_
   rintro _ _ ⟨W76, rfl, l76, o76⟩
   have a79 := a66.t l76
   refine nl (Cw.seq ?_)
   obtain ⟨u97, e98, hm⟩ := ob hm
   obtain ⟨z101, e102, hm⟩ := ob hm
   obtain ⟨z114, e115, hm⟩ := ob hm
   refine Cw.par [[], [0], [], [0, 1, 2], [0, 1, 2, 3], [0, 1, 2, 3, 4], [], [], [6, 7], [6, 7, 8], [0, 1, 2, 3, 4, 5, 6, 7, 8, 9], [], [0, 1, 2, 3, 4, 5, 6, 7, 8, 9, 10, 11]] [[], [0], [], [1, 2], [3], [4], [], [], [6, 7], [8], [5, 9], [], [9, 10, 11]] [[], [], [], [], [], [], [], [], [], [], [], [], [11]] [[0], [1], [2], [3], [4], [5], [6], [7], [8], [9], [9, 10], [11], [9, 11]] [[], [], [], [], [], [], [], [], [0], [10], [], [11], [11]] [0, 1, 2, 3, 4, 5, 6, 7, 8, 9, 10, 12] [11] [fun vs W => (vs 0) = ptr ((bx g1).add 0), fun vs W => (vs 1) = v0_0_, fun vs W => (vs 2) = vI u72, fun vs W => (vs 3) = ptr ((slA v0_0_).add ((u72).toNat * Rp.sz (Commit))), fun vs W => (vs 4) = ptr (((slA v0_0_).add ((u72).toNat * Rp.sz (Commit))).add 1), fun vs W => (vs 5) = vS u97.Who, fun vs W => (vs 6) = .agg [v0_0_, v0_1_].toArray, fun vs W => (vs 7) = vI u72, fun vs W => Rd W [0] [(vs 8)] z101, fun vs W => Ow W 10 [] [(vs 9)] z114, fun vs W => (vs 10) = .agg [.slice none 0 0, vS u97.Who, (vs 9)].toArray, fun vs W => (vs 11) = ptr (bx (pg (vs 11))) ∧ Bx W 11 (pg (vs 11)) [.slice none 0 0, vS ([] : Str), .slice none 0 0], fun vs W => (vs 11) = ptr (bx (pg (vs 11))) ∧ Bx W 11 (pg (vs 11)) [.slice none 0 0, vS u97.Who, (vs 9)]] [] mixed (by kernel_rfl) rfl AllF.nil ?_
   intro W148 l148
   have a149 := a79.n l148
   have b155 := (b69.up l76).up l148
   refine ⟨(Steps.cons ?_ (Steps.cons ?_ (Steps.cons ?_ (Steps.cons ?_ (Steps.cons ?_ (Steps.cons ?_ (Steps.cons ?_ (Steps.cons ?_ (Steps.cons ?_ (Steps.cons ?_ (Steps.cons ?_ (Steps.cons ?_ (Steps.cons ?_ Steps.nil))))))))))))), (Sups.cons (fun vs vs' W W' _ hv l hd h => by (show (vs' 0) = ptr ((bx g1).add 0)); rw [hv 0 (anyb rfl)]; exact h) (Sups.cons (fun vs vs' W W' _ hv l hd h => by (show (vs' 1) = v0_0_); rw [hv 1 (anyb rfl)]; exact h) (Sups.cons (fun vs vs' W W' _ hv l hd h => by (show (vs' 2) = vI u72); rw [hv 2 (anyb rfl)]; exact h) (Sups.cons (fun vs vs' W W' _ hv l hd h => by (show (vs' 3) = ptr ((slA v0_0_).add ((u72).toNat * Rp.sz (Commit)))); rw [hv 3 (anyb rfl)]; exact h) (Sups.cons (fun vs vs' W W' _ hv l hd h => by (show (vs' 4) = ptr (((slA v0_0_).add ((u72).toNat * Rp.sz (Commit))).add 1)); rw [hv 4 (anyb rfl)]; exact h) (Sups.cons (fun vs vs' W W' _ hv l hd h => by (show (vs' 5) = vS u97.Who); rw [hv 5 (anyb rfl)]; exact h) (Sups.cons (fun vs vs' W W' _ hv l hd h => by (show (vs' 6) = .agg [v0_0_, v0_1_].toArray); rw [hv 6 (anyb rfl)]; exact h) (Sups.cons (fun vs vs' W W' _ hv l hd h => by (show (vs' 7) = vI u72); rw [hv 7 (anyb rfl)]; exact h) (Sups.cons (fun vs vs' W W' _ hv l hd h => by (show Rd W' [0] [(vs' 8)] z101); rw [hv 8 (anyb rfl)]; exact h.up l (disj_sub hd (K := [0]) rfl)) (Sups.cons (fun vs vs' W W' _ hv l hd h => by (show Ow W' 10 [] [(vs' 9)] z114); rw [hv 9 (anyb rfl)]; exact h.upv l (disj_mem hd (c := 10) rfl)) (Sups.cons (fun vs vs' W W' _ hv l hd h => by (show (vs' 10) = .agg [.slice none 0 0, vS u97.Who, (vs' 9)].toArray); rw [hv 9 (anyb rfl), hv 10 (anyb rfl)]; exact h) (Sups.cons (fun vs vs' W W' _ hv l hd h => by (show (vs' 11) = ptr (bx (pg (vs' 11))) ∧ Bx W' 11 (pg (vs' 11)) [.slice none 0 0, vS ([] : Str), .slice none 0 0]); rw [hv 11 (anyb rfl)]; exact ⟨h.1, h.2.up l (disj_mem hd (c := 11) rfl)⟩) (Sups.cons (fun vs vs' W W' _ hv l hd h => by (show (vs' 11) = ptr (bx (pg (vs' 11))) ∧ Bx W' 11 (pg (vs' 11)) [.slice none 0 0, vS u97.Who, (vs' 9)]); rw [hv 9 (anyb rfl), hv 11 (anyb rfl)]; exact ⟨h.1, h.2.up l (disj_mem hd (c := 11) rfl)⟩) Sups.nil))))))))))))), ?_⟩
   ·intro vs W lW hN
    obtain ⟨W158, hW158⟩ : ∃ X, X = W := ⟨W, rfl⟩
    subst hW158
    refine Tr.mono (Run.tr (R.fa rfl)) ?_
    rintro _ _ ⟨hu, rfl⟩
    obtain rfl := hu.symm
    exact ⟨W158, rfl, Le.refl _ _, (show (ptr ((bx g1).add 0) : Value) = ptr ((bx g1).add 0) from rfl)⟩
   ·intro vs W lW hN
    obtain ⟨W168, hW168⟩ : ∃ X, X = W := ⟨W, rfl⟩
    subst hW168
    have e0_ : vs 0 = ptr ((bx g1).add 0) := (hN 0 (anyb rfl))
    obtain ⟨vs, rfl⟩ := up_eq e0_
    refine Tr.mono (Run.tr (R.ld (v := v0_0_) rfl rfl ((b155.up lW rfl).cell rfl))) ?_
    rintro _ _ ⟨hu, rfl⟩
    obtain rfl := hu.symm
    exact ⟨W168, rfl, Le.refl _ _, (show (v0_0_ : Value) = v0_0_ from rfl)⟩
   ·intro vs W lW hN
    obtain ⟨W178, hW178⟩ : ∃ X, X = W := ⟨W, rfl⟩
    subst hW178
    refine Tr.mono (Run.tr (R.mv (v := vI u72) rfl)) ?_
    rintro _ _ ⟨hu, rfl⟩
    obtain rfl := hu.symm
    exact ⟨W178, rfl, Le.refl _ _, (show (vI u72 : Value) = vI u72 from rfl)⟩
   ·intro vs W lW hN
    obtain ⟨W188, hW188⟩ : ∃ X, X = W := ⟨W, rfl⟩
    subst hW188
    have a189 := a149.t lW rfl
    have e1_ : vs 1 = v0_0_ := (hN 1 (anyb rfl))
    obtain ⟨vs, rfl⟩ := up_eq e1_
    have e2_ : vs 2 = vI u72 := (hN 2 (anyb rfl))
    obtain ⟨vs, rfl⟩ := up_eq e2_
    refine Tr.mono (Run.tr (R.ix (α := Commit) (h0_0.ul a189) e98 rfl rfl rfl)) ?_
    rintro _ _ ⟨hu, rfl⟩
    obtain rfl := hu.symm
    exact ⟨W188, rfl, Le.refl _ _, (show (ptr ((slA v0_0_).add ((u72).toNat * Rp.sz (Commit))) : Value) = ptr ((slA v0_0_).add ((u72).toNat * Rp.sz (Commit))) from rfl)⟩
   ·intro vs W lW hN
    obtain ⟨W199, hW199⟩ : ∃ X, X = W := ⟨W, rfl⟩
    subst hW199
    have e3_ : vs 3 = ptr ((slA v0_0_).add ((u72).toNat * Rp.sz (Commit))) := (hN 3 (anyb rfl))
    obtain ⟨vs, rfl⟩ := up_eq e3_
    refine Tr.mono (Run.tr (R.fa rfl)) ?_
    rintro _ _ ⟨hu, rfl⟩
    obtain rfl := hu.symm
    exact ⟨W199, rfl, Le.refl _ _, (show (ptr (((slA v0_0_).add ((u72).toNat * Rp.sz (Commit))).add 1) : Value) = ptr (((slA v0_0_).add ((u72).toNat * Rp.sz (Commit))).add 1) from rfl)⟩
   ·intro vs W lW hN
    obtain ⟨W209, hW209⟩ : ∃ X, X = W := ⟨W, rfl⟩
    subst hW209
    have a210 := a149.t lW rfl
    have e4_ : vs 4 = ptr (((slA v0_0_).add ((u72).toNat * Rp.sz (Commit))).add 1) := (hN 4 (anyb rfl))
    obtain ⟨vs, rfl⟩ := up_eq e4_
    refine Tr.mono (Run.tr (R.ld rfl rfl (Commit.at1 ((h0_0.ul a210).at_ e98)).str)) ?_
    rintro _ _ ⟨hu, rfl⟩
    obtain rfl := hu.symm
    exact ⟨W209, rfl, Le.refl _ _, (show (vS u97.Who : Value) = vS u97.Who from rfl)⟩
   ·intro vs W lW hN
    obtain ⟨W220, hW220⟩ : ∃ X, X = W := ⟨W, rfl⟩
    subst hW220
    refine Tr.mono (Run.tr (R.lda (cs := [v0_0_, v0_1_]) (b155.up lW rfl).cells rfl rfl)) ?_
    rintro _ _ ⟨hu, rfl⟩
    obtain rfl := hu.symm
    exact ⟨W220, rfl, Le.refl _ _, (show (.agg [v0_0_, v0_1_].toArray : Value) = .agg [v0_0_, v0_1_].toArray from rfl)⟩
   ·intro vs W lW hN
    obtain ⟨W230, hW230⟩ : ∃ X, X = W := ⟨W, rfl⟩
    subst hW230
    refine Tr.mono (Run.tr (R.mv (v := vI u72) rfl)) ?_
    rintro _ _ ⟨hu, rfl⟩
    obtain rfl := hu.symm
    exact ⟨W230, rfl, Le.refl _ _, (show (vI u72 : Value) = vI u72 from rfl)⟩
   ·intro vs W lW hN
    obtain ⟨W240, hW240⟩ : ∃ X, X = W := ⟨W, rfl⟩
    subst hW240
    have a241 := a149.t lW rfl
    have e6_ : vs 6 = .agg [v0_0_, v0_1_].toArray := (hN 6 (anyb rfl))
    obtain ⟨vs, rfl⟩ := up_eq e6_
    have e7_ : vs 7 = vI u72 := (hN 7 (anyb rfl))
    obtain ⟨vs, rfl⟩ := up_eq e7_
    refine Tr.mono (T.call rfl (p115  (Repo.rd (K := [0]) x0.Commits x0.Heads (h0_0.ul a241) (h0_1.ul a241)) e102)) ?_
    rintro v0_252 _ ⟨W252, rfl, l252, ⟨_, rfl, f252_0⟩⟩
    have s253 := f252_0.sub (M := [0]) rfl
    exact ⟨W252, rfl, l252, (show Rd W252 [0] [v0_252] z101 from s253)⟩
   ·intro vs W lW hN
    obtain ⟨W263, hW263⟩ : ∃ X, X = W := ⟨W, rfl⟩
    subst hW263
    obtain ⟨pv8, e8_⟩ : ∃ v, vs 8 = v := ⟨_, rfl⟩
    obtain ⟨vs, rfl⟩ := up_eq e8_
    have o273 : Rd W263 [0] [pv8] z101 := (hN 8 (anyb rfl))
    refine Tr.mono (T.call rfl (p114 (k0 := 10) o273 e115)) ?_
    rintro v0_274 _ ⟨W274, rfl, l274, ⟨_, rfl, f274_0⟩⟩
    exact ⟨W274, rfl, l274, (show Ow W274 10 [] [v0_274] z114 from f274_0)⟩
   ·intro vs W lW hN
    obtain ⟨W284, hW284⟩ : ∃ X, X = W := ⟨W, rfl⟩
    subst hW284
    have e5_ : vs 5 = vS u97.Who := (hN 5 (anyb rfl))
    obtain ⟨vs, rfl⟩ := up_eq e5_
    obtain ⟨pv9, e9_⟩ : ∃ v, vs 9 = v := ⟨_, rfl⟩
    obtain ⟨vs, rfl⟩ := up_eq e9_
    have o294 : Ow W284 10 [] [pv9] z114 := (hN 9 (anyb rfl))
    refine Tr.mono (Run.tr (R.bd (zs := [.slice none 0 0, vS ([] : Str), .slice none 0 0]) (cs := [.slice none 0 0, vS u97.Who, pv9]) [(1, vS u97.Who), (2, pv9)] rfl rfl rfl (bp_cons rfl rfl (bp_cons o294.oc rfl bp_nil)))) ?_
    rintro _ _ ⟨hu, rfl⟩
    obtain rfl := hu.symm
    exact ⟨W284, rfl, Le.refl _ _, (show (.agg [.slice none 0 0, vS u97.Who, pv9].toArray : Value) = .agg [.slice none 0 0, vS u97.Who, pv9].toArray from rfl)⟩
   ·intro vs W lW hN
    obtain ⟨W295, hW295⟩ : ∃ X, X = W := ⟨W, rfl⟩
    subst hW295
    refine Tr.mono (T.alloc 11 (cs := [.slice none 0 0, vS ([] : Str), .slice none 0 0]) rfl) ?_
    rintro _ _ ⟨g305, W305, rfl, rfl, l305, b305⟩
    exact ⟨W305, rfl, l305, (show (ptr (bx g305) : Value) = ptr (bx g305) ∧ Bx W305 11 g305 [.slice none 0 0, vS ([] : Str), .slice none 0 0] from ⟨rfl, b305⟩)⟩
   ·intro vs W lW hN
    obtain ⟨W315, hW315⟩ : ∃ X, X = W := ⟨W, rfl⟩
    subst hW315
    obtain ⟨pv9, e9_⟩ : ∃ v, vs 9 = v := ⟨_, rfl⟩
    obtain ⟨vs, rfl⟩ := up_eq e9_
    have o325 : Ow W315 10 [] [pv9] z114 := (hN 9 (anyb rfl))
    have e10_ : vs 10 = .agg [.slice none 0 0, vS u97.Who, pv9].toArray := (hN 10 (anyb rfl))
    obtain ⟨vs, rfl⟩ := up_eq e10_
    obtain ⟨pg11, e11_⟩ : ∃ pg11, vs 11 = ptr (bx pg11) := ⟨_, ((hN 11 (anyb rfl))).1⟩
    obtain ⟨vs, rfl⟩ := up_eq e11_
    have o326 : Bx W315 11 pg11 [.slice none 0 0, vS ([] : Str), .slice none 0 0] := (hN 11 (anyb rfl)).2
    refine Tr.mono (T.sta (vs := [.slice none 0 0, vS u97.Who, pv9]) o326 rfl rfl (oc_cons rfl (oc_cons rfl (oc_cons o325.oc oc_nil))) rfl rfl) ?_
    rintro _ _ ⟨W327, rfl, l327, b327⟩
    exact ⟨W327, rfl, l327, (show (ptr (bx pg11)) = ptr (bx pg11) ∧ Bx W327 11 pg11 [.slice none 0 0, vS u97.Who, pv9] from ⟨rfl, b327⟩)⟩
   ·intro vs W lW hN
    obtain ⟨W338, hW338⟩ : ∃ X, X = W := ⟨W, rfl⟩
    subst hW338
    have a339 := a149.t lW rfl
    obtain ⟨l338, hl338⟩ : ∃ x, x = lW := ⟨lW, rfl⟩
    have e0_ : vs 0 = ptr ((bx g1).add 0) := (hN 0 (anyb rfl))
    obtain ⟨vs, rfl⟩ := up_eq e0_
    have e1_ : vs 1 = v0_0_ := (hN 1 (anyb rfl))
    obtain ⟨vs, rfl⟩ := up_eq e1_
    have e2_ : vs 2 = vI u72 := (hN 2 (anyb rfl))
    obtain ⟨vs, rfl⟩ := up_eq e2_
    have e3_ : vs 3 = ptr ((slA v0_0_).add ((u72).toNat * Rp.sz (Commit))) := (hN 3 (anyb rfl))
    obtain ⟨vs, rfl⟩ := up_eq e3_
    have e4_ : vs 4 = ptr (((slA v0_0_).add ((u72).toNat * Rp.sz (Commit))).add 1) := (hN 4 (anyb rfl))
    obtain ⟨vs, rfl⟩ := up_eq e4_
    have e5_ : vs 5 = vS u97.Who := (hN 5 (anyb rfl))
    obtain ⟨vs, rfl⟩ := up_eq e5_
    have e6_ : vs 6 = .agg [v0_0_, v0_1_].toArray := (hN 6 (anyb rfl))
    obtain ⟨vs, rfl⟩ := up_eq e6_
    have e7_ : vs 7 = vI u72 := (hN 7 (anyb rfl))
    obtain ⟨vs, rfl⟩ := up_eq e7_
    obtain ⟨pv8, e8_⟩ : ∃ v, vs 8 = v := ⟨_, rfl⟩
    obtain ⟨vs, rfl⟩ := up_eq e8_
    have o348 : Rd W338 [0] [pv8] z101 := (hN 8 (anyb rfl))
    obtain ⟨pv9, e9_⟩ : ∃ v, vs 9 = v := ⟨_, rfl⟩
    obtain ⟨vs, rfl⟩ := up_eq e9_
    have o349 : Ow W338 10 [] [pv9] z114 := (hN 9 (anyb rfl))
    have e10_ : vs 10 = .agg [.slice none 0 0, vS u97.Who, pv9].toArray := (hN 10 (anyb rfl))
    obtain ⟨vs, rfl⟩ := up_eq e10_
    obtain ⟨pg11, e11_⟩ : ∃ pg11, vs 11 = ptr (bx pg11) := ⟨_, (hN 12 (anyb rfl)).1⟩
    obtain ⟨vs, rfl⟩ := up_eq e11_
    have o350 : Bx W338 11 pg11 [.slice none 0 0, vS u97.Who, pv9] := (hN 12 (anyb rfl)).2
    refine ssr (fl (b155.up lW rfl) rfl (mi rfl ?_))
    obtain ⟨u351, e352, hm⟩ := ob hm
    refine Lw.r rfl (R.ix (α := Commit) (h0_0.ul a339) e352 rfl rfl rfl) (Lw.fa rfl ?_)
    obtain ⟨v354, c355, r356⟩ := (Commit.at0 ((h0_0.ul a339).at_ e352)).cell rfl
    refine Lw.r rfl (R.ld rfl rfl c355) (Lw.ln u351.Parents r356 rfl (mi rfl (nl (Cw.block ?_))))
    obtain ⟨K368, hK368, hm⟩ := jn_e hm
    refine Cw.loop 52 65 [9, 52] (fun m l w => ∃ y358 y359 y362 y363 j357 v360 v364 W367, CW.w W367 = w ∧ Le [11, 12] W338 W367 ∧ l = [j357, vI y358] ∧ Ow W367 12 [] [v360] y359 ∧ Ow W367 10 [] [v364] y363 ∧ Bx W367 11 pg11 [v360, vS y362, v364] ∧ Vm.impl_KeepOnly_l2 q77 u351 K368 m y358 y359 y362 y363 = some r) _ ⟨0, ([] : List Int), u97.Who, z114, j52, .slice none 0 0, pv9, W338, rfl, Le.refl _ _, rfl, owN 12 [], o349, o350, hm⟩ ?_
    rintro (_ | m369) _ _ σ ⟨y358, y359, y362, y363, j357, v360, v364, W367, rfl, l367, rfl, o361, o365, b366, hm⟩
    ·cases hm
    unfold Vm.impl_KeepOnly_l2 at hm
    have a370 := l367.s
    have o371 := ((o76.up l148).up lW rfl).up l367
    have b378 := (((b60.up l76).up l148).up lW rfl).up l367
    refine sr (Lw.lt rfl (nl (Cw.seq (cn hm (fun hm => ?_) fun hm => ?_))))
    ·refine sk (Cw.seq (Cw.block (sr ?_)))
     obtain ⟨u380, e381, hm⟩ := ob hm
     refine Lw.r rfl (R.ix (α := Int) (r356.ul a370) e381 rfl rfl rfl) (Lw.r rfl (R.ld rfl rfl ((r356.ul a370).at_ e381).int) (Ni rfl (Cw.draw [12] [(0, 0), (1, 1), (2, 0), (3, 0), (4, 0), (5, 1), (6, 2), (7, 2), (8, 0), (9, 3)] mixed (by kernel_rfl) fun W383 l383 => ?_)))
     have o385 := o371.up l383
     refine Dfl (b366.up l383) rfl rfl rfl (Dv v22 rfl (Di rfl ?_))
     obtain ⟨u396, e397, hm⟩ := ob hm
     refine Mw.p rfl rfl (fun _ => R.ix (α := Int) o385.rd e397 rfl rfl rfl) (Mw.q rfl rfl (fun _ c => R.ld rfl rfl (cl_cell (o385.rd.at_ e397).1 rfl (o385.rd.at_ e397).int c)) (Mw.t rfl rfl (T.bs 13 [vI u396] (cs := [vI u396]) rfl rfl (bsv rfl)) ?_))
     rintro _ _ ⟨g398, W398, rfl, rfl, l398, b398⟩
     refine m0 l398 fun d398 => ?_
     obtain ⟨q411, e412, hm⟩ := ob hm
     refine Mw.t rfl rfl (T.app1S (α := Int) (K' := []) ((o361.up l383).up l398) b398 (rdI _) rfl rfl e412) ?_
     rintro v413 _ ⟨W413, rfl, l413, o413⟩
     refine mc d398 l413 fun d413 => Df rfl (Mw.lu rfl (T.st (j := 0) (v := v413) (((b366.up l383).up l398).up l413) rfl rfl o413.oc rfl rfl) ?_)
     rintro _ _ ⟨W426, rfl, l426, b426⟩
     exact Mw.nil (rg (Lw.add rfl (mi rfl (nl ((agm) ⟨w64 (y358 + 1), q411, y362, y363, vI u380, v413, v364, W426, rfl, ((((l367.j l383).j l398).j l413).j l426).w, rfl, (o413.up l426), ((((o365.up l383).up l398).up l413).up l426), b426, hm⟩)))))
    ·refine Cw.exit ?_
     rw [hK368] at hm
     refine rg (fl b378 rfl (la b366 (Lw.t rfl (T.bs 14 [.agg [v360, vS y362, v364].toArray] (cs := [v360, vS y362, v364]) rfl rfl (bsA rfl)) ?_)))
     rintro _ _ ⟨g439, W439, rfl, rfl, l439, b439⟩
     obtain ⟨q452, e453, hm⟩ := ob hm
     refine Lw.t rfl (T.app1 (α := Commit) (J := [12, 10]) (K' := []) (((((o56.up l76).up l148).up lW rfl).up l367).up l439) b439 (Commit.own y359 y362 y363 (o361.up l439).s (o365.up l439).s) rfl rfl e453) ?_
     rintro v454 _ ⟨W454, rfl, l454, o454⟩
     refine Lw.fa rfl (Lw.u (T.st (j := 0) (v := v454) ((b378.up l439).up l454) rfl rfl o454.oc rfl rfl) ?_)
     rintro _ _ ⟨W465, rfl, l465, b465⟩
     exact nl (rg (Lw.add rfl (mi rfl (nl ((agm) ⟨w64 (y53 + 1), q452, y57, q77, vI u72, ptr (bx pg11), j357, v454, v58, W465, rfl, (((((((l63.j l76).j l148).j l338).j l367).j l439).j l454).j l465).w, rfl, (o454.up l465), (((((((o59.up l76).up l148).up lW rfl).up l367).up l439).up l454).up l465), b465, (((o371.up l439).up l454).up l465), hm⟩)))))
  ·refine Cw.exit ?_
   rw [hK64] at hm
   refine ssr (fl b69 rfl (Lw.ln x0.Heads (h0_1.ul a66) rfl (mi rfl (nl (Cw.block ?_)))))
   obtain ⟨K487, hK487, hm⟩ := jn_e hm
   refine Cw.loop 76 93 [11, 76] (fun m l w => ∃ y478 y479 y482 j477 v480 v483 W486, CW.w W486 = w ∧ Le [5, 9, 15] W63 W486 ∧ l = [j477, vI y478] ∧ Ow W486 8 [] [v480] y479 ∧ Ow W486 9 [] [v483] y482 ∧ Bx W486 5 g26 [v480, v483] ∧ Vm.impl_KeepOnly_l3 x0 y61 K487 m y478 y479 y482 = some r) _ ⟨0, y54, y57, undef, v55, v58, W63, rfl, Le.refl _ _, rfl, o56, o59, b60, hm⟩ ?_
   rintro (_ | m488) _ _ σ ⟨y478, y479, y482, j477, v480, v483, W486, rfl, l486, rfl, o481, o484, b485, hm⟩
   ·cases hm
   unfold Vm.impl_KeepOnly_l3 at hm
   have a489 := a66.t l486
   refine sr (Lw.lt rfl (nl (Cw.seq (cn hm (fun hm => ?_) fun hm => ?_))))
   ·refine sk (Cw.seq (Cw.block (sr ?_)))
    obtain ⟨u496, e497, hm⟩ := ob hm
    refine Lw.r rfl (R.ix (α := Head) (h0_1.ul a489) e497 rfl rfl rfl) ?_
    obtain ⟨x499, c500, _, r501⟩ := ((h0_1.ul a489).at_ e497).cells
    obtain rfl := Head.split r501
    refine Lw.r rfl (R.lda c500 rfl rfl) (al 15 [vS ([] : Str), vI 0] fun g502 W502 l502 b502 => sta b502 (oc_cons rfl (oc_cons rfl oc_nil)) fun W512 l512 b512 => nl (Cw.draw [9] [(0, 0), (1, 1), (2, 0), (3, 1), (4, 0), (5, 0), (6, 1), (7, 0), (8, 1), (9, 0), (10, 2), (11, 2), (12, 0), (13, 3)] mixed (by kernel_rfl) fun W522 l522 => ?_))
    have o524 := (((o62.up l486).up l502).up l512).up l522
    have b531 := ((b485.up l502).up l512).up l522
    refine Dfl b531 rfl rfl rfl (Dfl (b512.up l522) rfl rfl rfl (Dv v22 rfl (Dfl (b512.up l522) rfl rfl rfl ?_)))
    obtain ⟨u533, e534, hm⟩ := ob hm
    refine Mw.p rfl rfl (fun _ => R.ix (α := Int) o524.rd e534 rfl rfl rfl) (Mw.q rfl rfl (fun _ c => R.ld rfl rfl (cl_cell (o524.rd.at_ e534).1 rfl (o524.rd.at_ e534).int c)) (Mw.p rfl rfl (fun _ => R.bd (zs := [vS ([] : Str), vI 0]) (cs := [vS u496.Name, vI u533]) [(0, vS u496.Name), (1, vI u533)] rfl rfl rfl (bp_cons rfl rfl (bp_cons rfl rfl bp_nil))) (Mw.t rfl rfl (T.bs 16 [.agg [vS u496.Name, vI u533].toArray] (cs := [vS u496.Name, vI u533]) rfl rfl (bsA rfl)) ?_)))
    rintro _ _ ⟨g535, W535, rfl, rfl, l535, b535⟩
    refine m0 l535 fun d535 => ?_
    obtain ⟨q546, e547, hm⟩ := ob hm
    refine Mw.t rfl rfl (T.app1S (α := Head) (K' := []) ((((o484.up l502).up l512).up l522).up l535) b535 (Head.rd (K := []) u496.Name u533) rfl rfl e547) ?_
    rintro v548 _ ⟨W548, rfl, l548, o548⟩
    refine mc d535 l548 fun d548 => Df rfl (Mw.lu rfl (T.st (j := 1) (v := v548) ((b531.up l535).up l548) rfl rfl o548.oc rfl rfl) ?_)
    rintro _ _ ⟨W559, rfl, l559, b559⟩
    exact Mw.nil (rg (Lw.add rfl (mi rfl (nl ((agm) ⟨w64 (y478 + 1), y479, q546, ptr (bx g502), v480, v548, W559, rfl, ((((((l486.j l502).j l512).j l522).j l535).j l548).j l559).w, rfl, ((((((o481.up l502).up l512).up l522).up l535).up l548).up l559), (o548.up l559), b559, hm⟩)))))
   ·refine Cw.exit ?_
    rw [hK487] at hm
    refine sr (la b485 (sta (((((((b3.up l11).up l22).up l26).up l35).up l43).up l63).up l486) (oc_cons o481.oc (oc_cons o484.oc oc_nil)) fun W570 l570 b570 => ?_))
    have a571 := a489.t l570
    refine nl ?_
    obtain ⟨W579, ew579, l579, o579⟩ := (o481.up l570).dyeO 31
    have a580 := a571.t l579
    obtain ⟨W588, ew588, l588, o588⟩ := ((o484.up l570).up l579).dyeO 32
    have a589 := a580.t l588
    cases hm
    rw [← ew588.trans (ew579)]
    exact Cw.ret (retA1 rfl ((b570.up l579).up l588) (Res.mk a589 ⟨v480, v483, rfl, (o579.up l588).s, o588.s⟩))

theorem p54 {x0 v0_0_ v0_1_ k0 k1 r} (h0 : Rd W K [v0_0_, v0_1_] x0) (h99 : Gl 0 W K) (hm : Vm.impl_KeepOnly x0 = some r) : Q1 54 [.agg [v0_0_, v0_1_].toArray] W [] fun W' v => ∃ u0_0 u0_1, v = .agg [u0_0, u0_1].toArray ∧ Ow W' k0 [] [u0_0] r.Commits ∧ Ow W' k1 [] [u0_1] r.Heads :=
 CallR.adJ (J := []) (fun c => bif Nat.beq c 0 then 0 else bif Nat.beq c 31 then k0 else bif Nat.beq c 32 then k1 else 0) (c54 (h0.view _) (h99.view _) hm) fun _ _ ⟨u0_0, u0_1, e, f0, f1⟩ => ⟨u0_0, u0_1, e, f0.one1.backN rfl, f1.one1.backN rfl⟩

theorem c125 {x0 v0_0_ v0_1_ r} (h0 : Rd W0 [0] [v0_0_, v0_1_] x0) (hm : Vm.spec_l14Live x0 = some r) : Q0 125 [.agg [v0_0_, v0_1_].toArray] W0 fun Wf v => ∃ u0, v = u0 ∧ OwS Wf LL [] [u0] r := by
 unfold Vm.spec_l14Live at hm
 obtain ⟨w0_0, w0_1, he0, h0_0, h0_1⟩ := Repo.split h0
 simp only [List.cons.injEq, and_true, true_and] at he0
 obtain ⟨rfl, rfl⟩ := he0
 refine CallR.of Tryz.func125 rfl rfl rfl rfl (sr (bo 2 rfl fun g1 W1 l1 b1 => ?_))
 have a2 := l1.o
 refine Nv (.slice none 0 0) rfl (sr (fl b1 rfl (Lw.ln x0.Commits (h0_0.ul a2) rfl ?_)))
 obtain ⟨q4, e5, hm⟩ := ob hm
 refine Lw.t rfl (T.mk (α := Bool) 3 [] (n := (x0.Commits.length : Int)) rfl rfl e5) ?_
 rintro v6 _ ⟨W6, rfl, l6, o6⟩
 have a7 := a2.n l6
 refine Nv v6 rfl (ssr (Ni rfl (Cw.block ?_)))
 obtain ⟨K15, hK15, hm⟩ := jn_e hm
 refine Cw.loop 13 39 [4, 5, 6] (fun m l w => ∃ y9 y12 j10 j11 W14, CW.w W14 = w ∧ Le [3] W6 W14 ∧ l = [vI y9, j10, j11] ∧ Ow W14 3 [] [v6] y12 ∧ Vm.spec_l14Live_l1 x0 K15 m y9 y12 = some r) _ ⟨0, q4, undef, undef, W6, rfl, Le.refl _ _, rfl, o6, hm⟩ ?_
 rintro (_ | m16) _ _ σ ⟨y9, y12, j10, j11, W14, rfl, l14, rfl, o13, hm⟩
 ·cases hm
 unfold Vm.spec_l14Live_l1 at hm
 have a17 := a7.t l14
 have b18 := (b1.up l6).up l14
 refine ssr (mi rfl (fl b18 rfl (Lw.ln x0.Heads (h0_1.ul a17) rfl (Lw.lt rfl (nl (cn hm (fun hm => ?_) fun hm => ?_))))))
 ·refine sk (Cw.seq (Cw.block (Cw.seq (Cw.draw [] [(0, 1), (1, 0), (2, 1), (3, 0), (4, 0), (5, 0), (6, 1), (7, 2), (8, 0)] mixed (by kernel_rfl) fun W21 l21 => ?_))))
  have a22 := a17.n l21
  refine Mw.q rfl rfl (fun _ c => R.lda (cs := [v0_0_, v0_1_]) ((b18.up l21).clcs rfl c) rfl rfl) (Dfl (b18.up l21) rfl rfl rfl (Di rfl ?_))
  obtain ⟨u25, e26, hm⟩ := ob hm
  have s27 := h0_1.ul a22
  refine Mw.p rfl rfl (fun _ => R.ix (α := Head) s27 e26 rfl rfl rfl) (Df rfl (Mw.q rfl rfl (fun _ c => R.ld rfl rfl (cl_cell (Head.at1 (s27.at_ e26)).1 rfl (Head.at1 (s27.at_ e26)).int c)) (Dc hm (Le.refl _ _) (fun _ => p106 (k0 := 4) (Repo.rd (K := [0]) x0.Commits x0.Heads (h0_0.ul a22) s27)) rfl ?_)))
  rintro z29 v0_31 W31 hm l31 ⟨_, rfl, f31_0⟩ d31
  refine Hv v0_31 rfl (Mw.nil (sr (Ni rfl (Cw.block ?_))))
  obtain ⟨K39, hK39, hm⟩ := jn_e hm
  refine Cw.loop 28 39 [6] (fun m l w => ∃ y35 y36 W38, CW.w W38 = w ∧ Le [3] W31 W38 ∧ l = [vI y35] ∧ Ow W38 3 [] [v6] y36 ∧ Vm.spec_l14Live_l2 z29 K39 m y35 y36 = some r) _ ⟨0, y12, W31, rfl, Le.refl _ _, rfl, ((o13.up l21).up l31), hm⟩ ?_
  rintro (_ | m40) _ _ σ ⟨y35, y36, W38, rfl, l38, rfl, o37, hm⟩
  ·cases hm
  unfold Vm.spec_l14Live_l2 at hm
  have o42 := f31_0.up l38
  refine ssr (mi rfl (mv v0_31 rfl (Lw.ln z29 o42.rd rfl (Lw.lt rfl (nl (cn hm (fun hm => ?_) fun hm => ?_))))))
  ·refine sk (Cw.seq (Cw.block (rg (mv v6 rfl (mv v0_31 rfl (mi rfl ?_))))))
   obtain ⟨u45, e46, hm⟩ := ob hm
   refine Lw.r rfl (R.ix (α := Int) o42.rd e46 rfl rfl rfl) (Lw.r rfl (R.ld rfl rfl (o42.rd.at_ e46).int) ?_)
   obtain ⟨u47, e48, hm⟩ := ob hm
   refine Lw.r rfl (R.ix (α := Bool) o37.rd e48 rfl rfl rfl) ?_
   obtain ⟨q50, e51, hm⟩ := ob hm
   refine Lw.u (T.stS (K' := []) o37 (rdB _) e51 rfl rfl rfl) ?_
   rintro _ _ ⟨W49, rfl, l49, o49⟩
   exact nl (rg (mi rfl (Lw.add rfl (Ni rfl ((agm) ⟨w64 (y35 + 1), q50, W49, rfl, (l38.j l49).w, rfl, o49, hm⟩)))))
  ·refine Cw.exit ?_
   rw [hK39] at hm
   exact rg (mi rfl (Lw.add rfl (Ni rfl ((agm) ⟨w64 (y9 + 1), y36, v0_31, vI y35, W38, rfl, (((l14.j l21).j l31).j l38).w, rfl, o37, hm⟩))))
 ·refine Cw.exit ?_
  rw [hK15] at hm
  refine sr (Lw.t rfl (T.lit0 (α := Int) 5 []) ?_)
  rintro v55 _ ⟨W55, rfl, l55, o55⟩
  have a56 := a17.n l55
  refine Nv v55 rfl (ssr (Ni rfl (Cw.block ?_)))
  obtain ⟨K64, hK64, hm⟩ := jn_e hm
  refine Cw.loop 41 54 [7, 8] (fun m l w => ∃ y59 y62 v60 W63, CW.w W63 = w ∧ Le [5] W55 W63 ∧ l = [v60, vI y62] ∧ Ow W63 5 [] [v60] y59 ∧ Vm.spec_l14Live_l3 y12 K64 m y59 y62 = some r) _ ⟨([] : List Int), 0, v55, W55, rfl, Le.refl _ _, rfl, o55, hm⟩ ?_
  rintro (_ | m65) _ _ σ ⟨y59, y62, v60, W63, rfl, l63, rfl, o61, hm⟩
  ·cases hm
  unfold Vm.spec_l14Live_l3 at hm
  have a66 := a56.t l63
  have o67 := (o13.up l55).up l63
  refine ssr (mi rfl (mv v6 rfl (Lw.ln y12 o67.rd rfl (Lw.lt rfl (nl (cn hm (fun hm => ?_) fun hm => ?_))))))
  ·refine sk ?_
   obtain ⟨K74, hK74, hm⟩ := jn_e hm
   refine Cw.join 47 54 [7] (fun l w => ∃ y70 v71 W73, CW.w W73 = w ∧ Le [5] W63 W73 ∧ l = [v71] ∧ Ow W73 5 [] [v71] y70 ∧ K74 y70 = some r) ?_ ?_
   ·rintro _ _ σ ⟨y70, v71, W73, rfl, l73, rfl, o72, hm⟩
    rw [hK74] at hm
    exact rg (mi rfl (Lw.add rfl (Ni rfl ((agm) ⟨y70, w64 (y62 + 1), v71, W73, rfl, (l63.j l73).w, rfl, o72, hm⟩))))
   ·refine Cw.block (sr (mv v6 rfl (mi rfl ?_)))
    obtain ⟨u78, e79, hm⟩ := ob hm
    refine Lw.r rfl (R.ix (α := Bool) o67.rd e79 rfl rfl rfl) (Lw.r rfl (R.ld rfl rfl (o67.rd.at_ e79).bool) (nl (cn hm (fun hm => ?_) fun hm => ?_)))
    ·refine rg (mv v60 rfl (mi rfl (Lw.t rfl (T.bs 6 [vI y62] (cs := [vI y62]) rfl rfl (bsv rfl)) ?_)))
     rintro _ _ ⟨g81, W81, rfl, rfl, l81, b81⟩
     obtain ⟨q86, e87, hm⟩ := ob hm
     refine Lw.t rfl (T.app1S (α := Int) (K' := []) (o61.up l81) b81 (rdI _) rfl rfl e87) ?_
     rintro v88 _ ⟨W88, rfl, l88, o88⟩
     exact Nv v88 rfl ((ag) ⟨q86, v88, W88, rfl, (l81.j l88).w, rfl, o88, hm⟩)
    ·exact sk ((ag) ⟨y59, v60, W63, rfl, Le.refl _ _, rfl, o61, hm⟩)
  ·refine Cw.exit ?_
   rw [hK64] at hm
   refine sr (mv v60 rfl (Nv v60 rfl ?_))
   cases hm
   exact Cw.ret (ret1 rfl (Res.mk a66 ⟨v60, rfl, o61.s.sub rfl rfl⟩))

theorem p125 {x0 v0_0_ v0_1_ k0 r} (h0 : Rd W K [v0_0_, v0_1_] x0) (hm : Vm.spec_l14Live x0 = some r) : Q1 125 [.agg [v0_0_, v0_1_].toArray] W [] fun W' v => ∃ u0, v = u0 ∧ Ow W' k0 [] [u0] r :=
 (c125 (h0.view _) hm).ad (fk k0) fun _ _ ⟨u0, e, f0⟩ => ⟨u0, e, f0.back (fk_LL _)⟩

theorem c120 {x0 v0_ x1 r} (h0 : Rd W0 [0] [v0_] x0) (hm : Vm.spec_l14Place x0 x1 = some r) : Q0 120 [v0_, vI x1] W0 fun Wf v => v = vI r := by
 unfold Vm.spec_l14Place at hm
 refine CallR.of Tryz.func120 rfl rfl rfl rfl (sr (Ni rfl (ssr (Ni rfl (Cw.block ?_)))))
 obtain ⟨K4, hK4, hm⟩ := jn_e hm
 refine Cw.loop 6 18 [4, 5] (fun m l w => ∃ y1 y2 W3, CW.w W3 = w ∧ Le [] W0 W3 ∧ l = [vI y1, vI y2] ∧ Vm.spec_l14Place_l1 x0 x1 K4 m y1 y2 = some r) _ ⟨0, 0, W0, rfl, Le.refl _ _, rfl, hm⟩ ?_
 rintro (_ | m5) _ _ σ ⟨y1, y2, W3, rfl, l3, rfl, hm⟩
 ·cases hm
 unfold Vm.spec_l14Place_l1 at hm
 have a6 := l3.o
 refine ssr ?_
 have s7 := h0.ul a6
 refine mi rfl (mv v0_ rfl (Lw.ln x0 s7 rfl (Lw.lt rfl (nl (cn hm (fun hm => ?_) fun hm => ?_)))))
 ·refine sk (Cw.seq (Cw.block (sr (mv v0_ rfl (mi rfl ?_)))))
  obtain ⟨u9, e10, hm⟩ := ob hm
  refine Lw.r rfl (R.ix (α := Int) s7 e10 rfl rfl rfl) (Lw.r rfl (R.ld rfl rfl (s7.at_ e10).int) (mi rfl (Lw.eq rfl (nl (cn hm (fun hm => ?_) fun hm => ?_)))))
  ·exact sr (mi rfl (Ni rfl (.ret (rt hm a6))))
  ·exact sk (rg (mi rfl (Lw.add rfl (Ni rfl ((agm) ⟨y1, w64 (y2 + 1), W3, rfl, l3, rfl, hm⟩)))))
 ·refine Cw.exit ?_
  rw [hK4] at hm
  exact sr (Ni rfl (.ret (rt hm a6)))

theorem p120 {x0 v0_ x1 r} (h0 : Rd W K [v0_] x0) (hm : Vm.spec_l14Place x0 x1 = some r) : Q1 120 [v0_, vI x1] W [] fun W' v => v = vI r :=
 (c120 (h0.view _) hm).ad (fk 0) fun _ _ e => e

end Go.Sx
