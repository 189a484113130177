/- Walks: each function answers as its model, printed by a program of ours. Conditions: the arguments read as they are given. -/
import Derived.Test.YtkjleeelabgfoaaGreatDoorATs
import Derived.Test.YtkjleeelabgfoaaGreatDoorAM0
import Derived.Test.YtkjleeelabgfoaaGreatDoorAW1
import Derived.Test.YtkjleeelabgfoaaGreatDoorAW6
import Derived.Test.YtkjleeelabgfoaaGreatDoorAW7
namespace Go.Sx
open Go Go.Proofs Go.Vm Rp
set_option linter.unusedVariables false
set_option linter.unusedSimpArgs false
variable {W W0 : CW} {K : List Nat}
theorem c7 {x0 v0_0_ v0_1_ r} (h0 : Rd W0 [0] [v0_0_, v0_1_] x0) (hm : Vm.spec_KeepOnly x0 = some r) : Q0 7 [.agg [v0_0_, v0_1_].toArray] W0 fun Wf v => ∃ u0_0 u0_1, v = .agg [u0_0, u0_1].toArray ∧ OwS Wf [31] [] [u0_0] r.Commits ∧ OwS Wf [32] [] [u0_1] r.Heads := by
 unfold Vm.spec_KeepOnly at hm
 obtain ⟨w0_0, w0_1, he0, h0_0, h0_1⟩ := Repo.split h0
 simp only [List.cons.injEq, and_true, true_and] at he0
 obtain ⟨rfl, rfl⟩ := he0
 refine CallR.of Tryz.func7 rfl rfl rfl rfl (sr (bo 2 rfl fun g1 W1 l1 b1 => ?_))
 have a2 := l1.o
 refine al 3 [.slice none 0 0, .slice none 0 0] fun g3 W3 l3 b3 => ?_
 have a4 := a2.n l3
 refine nl (sr (Lw.r rfl (R.bd (zs := [.slice none 0 0, .slice none 0 0]) (cs := [.slice none 0 0, .slice none 0 0]) [] rfl rfl rfl bp_nil) (al 4 [.slice none 0 0, .slice none 0 0] fun g6 W6 l6 b6 => ?_)))
 have a7 := a4.n l6
 refine sta b6 (oc_cons rfl (oc_cons rfl oc_nil)) fun W10 l10 b10 => ?_
 have a11 := a7.t l10
 have b12 := ((b1.up l3).up l6).up l10
 refine nl (ssr (la b12 (ca hm (fun _ => p22 (Repo.rd (K := [0]) x0.Commits x0.Heads (h0_0.ul a11) (h0_1.ul a11))) fun z16 W18 hm l18 => ?_)))
 have a19 := a11.n l18
 have b21 := ((b3.up l6).up l10).up l18
 refine Lw.r rfl (R.not rfl) (nl (cn hm (fun hm => ?_) fun hm => ?_))
 ·refine sr (la (b10.up l18) (sta b21 (oc_cons rfl (oc_cons rfl oc_nil)) fun W24 l24 b24 => ?_))
  have a25 := a19.t l24
  refine nl ?_
  cases hm
  exact Cw.ret (retA1 rfl b24 (Res.mk a25 ⟨.slice none 0 0, .slice none 0 0, rfl, (owsN []).sub rfl rfl, (owsN []).sub rfl rfl⟩))
 ·refine sk (sr (la (b12.up l18) (cr hm (fun _ => p23 (k0 := 5) (Repo.rd (K := [0]) x0.Commits x0.Heads (h0_0.ul a19) (h0_1.ul a19))) ?_)))
  rintro z30 v0_32 W32 hm l32 ⟨_, rfl, f32_0⟩
  have a33 := a19.n l32
  refine Nv v0_32 rfl (ssr (Ni rfl (Cw.block ?_)))
  obtain ⟨K48, hK48, hm⟩ := jn_e hm
  refine Cw.loop 16 54 [5, 6, 7] (fun m l w => ∃ y37 y40 y43 j38 j39 v41 v44 W47, CW.w W47 = w ∧ Le [4, 6, 8, 9, 10] W32 W47 ∧ l = [vI y37, j38, j39] ∧ Ow W47 6 [] [v41] y40 ∧ Ow W47 7 [] [v44] y43 ∧ Bx W47 4 g6 [v41, v44] ∧ Vm.spec_KeepOnly_l1 x0 z30 K48 m y37 y40 y43 = some r) _ ⟨0, ([] : List Commit), ([] : List Head), undef, undef, .slice none 0 0, .slice none 0 0, W32, rfl, Le.refl _ _, rfl, owN 6 [], owN 7 [], ((b10.up l18).up l32), hm⟩ ?_
  rintro (_ | m49) _ _ σ ⟨y37, y40, y43, j38, j39, v41, v44, W47, rfl, l47, rfl, o42, o45, b46, hm⟩
  ·cases hm
  unfold Vm.spec_KeepOnly_l1 at hm
  have a50 := a33.t l47
  have o51 := f32_0.up l47
  have b52 := ((b12.up l18).up l32).up l47
  refine ssr (mi rfl (mv v0_32 rfl (Lw.ln z30 o51.rd rfl (Lw.lt rfl (nl (cn hm (fun hm => ?_) fun hm => ?_))))))
  ·refine sk (Cw.seq (Cw.block (Cw.seq ?_)))
   obtain ⟨u63, e64, hm⟩ := ob hm
   obtain ⟨u65, e66, hm⟩ := ob hm
   obtain ⟨z75, e76, hm⟩ := ob hm
   refine Cw.par [[], [0], [], [], [2, 3], [2, 3, 4], [0, 1, 2, 3, 4, 5], [0, 1, 2, 3, 4, 5, 6], [0, 1, 2, 3, 4, 5, 6, 7], [], [0, 1, 2, 3, 4, 5, 6, 7, 8, 9]] [[], [0], [], [], [2, 3], [4], [1, 5], [6], [7], [], [8, 9]] [[], [], [], [], [], [], [], [], [], [], [10]] [[0], [1], [2], [3], [4], [5], [6], [7], [8], [9], [8, 9]] [[], [], [], [], [], [], [], [0], [8, 9], [10], [10]] [0, 1, 2, 3, 4, 5, 6, 7, 8, 10] [10] [fun vs W => (vs 0) = ptr ((bx g1).add 0), fun vs W => (vs 1) = v0_0_, fun vs W => (vs 2) = v0_32, fun vs W => (vs 3) = vI y37, fun vs W => (vs 4) = ptr ((slA v0_32).add ((y37).toNat * Rp.sz (Int))), fun vs W => (vs 5) = vI u63, fun vs W => (vs 6) = ptr ((slA v0_0_).add ((u63).toNat * Rp.sz (Commit))), fun vs W => (vs 7) = .agg [(cellOf (vs 7) 0), vS u65.Who, (cellOf (vs 7) 2)].toArray ∧ Rd W [0] [(cellOf (vs 7) 0)] u65.Parents ∧ Rd W [0] [(cellOf (vs 7) 2)] u65.Tree, fun vs W => (vs 8) = .agg [(cellOf (vs 8) 0), vS z75.Who, (cellOf (vs 8) 2)].toArray ∧ Ow W 8 [] [(cellOf (vs 8) 0)] z75.Parents ∧ Ow W 9 [] [(cellOf (vs 8) 2)] z75.Tree, fun vs W => (vs 9) = ptr (bx (pg (vs 9))) ∧ Bx W 10 (pg (vs 9)) [.slice none 0 0, vS ([] : Str), .slice none 0 0], fun vs W => (vs 9) = ptr (bx (pg (vs 9))) ∧ Bx W 10 (pg (vs 9)) [(cellOf (vs 8) 0), vS z75.Who, (cellOf (vs 8) 2)]] [] mixed (by kernel_rfl) rfl AllF.nil ?_
   intro W105 l105
   have a106 := a50.n l105
   have o107 := o51.up l105
   refine ⟨(Steps.cons ?_ (Steps.cons ?_ (Steps.cons ?_ (Steps.cons ?_ (Steps.cons ?_ (Steps.cons ?_ (Steps.cons ?_ (Steps.cons ?_ (Steps.cons ?_ (Steps.cons ?_ (Steps.cons ?_ Steps.nil))))))))))), (Sups.cons (fun vs vs' W W' _ hv l hd h => by (show (vs' 0) = ptr ((bx g1).add 0)); rw [hv 0 (anyb rfl)]; exact h) (Sups.cons (fun vs vs' W W' _ hv l hd h => by (show (vs' 1) = v0_0_); rw [hv 1 (anyb rfl)]; exact h) (Sups.cons (fun vs vs' W W' _ hv l hd h => by (show (vs' 2) = v0_32); rw [hv 2 (anyb rfl)]; exact h) (Sups.cons (fun vs vs' W W' _ hv l hd h => by (show (vs' 3) = vI y37); rw [hv 3 (anyb rfl)]; exact h) (Sups.cons (fun vs vs' W W' _ hv l hd h => by (show (vs' 4) = ptr ((slA v0_32).add ((y37).toNat * Rp.sz (Int)))); rw [hv 4 (anyb rfl)]; exact h) (Sups.cons (fun vs vs' W W' _ hv l hd h => by (show (vs' 5) = vI u63); rw [hv 5 (anyb rfl)]; exact h) (Sups.cons (fun vs vs' W W' _ hv l hd h => by (show (vs' 6) = ptr ((slA v0_0_).add ((u63).toNat * Rp.sz (Commit)))); rw [hv 6 (anyb rfl)]; exact h) (Sups.cons (fun vs vs' W W' _ hv l hd h => by (show (vs' 7) = .agg [(cellOf (vs' 7) 0), vS u65.Who, (cellOf (vs' 7) 2)].toArray ∧ Rd W' [0] [(cellOf (vs' 7) 0)] u65.Parents ∧ Rd W' [0] [(cellOf (vs' 7) 2)] u65.Tree); rw [hv 7 (anyb rfl)]; exact ⟨h.1, h.2.1.up l (disj_sub hd (K := [0]) rfl), h.2.2.up l (disj_sub hd (K := [0]) rfl)⟩) (Sups.cons (fun vs vs' W W' _ hv l hd h => by (show (vs' 8) = .agg [(cellOf (vs' 8) 0), vS z75.Who, (cellOf (vs' 8) 2)].toArray ∧ Ow W' 8 [] [(cellOf (vs' 8) 0)] z75.Parents ∧ Ow W' 9 [] [(cellOf (vs' 8) 2)] z75.Tree); rw [hv 8 (anyb rfl)]; exact ⟨h.1, h.2.1.upv l (disj_mem hd (c := 8) rfl), h.2.2.upv l (disj_mem hd (c := 9) rfl)⟩) (Sups.cons (fun vs vs' W W' _ hv l hd h => by (show (vs' 9) = ptr (bx (pg (vs' 9))) ∧ Bx W' 10 (pg (vs' 9)) [.slice none 0 0, vS ([] : Str), .slice none 0 0]); rw [hv 9 (anyb rfl)]; exact ⟨h.1, h.2.up l (disj_mem hd (c := 10) rfl)⟩) (Sups.cons (fun vs vs' W W' _ hv l hd h => by (show (vs' 9) = ptr (bx (pg (vs' 9))) ∧ Bx W' 10 (pg (vs' 9)) [(cellOf (vs' 8) 0), vS z75.Who, (cellOf (vs' 8) 2)]); rw [hv 8 (anyb rfl), hv 9 (anyb rfl)]; exact ⟨h.1, h.2.up l (disj_mem hd (c := 10) rfl)⟩) Sups.nil))))))))))), ?_⟩
   ·intro vs W lW hN
    obtain ⟨W113, hW113⟩ : ∃ X, X = W := ⟨W, rfl⟩
    subst hW113
    refine Tr.mono (Run.tr (R.fa rfl)) ?_
    rintro _ _ ⟨hu, rfl⟩
    obtain rfl := hu.symm
    exact ⟨W113, rfl, Le.refl _ _, (show (ptr ((bx g1).add 0) : Value) = ptr ((bx g1).add 0) from rfl)⟩
   ·intro vs W lW hN
    obtain ⟨W121, hW121⟩ : ∃ X, X = W := ⟨W, rfl⟩
    subst hW121
    have e0_ : vs 0 = ptr ((bx g1).add 0) := (hN 0 (anyb rfl))
    obtain ⟨vs, rfl⟩ := up_eq e0_
    refine Tr.mono (Run.tr (R.ld (v := v0_0_) rfl rfl (((b52.up l105).up lW rfl).cell rfl))) ?_
    rintro _ _ ⟨hu, rfl⟩
    obtain rfl := hu.symm
    exact ⟨W121, rfl, Le.refl _ _, (show (v0_0_ : Value) = v0_0_ from rfl)⟩
   ·intro vs W lW hN
    obtain ⟨W129, hW129⟩ : ∃ X, X = W := ⟨W, rfl⟩
    subst hW129
    refine Tr.mono (Run.tr (R.mv (v := v0_32) rfl)) ?_
    rintro _ _ ⟨hu, rfl⟩
    obtain rfl := hu.symm
    exact ⟨W129, rfl, Le.refl _ _, (show (v0_32 : Value) = v0_32 from rfl)⟩
   ·intro vs W lW hN
    obtain ⟨W137, hW137⟩ : ∃ X, X = W := ⟨W, rfl⟩
    subst hW137
    refine Tr.mono (Run.tr (R.mv (v := vI y37) rfl)) ?_
    rintro _ _ ⟨hu, rfl⟩
    obtain rfl := hu.symm
    exact ⟨W137, rfl, Le.refl _ _, (show (vI y37 : Value) = vI y37 from rfl)⟩
   ·intro vs W lW hN
    obtain ⟨W145, hW145⟩ : ∃ X, X = W := ⟨W, rfl⟩
    subst hW145
    have e2_ : vs 2 = v0_32 := (hN 2 (anyb rfl))
    obtain ⟨vs, rfl⟩ := up_eq e2_
    have e3_ : vs 3 = vI y37 := (hN 3 (anyb rfl))
    obtain ⟨vs, rfl⟩ := up_eq e3_
    refine Tr.mono (Run.tr (R.ix (α := Int) (o107.up lW rfl).rd e64 rfl rfl rfl)) ?_
    rintro _ _ ⟨hu, rfl⟩
    obtain rfl := hu.symm
    exact ⟨W145, rfl, Le.refl _ _, (show (ptr ((slA v0_32).add ((y37).toNat * Rp.sz (Int))) : Value) = ptr ((slA v0_32).add ((y37).toNat * Rp.sz (Int))) from rfl)⟩
   ·intro vs W lW hN
    obtain ⟨W153, hW153⟩ : ∃ X, X = W := ⟨W, rfl⟩
    subst hW153
    have e4_ : vs 4 = ptr ((slA v0_32).add ((y37).toNat * Rp.sz (Int))) := (hN 4 (anyb rfl))
    obtain ⟨vs, rfl⟩ := up_eq e4_
    refine Tr.mono (Run.tr (R.ld rfl rfl ((o107.up lW rfl).rd.at_ e64).int)) ?_
    rintro _ _ ⟨hu, rfl⟩
    obtain rfl := hu.symm
    exact ⟨W153, rfl, Le.refl _ _, (show (vI u63 : Value) = vI u63 from rfl)⟩
   ·intro vs W lW hN
    obtain ⟨W161, hW161⟩ : ∃ X, X = W := ⟨W, rfl⟩
    subst hW161
    have a162 := a106.t lW rfl
    have e1_ : vs 1 = v0_0_ := (hN 1 (anyb rfl))
    obtain ⟨vs, rfl⟩ := up_eq e1_
    have e5_ : vs 5 = vI u63 := (hN 5 (anyb rfl))
    obtain ⟨vs, rfl⟩ := up_eq e5_
    refine Tr.mono (Run.tr (R.ix (α := Commit) (h0_0.ul a162) e66 rfl rfl rfl)) ?_
    rintro _ _ ⟨hu, rfl⟩
    obtain rfl := hu.symm
    exact ⟨W161, rfl, Le.refl _ _, (show (ptr ((slA v0_0_).add ((u63).toNat * Rp.sz (Commit))) : Value) = ptr ((slA v0_0_).add ((u63).toNat * Rp.sz (Commit))) from rfl)⟩
   ·intro vs W lW hN
    obtain ⟨W170, hW170⟩ : ∃ X, X = W := ⟨W, rfl⟩
    subst hW170
    have a171 := a106.t lW rfl
    have e6_ : vs 6 = ptr ((slA v0_0_).add ((u63).toNat * Rp.sz (Commit))) := (hN 6 (anyb rfl))
    obtain ⟨vs, rfl⟩ := up_eq e6_
    obtain ⟨x179, c180, _, r181⟩ := ((h0_0.ul a171).at_ e66).cells
    obtain ⟨v182, v184, rfl, r183, r185⟩ := Commit.split r181
    refine Tr.mono (Run.tr (R.lda c180 rfl rfl)) ?_
    rintro _ _ ⟨hu, rfl⟩
    obtain rfl := hu.symm
    exact ⟨W170, rfl, Le.refl _ _, (show (.agg [v182, vS u65.Who, v184].toArray : Value) = .agg [v182, vS u65.Who, v184].toArray ∧ Rd W170 [0] [v182] u65.Parents ∧ Rd W170 [0] [v184] u65.Tree from ⟨rfl, r183, r185⟩)⟩
   ·intro vs W lW hN
    obtain ⟨W186, hW186⟩ : ∃ X, X = W := ⟨W, rfl⟩
    subst hW186
    obtain ⟨pc7_0, pc7_2, e7_⟩ : ∃ pc7_0 pc7_2 : Value, vs 7 = .agg [pc7_0, vS u65.Who, pc7_2].toArray := ⟨_, _, (hN 7 (anyb rfl)).1⟩
    obtain ⟨vs, rfl⟩ := up_eq e7_
    have o194 : Rd W186 [0] [pc7_0] u65.Parents := (hN 7 (anyb rfl)).2.1
    have o195 : Rd W186 [0] [pc7_2] u65.Tree := (hN 7 (anyb rfl)).2.2
    refine Tr.mono (T.call rfl (p24 (k0 := 8) (k1 := 9) (Commit.rd (K := [0]) u65.Parents u65.Who u65.Tree o194 o195) e76)) ?_
    rintro _ _ ⟨W196, rfl, l196, ⟨v0_0_196, v0_2_196, rfl, f196_0, f196_1⟩⟩
    exact ⟨W196, rfl, l196, (show (.agg [v0_0_196, vS z75.Who, v0_2_196].toArray : Value) = .agg [v0_0_196, vS z75.Who, v0_2_196].toArray ∧ Ow W196 8 [] [v0_0_196] z75.Parents ∧ Ow W196 9 [] [v0_2_196] z75.Tree from ⟨rfl, f196_0, f196_1⟩)⟩
   ·intro vs W lW hN
    obtain ⟨W204, hW204⟩ : ∃ X, X = W := ⟨W, rfl⟩
    subst hW204
    refine Tr.mono (T.alloc 10 (cs := [.slice none 0 0, vS ([] : Str), .slice none 0 0]) rfl) ?_
    rintro _ _ ⟨g212, W212, rfl, rfl, l212, b212⟩
    exact ⟨W212, rfl, l212, (show (ptr (bx g212) : Value) = ptr (bx g212) ∧ Bx W212 10 g212 [.slice none 0 0, vS ([] : Str), .slice none 0 0] from ⟨rfl, b212⟩)⟩
   ·intro vs W lW hN
    obtain ⟨W220, hW220⟩ : ∃ X, X = W := ⟨W, rfl⟩
    subst hW220
    obtain ⟨pc8_0, pc8_2, e8_⟩ : ∃ pc8_0 pc8_2 : Value, vs 8 = .agg [pc8_0, vS z75.Who, pc8_2].toArray := ⟨_, _, (hN 8 (anyb rfl)).1⟩
    obtain ⟨vs, rfl⟩ := up_eq e8_
    have o228 : Ow W220 8 [] [pc8_0] z75.Parents := (hN 8 (anyb rfl)).2.1
    have o229 : Ow W220 9 [] [pc8_2] z75.Tree := (hN 8 (anyb rfl)).2.2
    obtain ⟨pg9, e9_⟩ : ∃ pg9, vs 9 = ptr (bx pg9) := ⟨_, ((hN 9 (anyb rfl))).1⟩
    obtain ⟨vs, rfl⟩ := up_eq e9_
    have o230 : Bx W220 10 pg9 [.slice none 0 0, vS ([] : Str), .slice none 0 0] := (hN 9 (anyb rfl)).2
    refine Tr.mono (T.sta (vs := [pc8_0, vS z75.Who, pc8_2]) o230 rfl rfl (oc_cons o228.oc (oc_cons rfl (oc_cons o229.oc oc_nil))) rfl rfl) ?_
    rintro _ _ ⟨W231, rfl, l231, b231⟩
    exact ⟨W231, rfl, l231, (show (ptr (bx pg9)) = ptr (bx pg9) ∧ Bx W231 10 pg9 [pc8_0, vS z75.Who, pc8_2] from ⟨rfl, b231⟩)⟩
   ·intro vs W lW hN
    obtain ⟨W241, hW241⟩ : ∃ X, X = W := ⟨W, rfl⟩
    subst hW241
    obtain ⟨l241, hl241⟩ : ∃ x, x = lW := ⟨lW, rfl⟩
    have e0_ : vs 0 = ptr ((bx g1).add 0) := (hN 0 (anyb rfl))
    obtain ⟨vs, rfl⟩ := up_eq e0_
    have e1_ : vs 1 = v0_0_ := (hN 1 (anyb rfl))
    obtain ⟨vs, rfl⟩ := up_eq e1_
    have e2_ : vs 2 = v0_32 := (hN 2 (anyb rfl))
    obtain ⟨vs, rfl⟩ := up_eq e2_
    have e3_ : vs 3 = vI y37 := (hN 3 (anyb rfl))
    obtain ⟨vs, rfl⟩ := up_eq e3_
    have e4_ : vs 4 = ptr ((slA v0_32).add ((y37).toNat * Rp.sz (Int))) := (hN 4 (anyb rfl))
    obtain ⟨vs, rfl⟩ := up_eq e4_
    have e5_ : vs 5 = vI u63 := (hN 5 (anyb rfl))
    obtain ⟨vs, rfl⟩ := up_eq e5_
    have e6_ : vs 6 = ptr ((slA v0_0_).add ((u63).toNat * Rp.sz (Commit))) := (hN 6 (anyb rfl))
    obtain ⟨vs, rfl⟩ := up_eq e6_
    obtain ⟨pc7_0, pc7_2, e7_⟩ : ∃ pc7_0 pc7_2 : Value, vs 7 = .agg [pc7_0, vS u65.Who, pc7_2].toArray := ⟨_, _, (hN 7 (anyb rfl)).1⟩
    obtain ⟨vs, rfl⟩ := up_eq e7_
    have o249 : Rd W241 [0] [pc7_0] u65.Parents := (hN 7 (anyb rfl)).2.1
    have o250 : Rd W241 [0] [pc7_2] u65.Tree := (hN 7 (anyb rfl)).2.2
    obtain ⟨pc8_0, pc8_2, e8_⟩ : ∃ pc8_0 pc8_2 : Value, vs 8 = .agg [pc8_0, vS z75.Who, pc8_2].toArray := ⟨_, _, (hN 8 (anyb rfl)).1⟩
    obtain ⟨vs, rfl⟩ := up_eq e8_
    have o251 : Ow W241 8 [] [pc8_0] z75.Parents := (hN 8 (anyb rfl)).2.1
    have o252 : Ow W241 9 [] [pc8_2] z75.Tree := (hN 8 (anyb rfl)).2.2
    obtain ⟨pg9, e9_⟩ : ∃ pg9, vs 9 = ptr (bx pg9) := ⟨_, (hN 10 (anyb rfl)).1⟩
    obtain ⟨vs, rfl⟩ := up_eq e9_
    have o253 : Bx W241 10 pg9 [pc8_0, vS z75.Who, pc8_2] := (hN 10 (anyb rfl)).2
    refine ssr (Ni rfl (Cw.block ?_))
    obtain ⟨K258, hK258, hm⟩ := jn_e hm
    refine Cw.loop 31 48 [7] (fun m l w => ∃ y254 y255 W257, CW.w W257 = w ∧ Le [8] W241 W257 ∧ l = [vI y254] ∧ Ow W257 8 [] [pc8_0] y255 ∧ Vm.spec_KeepOnly_l2 z30 K258 m y254 y255 = some r) _ ⟨0, z75.Parents, W241, rfl, Le.refl _ _, rfl, o251, hm⟩ ?_
    rintro (_ | m259) _ _ σ ⟨y254, y255, W257, rfl, l257, rfl, o256, hm⟩
    ·cases hm
    unfold Vm.spec_KeepOnly_l2 at hm
    have b267 := ((b46.up l105).up lW rfl).up l257
    have b268 := o253.up l257
    refine ssr (mi rfl (fl b268 rfl (Lw.ln y255 o256.rd rfl (Lw.lt rfl (nl (cn hm (fun hm => ?_) fun hm => ?_))))))
    ·refine sk (Cw.seq (Cw.block (Cw.draw [] [(0, 0), (1, 1), (2, 0), (3, 0), (4, 0), (5, 1), (6, 0), (7, 0), (8, 1), (9, 2), (10, 0), (11, 3)] mixed (by kernel_rfl) fun W270 l270 => ?_)))
     have o275 := o256.up l270
     refine Dfl (b268.up l270) rfl rfl rfl (Di rfl (Dv v0_32 rfl (Dfl (b268.up l270) rfl rfl rfl (Di rfl ?_))))
     obtain ⟨u281, e282, hm⟩ := ob hm
     refine Mw.p rfl rfl (fun _ => R.ix (α := Int) o275.rd e282 rfl rfl rfl) (Mw.q rfl rfl (fun _ c => R.ld rfl rfl (cl_cell (o275.rd.at_ e282).1 rfl (o275.rd.at_ e282).int c)) (Dc hm (Le.refl _ _) (fun _ => p25 (K := [5]) (((o107.up lW rfl).up l257).up l270).rd) rfl ?_))
     rintro z283 _ W285 hm l285 rfl d285
     obtain ⟨u296, e297, hm⟩ := ob hm
     refine Mw.p rfl rfl (fun _ => R.ix (α := Int) o275.rd e297 rfl rfl rfl) ?_
     obtain ⟨q299, e300, hm⟩ := ob hm
     refine Mw.lu rfl (T.stS (K' := []) (o275.up l285) (rdI _) e300 rfl rfl rfl) ?_
     rintro _ _ ⟨W298, rfl, l298, o298⟩
     exact Mw.nil (rg (mi rfl (Lw.add rfl (Ni rfl ((agm) ⟨w64 (y254 + 1), q299, W298, rfl, (((l257.j l270).j l285).j l298).w, rfl, o298, hm⟩)))))
    ·refine Cw.exit ?_
     rw [hK258] at hm
     refine rg (fl b267 rfl (la b268 (Lw.t rfl (T.bs 11 [.agg [pc8_0, vS z75.Who, pc8_2].toArray] (cs := [pc8_0, vS z75.Who, pc8_2]) rfl rfl (bsA rfl)) ?_)))
     rintro _ _ ⟨g310, W310, rfl, rfl, l310, b310⟩
     obtain ⟨q321, e322, hm⟩ := ob hm
     refine Lw.t rfl (T.app1 (α := Commit) (J := [8, 9]) (K' := []) ((((o42.up l105).up lW rfl).up l257).up l310) b310 (Commit.own y255 z75.Who z75.Tree (o256.up l310).s ((o252.up l257).up l310).s) rfl rfl e322) ?_
     rintro v323 _ ⟨W323, rfl, l323, o323⟩
     refine Lw.fa rfl (Lw.u (T.st (j := 0) (v := v323) ((b267.up l310).up l323) rfl rfl o323.oc rfl rfl) ?_)
     rintro _ _ ⟨W332, rfl, l332, b332⟩
     exact nl (rg (mi rfl (Lw.add rfl (Ni rfl ((agm) ⟨w64 (y37 + 1), q321, y43, ptr (bx pg9), vI y254, v323, v44, W332, rfl, ((((((l47.j l105).j l241).j l257).j l310).j l323).j l332).w, rfl, (o323.up l332), ((((((o45.up l105).up lW rfl).up l257).up l310).up l323).up l332), b332, hm⟩)))))
  ·refine Cw.exit ?_
   rw [hK48] at hm
   refine ssr (Ni rfl (Cw.block ?_))
   obtain ⟨K350, hK350, hm⟩ := jn_e hm
   refine Cw.loop 55 81 [8] (fun m l w => ∃ y341 y342 y345 v343 v346 W349, CW.w W349 = w ∧ Le [4, 7] W47 W349 ∧ l = [vI y341] ∧ Ow W349 6 [] [v343] y342 ∧ Ow W349 7 [] [v346] y345 ∧ Bx W349 4 g6 [v343, v346] ∧ Vm.spec_KeepOnly_l3 x0 z30 K350 m y341 y342 y345 = some r) _ ⟨0, y40, y43, v41, v44, W47, rfl, Le.refl _ _, rfl, o42, o45, b46, hm⟩ ?_
   rintro (_ | m351) _ _ σ ⟨y341, y342, y345, v343, v346, W349, rfl, l349, rfl, o344, o347, b348, hm⟩
   ·cases hm
   unfold Vm.spec_KeepOnly_l3 at hm
   have a352 := a50.t l349
   refine ssr (mi rfl (fl (b52.up l349) rfl (Lw.ln x0.Heads (h0_1.ul a352) rfl (Lw.lt rfl (nl (cn hm (fun hm => ?_) fun hm => ?_))))))
   ·refine sk (Cw.seq (Cw.block (Cw.draw [7] [(0, 0), (1, 1), (2, 0), (3, 1), (4, 0), (5, 0), (6, 0), (7, 1), (8, 0), (9, 0), (10, 1), (11, 0), (12, 0), (13, 0), (14, 1), (15, 2), (16, 0), (17, 2), (18, 2), (19, 0), (20, 3)] mixed (by kernel_rfl) fun W358 l358 => ?_)))
    have a359 := a352.n l358
    have b363 := (b52.up l349).up l358
    refine Dfl (b348.up l358) rfl rfl rfl (Dfl b363 rfl rfl rfl (Di rfl ?_))
    obtain ⟨u366, e367, hm⟩ := ob hm
    have s368 := h0_1.ul a359
    refine Mw.p rfl rfl (fun _ => R.ix (α := Head) s368 e367 rfl rfl rfl) (Df rfl (Mw.q rfl rfl (fun _ c => R.ld rfl rfl (cl_cell (Head.at0 (s368.at_ e367)).1 rfl (Head.at0 (s368.at_ e367)).str c)) (Dv v0_32 rfl (Dfl b363 rfl rfl rfl (Di rfl ?_)))))
    obtain ⟨u369, e370, hm⟩ := ob hm
    refine Mw.p rfl rfl (fun _ => R.ix (α := Head) s368 e370 rfl rfl rfl) (Df rfl (Mw.q rfl rfl (fun _ c => R.ld rfl rfl (cl_cell (Head.at1 (s368.at_ e370)).1 rfl (Head.at1 (s368.at_ e370)).int c)) (Dc hm (Le.refl _ _) (fun _ => p25 (K := [5]) ((o51.up l349).up l358).rd) rfl ?_)))
    rintro z371 _ W373 hm l373 rfl d373
    refine Mw.p rfl rfl (fun _ => R.bd (zs := [vS ([] : Str), vI 0]) (cs := [vS u366.Name, vI z371]) [(0, vS u366.Name), (1, vI z371)] rfl rfl rfl (bp_cons rfl rfl (bp_cons rfl rfl bp_nil))) (Mw.t rfl rfl (T.bs 12 [.agg [vS u366.Name, vI z371].toArray] (cs := [vS u366.Name, vI z371]) rfl rfl (bsA rfl)) ?_)
    rintro _ _ ⟨g381, W381, rfl, rfl, l381, b381⟩
    refine mc d373 l381 fun d381 => ?_
    obtain ⟨q389, e390, hm⟩ := ob hm
    refine Mw.t rfl rfl (T.app1S (α := Head) (K' := []) (((o347.up l358).up l373).up l381) b381 (Head.rd (K := []) u366.Name z371) rfl rfl e390) ?_
    rintro v391 _ ⟨W391, rfl, l391, o391⟩
    refine mc d381 l391 fun d391 => Df rfl (Mw.lu rfl (T.st (j := 1) (v := v391) ((((b348.up l358).up l373).up l381).up l391) rfl rfl o391.oc rfl rfl) ?_)
    rintro _ _ ⟨W399, rfl, l399, b399⟩
    exact Mw.nil (rg (mi rfl (Lw.add rfl (Ni rfl ((agm) ⟨w64 (y341 + 1), y342, q389, v343, v391, W399, rfl, (((((l349.j l358).j l373).j l381).j l391).j l399).w, rfl, (((((o344.up l358).up l373).up l381).up l391).up l399), (o391.up l399), b399, hm⟩)))))
   ·refine Cw.exit ?_
    rw [hK350] at hm
    refine sr (la b348 (sta (((b21.up l32).up l47).up l349) (oc_cons o344.oc (oc_cons o347.oc oc_nil)) fun W407 l407 b407 => ?_))
    have a408 := a352.t l407
    refine nl ?_
    obtain ⟨W414, ew414, l414, o414⟩ := (o344.up l407).dyeO 31
    have a415 := a408.t l414
    obtain ⟨W421, ew421, l421, o421⟩ := ((o347.up l407).up l414).dyeO 32
    have a422 := a415.t l421
    cases hm
    rw [← ew421.trans (ew414)]
    exact Cw.ret (retA1 rfl ((b407.up l414).up l421) (Res.mk a422 ⟨v343, v346, rfl, (o414.up l421).s, o421.s⟩))
theorem p7 {x0 v0_0_ v0_1_ k0 k1 r} (h0 : Rd W K [v0_0_, v0_1_] x0) (hm : Vm.spec_KeepOnly x0 = some r) : Q1 7 [.agg [v0_0_, v0_1_].toArray] W [] fun W' v => ∃ u0_0 u0_1, v = .agg [u0_0, u0_1].toArray ∧ Ow W' k0 [] [u0_0] r.Commits ∧ Ow W' k1 [] [u0_1] r.Heads :=
 CallR.adJ (J := []) (fun c => bif Nat.beq c 0 then 0 else bif Nat.beq c 31 then k0 else bif Nat.beq c 32 then k1 else 0) (c7 (h0.view _) hm) fun _ _ ⟨u0_0, u0_1, e, f0, f1⟩ => ⟨u0_0, u0_1, e, f0.one1.backN rfl, f1.one1.backN rfl⟩
theorem c46 {x0 v0_ x1 v1_ r} (h0 : Rd W0 [0] [v0_] x0) (h1 : Rd W0 [0] [v1_] x1) (hm : Vm.laws_smInts x0 x1 = some r) : Q0 46 [v0_, v1_] W0 fun Wf v => v = vB r := by
 unfold Vm.laws_smInts at hm
 refine CallR.of Tryz.func46 rfl rfl rfl rfl (sr (Nb rfl (ssr (mv v0_ rfl (Lw.ln x0 h0 rfl (mv v1_ rfl (Lw.ln x1 h1 rfl (Lw.ne rfl (nl (cn hm (fun hm => ?_) fun hm => ?_))))))))))
 ·exact sr (Nb rfl (.ret (rt hm (Le.refl _ _))))
 ·refine sk (ssr (Ni rfl (Cw.block ?_)))
  obtain ⟨K5, hK5, hm⟩ := jn_e hm
  refine Cw.loop 11 25 [4, 5] (fun m l w => ∃ y2 y3 W4, CW.w W4 = w ∧ Le [] W0 W4 ∧ l = [vB y2, vI y3] ∧ Vm.laws_smInts_l1 x0 x1 K5 m y2 y3 = some r) _ ⟨false, 0, W0, rfl, Le.refl _ _, rfl, hm⟩ ?_
  rintro (_ | m6) _ _ σ ⟨y2, y3, W4, rfl, l4, rfl, hm⟩
  ·cases hm
  unfold Vm.laws_smInts_l1 at hm
  have a7 := l4.o
  refine ssr (mi rfl (mv v0_ rfl (Lw.ln x0 (h0.ul a7) rfl (Lw.lt rfl (nl (cn hm (fun hm => ?_) fun hm => ?_))))))
  ·refine sk (Cw.seq (Cw.block (Cw.seq (Cw.draw [] [(0, 0), (1, 0), (2, 0), (3, 1), (4, 0), (5, 0), (6, 0), (7, 1), (8, 0)] mixed (by kernel_rfl) fun W10 l10 => ?_))))
   have a11 := a7.n l10
   refine Dv v0_ rfl (Di rfl ?_)
   obtain ⟨u12, e13, hm⟩ := ob hm
   refine Mw.p rfl rfl (fun _ => R.ix (α := Int) (h0.ul a11) e13 rfl rfl rfl) (Mw.q rfl rfl (fun _ c => R.ld rfl rfl (cl_cell ((h0.ul a11).at_ e13).1 rfl ((h0.ul a11).at_ e13).int c)) (Dv v1_ rfl (Di rfl ?_)))
   obtain ⟨u15, e16, hm⟩ := ob hm
   refine Mw.p rfl rfl (fun _ => R.ix (α := Int) (h1.ul a11) e16 rfl rfl rfl) (Mw.q rfl rfl (fun _ c => R.ld rfl rfl (cl_cell ((h1.ul a11).at_ e16).1 rfl ((h1.ul a11).at_ e16).int c)) (Mw.p rfl rfl (fun _ => R.ne rfl rfl) (Mw.nil (cn hm (fun hm => ?_) fun hm => ?_))))
   ·exact sr (Nb rfl (.ret (rt hm a11)))
   ·exact sk (rg (mi rfl (Lw.add rfl (Ni rfl ((agm) ⟨y2, w64 (y3 + 1), W10, rfl, (l4.j l10).w, rfl, hm⟩)))))
  ·refine Cw.exit ?_
   rw [hK5] at hm
   exact sr (Nb rfl (.ret (rt hm a7)))
theorem p46 {x0 v0_ x1 v1_ r} (h0 : Rd W K [v0_] x0) (h1 : Rd W K [v1_] x1) (hm : Vm.laws_smInts x0 x1 = some r) : Q1 46 [v0_, v1_] W [] fun W' v => v = vB r :=
 (c46 (h0.view _) (h1.view _) hm).ad (fk 0) fun _ _ e => e
theorem c39 {x0 v0_ x1 v1_ r} (h0 : Rd W0 [0] [v0_] x0) (h1 : Rd W0 [0] [v1_] x1) (hm : Vm.laws_smTexts x0 x1 = some r) : Q0 39 [v0_, v1_] W0 fun Wf v => v = vB r := by
 unfold Vm.laws_smTexts at hm
 refine CallR.of Tryz.func39 rfl rfl rfl rfl (sr (Nb rfl (ssr (mv v0_ rfl (Lw.ln x0 h0 rfl (mv v1_ rfl (Lw.ln x1 h1 rfl (Lw.ne rfl (nl (cn hm (fun hm => ?_) fun hm => ?_))))))))))
 ·exact sr (Nb rfl (.ret (rt hm (Le.refl _ _))))
 ·refine sk (ssr (Ni rfl (Cw.block ?_)))
  obtain ⟨K5, hK5, hm⟩ := jn_e hm
  refine Cw.loop 11 25 [4, 5] (fun m l w => ∃ y2 y3 W4, CW.w W4 = w ∧ Le [] W0 W4 ∧ l = [vB y2, vI y3] ∧ Vm.laws_smTexts_l1 x0 x1 K5 m y2 y3 = some r) _ ⟨false, 0, W0, rfl, Le.refl _ _, rfl, hm⟩ ?_
  rintro (_ | m6) _ _ σ ⟨y2, y3, W4, rfl, l4, rfl, hm⟩
  ·cases hm
  unfold Vm.laws_smTexts_l1 at hm
  have a7 := l4.o
  refine ssr (mi rfl (mv v0_ rfl (Lw.ln x0 (h0.ul a7) rfl (Lw.lt rfl (nl (cn hm (fun hm => ?_) fun hm => ?_))))))
  ·refine sk (Cw.seq (Cw.block (Cw.seq (Cw.draw [] [(0, 0), (1, 0), (2, 0), (3, 1), (4, 0), (5, 0), (6, 0), (7, 1), (8, 0)] mixed (by kernel_rfl) fun W10 l10 => ?_))))
   have a11 := a7.n l10
   refine Dv v0_ rfl (Di rfl ?_)
   obtain ⟨u12, e13, hm⟩ := ob hm
   refine Mw.p rfl rfl (fun _ => R.ix (α := Str) (h0.ul a11) e13 rfl rfl rfl) (Mw.q rfl rfl (fun _ c => R.ld rfl rfl (cl_cell ((h0.ul a11).at_ e13).1 rfl ((h0.ul a11).at_ e13).str c)) (Dv v1_ rfl (Di rfl ?_)))
   obtain ⟨u15, e16, hm⟩ := ob hm
   refine Mw.p rfl rfl (fun _ => R.ix (α := Str) (h1.ul a11) e16 rfl rfl rfl) (Mw.q rfl rfl (fun _ c => R.ld rfl rfl (cl_cell ((h1.ul a11).at_ e16).1 rfl ((h1.ul a11).at_ e16).str c)) (Mw.p rfl rfl (fun _ => R.sne rfl rfl) (Mw.nil (cn hm (fun hm => ?_) fun hm => ?_))))
   ·exact sr (Nb rfl (.ret (rt hm a11)))
   ·exact sk (rg (mi rfl (Lw.add rfl (Ni rfl ((agm) ⟨y2, w64 (y3 + 1), W10, rfl, (l4.j l10).w, rfl, hm⟩)))))
  ·refine Cw.exit ?_
   rw [hK5] at hm
   exact sr (Nb rfl (.ret (rt hm a7)))
theorem p39 {x0 v0_ x1 v1_ r} (h0 : Rd W K [v0_] x0) (h1 : Rd W K [v1_] x1) (hm : Vm.laws_smTexts x0 x1 = some r) : Q1 39 [v0_, v1_] W [] fun W' v => v = vB r :=
 (c39 (h0.view _) (h1.view _) hm).ad (fk 0) fun _ _ e => e
theorem c13 {x0 v0_ x1 v1_ r} (h0 : Rd W0 [0] [v0_] x0) (h1 : Rd W0 [0] [v1_] x1) (hm : Vm.laws_smTree x0 x1 = some r) : Q0 13 [v0_, v1_] W0 fun Wf v => v = vB r := by
 unfold Vm.laws_smTree at hm
 refine CallR.of Tryz.func13 rfl rfl rfl rfl (sr (Nb rfl (ssr (mv v0_ rfl (Lw.ln x0 h0 rfl (mv v1_ rfl (Lw.ln x1 h1 rfl (Lw.ne rfl (nl (cn hm (fun hm => ?_) fun hm => ?_))))))))))
 ·exact sr (Nb rfl (.ret (rt hm (Le.refl _ _))))
 ·refine sk (ssr (Ni rfl (Cw.block ?_)))
  obtain ⟨K5, hK5, hm⟩ := jn_e hm
  refine Cw.loop 11 41 [4, 5] (fun m l w => ∃ y2 y3 W4, CW.w W4 = w ∧ Le [] W0 W4 ∧ l = [vB y2, vI y3] ∧ Vm.laws_smTree_l1 x0 x1 K5 m y2 y3 = some r) _ ⟨false, 0, W0, rfl, Le.refl _ _, rfl, hm⟩ ?_
  rintro (_ | m6) _ _ σ ⟨y2, y3, W4, rfl, l4, rfl, hm⟩
  ·cases hm
  unfold Vm.laws_smTree_l1 at hm
  have a7 := l4.o
  refine ssr (mi rfl (mv v0_ rfl (Lw.ln x0 (h0.ul a7) rfl (Lw.lt rfl (nl (cn hm (fun hm => ?_) fun hm => ?_))))))
  ·refine sk (Cw.seq (Cw.block ?_))
   obtain ⟨K12, hK12, hm⟩ := jn_e hm
   refine Cw.join 17 41 [41] (fun l w => ∃ y10 W11, CW.w W11 = w ∧ Le [] W4 W11 ∧ l = [vB y10] ∧ K12 y10 = some r) ?_ ?_
   ·rintro _ _ σ ⟨y10, W11, rfl, l11, rfl, hm⟩
    rw [hK12] at hm
    have a13 := a7.n l11
    refine cn hm (fun hm => ?_) fun hm => ?_
    ·exact sr (Nb rfl (.ret (rt hm a13)))
    ·exact sk (rg (mi rfl (Lw.add rfl (Ni rfl ((agm) ⟨y2, w64 (y3 + 1), W11, rfl, (l4.j l11).w, rfl, hm⟩)))))
   ·refine Cw.draw [] [(0, 0), (1, 0), (2, 0), (3, 0), (4, 1), (5, 0), (6, 0), (7, 0), (8, 0), (9, 1), (10, 0), (11, 0), (12, 0), (13, 0), (14, 0), (15, 0), (16, 1), (17, 0), (18, 0), (19, 0), (20, 0), (21, 1), (22, 2), (23, 0), (24, 0)] mixed (by kernel_rfl) fun W15 l15 => ?_
    have a16 := a7.n l15
    refine Dv v0_ rfl (Di rfl ?_)
    obtain ⟨u17, e18, hm⟩ := ob hm
    have s19 := h0.ul a16
    refine Mw.p rfl rfl (fun _ => R.ix (α := File) s19 e18 rfl rfl rfl) (Df rfl (Mw.q rfl rfl (fun _ c => R.ld rfl rfl (cl_cell (File.at0 (s19.at_ e18)).1 rfl (File.at0 (s19.at_ e18)).str c)) (Dv v1_ rfl (Di rfl ?_))))
    obtain ⟨u20, e21, hm⟩ := ob hm
    have s22 := h1.ul a16
    refine Mw.p rfl rfl (fun _ => R.ix (α := File) s22 e21 rfl rfl rfl) (Df rfl (Mw.q rfl rfl (fun _ c => R.ld rfl rfl (cl_cell (File.at0 (s22.at_ e21)).1 rfl (File.at0 (s22.at_ e21)).str c)) (Mw.p rfl rfl (fun _ => R.sne rfl rfl) (Db rfl (bs hm (fun hc23 hm => ?_) fun hc23 hm => ?_)))))
    ·exact dps 12 hc23 rfl (Mw.p rfl rfl (fun _ => R.pk hc23 rfl (v := vB true) rfl) (Mw.nil ((ag) ⟨true, W15, rfl, l15, rfl, hm⟩)))
    ·refine Wp hc23 rfl (fun _ => R.mv (v := v0_) rfl) (Wp hc23 rfl (fun _ => R.mv (v := vI y3) rfl) ?_)
     obtain ⟨u24, e25, hm⟩ := ob hm
     refine Wp hc23 rfl (fun _ => R.ix (α := File) s19 e25 rfl rfl rfl) (Wp hc23 rfl (fun _ => R.fa rfl) ?_)
     obtain ⟨v26, c27, r28⟩ := (File.at1 (s19.at_ e25)).cell rfl
     refine Wq hc23 rfl (fun _ c => R.ld rfl rfl (cl_cell (File.at1 (s19.at_ e25)).1 rfl c27 c)) (Wp hc23 rfl (fun _ => R.mv (v := v1_) rfl) (Wp hc23 rfl (fun _ => R.mv (v := vI y3) rfl) ?_))
     obtain ⟨u29, e30, hm⟩ := ob hm
     refine Wp hc23 rfl (fun _ => R.ix (α := File) s22 e30 rfl rfl rfl) (Wp hc23 rfl (fun _ => R.fa rfl) ?_)
     obtain ⟨v31, c32, r33⟩ := (File.at1 (s22.at_ e30)).cell rfl
     refine Wq hc23 rfl (fun _ c => R.ld rfl rfl (cl_cell (File.at1 (s22.at_ e30)).1 rfl c32 c)) ?_
     obtain ⟨z34, e35, hm⟩ := ob hm
     refine Wt hc23 rfl (T.call rfl (p39  r28 r33 e35)) ?_
     rintro _ _ ⟨W36, rfl, l36, rfl⟩
     exact m0 l36 fun d36 => Wp hc23 rfl (fun _ => R.not rfl) (Mw.p rfl rfl (fun _ => R.pk hc23 rfl (v := vB (!z34)) rfl) (Mw.nil ((ag) ⟨(!z34), W36, rfl, (l15.j l36).w, rfl, hm⟩)))
  ·refine Cw.exit ?_
   rw [hK5] at hm
   exact sr (Nb rfl (.ret (rt hm a7)))
theorem p13 {x0 v0_ x1 v1_ r} (h0 : Rd W K [v0_] x0) (h1 : Rd W K [v1_] x1) (hm : Vm.laws_smTree x0 x1 = some r) : Q1 13 [v0_, v1_] W [] fun W' v => v = vB r :=
 (c13 (h0.view _) (h1.view _) hm).ad (fk 0) fun _ _ e => e
theorem c21 {x0 v0_0_ v0_2_ x1 v1_0_ v1_2_ r} (h0 : Rd W0 [0] [v0_0_, vS x0.Who, v0_2_] x0) (h1 : Rd W0 [0] [v1_0_, vS x1.Who, v1_2_] x1) (hm : Vm.laws_smCommit x0 x1 = some r) : Q0 21 [.agg [v0_0_, vS x0.Who, v0_2_].toArray, .agg [v1_0_, vS x1.Who, v1_2_].toArray] W0 fun Wf v => v = vB r := by
 unfold Vm.laws_smCommit at hm
 obtain ⟨w0_0, w0_1, he0, h0_0, h0_2⟩ := Commit.split h0
 simp only [List.cons.injEq, and_true, true_and] at he0
 obtain ⟨rfl, rfl⟩ := he0
 obtain ⟨w1_0, w1_1, he1, h1_0, h1_2⟩ := Commit.split h1
 simp only [List.cons.injEq, and_true, true_and] at he1
 obtain ⟨rfl, rfl⟩ := he1
 refine CallR.of Tryz.func21 rfl rfl rfl rfl (sr (bo 2 rfl fun g1 W1 l1 b1 => ?_))
 have a2 := l1.o
 refine bo 3 rfl fun g3 W3 l3 b3 => ?_
 have a4 := a2.n l3
 have b5 := b1.up l3
 refine Nb rfl ?_
 obtain ⟨K8, hK8, hm⟩ := jn_e hm
 refine Cw.join 5 23 [4] (fun l w => ∃ y6 W7, CW.w W7 = w ∧ Le [] W3 W7 ∧ l = [vB y6] ∧ K8 y6 = some r) ?_ ?_
 ·rintro _ _ σ ⟨y6, W7, rfl, l7, rfl, hm⟩
  rw [hK8] at hm
  have a9 := a4.n l7
  exact .ret (rt hm a9)
 ·refine rg (fl b5 rfl (fl b3 rfl (Lw.seq rfl (mb rfl (bs hm (fun hc12 hm => ?_) fun hc12 hm => ?_)))))
  ·refine wak 5 hc12 (fl b5 rfl (fl b3 rfl (ca hm (fun _ => p46 (h0_0.ul a4) (h1_0.ul a4)) fun z15 W17 hm l17 => ?_)))
   have a18 := a4.n l17
   refine Pb hc12 rfl (mb rfl (bs hm (fun hc21 hm => ?_) fun hc21 hm => ?_))
   ·exact wak 5 hc21 (fl (b5.up l17) rfl (fl (b3.up l17) rfl (ca hm (fun _ => p13 (h0_2.ul a18) (h1_2.ul a18)) fun z24 W26 hm l26 => Pb hc21 rfl (Nb rfl ((ag) ⟨z24, W26, rfl, (l17.j l26).w, rfl, hm⟩)))))
   ·exact psk 5 hc21 rfl (Pb hc21 rfl (Nb rfl ((ag) ⟨false, W17, rfl, l17, rfl, hm⟩)))
  ·exact psk 5 hc12 rfl (Pb hc12 rfl (mb rfl (psk 5 rfl rfl (Pb rfl rfl (Nb rfl ((ag) ⟨false, W3, rfl, Le.refl _ _, rfl, hm⟩))))))
theorem p21 {x0 v0_0_ v0_2_ x1 v1_0_ v1_2_ r} (h0 : Rd W K [v0_0_, vS x0.Who, v0_2_] x0) (h1 : Rd W K [v1_0_, vS x1.Who, v1_2_] x1) (hm : Vm.laws_smCommit x0 x1 = some r) : Q1 21 [.agg [v0_0_, vS x0.Who, v0_2_].toArray, .agg [v1_0_, vS x1.Who, v1_2_].toArray] W [] fun W' v => v = vB r :=
 (c21 (h0.view _) (h1.view _) hm).ad (fk 0) fun _ _ e => e
theorem c6 {x0 v0_0_ v0_1_ x1 v1_0_ v1_1_ r} (h0 : Rd W0 [0] [v0_0_, v0_1_] x0) (h1 : Rd W0 [0] [v1_0_, v1_1_] x1) (hm : Vm.laws_smRepo x0 x1 = some r) : Q0 6 [.agg [v0_0_, v0_1_].toArray, .agg [v1_0_, v1_1_].toArray] W0 fun Wf v => v = vB r := by
 unfold Vm.laws_smRepo at hm
 obtain ⟨w0_0, w0_1, he0, h0_0, h0_1⟩ := Repo.split h0
 simp only [List.cons.injEq, and_true, true_and] at he0
 obtain ⟨rfl, rfl⟩ := he0
 obtain ⟨w1_0, w1_1, he1, h1_0, h1_1⟩ := Repo.split h1
 simp only [List.cons.injEq, and_true, true_and] at he1
 obtain ⟨rfl, rfl⟩ := he1
 refine CallR.of Tryz.func6 rfl rfl rfl rfl (sr (bo 2 rfl fun g1 W1 l1 b1 => ?_))
 have a2 := l1.o
 refine bo 3 rfl fun g3 W3 l3 b3 => ?_
 have a4 := a2.n l3
 have b5 := b1.up l3
 refine Nb rfl (Cw.seq ?_)
 obtain ⟨K8, hK8, hm⟩ := jn_e hm
 refine Cw.join 7 22 [22] (fun l w => ∃ y6 W7, CW.w W7 = w ∧ Le [] W3 W7 ∧ l = [vB y6] ∧ K8 y6 = some r) ?_ ?_
 ·rintro _ _ σ ⟨y6, W7, rfl, l7, rfl, hm⟩
  rw [hK8] at hm
  have a9 := a4.n l7
  refine cn hm (fun hm => ?_) fun hm => ?_
  ·exact sr (Nb rfl (.ret (rt hm a9)))
  ·refine sk (ssr (Ni rfl (Cw.block ?_)))
   obtain ⟨K16, hK16, hm⟩ := jn_e hm
   refine Cw.loop 23 41 [4, 5] (fun m l w => ∃ y13 y14 W15, CW.w W15 = w ∧ Le [] W7 W15 ∧ l = [vB y13, vI y14] ∧ Vm.laws_smRepo_l1 x0 x1 K16 m y13 y14 = some r) _ ⟨false, 0, W7, rfl, Le.refl _ _, rfl, hm⟩ ?_
   rintro (_ | m17) _ _ σ ⟨y13, y14, W15, rfl, l15, rfl, hm⟩
   ·cases hm
   unfold Vm.laws_smRepo_l1 at hm
   have a18 := a9.n l15
   have b19 := (b5.up l7).up l15
   have b20 := (b3.up l7).up l15
   refine ssr (mi rfl (fl b19 rfl (Lw.ln x0.Commits (h0_0.ul a18) rfl (Lw.lt rfl (nl (cn hm (fun hm => ?_) fun hm => ?_))))))
   ·refine sk (Cw.seq (Cw.block (Cw.seq (Cw.draw [] [(0, 0), (1, 1), (2, 0), (3, 0), (4, 1), (5, 0), (6, 1), (7, 0), (8, 0), (9, 1), (10, 2), (11, 0)] mixed (by kernel_rfl) fun W23 l23 => ?_))))
    have a24 := a18.n l23
    refine Dfl (b19.up l23) rfl rfl rfl (Di rfl ?_)
    obtain ⟨u27, e28, hm⟩ := ob hm
    have s29 := h0_0.ul a24
    refine Mw.p rfl rfl (fun _ => R.ix (α := Commit) s29 e28 rfl rfl rfl) ?_
    obtain ⟨x30, c31, _, r32⟩ := (s29.at_ e28).cells
    obtain ⟨v33, v35, rfl, r34, r36⟩ := Commit.split r32
    refine Mw.q rfl rfl (fun _ c => R.lda (cl_cells (s29.at_ e28).1 rfl c31 c) rfl rfl) (Dfl (b20.up l23) rfl rfl rfl (Di rfl ?_))
    obtain ⟨u37, e38, hm⟩ := ob hm
    have s39 := h1_0.ul a24
    refine Mw.p rfl rfl (fun _ => R.ix (α := Commit) s39 e38 rfl rfl rfl) ?_
    obtain ⟨x40, c41, _, r42⟩ := (s39.at_ e38).cells
    obtain ⟨v43, v45, rfl, r44, r46⟩ := Commit.split r42
    refine Mw.q rfl rfl (fun _ c => R.lda (cl_cells (s39.at_ e38).1 rfl c41 c) rfl rfl) ?_
    obtain ⟨z47, e48, hm⟩ := ob hm
    refine Mw.t rfl rfl (T.call rfl (p21  (Commit.rd (K := [0]) u27.Parents u27.Who u27.Tree r34 r36) (Commit.rd (K := [0]) u37.Parents u37.Who u37.Tree r44 r46) e48)) ?_
    rintro _ _ ⟨W49, rfl, l49, rfl⟩
    have a50 := a24.n l49
    refine m0 l49 fun d49 => Mw.p rfl rfl (fun _ => R.not rfl) (Mw.nil (cn hm (fun hm => ?_) fun hm => ?_))
    ·exact sr (Nb rfl (.ret (rt hm a50)))
    ·exact sk (rg (mi rfl (Lw.add rfl (Ni rfl ((agm) ⟨y13, w64 (y14 + 1), W49, rfl, ((l15.j l23).j l49).w, rfl, hm⟩)))))
   ·refine Cw.exit ?_
    rw [hK16] at hm
    refine ssr (Ni rfl (Cw.block ?_))
    obtain ⟨K57, hK57, hm⟩ := jn_e hm
    refine Cw.loop 42 59 [4, 6] (fun m l w => ∃ y54 y55 W56, CW.w W56 = w ∧ Le [] W15 W56 ∧ l = [vB y54, vI y55] ∧ Vm.laws_smRepo_l2 x0 x1 K57 m y54 y55 = some r) _ ⟨y13, 0, W15, rfl, Le.refl _ _, rfl, hm⟩ ?_
    rintro (_ | m58) _ _ σ ⟨y54, y55, W56, rfl, l56, rfl, hm⟩
    ·cases hm
    unfold Vm.laws_smRepo_l2 at hm
    have a59 := a18.n l56
    refine ssr (mi rfl (fl (b19.up l56) rfl (Lw.ln x0.Heads (h0_1.ul a59) rfl (Lw.lt rfl (nl (cn hm (fun hm => ?_) fun hm => ?_))))))
    ·refine sk (Cw.seq (Cw.block (Cw.seq (Cw.draw [] [(0, 0), (1, 1), (2, 0), (3, 0), (4, 1), (5, 0), (6, 1), (7, 0), (8, 0), (9, 1), (10, 0)] mixed (by kernel_rfl) fun W64 l64 => ?_))))
     have a65 := a59.n l64
     refine Dfl ((b19.up l56).up l64) rfl rfl rfl (Di rfl ?_)
     obtain ⟨u68, e69, hm⟩ := ob hm
     refine Mw.p rfl rfl (fun _ => R.ix (α := Head) (h0_1.ul a65) e69 rfl rfl rfl) ?_
     obtain ⟨x71, c72, _, r73⟩ := ((h0_1.ul a65).at_ e69).cells
     obtain rfl := Head.split r73
     refine Mw.q rfl rfl (fun _ c => R.lda (cl_cells ((h0_1.ul a65).at_ e69).1 rfl c72 c) rfl rfl) (Dfl ((b20.up l56).up l64) rfl rfl rfl (Di rfl ?_))
     obtain ⟨u74, e75, hm⟩ := ob hm
     refine Mw.p rfl rfl (fun _ => R.ix (α := Head) (h1_1.ul a65) e75 rfl rfl rfl) ?_
     obtain ⟨x77, c78, _, r79⟩ := ((h1_1.ul a65).at_ e75).cells
     obtain rfl := Head.split r79
     refine Mw.q rfl rfl (fun _ c => R.lda (cl_cells ((h1_1.ul a65).at_ e75).1 rfl c78 c) rfl rfl) (Mw.p rfl rfl (fun _ => R.hne rfl rfl) (Mw.nil (cn hm (fun hm => ?_) fun hm => ?_)))
     ·exact sr (Nb rfl (.ret (rt hm a65)))
     ·exact sk (rg (mi rfl (Lw.add rfl (Ni rfl ((agm) ⟨y54, w64 (y55 + 1), W64, rfl, (l56.j l64).w, rfl, hm⟩)))))
    ·refine Cw.exit ?_
     rw [hK57] at hm
     exact sr (Nb rfl (.ret (rt hm a59)))
 ·refine rg (fl b5 rfl (Lw.ln x0.Commits (h0_0.ul a4) rfl (fl b3 rfl (Lw.ln x1.Commits (h1_0.ul a4) rfl (Lw.ne rfl (mb rfl (bs hm (fun hc83 hm => ?_) fun hc83 hm => ?_)))))))
  ·exact psk 7 hc83 rfl (Pb hc83 rfl (nl ((ag) ⟨true, W3, rfl, Le.refl _ _, rfl, hm⟩)))
  ·exact wak 7 hc83 (fl b5 rfl (Lw.ln x0.Heads (h0_1.ul a4) rfl (fl b3 rfl (Lw.ln x1.Heads (h1_1.ul a4) rfl (Lw.ne rfl (Pb hc83 rfl (nl ((ag) ⟨(((x0.Heads.length : Int) : Int) != ((x1.Heads.length : Int) : Int)), W3, rfl, Le.refl _ _, rfl, hm⟩))))))))
theorem p6 {x0 v0_0_ v0_1_ x1 v1_0_ v1_1_ r} (h0 : Rd W K [v0_0_, v0_1_] x0) (h1 : Rd W K [v1_0_, v1_1_] x1) (hm : Vm.laws_smRepo x0 x1 = some r) : Q1 6 [.agg [v0_0_, v0_1_].toArray, .agg [v1_0_, v1_1_].toArray] W [] fun W' v => v = vB r :=
 (c6 (h0.view _) (h1.view _) hm).ad (fk 0) fun _ _ e => e
theorem c33 {x0 v0_0_ v0_1_ x1 v1_ r} (h0 : Rd W0 [0] [v0_0_, v0_1_] x0) (h1 : Rd W0 [0] [v1_] x1) (h99 : Gl 0 W0 [0]) (hm : Vm.impl_Repo_are x0 x1 = some r) : Q0 33 [.agg [v0_0_, v0_1_].toArray, v1_] W0 fun Wf v => v = vB r := by
 unfold Vm.impl_Repo_are at hm
 obtain ⟨w0_0, w0_1, he0, h0_0, h0_1⟩ := Repo.split h0
 simp only [List.cons.injEq, and_true, true_and] at he0
 obtain ⟨rfl, rfl⟩ := he0
 refine CallR.of Tryz.func33 rfl rfl rfl rfl (sr (bo 2 rfl fun g1 W1 l1 b1 => ?_))
 have a2 := l1.o
 refine Nb rfl (ssr (la b1 (ca hm (fun _ => p8 (Repo.rd (K := [0]) x0.Commits x0.Heads (h0_0.ul a2) (h0_1.ul a2)) (h99.ul a2)) fun z6 W8 hm l8 => ?_)))
 have a9 := a2.n l8
 refine Lw.r rfl (R.not rfl) (nl (cn hm (fun hm => ?_) fun hm => ?_))
 ·exact sr (Nb rfl (.ret (rt hm a9)))
 ·refine sk (ssr (mv v1_ rfl (Lw.ln x1 (h1.ul a9) rfl (mi rfl (nl (Cw.block ?_))))))
  obtain ⟨K17, hK17, hm⟩ := jn_e hm
  refine Cw.loop 12 20 [4, 6, 12] (fun m l w => ∃ y13 y15 j14 W16, CW.w W16 = w ∧ Le [] W8 W16 ∧ l = [vB y13, j14, vI y15] ∧ Vm.impl_Repo_are_l1 x0 x1 K17 m y13 y15 = some r) _ ⟨false, 0, undef, W8, rfl, Le.refl _ _, rfl, hm⟩ ?_
  rintro (_ | m18) _ _ σ ⟨y13, y15, j14, W16, rfl, l16, rfl, hm⟩
  ·cases hm
  unfold Vm.impl_Repo_are_l1 at hm
  have a19 := a9.n l16
  refine sr (Lw.lt rfl (nl (Cw.seq (cn hm (fun hm => ?_) fun hm => ?_))))
  ·refine sk (Cw.seq (Cw.block (sr ?_)))
   obtain ⟨u22, e23, hm⟩ := ob hm
   refine Lw.r rfl (R.ix (α := Int) (h1.ul a19) e23 rfl rfl rfl) (Lw.r rfl (R.ld rfl rfl ((h1.ul a19).at_ e23).int) (Ni rfl (sr (la ((b1.up l8).up l16) (mi rfl (ca hm (fun _ => p37 (Repo.rd (K := [0]) x0.Commits x0.Heads (h0_0.ul a19) (h0_1.ul a19))) fun z27 W29 hm l29 => ?_))))))
   have a30 := a19.n l29
   refine Lw.r rfl (R.not rfl) (nl (cn hm (fun hm => ?_) fun hm => ?_))
   ·exact sr (Nb rfl (.ret (rt hm a30)))
   ·exact sk (rg (Lw.add rfl (mi rfl (nl ((agm) ⟨y13, w64 (y15 + 1), vI u22, W29, rfl, (l16.j l29).w, rfl, hm⟩)))))
  ·refine Cw.exit ?_
   rw [hK17] at hm
   exact sr (Nb rfl (.ret (rt hm a19)))
theorem p33 {x0 v0_0_ v0_1_ x1 v1_ r} (h0 : Rd W K [v0_0_, v0_1_] x0) (h1 : Rd W K [v1_] x1) (h99 : Gl 0 W K) (hm : Vm.impl_Repo_are x0 x1 = some r) : Q1 33 [.agg [v0_0_, v0_1_].toArray, v1_] W [] fun W' v => v = vB r :=
 (c33 (h0.view _) (h1.view _) (h99.view _) hm).ad (fk 0) fun _ _ e => e
theorem c30 {x0 v0_0_ v0_1_ x1 v1_ x2 r} (h0 : Rd W0 [0] [v0_0_, v0_1_] x0) (h1 : Rd W0 [0] [v1_] x1) (h99 : Gl 0 W0 [0]) (hm : Vm.impl_Repo_areSuspect x0 x1 x2 = some r) : Q0 30 [.agg [v0_0_, v0_1_].toArray, v1_, vI x2] W0 fun Wf v => v = vB r := by
 unfold Vm.impl_Repo_areSuspect at hm
 obtain ⟨w0_0, w0_1, he0, h0_0, h0_1⟩ := Repo.split h0
 simp only [List.cons.injEq, and_true, true_and] at he0
 obtain ⟨rfl, rfl⟩ := he0
 refine CallR.of Tryz.func30 rfl rfl rfl rfl (sr (bo 2 rfl fun g1 W1 l1 b1 => ?_))
 have a2 := l1.o
 refine Nb rfl ?_
 obtain ⟨K5, hK5, hm⟩ := jn_e hm
 refine Cw.join 7 19 [6] (fun l w => ∃ y3 W4, CW.w W4 = w ∧ Le [] W1 W4 ∧ l = [vB y3] ∧ K5 y3 = some r) ?_ ?_
 ·rintro _ _ σ ⟨y3, W4, rfl, l4, rfl, hm⟩
  rw [hK5] at hm
  have a6 := a2.n l4
  exact .ret (rt hm a6)
 ·refine rg (la b1 (mv v1_ rfl (ca hm (fun _ => p33 (Repo.rd (K := [0]) x0.Commits x0.Heads (h0_0.ul a2) (h0_1.ul a2)) (h1.ul a2) (h99.ul a2)) fun z12 W14 hm l14 => ?_)))
  have a15 := a2.n l14
  refine mb rfl (bs hm (fun hc17 hm => ?_) fun hc17 hm => ?_)
  ·refine wak 3 hc17 (mv v1_ rfl (Lw.ln x1 (h1.ul a15) rfl (Lw.le rfl (Pb hc17 rfl (mb rfl (bs hm (fun hc19 hm => ?_) fun hc19 hm => ?_))))))
   ·exact wak 3 hc19 (la (b1.up l14) (mi rfl (ca hm (fun _ => p37 (Repo.rd (K := [0]) x0.Commits x0.Heads (h0_0.ul a15) (h0_1.ul a15))) fun z22 W24 hm l24 => Pb hc19 rfl (Nb rfl ((ag) ⟨z22, W24, rfl, (l14.j l24).w, rfl, hm⟩)))))
   ·exact psk 3 hc19 rfl (Pb hc19 rfl (Nb rfl ((ag) ⟨false, W14, rfl, l14, rfl, hm⟩)))
  ·exact psk 3 hc17 rfl (Pb hc17 rfl (mb rfl (psk 3 rfl rfl (Pb rfl rfl (Nb rfl ((ag) ⟨false, W14, rfl, l14, rfl, hm⟩))))))
theorem p30 {x0 v0_0_ v0_1_ x1 v1_ x2 r} (h0 : Rd W K [v0_0_, v0_1_] x0) (h1 : Rd W K [v1_] x1) (h99 : Gl 0 W K) (hm : Vm.impl_Repo_areSuspect x0 x1 x2 = some r) : Q1 30 [.agg [v0_0_, v0_1_].toArray, v1_, vI x2] W [] fun W' v => v = vB r :=
 (c30 (h0.view _) (h1.view _) (h99.view _) hm).ad (fk 0) fun _ _ e => e
theorem c31 {x0 v0_0_ v0_1_ x1 x2 v2_ r} (h0 : Rd W0 [0] [v0_0_, v0_1_] x0) (h2 : Rd W0 [0] [v2_] x2) (hm : Vm.impl_Repo_since x0 x1 x2 = some r) : Q0 31 [.agg [v0_0_, v0_1_].toArray, vI x1, v2_] W0 fun Wf v => ∃ u0, v = u0 ∧ OwS Wf LL [] [u0] r := by
 unfold Vm.impl_Repo_since at hm
 obtain ⟨w0_0, w0_1, he0, h0_0, h0_1⟩ := Repo.split h0
 simp only [List.cons.injEq, and_true, true_and] at he0
 obtain ⟨rfl, rfl⟩ := he0
 refine CallR.of Tryz.func31 rfl rfl rfl rfl (sr (bo 2 rfl fun g1 W1 l1 b1 => ?_))
 have a2 := l1.o
 refine Nv (.slice none 0 0) rfl (sr (la b1 (mi rfl (cr hm (fun _ => p40 (k0 := 3) (Repo.rd (K := [0]) x0.Commits x0.Heads (h0_0.ul a2) (h0_1.ul a2))) ?_))))
 rintro z5 v0_7 W7 hm l7 ⟨_, rfl, f7_0⟩
 have a8 := a2.n l7
 refine Nv v0_7 rfl (ssr (mv v2_ rfl (Lw.ln x2 (h2.ul a8) rfl (mi rfl (nl (Cw.block ?_))))))
 obtain ⟨K17, hK17, hm⟩ := jn_e hm
 refine Cw.loop 17 34 [9, 11, 17] (fun m l w => ∃ y13 y14 j11 j12 W16, CW.w W16 = w ∧ Le [3] W7 W16 ∧ l = [j11, j12, vI y13] ∧ Ow W16 3 [] [v0_7] y14 ∧ Vm.impl_Repo_since_l1 x0 x2 K17 m y13 y14 = some r) _ ⟨0, z5, undef, undef, W7, rfl, Le.refl _ _, rfl, f7_0, hm⟩ ?_
 rintro (_ | m18) _ _ σ ⟨y13, y14, j11, j12, W16, rfl, l16, rfl, o15, hm⟩
 ·cases hm
 unfold Vm.impl_Repo_since_l1 at hm
 have a19 := a8.t l16
 refine sr (Lw.lt rfl (nl (Cw.seq (cn hm (fun hm => ?_) fun hm => ?_))))
 ·refine sk (Cw.seq (Cw.block (sr ?_)))
  obtain ⟨u22, e23, hm⟩ := ob hm
  refine Lw.r rfl (R.ix (α := Int) (h2.ul a19) e23 rfl rfl rfl) (Lw.r rfl (R.ld rfl rfl ((h2.ul a19).at_ e23).int) (Ni rfl (sr (la ((b1.up l7).up l16) (mi rfl (cr hm (fun _ => p40 (k0 := 4) (Repo.rd (K := [0]) x0.Commits x0.Heads (h0_0.ul a19) (h0_1.ul a19))) ?_))))))
  rintro z27 v0_29 W29 hm l29 ⟨_, rfl, f29_0⟩
  refine cr hm (fun _ => p17 (K := [4]) (k0 := 5) f29_0.rd) ?_
  rintro z33 v0_35 W35 hm l35 ⟨_, rfl, f35_0⟩
  refine Lw.ln z33 f35_0.rd rfl (mi rfl (nl (Cw.block ?_)))
  obtain ⟨K45, hK45, hm⟩ := jn_e hm
  refine Cw.loop 26 33 [11, 26] (fun m l w => ∃ y41 y42 j40 W44, CW.w W44 = w ∧ Le [3] W35 W44 ∧ l = [j40, vI y41] ∧ Ow W44 3 [] [v0_7] y42 ∧ Vm.impl_Repo_since_l2 z33 K45 m y41 y42 = some r) _ ⟨0, y14, j12, W35, rfl, Le.refl _ _, rfl, ((o15.up l29).up l35), hm⟩ ?_
  rintro (_ | m46) _ _ σ ⟨y41, y42, j40, W44, rfl, l44, rfl, o43, hm⟩
  ·cases hm
  unfold Vm.impl_Repo_since_l2 at hm
  refine sr (Lw.lt rfl (nl (Cw.seq (cn hm (fun hm => ?_) fun hm => ?_))))
  ·refine sk (Cw.seq (Cw.block (sr ?_)))
   obtain ⟨u52, e53, hm⟩ := ob hm
   refine Lw.r rfl (R.ix (α := Int) (f35_0.up l44).rd e53 rfl rfl rfl) (Lw.r rfl (R.ld rfl rfl ((f35_0.up l44).rd.at_ e53).int) (Ni rfl (rg (mv v0_7 rfl (mi rfl ?_)))))
   obtain ⟨u54, e55, hm⟩ := ob hm
   refine Lw.r rfl (R.ix (α := Bool) o43.rd e55 rfl rfl rfl) ?_
   obtain ⟨q57, e58, hm⟩ := ob hm
   refine Lw.u (T.stS (K' := []) o43 (rdB _) e58 rfl rfl rfl) ?_
   rintro _ _ ⟨W56, rfl, l56, o56⟩
   exact nl (rg (Lw.add rfl (mi rfl (nl ((agm) ⟨w64 (y41 + 1), q57, vI u52, W56, rfl, (l44.j l56).w, rfl, o56, hm⟩)))))
  ·refine Cw.exit ?_
   rw [hK45] at hm
   exact rg (Lw.add rfl (mi rfl (nl ((agm) ⟨w64 (y13 + 1), y42, vI u22, j40, W44, rfl, (((l16.j l29).j l35).j l44).w, rfl, o43, hm⟩))))
 ·refine Cw.exit ?_
  rw [hK17] at hm
  refine sr (mv v0_7 rfl (cr hm (fun _ => p17 (K := [3]) (k0 := 6) o15.rd) ?_))
  rintro z63 v0_65 W65 hm l65 ⟨_, rfl, f65_0⟩
  have a66 := a19.n l65
  refine Nv v0_65 rfl ?_
  cases hm
  exact Cw.ret (ret1 rfl (Res.mk a66 ⟨v0_65, rfl, f65_0.s.sub rfl rfl⟩))
theorem p31 {x0 v0_0_ v0_1_ x1 x2 v2_ k0 r} (h0 : Rd W K [v0_0_, v0_1_] x0) (h2 : Rd W K [v2_] x2) (hm : Vm.impl_Repo_since x0 x1 x2 = some r) : Q1 31 [.agg [v0_0_, v0_1_].toArray, vI x1, v2_] W [] fun W' v => ∃ u0, v = u0 ∧ Ow W' k0 [] [u0] r :=
 (c31 (h0.view _) (h2.view _) hm).ad (fk k0) fun _ _ ⟨u0, e, f0⟩ => ⟨u0, e, f0.back (fk_LL _)⟩
theorem c32 {x0 v0_ x1 r} (h0 : Rd W0 [0] [v0_] x0) (hm : Vm.slices_Index_int_int x0 x1 = some r) : Q0 32 [v0_, vI x1] W0 fun Wf v => v = vI r := by
 unfold Vm.slices_Index_int_int at hm
 refine CallR.of Tryz.func32 rfl rfl rfl rfl (sr (Ni rfl (ssr (mv v0_ rfl (Lw.ln x0 h0 rfl (mi rfl (nl (Cw.block ?_))))))))
 obtain ⟨K5, hK5, hm⟩ := jn_e hm
 refine Cw.loop 8 18 [4, 5, 8] (fun m l w => ∃ y1 y3 j2 W4, CW.w W4 = w ∧ Le [] W0 W4 ∧ l = [vI y1, j2, vI y3] ∧ Vm.slices_Index_int_int_l1 x0 x1 K5 m y1 y3 = some r) _ ⟨0, 0, undef, W0, rfl, Le.refl _ _, rfl, hm⟩ ?_
 rintro (_ | m6) _ _ σ ⟨y1, y3, j2, W4, rfl, l4, rfl, hm⟩
 ·cases hm
 unfold Vm.slices_Index_int_int_l1 at hm
 have a7 := l4.o
 refine sr (Lw.lt rfl (nl (Cw.seq (cn hm (fun hm => ?_) fun hm => ?_))))
 ·refine sk (Cw.seq (Cw.block (sr (mi rfl (Ni rfl (sr (mi rfl (mv v0_ rfl (mi rfl ?_)))))))))
  obtain ⟨u9, e10, hm⟩ := ob hm
  refine Lw.r rfl (R.ix (α := Int) (h0.ul a7) e10 rfl rfl rfl) (Lw.r rfl (R.ld rfl rfl ((h0.ul a7).at_ e10).int) (Lw.eq rfl (nl (cn hm (fun hm => ?_) fun hm => ?_))))
  ·exact sr (mi rfl (Ni rfl (.ret (rt hm a7))))
  ·exact sk (rg (Lw.add rfl (mi rfl (nl ((agm) ⟨y1, w64 (y3 + 1), vI y3, W4, rfl, l4, rfl, hm⟩)))))
 ·refine Cw.exit ?_
  rw [hK5] at hm
  exact sr (Ni rfl (.ret (rt hm a7)))
theorem p32 {x0 v0_ x1 r} (h0 : Rd W K [v0_] x0) (hm : Vm.slices_Index_int_int x0 x1 = some r) : Q1 32 [v0_, vI x1] W [] fun W' v => v = vI r :=
 (c32 (h0.view _) hm).ad (fk 0) fun _ _ e => e
end Go.Sx
