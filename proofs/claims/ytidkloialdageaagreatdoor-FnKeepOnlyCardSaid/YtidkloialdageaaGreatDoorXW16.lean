/- Walks: each function answers as its model, printed by a program of ours. Conditions: the arguments read as they are given. -/
import Derived.Test.YtidkloialdageaaGreatDoorXTs
import Derived.Test.YtidkloialdageaaGreatDoorXM8
import Derived.Test.YtidkloialdageaaGreatDoorXW1
import Derived.Test.YtidkloialdageaaGreatDoorXW10
import Derived.Test.YtidkloialdageaaGreatDoorXW15
import Derived.Test.YtidkloialdageaaGreatDoorXW6
import Derived.Test.YtidkloialdageaaGreatDoorXW7
namespace Go.Sx
open Go Go.Proofs Go.Vm Rp
set_option linter.unusedVariables false
set_option linter.unusedSimpArgs false

variable {W W0 : CW} {K : List Nat}
theorem c55 {x0 v0_0_ v0_1_ r} (h0 : Rd W0 [0] [v0_0_, v0_1_] x0) (hm : Vm.spec_KeepOnly x0 = some r) : Q0 55 [.agg [v0_0_, v0_1_].toArray] W0 fun Wf v => ∃ u0_0 u0_1, v = .agg [u0_0, u0_1].toArray ∧ OwS Wf [31] [] [u0_0] r.Commits ∧ OwS Wf [32] [] [u0_1] r.Heads := by
 unfold Vm.spec_KeepOnly at hm
 obtain ⟨w0_0, w0_1, he0, h0_0, h0_1⟩ := Repo.split h0
 simp only [List.cons.injEq, and_true, true_and] at he0
 obtain ⟨rfl, rfl⟩ := he0
 refine CallR.of Tryz.func55 rfl rfl rfl rfl (sr (bo 2 rfl fun g1 W1 l1 b1 => ?_))
 have a2 := l1.o
 refine al 3 [.slice none 0 0, .slice none 0 0] fun g3 W3 l3 b3 => ?_
 have a4 := a2.n l3
 refine nl (sr (Lw.r rfl (R.bd (zs := [.slice none 0 0, .slice none 0 0]) (cs := [.slice none 0 0, .slice none 0 0]) [] rfl rfl rfl bp_nil) (al 4 [.slice none 0 0, .slice none 0 0] fun g6 W6 l6 b6 => ?_)))
 have a7 := a4.n l6
 refine sta b6 (oc_cons rfl (oc_cons rfl oc_nil)) fun W10 l10 b10 => ?_
 have a11 := a7.t l10
 have b12 := ((b1.up l3).up l6).up l10
 refine nl (ssr (la b12 (ca hm (fun _ => p74 (Repo.rd (K := [0]) x0.Commits x0.Heads (h0_0.ul a11) (h0_1.ul a11))) fun z16 W18 hm l18 => ?_)))
 have a19 := a11.n l18
 have b21 := ((b3.up l6).up l10).up l18
 refine Lw.r rfl (R.not rfl) (nl (cn hm (fun hm => ?_) fun hm => ?_))
 ·refine sr (la (b10.up l18) (sta b21 (oc_cons rfl (oc_cons rfl oc_nil)) fun W24 l24 b24 => ?_))
  have a25 := a19.t l24
  refine nl ?_
  cases hm
  exact Cw.ret (retA1 rfl b24 (Res.mk a25 ⟨.slice none 0 0, .slice none 0 0, rfl, (owsN []).sub rfl rfl, (owsN []).sub rfl rfl⟩))
 ·refine sk (sr (la (b12.up l18) (cr hm (fun _ => p125 (k0 := 5) (Repo.rd (K := [0]) x0.Commits x0.Heads (h0_0.ul a19) (h0_1.ul a19))) ?_)))
  rintro z30 v0_32 W32 hm l32 ⟨_, rfl, f32_0⟩
  have a33 := a19.n l32
  refine Nv v0_32 rfl (ssr (Ni rfl (Cw.block ?_)))
  obtain ⟨K48, hK48, hm⟩ := jn_e hm
  refine Cw.loop 16 54 [5, 6, 7] (fun m l w => ∃ y37 y40 y43 j38 j39 v41 v44 W47, CW.w W47 = w ∧ Le [4, 6, 8, 9, 10] W32 W47 ∧ l = [vI y37, j38, j39] ∧ Ow W47 6 [] [v41] y40 ∧ Ow W47 7 [] [v44] y43 ∧ Bx W47 4 g6 [v41, v44] ∧ Vm.spec_KeepOnly_l1 x0 z30 K48 m y37 y40 y43 = some r) _ ⟨0, ([] : List Commit), ([] : List Head), undef, undef, .slice none 0 0, .slice none 0 0, W32, rfl, Le.refl _ _, rfl, owN 6 [], owN 7 [], ((b10.up l18).up l32), hm⟩ ?_
  rintro (_ | m49) _ _ σ ⟨y37, y40, y43, j38, j39, v41, v44, W47, rfl, l47, rfl, o42, o45, b46, hm⟩
  ·cases hm
  unfold Vm.spec_KeepOnly_l1 at hm
  have a50 := a33.t l47
  have o51 := f32_0.up l47
  have b52 := ((b12.up l18).up l32).up l47
  refine ssr (mi rfl (mv v0_32 rfl (Lw.ln z30 o51.rd rfl (Lw.lt rfl (nl (cn hm (fun hm => ?_) fun hm => ?_))))))
  ·refine sk (Cw.seq (Cw.block (Cw.seq ?_)))
   obtain ⟨u63, e64, hm⟩ := ob hm
   obtain ⟨u65, e66, hm⟩ := ob hm
   obtain ⟨z75, e76, hm⟩ := ob hm
   refine Cw.par [[], [0], [], [], [2, 3], [2, 3, 4], [0, 1, 2, 3, 4, 5], [0, 1, 2, 3, 4, 5, 6], [0, 1, 2, 3, 4, 5, 6, 7], [], [0, 1, 2, 3, 4, 5, 6, 7, 8, 9]] [[], [0], [], [], [2, 3], [4], [1, 5], [6], [7], [], [8, 9]] [[], [], [], [], [], [], [], [], [], [], [10]] [[0], [1], [2], [3], [4], [5], [6], [7], [8], [9], [8, 9]] [[], [], [], [], [], [], [], [0], [8, 9], [10], [10]] [0, 1, 2, 3, 4, 5, 6, 7, 8, 10] [10] [fun vs W => (vs 0) = ptr ((bx g1).add 0), fun vs W => (vs 1) = v0_0_, fun vs W => (vs 2) = v0_32, fun vs W => (vs 3) = vI y37, fun vs W => (vs 4) = ptr ((slA v0_32).add ((y37).toNat * Rp.sz (Int))), fun vs W => (vs 5) = vI u63, fun vs W => (vs 6) = ptr ((slA v0_0_).add ((u63).toNat * Rp.sz (Commit))), fun vs W => (vs 7) = .agg [(cellOf (vs 7) 0), vS u65.Who, (cellOf (vs 7) 2)].toArray ∧ Rd W [0] [(cellOf (vs 7) 0)] u65.Parents ∧ Rd W [0] [(cellOf (vs 7) 2)] u65.Tree, fun vs W => (vs 8) = .agg [(cellOf (vs 8) 0), vS z75.Who, (cellOf (vs 8) 2)].toArray ∧ Ow W 8 [] [(cellOf (vs 8) 0)] z75.Parents ∧ Ow W 9 [] [(cellOf (vs 8) 2)] z75.Tree, fun vs W => (vs 9) = ptr (bx (pg (vs 9))) ∧ Bx W 10 (pg (vs 9)) [.slice none 0 0, vS ([] : Str), .slice none 0 0], fun vs W => (vs 9) = ptr (bx (pg (vs 9))) ∧ Bx W 10 (pg (vs 9)) [(cellOf (vs 8) 0), vS z75.Who, (cellOf (vs 8) 2)]] [] mixed (by kernel_rfl) rfl AllF.nil ?_
   intro W105 l105
   have a106 := a50.n l105
   have o107 := o51.up l105
   refine ⟨(Steps.cons ?_ (Steps.cons ?_ (Steps.cons ?_ (Steps.cons ?_ (Steps.cons ?_ (Steps.cons ?_ (Steps.cons ?_ (Steps.cons ?_ (Steps.cons ?_ (Steps.cons ?_ (Steps.cons ?_ Steps.nil))))))))))), (Sups.cons (fun vs vs' W W' _ hv l hd h => by (show (vs' 0) = ptr ((bx g1).add 0)); rw [hv 0 (anyb rfl)]; exact h) (Sups.cons (fun vs vs' W W' _ hv l hd h => by (show (vs' 1) = v0_0_); rw [hv 1 (anyb rfl)]; exact h) (Sups.cons (fun vs vs' W W' _ hv l hd h => by (show (vs' 2) = v0_32); rw [hv 2 (anyb rfl)]; exact h) (Sups.cons (fun vs vs' W W' _ hv l hd h => by (show (vs' 3) = vI y37); rw [hv 3 (anyb rfl)]; exact h) (Sups.cons (fun vs vs' W W' _ hv l hd h => by (show (vs' 4) = ptr ((slA v0_32).add ((y37).toNat * Rp.sz (Int)))); rw [hv 4 (anyb rfl)]; exact h) (Sups.cons (fun vs vs' W W' _ hv l hd h => by (show (vs' 5) = vI u63); rw [hv 5 (anyb rfl)]; exact h) (Sups.cons (fun vs vs' W W' _ hv l hd h => by (show (vs' 6) = ptr ((slA v0_0_).add ((u63).toNat * Rp.sz (Commit)))); rw [hv 6 (anyb rfl)]; exact h) (Sups.cons (fun vs vs' W W' _ hv l hd h => by (show (vs' 7) = .agg [(cellOf (vs' 7) 0), vS u65.Who, (cellOf (vs' 7) 2)].toArray ∧ Rd W' [0] [(cellOf (vs' 7) 0)] u65.Parents ∧ Rd W' [0] [(cellOf (vs' 7) 2)] u65.Tree); rw [hv 7 (anyb rfl)]; exact ⟨h.1, h.2.1.up l (disj_sub hd (K := [0]) rfl), h.2.2.up l (disj_sub hd (K := [0]) rfl)⟩) (Sups.cons (fun vs vs' W W' _ hv l hd h => by (show (vs' 8) = .agg [(cellOf (vs' 8) 0), vS z75.Who, (cellOf (vs' 8) 2)].toArray ∧ Ow W' 8 [] [(cellOf (vs' 8) 0)] z75.Parents ∧ Ow W' 9 [] [(cellOf (vs' 8) 2)] z75.Tree); rw [hv 8 (anyb rfl)]; exact ⟨h.1, h.2.1.upv l (disj_mem hd (c := 8) rfl), h.2.2.upv l (disj_mem hd (c := 9) rfl)⟩) (Sups.cons (fun vs vs' W W' _ hv l hd h => by (show (vs' 9) = ptr (bx (pg (vs' 9))) ∧ Bx W' 10 (pg (vs' 9)) [.slice none 0 0, vS ([] : Str), .slice none 0 0]); rw [hv 9 (anyb rfl)]; exact ⟨h.1, h.2.up l (disj_mem hd (c := 10) rfl)⟩) (Sups.cons (fun vs vs' W W' _ hv l hd h => by (show (vs' 9) = ptr (bx (pg (vs' 9))) ∧ Bx W' 10 (pg (vs' 9)) [(cellOf (vs' 8) 0), vS z75.Who, (cellOf (vs' 8) 2)]); rw [hv 8 (anyb rfl), hv 9 (anyb rfl)]; exact ⟨h.1, h.2.up l (disj_mem hd (c := 10) rfl)⟩) Sups.nil))))))))))), ?_⟩
   ·intro vs W lW hN
    obtain ⟨W113, hW113⟩ : ∃ X, X = W := ⟨W, rfl⟩
    subst hW113
    refine Tr.mono (Run.tr (R.fa rfl)) ?_
    rintro _ _ ⟨hu, rfl⟩
    obtain rfl := hu.symm
    exact ⟨W113, rfl, Le.refl _ _, (show (ptr ((bx g1).add 0) : Value) = ptr ((bx g1).add 0) from rfl)⟩
   ·intro vs W lW hN
    obtain ⟨W121, hW121⟩ : ∃ X, X = W := ⟨W, rfl⟩
    subst hW121
    have e0_ : vs 0 = ptr ((bx g1).add 0) := (hN 0 (anyb rfl))
    obtain ⟨vs, rfl⟩ := up_eq e0_
    refine Tr.mono (Run.tr (R.ld (v := v0_0_) rfl rfl (((b52.up l105).up lW rfl).cell rfl))) ?_
    rintro _ _ ⟨hu, rfl⟩
    obtain rfl := hu.symm
    exact ⟨W121, rfl, Le.refl _ _, (show (v0_0_ : Value) = v0_0_ from rfl)⟩
   ·intro vs W lW hN
    obtain ⟨W129, hW129⟩ : ∃ X, X = W := ⟨W, rfl⟩
    subst hW129
    refine Tr.mono (Run.tr (R.mv (v := v0_32) rfl)) ?_
    rintro _ _ ⟨hu, rfl⟩
    obtain rfl := hu.symm
    exact ⟨W129, rfl, Le.refl _ _, (show (v0_32 : Value) = v0_32 from rfl)⟩
   ·intro vs W lW hN
    obtain ⟨W137, hW137⟩ : ∃ X, X = W := ⟨W, rfl⟩
    subst hW137
    refine Tr.mono (Run.tr (R.mv (v := vI y37) rfl)) ?_
    rintro _ _ ⟨hu, rfl⟩
    obtain rfl := hu.symm
    exact ⟨W137, rfl, Le.refl _ _, (show (vI y37 : Value) = vI y37 from rfl)⟩
   ·intro vs W lW hN
    obtain ⟨W145, hW145⟩ : ∃ X, X = W := ⟨W, rfl⟩
    subst hW145
    have e2_ : vs 2 = v0_32 := (hN 2 (anyb rfl))
    obtain ⟨vs, rfl⟩ := up_eq e2_
    have e3_ : vs 3 = vI y37 := (hN 3 (anyb rfl))
    obtain ⟨vs, rfl⟩ := up_eq e3_
    refine Tr.mono (Run.tr (R.ix (α := Int) (o107.up lW rfl).rd e64 rfl rfl rfl)) ?_
    rintro _ _ ⟨hu, rfl⟩
    obtain rfl := hu.symm
    exact ⟨W145, rfl, Le.refl _ _, (show (ptr ((slA v0_32).add ((y37).toNat * Rp.sz (Int))) : Value) = ptr ((slA v0_32).add ((y37).toNat * Rp.sz (Int))) from rfl)⟩
   ·intro vs W lW hN
    obtain ⟨W153, hW153⟩ : ∃ X, X = W := ⟨W, rfl⟩
    subst hW153
    have e4_ : vs 4 = ptr ((slA v0_32).add ((y37).toNat * Rp.sz (Int))) := (hN 4 (anyb rfl))
    obtain ⟨vs, rfl⟩ := up_eq e4_
    refine Tr.mono (Run.tr (R.ld rfl rfl ((o107.up lW rfl).rd.at_ e64).int)) ?_
    rintro _ _ ⟨hu, rfl⟩
    obtain rfl := hu.symm
    exact ⟨W153, rfl, Le.refl _ _, (show (vI u63 : Value) = vI u63 from rfl)⟩
   ·intro vs W lW hN
    obtain ⟨W161, hW161⟩ : ∃ X, X = W := ⟨W, rfl⟩
    subst hW161
    have a162 := a106.t lW rfl
    have e1_ : vs 1 = v0_0_ := (hN 1 (anyb rfl))
    obtain ⟨vs, rfl⟩ := up_eq e1_
    have e5_ : vs 5 = vI u63 := (hN 5 (anyb rfl))
    obtain ⟨vs, rfl⟩ := up_eq e5_
    refine Tr.mono (Run.tr (R.ix (α := Commit) (h0_0.ul a162) e66 rfl rfl rfl)) ?_
    rintro _ _ ⟨hu, rfl⟩
    obtain rfl := hu.symm
    exact ⟨W161, rfl, Le.refl _ _, (show (ptr ((slA v0_0_).add ((u63).toNat * Rp.sz (Commit))) : Value) = ptr ((slA v0_0_).add ((u63).toNat * Rp.sz (Commit))) from rfl)⟩
   ·intro vs W lW hN
    obtain ⟨W170, hW170⟩ : ∃ X, X = W := ⟨W, rfl⟩
    subst hW170
    have a171 := a106.t lW rfl
    have e6_ : vs 6 = ptr ((slA v0_0_).add ((u63).toNat * Rp.sz (Commit))) := (hN 6 (anyb rfl))
    obtain ⟨vs, rfl⟩ := up_eq e6_
    obtain ⟨x179, c180, _, r181⟩ := ((h0_0.ul a171).at_ e66).cells
    obtain ⟨v182, v184, rfl, r183, r185⟩ := Commit.split r181
    refine Tr.mono (Run.tr (R.lda c180 rfl rfl)) ?_
    rintro _ _ ⟨hu, rfl⟩
    obtain rfl := hu.symm
    exact ⟨W170, rfl, Le.refl _ _, (show (.agg [v182, vS u65.Who, v184].toArray : Value) = .agg [v182, vS u65.Who, v184].toArray ∧ Rd W170 [0] [v182] u65.Parents ∧ Rd W170 [0] [v184] u65.Tree from ⟨rfl, r183, r185⟩)⟩
   ·intro vs W lW hN
    obtain ⟨W186, hW186⟩ : ∃ X, X = W := ⟨W, rfl⟩
    subst hW186
    obtain ⟨pc7_0, pc7_2, e7_⟩ : ∃ pc7_0 pc7_2 : Value, vs 7 = .agg [pc7_0, vS u65.Who, pc7_2].toArray := ⟨_, _, (hN 7 (anyb rfl)).1⟩
    obtain ⟨vs, rfl⟩ := up_eq e7_
    have o194 : Rd W186 [0] [pc7_0] u65.Parents := (hN 7 (anyb rfl)).2.1
    have o195 : Rd W186 [0] [pc7_2] u65.Tree := (hN 7 (anyb rfl)).2.2
    refine Tr.mono (T.call rfl (p119 (k0 := 8) (k1 := 9) (Commit.rd (K := [0]) u65.Parents u65.Who u65.Tree o194 o195) e76)) ?_
    rintro _ _ ⟨W196, rfl, l196, ⟨v0_0_196, v0_2_196, rfl, f196_0, f196_1⟩⟩
    exact ⟨W196, rfl, l196, (show (.agg [v0_0_196, vS z75.Who, v0_2_196].toArray : Value) = .agg [v0_0_196, vS z75.Who, v0_2_196].toArray ∧ Ow W196 8 [] [v0_0_196] z75.Parents ∧ Ow W196 9 [] [v0_2_196] z75.Tree from ⟨rfl, f196_0, f196_1⟩)⟩
   ·intro vs W lW hN
    obtain ⟨W204, hW204⟩ : ∃ X, X = W := ⟨W, rfl⟩
    subst hW204
    refine Tr.mono (T.alloc 10 (cs := [.slice none 0 0, vS ([] : Str), .slice none 0 0]) rfl) ?_
    rintro _ _ ⟨g212, W212, rfl, rfl, l212, b212⟩
    exact ⟨W212, rfl, l212, (show (ptr (bx g212) : Value) = ptr (bx g212) ∧ Bx W212 10 g212 [.slice none 0 0, vS ([] : Str), .slice none 0 0] from ⟨rfl, b212⟩)⟩
   ·intro vs W lW hN
    obtain ⟨W220, hW220⟩ : ∃ X, X = W := ⟨W, rfl⟩
    subst hW220
    obtain ⟨pc8_0, pc8_2, e8_⟩ : ∃ pc8_0 pc8_2 : Value, vs 8 = .agg [pc8_0, vS z75.Who, pc8_2].toArray := ⟨_, _, (hN 8 (anyb rfl)).1⟩
    obtain ⟨vs, rfl⟩ := up_eq e8_
    have o228 : Ow W220 8 [] [pc8_0] z75.Parents := (hN 8 (anyb rfl)).2.1
    have o229 : Ow W220 9 [] [pc8_2] z75.Tree := (hN 8 (anyb rfl)).2.2
    obtain ⟨pg9, e9_⟩ : ∃ pg9, vs 9 = ptr (bx pg9) := ⟨_, ((hN 9 (anyb rfl))).1⟩
    obtain ⟨vs, rfl⟩ := up_eq e9_
    have o230 : Bx W220 10 pg9 [.slice none 0 0, vS ([] : Str), .slice none 0 0] := (hN 9 (anyb rfl)).2
    refine Tr.mono (T.sta (vs := [pc8_0, vS z75.Who, pc8_2]) o230 rfl rfl (oc_cons o228.oc (oc_cons rfl (oc_cons o229.oc oc_nil))) rfl rfl) ?_
    rintro _ _ ⟨W231, rfl, l231, b231⟩
    exact ⟨W231, rfl, l231, (show (ptr (bx pg9)) = ptr (bx pg9) ∧ Bx W231 10 pg9 [pc8_0, vS z75.Who, pc8_2] from ⟨rfl, b231⟩)⟩
   ·intro vs W lW hN
    obtain ⟨W241, hW241⟩ : ∃ X, X = W := ⟨W, rfl⟩
    subst hW241
    obtain ⟨l241, hl241⟩ : ∃ x, x = lW := ⟨lW, rfl⟩
    have e0_ : vs 0 = ptr ((bx g1).add 0) := (hN 0 (anyb rfl))
    obtain ⟨vs, rfl⟩ := up_eq e0_
    have e1_ : vs 1 = v0_0_ := (hN 1 (anyb rfl))
    obtain ⟨vs, rfl⟩ := up_eq e1_
    have e2_ : vs 2 = v0_32 := (hN 2 (anyb rfl))
    obtain ⟨vs, rfl⟩ := up_eq e2_
    have e3_ : vs 3 = vI y37 := (hN 3 (anyb rfl))
    obtain ⟨vs, rfl⟩ := up_eq e3_
    have e4_ : vs 4 = ptr ((slA v0_32).add ((y37).toNat * Rp.sz (Int))) := (hN 4 (anyb rfl))
    obtain ⟨vs, rfl⟩ := up_eq e4_
    have e5_ : vs 5 = vI u63 := (hN 5 (anyb rfl))
    obtain ⟨vs, rfl⟩ := up_eq e5_
    have e6_ : vs 6 = ptr ((slA v0_0_).add ((u63).toNat * Rp.sz (Commit))) := (hN 6 (anyb rfl))
    obtain ⟨vs, rfl⟩ := up_eq e6_
    obtain ⟨pc7_0, pc7_2, e7_⟩ : ∃ pc7_0 pc7_2 : Value, vs 7 = .agg [pc7_0, vS u65.Who, pc7_2].toArray := ⟨_, _, (hN 7 (anyb rfl)).1⟩
    obtain ⟨vs, rfl⟩ := up_eq e7_
    have o249 : Rd W241 [0] [pc7_0] u65.Parents := (hN 7 (anyb rfl)).2.1
    have o250 : Rd W241 [0] [pc7_2] u65.Tree := (hN 7 (anyb rfl)).2.2
    obtain ⟨pc8_0, pc8_2, e8_⟩ : ∃ pc8_0 pc8_2 : Value, vs 8 = .agg [pc8_0, vS z75.Who, pc8_2].toArray := ⟨_, _, (hN 8 (anyb rfl)).1⟩
    obtain ⟨vs, rfl⟩ := up_eq e8_
    have o251 : Ow W241 8 [] [pc8_0] z75.Parents := (hN 8 (anyb rfl)).2.1
    have o252 : Ow W241 9 [] [pc8_2] z75.Tree := (hN 8 (anyb rfl)).2.2
    obtain ⟨pg9, e9_⟩ : ∃ pg9, vs 9 = ptr (bx pg9) := ⟨_, (hN 10 (anyb rfl)).1⟩
    obtain ⟨vs, rfl⟩ := up_eq e9_
    have o253 : Bx W241 10 pg9 [pc8_0, vS z75.Who, pc8_2] := (hN 10 (anyb rfl)).2
    refine ssr (Ni rfl (Cw.block ?_))
    obtain ⟨K258, hK258, hm⟩ := jn_e hm
    refine Cw.loop 31 48 [7] (fun m l w => ∃ y254 y255 W257, CW.w W257 = w ∧ Le [8] W241 W257 ∧ l = [vI y254] ∧ Ow W257 8 [] [pc8_0] y255 ∧ Vm.spec_KeepOnly_l2 z30 K258 m y254 y255 = some r) _ ⟨0, z75.Parents, W241, rfl, Le.refl _ _, rfl, o251, hm⟩ ?_
    rintro (_ | m259) _ _ σ ⟨y254, y255, W257, rfl, l257, rfl, o256, hm⟩
    ·cases hm
    unfold Vm.spec_KeepOnly_l2 at hm
    have b267 := ((b46.up l105).up lW rfl).up l257
    have b268 := o253.up l257
    refine ssr (mi rfl (fl b268 rfl (Lw.ln y255 o256.rd rfl (Lw.lt rfl (nl (cn hm (fun hm => ?_) fun hm => ?_))))))
    ·refine sk (Cw.seq (Cw.block (Cw.draw [] [(0, 0), (1, 1), (2, 0), (3, 0), (4, 0), (5, 1), (6, 0), (7, 0), (8, 1), (9, 2), (10, 0), (11, 3)] mixed (by kernel_rfl) fun W270 l270 => ?_)))
     have o275 := o256.up l270
     refine Dfl (b268.up l270) rfl rfl rfl (Di rfl (Dv v0_32 rfl (Dfl (b268.up l270) rfl rfl rfl (Di rfl ?_))))
     obtain ⟨u281, e282, hm⟩ := ob hm
     refine Mw.p rfl rfl (fun _ => R.ix (α := Int) o275.rd e282 rfl rfl rfl) (Mw.q rfl rfl (fun _ c => R.ld rfl rfl (cl_cell (o275.rd.at_ e282).1 rfl (o275.rd.at_ e282).int c)) (Dc hm (Le.refl _ _) (fun _ => p120 (K := [5]) (((o107.up lW rfl).up l257).up l270).rd) rfl ?_))
     rintro z283 _ W285 hm l285 rfl d285
     obtain ⟨u296, e297, hm⟩ := ob hm
     refine Mw.p rfl rfl (fun _ => R.ix (α := Int) o275.rd e297 rfl rfl rfl) ?_
     obtain ⟨q299, e300, hm⟩ := ob hm
     refine Mw.lu rfl (T.stS (K' := []) (o275.up l285) (rdI _) e300 rfl rfl rfl) ?_
     rintro _ _ ⟨W298, rfl, l298, o298⟩
     exact Mw.nil (rg (mi rfl (Lw.add rfl (Ni rfl ((agm) ⟨w64 (y254 + 1), q299, W298, rfl, (((l257.j l270).j l285).j l298).w, rfl, o298, hm⟩)))))
    ·refine Cw.exit ?_
     rw [hK258] at hm
     refine rg (fl b267 rfl (la b268 (Lw.t rfl (T.bs 11 [.agg [pc8_0, vS z75.Who, pc8_2].toArray] (cs := [pc8_0, vS z75.Who, pc8_2]) rfl rfl (bsA rfl)) ?_)))
     rintro _ _ ⟨g310, W310, rfl, rfl, l310, b310⟩
     obtain ⟨q321, e322, hm⟩ := ob hm
     refine Lw.t rfl (T.app1 (α := Commit) (J := [8, 9]) (K' := []) ((((o42.up l105).up lW rfl).up l257).up l310) b310 (Commit.own y255 z75.Who z75.Tree (o256.up l310).s ((o252.up l257).up l310).s) rfl rfl e322) ?_
     rintro v323 _ ⟨W323, rfl, l323, o323⟩
     refine Lw.fa rfl (Lw.u (T.st (j := 0) (v := v323) ((b267.up l310).up l323) rfl rfl o323.oc rfl rfl) ?_)
     rintro _ _ ⟨W332, rfl, l332, b332⟩
     exact nl (rg (mi rfl (Lw.add rfl (Ni rfl ((agm) ⟨w64 (y37 + 1), q321, y43, ptr (bx pg9), vI y254, v323, v44, W332, rfl, ((((((l47.j l105).j l241).j l257).j l310).j l323).j l332).w, rfl, (o323.up l332), ((((((o45.up l105).up lW rfl).up l257).up l310).up l323).up l332), b332, hm⟩)))))
  ·refine Cw.exit ?_
   rw [hK48] at hm
   refine ssr (Ni rfl (Cw.block ?_))
   obtain ⟨K350, hK350, hm⟩ := jn_e hm
   refine Cw.loop 55 81 [8] (fun m l w => ∃ y341 y342 y345 v343 v346 W349, CW.w W349 = w ∧ Le [4, 7] W47 W349 ∧ l = [vI y341] ∧ Ow W349 6 [] [v343] y342 ∧ Ow W349 7 [] [v346] y345 ∧ Bx W349 4 g6 [v343, v346] ∧ Vm.spec_KeepOnly_l3 x0 z30 K350 m y341 y342 y345 = some r) _ ⟨0, y40, y43, v41, v44, W47, rfl, Le.refl _ _, rfl, o42, o45, b46, hm⟩ ?_
   rintro (_ | m351) _ _ σ ⟨y341, y342, y345, v343, v346, W349, rfl, l349, rfl, o344, o347, b348, hm⟩
   ·cases hm
   unfold Vm.spec_KeepOnly_l3 at hm
   have a352 := a50.t l349
   refine ssr (mi rfl (fl (b52.up l349) rfl (Lw.ln x0.Heads (h0_1.ul a352) rfl (Lw.lt rfl (nl (cn hm (fun hm => ?_) fun hm => ?_))))))
   ·refine sk (Cw.seq (Cw.block (Cw.draw [7] [(0, 0), (1, 1), (2, 0), (3, 1), (4, 0), (5, 0), (6, 0), (7, 1), (8, 0), (9, 0), (10, 1), (11, 0), (12, 0), (13, 0), (14, 1), (15, 2), (16, 0), (17, 2), (18, 2), (19, 0), (20, 3)] mixed (by kernel_rfl) fun W358 l358 => ?_)))
    have a359 := a352.n l358
    have b363 := (b52.up l349).up l358
    refine Dfl (b348.up l358) rfl rfl rfl (Dfl b363 rfl rfl rfl (Di rfl ?_))
    obtain ⟨u366, e367, hm⟩ := ob hm
    have s368 := h0_1.ul a359
    refine Mw.p rfl rfl (fun _ => R.ix (α := Head) s368 e367 rfl rfl rfl) (Df rfl (Mw.q rfl rfl (fun _ c => R.ld rfl rfl (cl_cell (Head.at0 (s368.at_ e367)).1 rfl (Head.at0 (s368.at_ e367)).str c)) (Dv v0_32 rfl (Dfl b363 rfl rfl rfl (Di rfl ?_)))))
    obtain ⟨u369, e370, hm⟩ := ob hm
    refine Mw.p rfl rfl (fun _ => R.ix (α := Head) s368 e370 rfl rfl rfl) (Df rfl (Mw.q rfl rfl (fun _ c => R.ld rfl rfl (cl_cell (Head.at1 (s368.at_ e370)).1 rfl (Head.at1 (s368.at_ e370)).int c)) (Dc hm (Le.refl _ _) (fun _ => p120 (K := [5]) ((o51.up l349).up l358).rd) rfl ?_)))
    rintro z371 _ W373 hm l373 rfl d373
    refine Mw.p rfl rfl (fun _ => R.bd (zs := [vS ([] : Str), vI 0]) (cs := [vS u366.Name, vI z371]) [(0, vS u366.Name), (1, vI z371)] rfl rfl rfl (bp_cons rfl rfl (bp_cons rfl rfl bp_nil))) (Mw.t rfl rfl (T.bs 12 [.agg [vS u366.Name, vI z371].toArray] (cs := [vS u366.Name, vI z371]) rfl rfl (bsA rfl)) ?_)
    rintro _ _ ⟨g381, W381, rfl, rfl, l381, b381⟩
    refine mc d373 l381 fun d381 => ?_
    obtain ⟨q389, e390, hm⟩ := ob hm
    refine Mw.t rfl rfl (T.app1S (α := Head) (K' := []) (((o347.up l358).up l373).up l381) b381 (Head.rd (K := []) u366.Name z371) rfl rfl e390) ?_
    rintro v391 _ ⟨W391, rfl, l391, o391⟩
    refine mc d381 l391 fun d391 => Df rfl (Mw.lu rfl (T.st (j := 1) (v := v391) ((((b348.up l358).up l373).up l381).up l391) rfl rfl o391.oc rfl rfl) ?_)
    rintro _ _ ⟨W399, rfl, l399, b399⟩
    exact Mw.nil (rg (mi rfl (Lw.add rfl (Ni rfl ((agm) ⟨w64 (y341 + 1), y342, q389, v343, v391, W399, rfl, (((((l349.j l358).j l373).j l381).j l391).j l399).w, rfl, (((((o344.up l358).up l373).up l381).up l391).up l399), (o391.up l399), b399, hm⟩)))))
   ·refine Cw.exit ?_
    rw [hK350] at hm
    refine sr (la b348 (sta (((b21.up l32).up l47).up l349) (oc_cons o344.oc (oc_cons o347.oc oc_nil)) fun W407 l407 b407 => ?_))
    have a408 := a352.t l407
    refine nl ?_
    obtain ⟨W414, ew414, l414, o414⟩ := (o344.up l407).dyeO 31
    have a415 := a408.t l414
    obtain ⟨W421, ew421, l421, o421⟩ := ((o347.up l407).up l414).dyeO 32
    have a422 := a415.t l421
    cases hm
    rw [← ew421.trans (ew414)]
    exact Cw.ret (retA1 rfl ((b407.up l414).up l421) (Res.mk a422 ⟨v343, v346, rfl, (o414.up l421).s, o421.s⟩))

theorem p55 {x0 v0_0_ v0_1_ k0 k1 r} (h0 : Rd W K [v0_0_, v0_1_] x0) (hm : Vm.spec_KeepOnly x0 = some r) : Q1 55 [.agg [v0_0_, v0_1_].toArray] W [] fun W' v => ∃ u0_0 u0_1, v = .agg [u0_0, u0_1].toArray ∧ Ow W' k0 [] [u0_0] r.Commits ∧ Ow W' k1 [] [u0_1] r.Heads :=
 CallR.adJ (J := []) (fun c => bif Nat.beq c 0 then 0 else bif Nat.beq c 31 then k0 else bif Nat.beq c 32 then k1 else 0) (c55 (h0.view _) hm) fun _ _ ⟨u0_0, u0_1, e, f0, f1⟩ => ⟨u0_0, u0_1, e, f0.one1.backN rfl, f1.one1.backN rfl⟩

theorem c56 {x0 v0_0_ v0_1_ x1 r} (h0 : Rd W0 [0] [v0_0_, v0_1_] x0) (h99 : Gl 0 W0 [0]) (hm : Vm.impl_RepoTree x0 x1 = some r) : Q0 56 [.agg [v0_0_, v0_1_].toArray, vI x1] W0 fun Wf v => ∃ u0, v = .tuple [u0, vB r.2].toArray ∧ OwS Wf LL [] [u0] r.1 := by
 unfold Vm.impl_RepoTree at hm
 obtain ⟨w0_0, w0_1, he0, h0_0, h0_1⟩ := Repo.split h0
 simp only [List.cons.injEq, and_true, true_and] at he0
 obtain ⟨rfl, rfl⟩ := he0
 refine CallR.of Tryz.func56 rfl rfl rfl rfl (sr (bo 2 rfl fun g1 W1 l1 b1 => ?_))
 have a2 := l1.o
 refine Gv (.slice none 0 0) rfl (Nb rfl (Cw.seq ?_))
 obtain ⟨K5, hK5, hm⟩ := jn_e hm
 refine Cw.join 6 14 [14] (fun l w => ∃ y3 W4, CW.w W4 = w ∧ Le [] W1 W4 ∧ l = [vB y3] ∧ K5 y3 = some r) ?_ ?_
 ·rintro _ _ σ ⟨y3, W4, rfl, l4, rfl, hm⟩
  rw [hK5] at hm
  have a6 := a2.n l4
  refine cn hm (fun hm => ?_) fun hm => ?_
  ·refine sr (Gv (.slice none 0 0) rfl (Nb rfl ?_))
   cases hm
   exact Cw.ret (ret2 rfl rfl (Res.mk a6 ⟨.slice none 0 0, rfl, (owsN []).sub rfl rfl⟩))
  ·refine sk (sr (la (b1.up l4) (mi rfl (cr hm (fun _ => p115 (Repo.rd (K := [0]) x0.Commits x0.Heads (h0_0.ul a6) (h0_1.ul a6))) ?_))))
   rintro z11 v0_13 W13 hm l13 ⟨_, rfl, f13_0⟩
   have s14 := f13_0.sub (M := [0]) rfl
   have a15 := a6.n l13
   refine cr hm (fun _ => p114 (k0 := 3) s14) ?_
   rintro z17 v0_19 W19 hm l19 ⟨_, rfl, f19_0⟩
   have a20 := a15.n l19
   refine Gv v0_19 rfl (Nb rfl ?_)
   cases hm
   exact Cw.ret (ret2 rfl rfl (Res.mk a20 ⟨v0_19, rfl, f19_0.s.sub rfl rfl⟩))
 ·refine rg (la b1 (ca hm (fun _ => p19 (Repo.rd (K := [0]) x0.Commits x0.Heads (h0_0.ul a2) (h0_1.ul a2)) (h99.ul a2)) fun z25 W27 hm l27 => ?_))
  have a28 := a2.n l27
  refine Lw.r rfl (R.not rfl) (mb rfl (bs hm (fun hc30 hm => ?_) fun hc30 hm => ?_))
  ·exact psk 4 hc30 rfl (Pb hc30 rfl (nl ((ag) ⟨true, W27, rfl, l27, rfl, hm⟩)))
  ·exact wak 4 hc30 (la (b1.up l27) (mi rfl (ca hm (fun _ => p126 (Repo.rd (K := [0]) x0.Commits x0.Heads (h0_0.ul a28) (h0_1.ul a28))) fun z33 W35 hm l35 => Lw.r rfl (R.not rfl) (Pb hc30 rfl (nl ((ag) ⟨(!z33), W35, rfl, (l27.j l35).w, rfl, hm⟩))))))

theorem p56 {x0 v0_0_ v0_1_ x1 k0 r} (h0 : Rd W K [v0_0_, v0_1_] x0) (h99 : Gl 0 W K) (hm : Vm.impl_RepoTree x0 x1 = some r) : Q1 56 [.agg [v0_0_, v0_1_].toArray, vI x1] W [] fun W' v => ∃ u0, v = .tuple [u0, vB r.2].toArray ∧ Ow W' k0 [] [u0] r.1 :=
 (c56 (h0.view _) (h99.view _) hm).ad (fk k0) fun _ _ ⟨u0, e, f0⟩ => ⟨u0, e, f0.back (fk_LL _)⟩

theorem c57 {x0 v0_0_ v0_1_ r} (h0 : Rd W0 [0] [v0_0_, v0_1_] x0) (h99 : Gl 0 W0 [0]) (hm : Vm.impl_KeepLive x0 = some r) : Q0 57 [.agg [v0_0_, v0_1_].toArray] W0 fun Wf v => ∃ u0, v = u0 ∧ OwS Wf LL [] [u0] r := by
 unfold Vm.impl_KeepLive at hm
 obtain ⟨w0_0, w0_1, he0, h0_0, h0_1⟩ := Repo.split h0
 simp only [List.cons.injEq, and_true, true_and] at he0
 obtain ⟨rfl, rfl⟩ := he0
 refine CallR.of Tryz.func57 rfl rfl rfl rfl (sr (bo 2 rfl fun g1 W1 l1 b1 => ?_))
 have a2 := l1.o
 refine Nv (.slice none 0 0) rfl (ssr (la b1 (ca hm (fun _ => p19 (Repo.rd (K := [0]) x0.Commits x0.Heads (h0_0.ul a2) (h0_1.ul a2)) (h99.ul a2)) fun z6 W8 hm l8 => ?_)))
 have a9 := a2.n l8
 refine Lw.r rfl (R.not rfl) (nl (cn hm (fun hm => ?_) fun hm => ?_))
 ·refine sr (Nv (.slice none 0 0) rfl ?_)
  cases hm
  exact Cw.ret (ret1 rfl (Res.mk a9 ⟨.slice none 0 0, rfl, (owsN []).sub rfl rfl⟩))
 ·refine sk (sr (la (b1.up l8) (cr hm (fun _ => p124 (k0 := 3) (Repo.rd (K := [0]) x0.Commits x0.Heads (h0_0.ul a9) (h0_1.ul a9))) ?_)))
  rintro z14 v0_16 W16 hm l16 ⟨_, rfl, f16_0⟩
  have a17 := a9.n l16
  refine cr hm (fun _ => p108 (K := [3]) (k0 := 4) f16_0.rd) ?_
  rintro z19 v0_21 W21 hm l21 ⟨_, rfl, f21_0⟩
  have a22 := a17.n l21
  refine Nv v0_21 rfl ?_
  cases hm
  exact Cw.ret (ret1 rfl (Res.mk a22 ⟨v0_21, rfl, f21_0.s.sub rfl rfl⟩))

theorem p57 {x0 v0_0_ v0_1_ k0 r} (h0 : Rd W K [v0_0_, v0_1_] x0) (h99 : Gl 0 W K) (hm : Vm.impl_KeepLive x0 = some r) : Q1 57 [.agg [v0_0_, v0_1_].toArray] W [] fun W' v => ∃ u0, v = u0 ∧ Ow W' k0 [] [u0] r :=
 (c57 (h0.view _) (h99.view _) hm).ad (fk k0) fun _ _ ⟨u0, e, f0⟩ => ⟨u0, e, f0.back (fk_LL _)⟩

theorem c9 {x0 v0_ r} (h0 : Rd W0 [0] [v0_] x0) (h99 : Gl 0 W0 [0]) (hm : Vm.laws_FnKeepOnly x0 = some r) : Q0 9 [v0_] W0 fun Wf v => v = vB r := by
 unfold Vm.laws_FnKeepOnly at hm
 refine CallR.of Tryz.func9 rfl rfl rfl rfl (sr (Nb rfl (ssr (mv v0_ rfl (Lw.ln x0 h0 rfl (Lw.gt rfl (nl (cn hm (fun hm => ?_) fun hm => ?_))))))))
 ·exact sr (Nb rfl (.ret (rt hm (Le.refl _ _))))
 ·refine sk (sr (mv v0_ rfl (cr hm (fun _ => p53 (k0 := 2) (k1 := 3) h0) ?_)))
  rintro z2 _ W4 hm l4 ⟨v0_0_4, v0_1_4, rfl, f4_0, f4_1⟩
  have a5 := l4.o
  refine al 4 [.slice none 0 0, .slice none 0 0] fun g6 W6 l6 b6 => ?_
  have a7 := a5.n l6
  refine sta b6 (oc_cons (f4_0.up l6).oc (oc_cons (f4_1.up l6).oc oc_nil)) fun W10 l10 b10 => ?_
  have a11 := a7.t l10
  have o12 := (f4_0.up l6).up l10
  have o13 := (f4_1.up l6).up l10
  refine nl (sr (la b10 (cr hm (fun _ => p54 (K := [0, 2, 3]) (k0 := 5) (k1 := 6) (x0 := (Vm.Repo.mk z2.Commits z2.Heads)) ((Repo.rd (K := [2, 3]) z2.Commits z2.Heads (o12.rd.sub (M := [2, 3]) rfl) (o13.rd.sub (M := [2, 3]) rfl)).sub (M := [0, 2, 3]) rfl) ((h99.ul a11).sub (M := [0, 2, 3]) rfl)) ?_)))
  rintro z15 _ W17 hm l17 ⟨v0_0_17, v0_1_17, rfl, f17_0, f17_1⟩
  have a18 := a11.n l17
  refine al 7 [.slice none 0 0, .slice none 0 0] fun g22 W22 l22 b22 => ?_
  have a23 := a18.n l22
  refine sta b22 (oc_cons (f17_0.up l22).oc (oc_cons (f17_1.up l22).oc oc_nil)) fun W29 l29 b29 => ?_
  have a30 := a23.t l29
  have o31 := ((o12.up l17).up l22).up l29
  have o32 := ((o13.up l17).up l22).up l29
  have o33 := (f17_0.up l22).up l29
  have o34 := (f17_1.up l22).up l29
  have b35 := ((b10.up l17).up l22).up l29
  refine nl (Cw.seq ?_)
  obtain ⟨K38, hK38, hm⟩ := jn_e hm
  refine Cw.join 21 30 [30] (fun l w => ∃ y36 W37, CW.w W37 = w ∧ Le [] W29 W37 ∧ l = [vB y36] ∧ K38 y36 = some r) ?_ ?_
  ·rintro _ _ σ ⟨y36, W37, rfl, l37, rfl, hm⟩
   rw [hK38] at hm
   have a39 := a30.n l37
   refine cn hm (fun hm => ?_) fun hm => ?_
   ·refine Cw.seq (Cw.draw [] [(0, 1), (1, 1), (2, 2), (3, 2), (4, 0)] mixed (by kernel_rfl) fun W47 l47 => ?_)
    have a48 := a39.n l47
    refine Mw.q rfl rfl (fun _ c => R.lda (cs := [v0_0_17, v0_1_17]) (((b29.up l37).up l47).clcs rfl c) rfl rfl) (Mw.q rfl rfl (fun _ c => R.lda (cs := [v0_0_4, v0_1_4]) (((b35.up l37).up l47).clcs rfl c) rfl rfl) ?_)
    obtain ⟨z55, e56, hm⟩ := ob hm
    refine Mw.t rfl rfl (T.call rfl (p55 (K := [2, 3]) (k0 := 8) (k1 := 9) (x0 := (Vm.Repo.mk z2.Commits z2.Heads)) (Repo.rd (K := [2, 3]) z2.Commits z2.Heads (((o31.up l37).up l47).rd.sub (M := [2, 3]) rfl) (((o32.up l37).up l47).rd.sub (M := [2, 3]) rfl)) e56)) ?_
    rintro _ _ ⟨W57, rfl, l57, ⟨v0_0_57, v0_1_57, rfl, f57_0, f57_1⟩⟩
    have a58 := a48.n l57
    refine m0 l57 fun d57 => ?_
    obtain ⟨z65, e66, hm⟩ := ob hm
    refine Mw.t rfl rfl (T.call rfl (p18 (K := [5, 6, 8, 9])  (x0 := (Vm.Repo.mk z15.Commits z15.Heads)) (x1 := (Vm.Repo.mk z55.Commits z55.Heads)) ((Repo.rd (K := [5, 6]) z15.Commits z15.Heads ((((o33.up l37).up l47).up l57).rd.sub (M := [5, 6]) rfl) ((((o34.up l37).up l47).up l57).rd.sub (M := [5, 6]) rfl)).sub (M := [5, 6, 8, 9]) rfl) ((Repo.rd (K := [8, 9]) z55.Commits z55.Heads (f57_0.rd.sub (M := [8, 9]) rfl) (f57_1.rd.sub (M := [8, 9]) rfl)).sub (M := [5, 6, 8, 9]) rfl) e66)) ?_
    rintro _ _ ⟨W67, rfl, l67, rfl⟩
    have a68 := a58.n l67
    exact mc d57 l67 fun d67 => Hb rfl (Mw.nil (.ret (rt hm a68)))
   ·refine sk (ssr (Ni rfl (Cw.block ?_)))
    obtain ⟨K88, hK88, hm⟩ := jn_e hm
    refine Cw.loop 35 164 [2, 5, 6, 7, 8, 9, 10, 11, 12, 13] (fun m l w => ∃ y77 y78 j79 j80 j81 j82 j83 j84 j85 j86 W87, CW.w W87 = w ∧ Le [] W37 W87 ∧ l = [vB y77, vI y78, j79, j80, j81, j82, j83, j84, j85, j86] ∧ Vm.laws_FnKeepOnly_l1 z2 z15 K88 m y77 y78 = some r) _ ⟨false, 0, undef, undef, undef, undef, undef, undef, undef, undef, W37, rfl, Le.refl _ _, rfl, hm⟩ ?_
    rintro (_ | m89) _ _ σ ⟨y77, y78, j79, j80, j81, j82, j83, j84, j85, j86, W87, rfl, l87, rfl, hm⟩
    ·cases hm
    unfold Vm.laws_FnKeepOnly_l1 at hm
    have a90 := a39.n l87
    have o91 := (o31.up l37).up l87
    have o92 := (o32.up l37).up l87
    have o93 := (o33.up l37).up l87
    have o94 := (o34.up l37).up l87
    have b95 := (b35.up l37).up l87
    have b96 := (b29.up l37).up l87
    refine ssr (mi rfl (fl b95 rfl (Lw.ln z2.Heads o92.rd rfl (Lw.lt rfl (nl (cn hm (fun hm => ?_) fun hm => ?_))))))
    ·refine sk (Cw.seq (Cw.block (sr (fl b95 rfl (mi rfl ?_)))))
     obtain ⟨u98, e99, hm⟩ := ob hm
     refine Lw.r rfl (R.ix (α := Head) o92.rd e99 rfl rfl rfl) (Lw.fa rfl (Lw.r rfl (R.ld rfl rfl (Head.at0 (o92.rd.at_ e99)).str) (Ns rfl (Cw.seq (Cw.draw [] [(0, 1), (1, 0), (2, 1), (3, 0), (4, 0), (5, 0), (6, 1), (7, 2), (8, 0), (9, 0), (10, 0), (11, 0), (12, 0)] mixed (by kernel_rfl) fun W100 l100 => ?_)))))
     have a101 := a90.n l100
     have o103 := o92.up l100
     have b106 := b95.up l100
     refine Mw.q rfl rfl (fun _ c => R.lda (cs := [v0_0_4, v0_1_4]) (b106.clcs rfl c) rfl rfl) (Dfl b106 rfl rfl rfl (Di rfl ?_))
     obtain ⟨u108, e109, hm⟩ := ob hm
     refine Mw.p rfl rfl (fun _ => R.ix (α := Head) o103.rd e109 rfl rfl rfl) (Df rfl (Mw.q rfl rfl (fun _ c => R.ld rfl rfl (cl_cell (Head.at1 (o103.rd.at_ e109)).1 rfl (Head.at1 (o103.rd.at_ e109)).int c)) ?_))
     obtain ⟨z111, e112, hm⟩ := ob hm
     refine Mw.t rfl rfl (T.call rfl (p56 (K := [0, 2, 3]) (k0 := 10) (x0 := (Vm.Repo.mk z2.Commits z2.Heads)) ((Repo.rd (K := [2, 3]) z2.Commits z2.Heads ((o91.up l100).rd.sub (M := [2, 3]) rfl) (o103.rd.sub (M := [2, 3]) rfl)).sub (M := [0, 2, 3]) rfl) ((h99.ul a101).sub (M := [0, 2, 3]) rfl) e112)) ?_
     rintro _ _ ⟨W113, rfl, l113, ⟨v0_113, rfl, f113_0⟩⟩
     have a114 := a101.n l113
     refine m0 l113 fun d113 => Dv (.tuple [v0_113, vB z111.2].toArray) rfl (Mw.p rfl rfl (fun _ => R.ext (vs := [v0_113, vB z111.2]) (v := v0_113) rfl rfl) (Mw.p rfl rfl (fun _ => R.ext (vs := [v0_113, vB z111.2]) (v := vB z111.2) rfl rfl) (Hv v0_113 rfl (Hb rfl (Mw.nil (Cw.seq (Cw.draw [] [(0, 1), (1, 1), (2, 0), (3, 2), (4, 2), (5, 0), (6, 0), (7, 0), (8, 0), (9, 0)] mixed (by kernel_rfl) fun W121 l121 => ?_)))))))
     have a122 := a114.n l121
     have o125 := ((o93.up l100).up l113).up l121
     have o126 := ((o94.up l100).up l113).up l121
     have b129 := ((b96.up l100).up l113).up l121
     refine Mw.q rfl rfl (fun _ c => R.lda (cs := [v0_0_17, v0_1_17]) (b129.clcs rfl c) rfl rfl) (Mw.q rfl rfl (fun _ c => R.lda (cs := [v0_0_17, v0_1_17]) (b129.clcs rfl c) rfl rfl) (Ds rfl ?_))
     obtain ⟨z131, e132, hm⟩ := ob hm
     refine Mw.t rfl rfl (T.call rfl (p20 (K := [0, 5, 6])  (x0 := (Vm.Repo.mk z15.Commits z15.Heads)) ((Repo.rd (K := [5, 6]) z15.Commits z15.Heads (o125.rd.sub (M := [5, 6]) rfl) (o126.rd.sub (M := [5, 6]) rfl)).sub (M := [0, 5, 6]) rfl) ((h99.ul a122).sub (M := [0, 5, 6]) rfl) e132)) ?_
     rintro _ _ ⟨W133, rfl, l133, rfl⟩
     have a134 := a122.n l133
     refine m0 l133 fun d133 => ?_
     obtain ⟨z143, e144, hm⟩ := ob hm
     refine Mw.t rfl rfl (T.call rfl (p56 (K := [0, 5, 6]) (k0 := 11) (x0 := (Vm.Repo.mk z15.Commits z15.Heads)) ((Repo.rd (K := [5, 6]) z15.Commits z15.Heads ((o125.up l133).rd.sub (M := [5, 6]) rfl) ((o126.up l133).rd.sub (M := [5, 6]) rfl)).sub (M := [0, 5, 6]) rfl) ((h99.ul a134).sub (M := [0, 5, 6]) rfl) e144)) ?_
     rintro _ _ ⟨W145, rfl, l145, ⟨v0_145, rfl, f145_0⟩⟩
     have a146 := a134.n l145
     refine mc d133 l145 fun d145 => Dv (.tuple [v0_145, vB z143.2].toArray) rfl (Mw.p rfl rfl (fun _ => R.ext (vs := [v0_145, vB z143.2]) (v := v0_145) rfl rfl) (Mw.p rfl rfl (fun _ => R.ext (vs := [v0_145, vB z143.2]) (v := vB z143.2) rfl rfl) (Hv v0_145 rfl (Hb rfl (Mw.nil (Cw.seq (Cw.draw [] [(0, 1), (1, 0), (2, 1), (3, 0), (4, 0), (5, 0), (6, 1), (7, 2), (8, 0)] mixed (by kernel_rfl) fun W154 l154 => ?_)))))))
     have a155 := a146.n l154
     have o156 := (((((o91.up l100).up l113).up l121).up l133).up l145).up l154
     have o157 := ((((o103.up l113).up l121).up l133).up l145).up l154
     have b162 := ((((b106.up l113).up l121).up l133).up l145).up l154
     refine Mw.q rfl rfl (fun _ c => R.lda (cs := [v0_0_4, v0_1_4]) (b162.clcs rfl c) rfl rfl) (Dfl b162 rfl rfl rfl (Di rfl ?_))
     obtain ⟨u164, e165, hm⟩ := ob hm
     refine Mw.p rfl rfl (fun _ => R.ix (α := Head) o157.rd e165 rfl rfl rfl) (Df rfl (Mw.q rfl rfl (fun _ c => R.ld rfl rfl (cl_cell (Head.at1 (o157.rd.at_ e165)).1 rfl (Head.at1 (o157.rd.at_ e165)).int c)) ?_))
     obtain ⟨z167, e168, hm⟩ := ob hm
     refine Mw.t rfl rfl (T.call rfl (p40 (K := [0, 2, 3]) (k0 := 12) (x0 := (Vm.Repo.mk z2.Commits z2.Heads)) ((Repo.rd (K := [2, 3]) z2.Commits z2.Heads (o156.rd.sub (M := [2, 3]) rfl) (o157.rd.sub (M := [2, 3]) rfl)).sub (M := [0, 2, 3]) rfl) ((h99.ul a155).sub (M := [0, 2, 3]) rfl) e168)) ?_
     rintro v0_169 _ ⟨W169, rfl, l169, ⟨_, rfl, f169_0⟩⟩
     have a170 := a155.n l169
     refine m0 l169 fun d169 => Hv v0_169 rfl (Mw.nil (Cw.seq (Cw.draw [] [(0, 1), (1, 1), (2, 0), (3, 2), (4, 2), (5, 0)] mixed (by kernel_rfl) fun W179 l179 => ?_)))
     have a180 := a170.n l179
     have o183 := ((((o125.up l133).up l145).up l154).up l169).up l179
     have o184 := ((((o126.up l133).up l145).up l154).up l169).up l179
     have b189 := ((((b129.up l133).up l145).up l154).up l169).up l179
     refine Mw.q rfl rfl (fun _ c => R.lda (cs := [v0_0_17, v0_1_17]) (b189.clcs rfl c) rfl rfl) (Mw.q rfl rfl (fun _ c => R.lda (cs := [v0_0_17, v0_1_17]) (b189.clcs rfl c) rfl rfl) (Ds rfl ?_))
     obtain ⟨z191, e192, hm⟩ := ob hm
     refine Mw.t rfl rfl (T.call rfl (p20 (K := [0, 5, 6])  (x0 := (Vm.Repo.mk z15.Commits z15.Heads)) ((Repo.rd (K := [5, 6]) z15.Commits z15.Heads (o183.rd.sub (M := [5, 6]) rfl) (o184.rd.sub (M := [5, 6]) rfl)).sub (M := [0, 5, 6]) rfl) ((h99.ul a180).sub (M := [0, 5, 6]) rfl) e192)) ?_
     rintro _ _ ⟨W193, rfl, l193, rfl⟩
     have a194 := a180.n l193
     refine m0 l193 fun d193 => ?_
     obtain ⟨z205, e206, hm⟩ := ob hm
     refine Mw.t rfl rfl (T.call rfl (p40 (K := [0, 5, 6]) (k0 := 13) (x0 := (Vm.Repo.mk z15.Commits z15.Heads)) ((Repo.rd (K := [5, 6]) z15.Commits z15.Heads ((o183.up l193).rd.sub (M := [5, 6]) rfl) ((o184.up l193).rd.sub (M := [5, 6]) rfl)).sub (M := [0, 5, 6]) rfl) ((h99.ul a194).sub (M := [0, 5, 6]) rfl) e206)) ?_
     rintro v0_207 _ ⟨W207, rfl, l207, ⟨_, rfl, f207_0⟩⟩
     have a208 := a194.n l207
     have o215 := ((f169_0.up l179).up l193).up l207
     refine mc d193 l207 fun d207 => Hv v0_207 rfl (Mw.nil (Cw.seq ?_))
     obtain ⟨K220, hK220, hm⟩ := jn_e hm
     refine Cw.join 80 94 [94] (fun l w => ∃ y218 W219, CW.w W219 = w ∧ Le [] W207 W219 ∧ l = [vB y218] ∧ K220 y218 = some r) ?_ ?_
     ·rintro _ _ σ ⟨y218, W219, rfl, l219, rfl, hm⟩
      rw [hK220] at hm
      have a221 := a208.n l219
      refine cn hm (fun hm => ?_) fun hm => ?_
      ·exact sr (Nb rfl (.ret (rt hm a221)))
      ·refine sk (sr (Ni rfl (Cw.block ?_)))
       obtain ⟨K236, hK236, hm⟩ := jn_e hm
       refine Cw.loop 95 164 [2, 13] (fun m l w => ∃ y233 y234 W235, CW.w W235 = w ∧ Le [] W219 W235 ∧ l = [vB y233, vI y234] ∧ Vm.laws_FnKeepOnly_l2 z2 z15 z167 z205 K236 m y233 y234 = some r) _ ⟨y77, 0, W219, rfl, Le.refl _ _, rfl, hm⟩ ?_
       rintro (_ | m237) _ _ σ ⟨y233, y234, W235, rfl, l235, rfl, hm⟩
       ·cases hm
       unfold Vm.laws_FnKeepOnly_l2 at hm
       have a238 := a221.n l235
       have o245 := (o215.up l219).up l235
       refine ssr (mi rfl (mv v0_169 rfl (Lw.ln z167 o245.rd rfl (Lw.lt rfl (nl (cn hm (fun hm => ?_) fun hm => ?_))))))
       ·refine sk (Cw.seq (Cw.block ?_))
        obtain ⟨K252, hK252, hm⟩ := jn_e hm
        refine Cw.join 101 164 [164] (fun l w => ∃ y250 W251, CW.w W251 = w ∧ Le [] W235 W251 ∧ l = [vB y250] ∧ K252 y250 = some r) ?_ ?_
        ·rintro _ _ σ ⟨y250, W251, rfl, l251, rfl, hm⟩
         rw [hK252] at hm
         have a253 := a238.n l251
         refine cn hm (fun hm => ?_) fun hm => ?_
         ·exact sr (Nb rfl (.ret (rt hm a253)))
         ·exact sk (rg (mi rfl (Lw.add rfl (Ni rfl ((agm) ⟨y233, w64 (y234 + 1), W251, rfl, (l235.j l251).w, rfl, hm⟩)))))
        ·refine Cw.draw [] [(0, 0), (1, 1), (2, 0), (3, 0), (4, 0), (5, 1), (6, 0), (7, 0), (8, 1), (9, 0), (10, 1), (11, 0), (12, 0), (13, 0), (14, 1), (15, 0), (16, 0), (17, 1), (18, 0), (19, 0), (20, 0), (21, 1), (22, 0), (23, 0), (24, 0), (25, 1), (26, 0), (27, 0), (28, 1), (29, 0), (30, 1), (31, 0), (32, 0), (33, 0), (34, 1), (35, 0), (36, 0), (37, 1), (38, 2), (39, 0), (40, 0), (41, 0), (42, 0), (43, 1), (44, 0), (45, 0), (46, 0), (47, 1), (48, 0), (49, 0), (50, 1), (51, 0), (52, 0), (53, 1), (54, 0), (55, 0), (56, 0), (57, 1), (58, 0), (59, 0), (60, 1), (61, 0), (62, 0), (63, 0)] mixed (by kernel_rfl) fun W265 l265 => ?_
         have o267 := ((((((o156.up l169).up l179).up l193).up l207).up l219).up l235).up l265
         have o269 := ((((o183.up l193).up l207).up l219).up l235).up l265
         have o273 := o245.up l265
         have o274 := ((f207_0.up l219).up l235).up l265
         have b275 := ((((((b162.up l169).up l179).up l193).up l207).up l219).up l235).up l265
         have b276 := ((((b189.up l193).up l207).up l219).up l235).up l265
         refine Dfl b275 rfl rfl rfl (Dv v0_169 rfl (Di rfl ?_))
         obtain ⟨u277, e278, hm⟩ := ob hm
         refine Mw.p rfl rfl (fun _ => R.ix (α := Int) o273.rd e278 rfl rfl rfl) (Mw.q rfl rfl (fun _ c => R.ld rfl rfl (cl_cell (o273.rd.at_ e278).1 rfl (o273.rd.at_ e278).int c)) ?_)
         obtain ⟨u279, e280, hm⟩ := ob hm
         refine Mw.p rfl rfl (fun _ => R.ix (α := Commit) o267.rd e280 rfl rfl rfl) (Df rfl (Mw.q rfl rfl (fun _ c => R.ld rfl rfl (cl_cell (Commit.at1 (o267.rd.at_ e280)).1 rfl (Commit.at1 (o267.rd.at_ e280)).str c)) (Dfl b276 rfl rfl rfl (Dv v0_207 rfl (Di rfl ?_)))))
         obtain ⟨u281, e282, hm⟩ := ob hm
         refine Mw.p rfl rfl (fun _ => R.ix (α := Int) o274.rd e282 rfl rfl rfl) (Mw.q rfl rfl (fun _ c => R.ld rfl rfl (cl_cell (o274.rd.at_ e282).1 rfl (o274.rd.at_ e282).int c)) ?_)
         obtain ⟨u283, e284, hm⟩ := ob hm
         refine Mw.p rfl rfl (fun _ => R.ix (α := Commit) o269.rd e284 rfl rfl rfl) (Df rfl (Mw.q rfl rfl (fun _ c => R.ld rfl rfl (cl_cell (Commit.at1 (o269.rd.at_ e284)).1 rfl (Commit.at1 (o269.rd.at_ e284)).str c)) (Mw.p rfl rfl (fun _ => R.sne rfl rfl) (Db rfl (bs hm (fun hc285 hm => ?_) fun hc285 hm => ?_)))))
         ·exact dps 20 hc285 rfl (Mw.p rfl rfl (fun _ => R.pk hc285 rfl (v := vB true) rfl) (Db rfl (dps 21 rfl rfl (Mw.p rfl rfl (fun _ => R.pk rfl rfl (v := vB true) rfl) (Mw.nil ((ag) ⟨true, W265, rfl, l265, rfl, hm⟩))))))
         ·refine Wp hc285 rfl (fun _ => R.fa rfl) (Wq hc285 rfl (fun _ c => R.ld (v := v0_0_4) rfl rfl (b275.clc rfl rfl c)) (Wp hc285 rfl (fun _ => R.mv (v := v0_169) rfl) (Wp hc285 rfl (fun _ => R.mv (v := vI y234) rfl) ?_)))
          obtain ⟨u286, e287, hm⟩ := ob hm
          refine Wp hc285 rfl (fun _ => R.ix (α := Int) o273.rd e287 rfl rfl rfl) (Wq hc285 rfl (fun _ c => R.ld rfl rfl (cl_cell (o273.rd.at_ e287).1 rfl (o273.rd.at_ e287).int c)) ?_)
          obtain ⟨u288, e289, hm⟩ := ob hm
          refine Wp hc285 rfl (fun _ => R.ix (α := Commit) o267.rd e289 rfl rfl rfl) (Wp hc285 rfl (fun _ => R.fa rfl) ?_)
          obtain ⟨v290, c291, r292⟩ := (Commit.at2 (o267.rd.at_ e289)).cell rfl
          refine Wq hc285 rfl (fun _ c => R.ld rfl rfl (cl_cell (Commit.at2 (o267.rd.at_ e289)).1 rfl c291 c)) (Wp hc285 rfl (fun _ => R.fa rfl) (Wq hc285 rfl (fun _ c => R.ld (v := v0_0_17) rfl rfl (b276.clc rfl rfl c)) (Wp hc285 rfl (fun _ => R.mv (v := v0_207) rfl) (Wp hc285 rfl (fun _ => R.mv (v := vI y234) rfl) ?_))))
          obtain ⟨u293, e294, hm⟩ := ob hm
          refine Wp hc285 rfl (fun _ => R.ix (α := Int) o274.rd e294 rfl rfl rfl) (Wq hc285 rfl (fun _ c => R.ld rfl rfl (cl_cell (o274.rd.at_ e294).1 rfl (o274.rd.at_ e294).int c)) ?_)
          obtain ⟨u295, e296, hm⟩ := ob hm
          refine Wp hc285 rfl (fun _ => R.ix (α := Commit) o269.rd e296 rfl rfl rfl) (Wp hc285 rfl (fun _ => R.fa rfl) ?_)
          obtain ⟨v297, c298, r299⟩ := (Commit.at2 (o269.rd.at_ e296)).cell rfl
          refine Wq hc285 rfl (fun _ c => R.ld rfl rfl (cl_cell (Commit.at2 (o269.rd.at_ e296)).1 rfl c298 c)) ?_
          obtain ⟨z300, e301, hm⟩ := ob hm
          refine Wt hc285 rfl (T.call rfl (p42 (K := [2, 5])  (r292.sub (M := [2, 5]) rfl) (r299.sub (M := [2, 5]) rfl) e301)) ?_
          rintro _ _ ⟨W302, rfl, l302, rfl⟩
          refine m0 l302 fun d302 => Wp hc285 rfl (fun _ => R.not rfl) (Mw.p rfl rfl (fun _ => R.pk hc285 rfl (v := vB (!z300)) rfl) (Db rfl (bs hm (fun hc314 hm => ?_) fun hc314 hm => ?_)))
          ·exact dps 21 hc314 rfl (Mw.p rfl rfl (fun _ => R.pk hc314 rfl (v := vB true) rfl) (Mw.nil ((ag) ⟨true, W302, rfl, (l265.j l302).w, rfl, hm⟩)))
          ·refine Wp hc314 rfl (fun _ => R.fa rfl) (Wq hc314 rfl (fun _ c => R.ld (v := v0_0_4) rfl rfl (b275.clc rfl rfl c)) (Wp hc314 rfl (fun _ => R.mv (v := v0_169) rfl) (Wp hc314 rfl (fun _ => R.mv (v := vI y234) rfl) ?_)))
           obtain ⟨u315, e316, hm⟩ := ob hm
           refine Wp hc314 rfl (fun _ => R.ix (α := Int) o273.rd e316 rfl rfl rfl) (Wq hc314 rfl (fun _ c => R.ld rfl rfl (cl_cell (o273.rd.at_ e316).1 rfl (o273.rd.at_ e316).int c)) ?_)
           obtain ⟨u317, e318, hm⟩ := ob hm
           refine Wp hc314 rfl (fun _ => R.ix (α := Commit) o267.rd e318 rfl rfl rfl) (Wp hc314 rfl (fun _ => R.fa rfl) ?_)
           obtain ⟨v319, c320, r321⟩ := (Commit.at0 (o267.rd.at_ e318)).cell rfl
           have s322 := r321.up (l302.sub (M := []) rfl) rfl
           refine Wq hc314 rfl (fun _ c => R.ld rfl rfl (cl_cell (Commit.at0 (o267.rd.at_ e318)).1 rfl c320 c)) (Wp hc314 rfl (fun _ => lenR (xs := u317.Parents) s322 rfl) (Wp hc314 rfl (fun _ => R.fa rfl) (Wq hc314 rfl (fun _ c => R.ld (v := v0_0_17) rfl rfl (b276.clc rfl rfl c)) (Wp hc314 rfl (fun _ => R.mv (v := v0_207) rfl) (Wp hc314 rfl (fun _ => R.mv (v := vI y234) rfl) ?_)))))
           obtain ⟨u323, e324, hm⟩ := ob hm
           refine Wp hc314 rfl (fun _ => R.ix (α := Int) o274.rd e324 rfl rfl rfl) (Wq hc314 rfl (fun _ c => R.ld rfl rfl (cl_cell (o274.rd.at_ e324).1 rfl (o274.rd.at_ e324).int c)) ?_)
           obtain ⟨u325, e326, hm⟩ := ob hm
           refine Wp hc314 rfl (fun _ => R.ix (α := Commit) o269.rd e326 rfl rfl rfl) (Wp hc314 rfl (fun _ => R.fa rfl) ?_)
           obtain ⟨v327, c328, r329⟩ := (Commit.at0 (o269.rd.at_ e326)).cell rfl
           have s330 := r329.up (l302.sub (M := []) rfl) rfl
           exact Wq hc314 rfl (fun _ c => R.ld rfl rfl (cl_cell (Commit.at0 (o269.rd.at_ e326)).1 rfl c328 c)) (Wp hc314 rfl (fun _ => lenR (xs := u325.Parents) s330 rfl) (Wp hc314 rfl (fun _ => R.ne rfl rfl) (Mw.p rfl rfl (fun _ => R.pk hc314 rfl (v := vB (((u317.Parents.length : Int) : Int) != ((u325.Parents.length : Int) : Int))) rfl) (Mw.nil ((ag) ⟨(((u317.Parents.length : Int) : Int) != ((u325.Parents.length : Int) : Int)), W302, rfl, (l265.j l302).w, rfl, hm⟩)))))
       ·refine Cw.exit ?_
        rw [hK236] at hm
        exact rg (mi rfl (Lw.add rfl (Ni rfl ((agm) ⟨y233, w64 (y78 + 1), vS u98.Name, v0_113, vB z111.2, v0_145, vB z143.2, v0_169, v0_207, vI y234, W235, rfl, ((((((((((((l87.j l100).j l113).j l121).j l133).j l145).j l154).j l169).j l179).j l193).j l207).j l219).j l235).w, rfl, hm⟩))))
     ·refine rg (mb rfl (Lw.r rfl (R.not rfl) (mb rfl (bs hm (fun hc331 hm => ?_) fun hc331 hm => ?_))))
      ·exact psk 4 hc331 rfl (Pb hc331 rfl (mb rfl (psk 5 rfl rfl (Pb rfl rfl (nl ((ag) ⟨true, W207, rfl, Le.refl _ _, rfl, hm⟩))))))
      ·refine wak 4 hc331 (mv v0_113 rfl (mv v0_145 rfl (ca hm (fun _ => p42 (K := [10, 11]) (((((((((f113_0.up l121).up l133).up l145).up l154).up l169).up l179).up l193).up l207).rd.sub (M := [10, 11]) rfl) ((((((f145_0.up l154).up l169).up l179).up l193).up l207).rd.sub (M := [10, 11]) rfl)) fun z332 W334 hm l334 => Lw.r rfl (R.not rfl) (Pb hc331 rfl (mb rfl (bs hm (fun hc346 hm => ?_) fun hc346 hm => ?_))))))
       ·exact psk 5 hc346 rfl (Pb hc346 rfl (nl ((ag) ⟨true, W334, rfl, l334, rfl, hm⟩)))
       ·exact wak 5 hc346 (mv v0_169 rfl (Lw.ln z167 (o215.up l334).rd rfl (mv v0_207 rfl (Lw.ln z205 (f207_0.up l334).rd rfl (Lw.ne rfl (Pb hc346 rfl (nl ((ag) ⟨(((z167.length : Int) : Int) != ((z205.length : Int) : Int)), W334, rfl, l334, rfl, hm⟩))))))))
    ·refine Cw.exit ?_
     rw [hK88] at hm
     obtain ⟨K349, hK349, hm⟩ := jn_e hm
     refine Cw.join 165 190 [2] (fun l w => ∃ y347 W348, CW.w W348 = w ∧ Le [] W87 W348 ∧ l = [vB y347] ∧ K349 y347 = some r) ?_ ?_
     ·rintro _ _ σ ⟨y347, W348, rfl, l348, rfl, hm⟩
      rw [hK349] at hm
      have a350 := a90.n l348
      exact .ret (rt hm a350)
     ·refine Cw.draw [] [(0, 1), (1, 2), (2, 0), (3, 0), (4, 1), (5, 0), (6, 0), (7, 1), (8, 0), (9, 0), (10, 0), (11, 0), (12, 0), (13, 1), (14, 0), (15, 1), (16, 2), (17, 0), (18, 0), (19, 0), (20, 0), (21, 1), (23, 1), (22, 2), (24, 2), (25, 0), (26, 0)] mixed (by kernel_rfl) fun W357 l357 => ?_
      have a358 := a90.n l357
      have b364 := b96.up l357
      refine Mw.q rfl rfl (fun _ c => R.lda (cs := [v0_0_17, v0_1_17]) (b364.clcs rfl c) rfl rfl) ?_
      obtain ⟨z366, e367, hm⟩ := ob hm
      refine Mw.t rfl rfl (T.call rfl (p19 (K := [0, 5, 6])  (x0 := (Vm.Repo.mk z15.Commits z15.Heads)) ((Repo.rd (K := [5, 6]) z15.Commits z15.Heads ((o93.up l357).rd.sub (M := [5, 6]) rfl) ((o94.up l357).rd.sub (M := [5, 6]) rfl)).sub (M := [0, 5, 6]) rfl) ((h99.ul a358).sub (M := [0, 5, 6]) rfl) e367)) ?_
      rintro _ _ ⟨W368, rfl, l368, rfl⟩
      have a369 := a358.n l368
      have o371 := (o92.up l357).up l368
      have o372 := (o93.up l357).up l368
      have o373 := (o94.up l357).up l368
      refine m0 l368 fun d368 => Db rfl (bs hm (fun hc376 hm => ?_) fun hc376 hm => ?_)
      ·refine Wp hc376 rfl (fun _ => R.fa rfl) (Wq hc376 rfl (fun _ c => R.ld (v := v0_1_17) rfl rfl (b364.clc rfl rfl c)) (Wp hc376 rfl (fun _ => lenR (xs := z15.Heads) o373.rd rfl) (Wp hc376 rfl (fun _ => R.fa rfl) (Wq hc376 rfl (fun _ c => R.ld (v := v0_1_4) rfl rfl ((b95.up l357).clc rfl rfl c)) (Wp hc376 rfl (fun _ => lenR (xs := z2.Heads) o371.rd rfl) (Wp hc376 rfl (fun _ => R.eq rfl rfl) (Mw.p rfl rfl (fun _ => R.pk hc376 rfl (v := vB (((z15.Heads.length : Int) : Int) == ((z2.Heads.length : Int) : Int))) rfl) (Db rfl (bs hm (fun hc377 hm => ?_) fun hc377 hm => ?_)))))))))
       ·refine Wp hc377 rfl (fun _ => R.fa rfl) (Wq hc377 rfl (fun _ c => R.ld (v := v0_0_17) rfl rfl (b364.clc rfl rfl c)) (Wp hc377 rfl (fun _ => lenR (xs := z15.Commits) o372.rd rfl) (Wq hc377 rfl (fun _ c => R.lda (cs := [v0_0_4, v0_1_4]) ((b95.up l357).clcs rfl c) rfl rfl) ?_)))
        obtain ⟨z379, e380, hm⟩ := ob hm
        refine Wt hc377 rfl (T.call rfl (p57 (K := [0, 2, 3]) (k0 := 14) (x0 := (Vm.Repo.mk z2.Commits z2.Heads)) ((Repo.rd (K := [2, 3]) z2.Commits z2.Heads (((o91.up l357).up l368).rd.sub (M := [2, 3]) rfl) (o371.rd.sub (M := [2, 3]) rfl)).sub (M := [0, 2, 3]) rfl) ((h99.ul a369).sub (M := [0, 2, 3]) rfl) e380)) ?_
        rintro v0_381 _ ⟨W381, rfl, l381, ⟨_, rfl, f381_0⟩⟩
        have a382 := a369.n l381
        refine mc d368 l381 fun d381 => Wp hc377 rfl (fun _ => lenR (xs := z379) f381_0.rd rfl) (Wp hc377 rfl (fun _ => R.eq rfl rfl) (Mw.p rfl rfl (fun _ => R.pk hc377 rfl (v := vB (((z15.Commits.length : Int) : Int) == ((z379.length : Int) : Int))) rfl) (Db rfl (bs hm (fun hc389 hm => ?_) fun hc389 hm => ?_))))
        ·refine Wq hc389 rfl (fun _ c => R.lda (cs := [v0_0_17, v0_1_17]) (b364.clcs rfl c) rfl rfl) (Wq hc389 rfl (fun _ c => R.lda (cs := [v0_0_17, v0_1_17]) (b364.clcs rfl c) rfl rfl) ?_)
         obtain ⟨z391, e392, hm⟩ := ob hm
         refine Wt hc389 rfl (T.call rfl (p54 (K := [0, 5, 6]) (k0 := 15) (k1 := 16) (x0 := (Vm.Repo.mk z15.Commits z15.Heads)) ((Repo.rd (K := [5, 6]) z15.Commits z15.Heads ((o372.up l381).rd.sub (M := [5, 6]) rfl) ((o373.up l381).rd.sub (M := [5, 6]) rfl)).sub (M := [0, 5, 6]) rfl) ((h99.ul a382).sub (M := [0, 5, 6]) rfl) e392)) ?_
         rintro _ _ ⟨W393, rfl, l393, ⟨v0_0_393, v0_1_393, rfl, f393_0, f393_1⟩⟩
         refine mc d381 l393 fun d393 => ?_
         obtain ⟨z402, e403, hm⟩ := ob hm
         refine Wt hc389 rfl (T.call rfl (p18 (K := [5, 6, 15, 16])  (x0 := (Vm.Repo.mk z391.Commits z391.Heads)) (x1 := (Vm.Repo.mk z15.Commits z15.Heads)) ((Repo.rd (K := [15, 16]) z391.Commits z391.Heads (f393_0.rd.sub (M := [15, 16]) rfl) (f393_1.rd.sub (M := [15, 16]) rfl)).sub (M := [5, 6, 15, 16]) rfl) ((Repo.rd (K := [5, 6]) z15.Commits z15.Heads (((o372.up l381).up l393).rd.sub (M := [5, 6]) rfl) (((o373.up l381).up l393).rd.sub (M := [5, 6]) rfl)).sub (M := [5, 6, 15, 16]) rfl) e403)) ?_
         rintro _ _ ⟨W404, rfl, l404, rfl⟩
         exact mc d393 l404 fun d404 => Mw.p rfl rfl (fun _ => R.pk hc389 rfl (v := vB z402) rfl) (Hb rfl (Mw.nil ((ag) ⟨z402, W404, rfl, ((((l357.j l368).j l381).j l393).j l404).w, rfl, hm⟩)))
        ·exact dps 4 hc389 rfl (Mw.p rfl rfl (fun _ => R.pk hc389 rfl (v := vB false) rfl) (Hb rfl (Mw.nil ((ag) ⟨false, W381, rfl, ((l357.j l368).j l381).w, rfl, hm⟩))))
       ·exact dps 7 hc377 rfl (Mw.p rfl rfl (fun _ => R.pk hc377 rfl (v := vB false) rfl) (Db rfl (dps 4 rfl rfl (Mw.p rfl rfl (fun _ => R.pk rfl rfl (v := vB false) rfl) (Hb rfl (Mw.nil ((ag) ⟨false, W368, rfl, (l357.j l368).w, rfl, hm⟩)))))))
      ·exact dps 7 hc376 rfl (Mw.p rfl rfl (fun _ => R.pk hc376 rfl (v := vB false) rfl) (Db rfl (dps 7 rfl rfl (Mw.p rfl rfl (fun _ => R.pk rfl rfl (v := vB false) rfl) (Db rfl (dps 4 rfl rfl (Mw.p rfl rfl (fun _ => R.pk rfl rfl (v := vB false) rfl) (Hb rfl (Mw.nil ((ag) ⟨false, W368, rfl, (l357.j l368).w, rfl, hm⟩))))))))))
  ·refine Cw.draw [] [(0, 1), (1, 1), (2, 2), (3, 2), (4, 0), (5, 0), (6, 1), (7, 2), (8, 0), (9, 0)] mixed (by kernel_rfl) fun W415 l415 => ?_
   have a416 := a30.n l415
   refine Mw.q rfl rfl (fun _ c => R.lda (cs := [v0_0_17, v0_1_17]) ((b29.up l415).clcs rfl c) rfl rfl) (Mw.q rfl rfl (fun _ c => R.lda (cs := [v0_0_4, v0_1_4]) ((b35.up l415).clcs rfl c) rfl rfl) ?_)
   obtain ⟨z423, e424, hm⟩ := ob hm
   refine Mw.t rfl rfl (T.call rfl (p55 (K := [2, 3]) (k0 := 17) (k1 := 18) (x0 := (Vm.Repo.mk z2.Commits z2.Heads)) (Repo.rd (K := [2, 3]) z2.Commits z2.Heads ((o31.up l415).rd.sub (M := [2, 3]) rfl) ((o32.up l415).rd.sub (M := [2, 3]) rfl)) e424)) ?_
   rintro _ _ ⟨W425, rfl, l425, ⟨v0_0_425, v0_1_425, rfl, f425_0, f425_1⟩⟩
   have a426 := a416.n l425
   refine m0 l425 fun d425 => ?_
   obtain ⟨z433, e434, hm⟩ := ob hm
   refine Mw.t rfl rfl (T.call rfl (p18 (K := [5, 6, 17, 18])  (x0 := (Vm.Repo.mk z15.Commits z15.Heads)) (x1 := (Vm.Repo.mk z423.Commits z423.Heads)) ((Repo.rd (K := [5, 6]) z15.Commits z15.Heads (((o33.up l415).up l425).rd.sub (M := [5, 6]) rfl) (((o34.up l415).up l425).rd.sub (M := [5, 6]) rfl)).sub (M := [5, 6, 17, 18]) rfl) ((Repo.rd (K := [17, 18]) z423.Commits z423.Heads (f425_0.rd.sub (M := [17, 18]) rfl) (f425_1.rd.sub (M := [17, 18]) rfl)).sub (M := [5, 6, 17, 18]) rfl) e434)) ?_
   rintro _ _ ⟨W435, rfl, l435, rfl⟩
   have a436 := a426.n l435
   refine mc d425 l435 fun d435 => Mw.p rfl rfl (fun _ => R.not rfl) (Db rfl (bs hm (fun hc445 hm => ?_) fun hc445 hm => ?_))
   ·exact dps 3 hc445 rfl (Mw.p rfl rfl (fun _ => R.pk hc445 rfl (v := vB true) rfl) (Mw.nil ((ag) ⟨true, W435, rfl, ((l415.j l425).j l435).w, rfl, hm⟩)))
   ·refine Wq hc445 rfl (fun _ c => R.lda (cs := [v0_0_4, v0_1_4]) ((b35.up l415).clcs rfl c) rfl rfl) ?_
    obtain ⟨z447, e448, hm⟩ := ob hm
    refine Wt hc445 rfl (T.call rfl (p19 (K := [0, 2, 3])  (x0 := (Vm.Repo.mk z2.Commits z2.Heads)) ((Repo.rd (K := [2, 3]) z2.Commits z2.Heads ((((o31.up l415).up l425).up l435).rd.sub (M := [2, 3]) rfl) ((((o32.up l415).up l425).up l435).rd.sub (M := [2, 3]) rfl)).sub (M := [0, 2, 3]) rfl) ((h99.ul a436).sub (M := [0, 2, 3]) rfl) e448)) ?_
    rintro _ _ ⟨W449, rfl, l449, rfl⟩
    exact mc d435 l449 fun d449 => Wp hc445 rfl (fun _ => R.not rfl) (Mw.p rfl rfl (fun _ => R.pk hc445 rfl (v := vB (!z447)) rfl) (Mw.nil ((ag) ⟨(!z447), W449, rfl, (((l415.j l425).j l435).j l449).w, rfl, hm⟩)))

theorem p9 {x0 v0_ r} (h0 : Rd W K [v0_] x0) (h99 : Gl 0 W K) (hm : Vm.laws_FnKeepOnly x0 = some r) : Q1 9 [v0_] W [] fun W' v => v = vB r :=
 (c9 (h0.view _) (h99.view _) hm).ad (fk 0) fun _ _ e => e

end Go.Sx
