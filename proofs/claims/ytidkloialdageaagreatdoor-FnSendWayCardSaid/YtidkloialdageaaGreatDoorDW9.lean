/- Walks: each function answers as its model, printed by a program of ours. Conditions: the arguments read as they are given. -/
import Derived.Test.YtidkloialdageaaGreatDoorDTs
import Derived.Test.YtidkloialdageaaGreatDoorDM0
import Derived.Test.YtidkloialdageaaGreatDoorDW6
import Derived.Test.YtidkloialdageaaGreatDoorDW7
import Derived.Test.YtidkloialdageaaGreatDoorDW8
namespace Go.Sx
open Go Go.Proofs Go.Vm Rp
set_option linter.unusedVariables false
set_option linter.unusedSimpArgs false
variable {W W0 : CW} {K : List Nat}
theorem c66 {x0 v0_0_ v0_1_ x1 v1_ x2 v2_ x3 r} (h0 : Rd W0 [0] [v0_0_, v0_1_] x0) (h1 : Rd W0 [0] [v1_] x1) (h2 : Rd W0 [0] [v2_] x2) (h99 : Gl 0 W0 [0]) (hm : Vm.impl_SendTake x0 x1 x2 x3 = some r) : Q0 66 [.agg [v0_0_, v0_1_].toArray, v1_, v2_, vS x3] W0 fun Wf v => ∃ u0_0 u0_1, v = .tuple [.agg [u0_0, u0_1].toArray, vB r.2].toArray ∧ OwS Wf [31] [] [u0_0] r.1.Commits ∧ OwS Wf [32] [] [u0_1] r.1.Heads := by
 unfold Vm.impl_SendTake at hm
 obtain ⟨w0_0, w0_1, he0, h0_0, h0_1⟩ := Repo.split h0
 simp only [List.cons.injEq, and_true, true_and] at he0
 obtain ⟨rfl, rfl⟩ := he0
 refine CallR.of Tryz.func66 rfl rfl rfl rfl (sr (bo 2 rfl fun g1 W1 l1 b1 => ?_))
 have a2 := l1.o
 refine al 3 [.slice none 0 0, .slice none 0 0] fun g3 W3 l3 b3 => ?_
 have a4 := a2.n l3
 refine Nb rfl (ssr (la (b1.up l3) (ca hm (fun _ => p19 (Repo.rd (K := [0]) x0.Commits x0.Heads (h0_0.ul a4) (h0_1.ul a4)) (h99.ul a4)) fun z9 W11 hm l11 => ?_)))
 have a12 := a4.n l11
 have b13 := (b1.up l3).up l11
 refine Lw.r rfl (R.not rfl) (nl (cn hm (fun hm => ?_) fun hm => ?_))
 ·refine sr (Lw.r rfl (R.bd (zs := [.slice none 0 0, .slice none 0 0]) (cs := [.slice none 0 0, .slice none 0 0]) [] rfl rfl rfl bp_nil) (sta (b3.up l11) (oc_cons rfl (oc_cons rfl oc_nil)) fun W16 l16 b16 => ?_))
  have a17 := a12.t l16
  refine Nb rfl ?_
  cases hm
  exact Cw.ret (retA2 rfl b16 rfl (Res.mk a17 ⟨.slice none 0 0, .slice none 0 0, rfl, (owsN []).sub rfl rfl, (owsN []).sub rfl rfl⟩))
 ·refine sk (Cw.seq ?_)
  obtain ⟨K21, hK21, hm⟩ := jn_e hm
  refine Cw.join 21 37 [37] (fun l w => ∃ y19 W20, CW.w W20 = w ∧ Le [] W11 W20 ∧ l = [vB y19] ∧ K21 y19 = some r) ?_ ?_
  ·rintro _ _ σ ⟨y19, W20, rfl, l20, rfl, hm⟩
   rw [hK21] at hm
   have a22 := a12.n l20
   have b23 := b13.up l20
   have b24 := (b3.up l11).up l20
   refine cn hm (fun hm => ?_) fun hm => ?_
   ·refine sr (la b23 (cr hm (fun _ => p71 (k0 := 4) (k1 := 5) (Repo.rd (K := [0]) x0.Commits x0.Heads (h0_0.ul a22) (h0_1.ul a22))) ?_))
    rintro z28 _ W30 hm l30 ⟨v0_0_30, v0_1_30, rfl, f30_0, f30_1⟩
    have a31 := a22.n l30
    refine sta (b24.up l30) (oc_cons f30_0.oc (oc_cons f30_1.oc oc_nil)) fun W34 l34 b34 => ?_
    have a35 := a31.t l34
    refine Nb rfl ?_
    obtain ⟨W39, ew39, l39, o39⟩ := (f30_0.up l34).dyeO 31
    have a40 := a35.t l39
    obtain ⟨W44, ew44, l44, o44⟩ := ((f30_1.up l34).up l39).dyeO 32
    have a45 := a40.t l44
    cases hm
    rw [← ew44.trans (ew39)]
    exact Cw.ret (retA2 rfl ((b34.up l39).up l44) rfl (Res.mk a45 ⟨v0_0_30, v0_1_30, rfl, (o39.up l44).s, o44.s⟩))
   ·refine sk (sr (la b23 (cr hm (fun _ => p71 (k0 := 6) (k1 := 7) (Repo.rd (K := [0]) x0.Commits x0.Heads (h0_0.ul a22) (h0_1.ul a22))) ?_)))
    rintro z51 _ W53 hm l53 ⟨v0_0_53, v0_1_53, rfl, f53_0, f53_1⟩
    have a54 := a22.n l53
    refine al 8 [.slice none 0 0, .slice none 0 0] fun g57 W57 l57 b57 => ?_
    have a58 := a54.n l57
    refine sta b57 (oc_cons (f53_0.up l57).oc (oc_cons (f53_1.up l57).oc oc_nil)) fun W63 l63 b63 => ?_
    have a64 := a58.t l63
    refine nl (sr (Ni rfl ?_))
    obtain ⟨K71, hK71, hm⟩ := jn_e hm
    refine Cw.join 42 47 [11] (fun l w => ∃ y69 W70, CW.w W70 = w ∧ Le [] W63 W70 ∧ l = [vI y69] ∧ K71 y69 = some r) ?_ ?_
    ·rintro _ _ σ ⟨y69, W70, rfl, l70, rfl, hm⟩
     rw [hK71] at hm
     have a72 := a64.n l70
     refine ssr (mv v2_ rfl (Lw.ln x2 (h2.ul a72) rfl (mi rfl (nl (Cw.block ?_)))))
     obtain ⟨K101, hK101, hm⟩ := jn_e hm
     refine Cw.loop 50 111 [9, 11, 12, 13, 14, 16, 50] (fun m l w => ∃ y79 y80 y85 y86 y89 y93 y96 j81 j82 j83 j84 v87 v90 v94 v97 W100, CW.w W100 = w ∧ Le [6, 8, 11, 12, 13, 14] W70 W100 ∧ l = [vB y79, vI y80, j81, j82, j83, j84, vI y85] ∧ Ow W100 9 [] [v87] y86 ∧ Ow W100 10 [] [v90] y89 ∧ Bx W100 3 g3 [v87, v90] ∧ Ow W100 6 [] [v94] y93 ∧ Ow W100 7 [] [v97] y96 ∧ Bx W100 8 g57 [v94, v97] ∧ Vm.impl_SendTake_l1 x0 x1 x2 K101 m y79 y80 y85 y86 y89 y93 y96 = some r) _ ⟨false, y69, 0, ([] : List Commit), ([] : List Head), z51.Commits, z51.Heads, undef, undef, undef, undef, .slice none 0 0, .slice none 0 0, v0_0_53, v0_1_53, W70, rfl, Le.refl _ _, rfl, owN 9 [], owN 10 [], ((((b24.up l53).up l57).up l63).up l70), (((f53_0.up l57).up l63).up l70), (((f53_1.up l57).up l63).up l70), (b63.up l70), hm⟩ ?_
     rintro (_ | m102) _ _ σ ⟨y79, y80, y85, y86, y89, y93, y96, j81, j82, j83, j84, v87, v90, v94, v97, W100, rfl, l100, rfl, o88, o91, b92, o95, o98, b99, hm⟩
     ·cases hm
     unfold Vm.impl_SendTake_l1 at hm
     have a103 := a72.t l100
     have b104 := ((((b23.up l53).up l57).up l63).up l70).up l100
     refine sr (Lw.lt rfl (nl (Cw.seq (cn hm (fun hm => ?_) fun hm => ?_))))
     ·refine sk (Cw.seq (Cw.block (sr (mi rfl ?_))))
      obtain ⟨u106, e107, hm⟩ := ob hm
      refine Lw.r rfl (R.ix (α := Commit) (h2.ul a103) e107 rfl rfl rfl) ?_
      obtain ⟨x109, c110, _, r111⟩ := ((h2.ul a103).at_ e107).cells
      obtain ⟨v112, v114, rfl, r113, r115⟩ := Commit.split r111
      refine Lw.r rfl (R.lda c110 rfl rfl) (al 11 [.slice none 0 0, vS ([] : Str), .slice none 0 0] fun g116 W116 l116 b116 => ?_)
      have a117 := l116.o
      refine Gi rfl (sta b116 (oc_cons r113.oc (oc_cons rfl (oc_cons r115.oc oc_nil))) fun W125 l125 b125 => ?_)
      have a126 := l125.s
      refine nl (Cw.seq ?_)
      obtain ⟨z145, e146, hm⟩ := ob hm
      refine Cw.par [[], [0], [], [2], [2, 3], [0, 1, 2, 3, 4], [], [0, 1, 2, 3, 4, 5, 6]] [[], [0], [], [2], [3], [1, 4], [], [4, 5, 6]] [[], [], [], [], [], [], [], [13]] [[0], [1], [2], [3], [4], [4, 5], [6], [4, 6]] [[], [], [], [], [12], [], [13], [13]] [0, 1, 2, 3, 4, 5, 7] [13] [fun vs W => (vs 0) = ptr ((bx g116).add 1), fun vs W => (vs 1) = vS u106.Who, fun vs W => (vs 2) = ptr ((bx g116).add 2), fun vs W => (vs 3) = v114, fun vs W => Ow W 12 [] [(vs 4)] z145, fun vs W => (vs 5) = .agg [.slice none 0 0, vS u106.Who, (vs 4)].toArray, fun vs W => (vs 6) = ptr (bx (pg (vs 6))) ∧ Bx W 13 (pg (vs 6)) [.slice none 0 0, vS ([] : Str), .slice none 0 0], fun vs W => (vs 6) = ptr (bx (pg (vs 6))) ∧ Bx W 13 (pg (vs 6)) [.slice none 0 0, vS u106.Who, (vs 4)]] [] mixed (by kernel_rfl) rfl AllF.nil ?_
      intro W179 l179
      have a180 := l179.o
      have b188 := b125.up l179
      refine ⟨(Steps.cons ?_ (Steps.cons ?_ (Steps.cons ?_ (Steps.cons ?_ (Steps.cons ?_ (Steps.cons ?_ (Steps.cons ?_ (Steps.cons ?_ Steps.nil)))))))), (Sups.cons (fun vs vs' W W' _ hv l hd h => by (show (vs' 0) = ptr ((bx g116).add 1)); rw [hv 0 (anyb rfl)]; exact h) (Sups.cons (fun vs vs' W W' _ hv l hd h => by (show (vs' 1) = vS u106.Who); rw [hv 1 (anyb rfl)]; exact h) (Sups.cons (fun vs vs' W W' _ hv l hd h => by (show (vs' 2) = ptr ((bx g116).add 2)); rw [hv 2 (anyb rfl)]; exact h) (Sups.cons (fun vs vs' W W' _ hv l hd h => by (show (vs' 3) = v114); rw [hv 3 (anyb rfl)]; exact h) (Sups.cons (fun vs vs' W W' _ hv l hd h => by (show Ow W' 12 [] [(vs' 4)] z145); rw [hv 4 (anyb rfl)]; exact h.upv l (disj_mem hd (c := 12) rfl)) (Sups.cons (fun vs vs' W W' _ hv l hd h => by (show (vs' 5) = .agg [.slice none 0 0, vS u106.Who, (vs' 4)].toArray); rw [hv 4 (anyb rfl), hv 5 (anyb rfl)]; exact h) (Sups.cons (fun vs vs' W W' _ hv l hd h => by (show (vs' 6) = ptr (bx (pg (vs' 6))) ∧ Bx W' 13 (pg (vs' 6)) [.slice none 0 0, vS ([] : Str), .slice none 0 0]); rw [hv 6 (anyb rfl)]; exact ⟨h.1, h.2.up l (disj_mem hd (c := 13) rfl)⟩) (Sups.cons (fun vs vs' W W' _ hv l hd h => by (show (vs' 6) = ptr (bx (pg (vs' 6))) ∧ Bx W' 13 (pg (vs' 6)) [.slice none 0 0, vS u106.Who, (vs' 4)]); rw [hv 4 (anyb rfl), hv 6 (anyb rfl)]; exact ⟨h.1, h.2.up l (disj_mem hd (c := 13) rfl)⟩) Sups.nil)))))))), ?_⟩
      ·intro vs W lW hN
       obtain ⟨W189, hW189⟩ : ∃ X, X = W := ⟨W, rfl⟩
       subst hW189
       refine Tr.mono (Run.tr (R.fa rfl)) ?_
       rintro _ _ ⟨hu, rfl⟩
       obtain rfl := hu.symm
       exact ⟨W189, rfl, Le.refl _ _, (show (ptr ((bx g116).add 1) : Value) = ptr ((bx g116).add 1) from rfl)⟩
      ·intro vs W lW hN
       obtain ⟨W199, hW199⟩ : ∃ X, X = W := ⟨W, rfl⟩
       subst hW199
       have e0_ : vs 0 = ptr ((bx g116).add 1) := (hN 0 (anyb rfl))
       obtain ⟨vs, rfl⟩ := up_eq e0_
       refine Tr.mono (Run.tr (R.ld (v := vS u106.Who) rfl rfl ((b188.up lW rfl).cell rfl))) ?_
       rintro _ _ ⟨hu, rfl⟩
       obtain rfl := hu.symm
       exact ⟨W199, rfl, Le.refl _ _, (show (vS u106.Who : Value) = vS u106.Who from rfl)⟩
      ·intro vs W lW hN
       obtain ⟨W209, hW209⟩ : ∃ X, X = W := ⟨W, rfl⟩
       subst hW209
       refine Tr.mono (Run.tr (R.fa rfl)) ?_
       rintro _ _ ⟨hu, rfl⟩
       obtain rfl := hu.symm
       exact ⟨W209, rfl, Le.refl _ _, (show (ptr ((bx g116).add 2) : Value) = ptr ((bx g116).add 2) from rfl)⟩
      ·intro vs W lW hN
       obtain ⟨W219, hW219⟩ : ∃ X, X = W := ⟨W, rfl⟩
       subst hW219
       have e2_ : vs 2 = ptr ((bx g116).add 2) := (hN 2 (anyb rfl))
       obtain ⟨vs, rfl⟩ := up_eq e2_
       refine Tr.mono (Run.tr (R.ld (v := v114) rfl rfl ((b188.up lW rfl).cell rfl))) ?_
       rintro _ _ ⟨hu, rfl⟩
       obtain rfl := hu.symm
       exact ⟨W219, rfl, Le.refl _ _, (show (v114 : Value) = v114 from rfl)⟩
      ·intro vs W lW hN
       obtain ⟨W229, hW229⟩ : ∃ X, X = W := ⟨W, rfl⟩
       subst hW229
       have a230 := ((a117.trans a126).trans a180).t lW rfl
       have e3_ : vs 3 = v114 := (hN 3 (anyb rfl))
       obtain ⟨vs, rfl⟩ := up_eq e3_
       refine Tr.mono (T.call rfl (p114 (k0 := 12) (r115.ul a230) e146)) ?_
       rintro v0_240 _ ⟨W240, rfl, l240, ⟨_, rfl, f240_0⟩⟩
       exact ⟨W240, rfl, l240, (show Ow W240 12 [] [v0_240] z145 from f240_0)⟩
      ·intro vs W lW hN
       obtain ⟨W250, hW250⟩ : ∃ X, X = W := ⟨W, rfl⟩
       subst hW250
       have e1_ : vs 1 = vS u106.Who := (hN 1 (anyb rfl))
       obtain ⟨vs, rfl⟩ := up_eq e1_
       obtain ⟨pv4, e4_⟩ : ∃ v, vs 4 = v := ⟨_, rfl⟩
       obtain ⟨vs, rfl⟩ := up_eq e4_
       have o260 : Ow W250 12 [] [pv4] z145 := (hN 4 (anyb rfl))
       refine Tr.mono (Run.tr (R.bd (zs := [.slice none 0 0, vS ([] : Str), .slice none 0 0]) (cs := [.slice none 0 0, vS u106.Who, pv4]) [(1, vS u106.Who), (2, pv4)] rfl rfl rfl (bp_cons rfl rfl (bp_cons o260.oc rfl bp_nil)))) ?_
       rintro _ _ ⟨hu, rfl⟩
       obtain rfl := hu.symm
       exact ⟨W250, rfl, Le.refl _ _, (show (.agg [.slice none 0 0, vS u106.Who, pv4].toArray : Value) = .agg [.slice none 0 0, vS u106.Who, pv4].toArray from rfl)⟩
      ·intro vs W lW hN
       obtain ⟨W261, hW261⟩ : ∃ X, X = W := ⟨W, rfl⟩
       subst hW261
       refine Tr.mono (T.alloc 13 (cs := [.slice none 0 0, vS ([] : Str), .slice none 0 0]) rfl) ?_
       rintro _ _ ⟨g271, W271, rfl, rfl, l271, b271⟩
       exact ⟨W271, rfl, l271, (show (ptr (bx g271) : Value) = ptr (bx g271) ∧ Bx W271 13 g271 [.slice none 0 0, vS ([] : Str), .slice none 0 0] from ⟨rfl, b271⟩)⟩
      ·intro vs W lW hN
       obtain ⟨W281, hW281⟩ : ∃ X, X = W := ⟨W, rfl⟩
       subst hW281
       obtain ⟨pv4, e4_⟩ : ∃ v, vs 4 = v := ⟨_, rfl⟩
       obtain ⟨vs, rfl⟩ := up_eq e4_
       have o291 : Ow W281 12 [] [pv4] z145 := (hN 4 (anyb rfl))
       have e5_ : vs 5 = .agg [.slice none 0 0, vS u106.Who, pv4].toArray := (hN 5 (anyb rfl))
       obtain ⟨vs, rfl⟩ := up_eq e5_
       obtain ⟨pg6, e6_⟩ : ∃ pg6, vs 6 = ptr (bx pg6) := ⟨_, ((hN 6 (anyb rfl))).1⟩
       obtain ⟨vs, rfl⟩ := up_eq e6_
       have o292 : Bx W281 13 pg6 [.slice none 0 0, vS ([] : Str), .slice none 0 0] := (hN 6 (anyb rfl)).2
       refine Tr.mono (T.sta (vs := [.slice none 0 0, vS u106.Who, pv4]) o292 rfl rfl (oc_cons rfl (oc_cons rfl (oc_cons o291.oc oc_nil))) rfl rfl) ?_
       rintro _ _ ⟨W293, rfl, l293, b293⟩
       exact ⟨W293, rfl, l293, (show (ptr (bx pg6)) = ptr (bx pg6) ∧ Bx W293 13 pg6 [.slice none 0 0, vS u106.Who, pv4] from ⟨rfl, b293⟩)⟩
      ·intro vs W lW hN
       obtain ⟨W304, hW304⟩ : ∃ X, X = W := ⟨W, rfl⟩
       subst hW304
       have a305 := lW.s rfl
       obtain ⟨l304, hl304⟩ : ∃ x, x = lW := ⟨lW, rfl⟩
       have e0_ : vs 0 = ptr ((bx g116).add 1) := (hN 0 (anyb rfl))
       obtain ⟨vs, rfl⟩ := up_eq e0_
       have e1_ : vs 1 = vS u106.Who := (hN 1 (anyb rfl))
       obtain ⟨vs, rfl⟩ := up_eq e1_
       have e2_ : vs 2 = ptr ((bx g116).add 2) := (hN 2 (anyb rfl))
       obtain ⟨vs, rfl⟩ := up_eq e2_
       have e3_ : vs 3 = v114 := (hN 3 (anyb rfl))
       obtain ⟨vs, rfl⟩ := up_eq e3_
       obtain ⟨pv4, e4_⟩ : ∃ v, vs 4 = v := ⟨_, rfl⟩
       obtain ⟨vs, rfl⟩ := up_eq e4_
       have o314 : Ow W304 12 [] [pv4] z145 := (hN 4 (anyb rfl))
       have e5_ : vs 5 = .agg [.slice none 0 0, vS u106.Who, pv4].toArray := (hN 5 (anyb rfl))
       obtain ⟨vs, rfl⟩ := up_eq e5_
       obtain ⟨pg6, e6_⟩ : ∃ pg6, vs 6 = ptr (bx pg6) := ⟨_, (hN 7 (anyb rfl)).1⟩
       obtain ⟨vs, rfl⟩ := up_eq e6_
       have o315 : Bx W304 13 pg6 [.slice none 0 0, vS u106.Who, pv4] := (hN 7 (anyb rfl)).2
       refine ssr (fl (b188.up lW rfl) rfl (Lw.ln u106.Parents (r113.ul (((a117.trans a126).trans a180).trans a305)) rfl (mi rfl (nl (Cw.block ?_)))))
       obtain ⟨K336, hK336, hm⟩ := jn_e hm
       refine Cw.loop 64 101 [9, 16, 64] (fun m l w => ∃ y317 y319 y320 y323 y327 y330 y331 j318 v321 v324 v328 v332 W335, CW.w W335 = w ∧ Le [13, 14] W304 W335 ∧ l = [vB y317, j318, vI y319] ∧ Ow W335 9 [] [v321] y320 ∧ Ow W335 10 [] [v324] y323 ∧ Bx W335 3 g3 [v321, v324] ∧ Ow W335 14 [] [v328] y327 ∧ Ow W335 12 [] [v332] y331 ∧ Bx W335 13 pg6 [v328, vS y330, v332] ∧ Vm.impl_SendTake_l2 x0 x1 y85 u106 K336 m y317 y319 y320 y323 y327 y330 y331 = some r) _ ⟨y79, 0, y86, y89, ([] : List Int), u106.Who, z145, j84, v87, v90, .slice none 0 0, pv4, W304, rfl, Le.refl _ _, rfl, ((((o88.up l116).up l125).up l179).up lW rfl), ((((o91.up l116).up l125).up l179).up lW rfl), ((((b92.up l116).up l125).up l179).up lW rfl), owN 14 [], o314, o315, hm⟩ ?_
       rintro (_ | m337) _ _ σ ⟨y317, y319, y320, y323, y327, y330, y331, j318, v321, v324, v328, v332, W335, rfl, l335, rfl, o322, o325, b326, o329, o333, b334, hm⟩
       ·cases hm
       unfold Vm.impl_SendTake_l2 at hm
       have a338 := l335.s
       have o339 := ((((o95.up l116).up l125).up l179).up lW rfl).up l335
       have b342 := ((((b99.up l116).up l125).up l179).up lW rfl).up l335
       refine sr (Lw.lt rfl (nl (Cw.seq (cn hm (fun hm => ?_) fun hm => ?_))))
       ·refine sk ?_
        obtain ⟨K363, hK363, hm⟩ := jn_e hm
        refine Cw.join 66 100 [9, 16] (fun l w => ∃ y345 y347 y350 y354 y357 y358 j346 v348 v351 v355 v359 W362, CW.w W362 = w ∧ Le [13, 14] W335 W362 ∧ l = [vB y345, j346] ∧ Ow W362 9 [] [v348] y347 ∧ Ow W362 10 [] [v351] y350 ∧ Bx W362 3 g3 [v348, v351] ∧ Ow W362 14 [] [v355] y354 ∧ Ow W362 12 [] [v359] y358 ∧ Bx W362 13 pg6 [v355, vS y357, v359] ∧ K363 y345 y347 y350 y354 y357 y358 = some r) ?_ ?_
        ·rintro _ _ σ ⟨y345, y347, y350, y354, y357, y358, j346, v348, v351, v355, v359, W362, rfl, l362, rfl, o349, o352, b353, o356, o360, b361, hm⟩
         rw [hK363] at hm
         exact rg (Lw.add rfl (mi rfl (nl ((agm) ⟨y345, w64 (y319 + 1), y347, y350, y354, y357, y358, j346, v348, v351, v355, v359, W362, rfl, (l335.j l362).w, rfl, o349, o352, b353, o356, o360, b361, hm⟩))))
        ·refine Cw.block (sr ?_)
         obtain ⟨u370, e371, hm⟩ := ob hm
         have s372 := r113.ul ((((a117.trans a126).trans a180).trans a305).trans a338)
         refine Lw.r rfl (R.ix (α := Int) s372 e371 rfl rfl rfl) (Lw.r rfl (R.ld rfl rfl (s372.at_ e371).int) (Ni rfl (Cw.block (sr (mi rfl (mi rfl (Lw.sub rfl (ca hm (fun _ => p78) fun z373 W375 hm l375 => ?_))))))))
         have a376 := (((((a103.trans a117).trans a126).trans a180).trans a305).trans a338).n l375
         have b383 := (((((b104.up l116).up l125).up l179).up lW rfl).up l335).up l375
         have b387 := b334.up l375
         refine Nb rfl (cn hm (fun hm => ?_) fun hm => ?_)
         ·refine rg (fl b387 rfl (fl b383 rfl (Lw.ln x0.Commits (h0_0.ul a376) rfl (mi rfl (Lw.add rfl (Lw.t rfl (T.bs 15 [vI (w64 ((x0.Commits.length : Int) + u370))] (cs := [vI (w64 ((x0.Commits.length : Int) + u370))]) rfl rfl (bsv rfl)) ?_))))))
          rintro _ _ ⟨g390, W390, rfl, rfl, l390, b390⟩
          obtain ⟨q403, e404, hm⟩ := ob hm
          refine Lw.t rfl (T.app1S (α := Int) (K' := []) ((o329.up l375).up l390) b390 (rdI _) rfl rfl e404) ?_
          rintro v405 _ ⟨W405, rfl, l405, o405⟩
          refine Lw.fa rfl (Lw.u (T.st (j := 0) (v := v405) ((b387.up l390).up l405) rfl rfl o405.oc rfl rfl) ?_)
          rintro _ _ ⟨W418, rfl, l418, b418⟩
          exact nl ((ag) ⟨y317, y320, y323, q403, y330, y331, vI u370, v321, v324, v405, v332, W418, rfl, (((l375.j l390).j l405).j l418).w, rfl, ((((o322.up l375).up l390).up l405).up l418), ((((o325.up l375).up l390).up l405).up l418), ((((b326.up l375).up l390).up l405).up l418), (o405.up l418), ((((o333.up l375).up l390).up l405).up l418), b418, hm⟩)
         ·refine sr (mi rfl (mv v1_ rfl (Lw.ln x1 (h1.ul a376) rfl (Lw.r rfl (R.neg rfl) (ca hm (fun _ => p78) fun z432 W434 hm l434 => ?_)))))
          have a435 := a376.n l434
          have b443 := (b326.up l375).up l434
          refine Nb rfl (cn hm (fun hm => ?_) fun hm => ?_)
          ·refine Cw.draw [14] [(0, 0), (1, 1), (2, 0), (3, 0), (4, 0), (5, 0), (6, 1), (7, 2), (8, 2), (9, 0), (10, 3)] mixed (by kernel_rfl) fun W448 l448 => ?_
           have a449 := a435.n l448
           refine Dfl ((b387.up l434).up l448) rfl rfl rfl (Dv v1_ rfl (Di rfl (Mw.p rfl rfl (fun _ => R.sub rfl rfl) ?_)))
           obtain ⟨u461, e462, hm⟩ := ob hm
           refine Mw.p rfl rfl (fun _ => R.ix (α := Int) (h1.ul a449) e462 rfl rfl rfl) (Mw.q rfl rfl (fun _ c => R.ld rfl rfl (cl_cell ((h1.ul a449).at_ e462).1 rfl ((h1.ul a449).at_ e462).int c)) (Mw.t rfl rfl (T.bs 16 [vI u461] (cs := [vI u461]) rfl rfl (bsv rfl)) ?_))
           rintro _ _ ⟨g464, W464, rfl, rfl, l464, b464⟩
           refine m0 l464 fun d464 => ?_
           obtain ⟨q477, e478, hm⟩ := ob hm
           refine Mw.t rfl rfl (T.app1S (α := Int) (K' := []) ((((o329.up l375).up l434).up l448).up l464) b464 (rdI _) rfl rfl e478) ?_
           rintro v479 _ ⟨W479, rfl, l479, o479⟩
           refine mc d464 l479 fun d479 => Df rfl (Mw.lu rfl (T.st (j := 0) (v := v479) ((((b387.up l434).up l448).up l464).up l479) rfl rfl o479.oc rfl rfl) ?_)
           rintro _ _ ⟨W492, rfl, l492, b492⟩
           exact Mw.nil ((ag) ⟨y317, y320, y323, q477, y330, y331, vI u370, v321, v324, v479, v332, W492, rfl, (((((l375.j l434).j l448).j l464).j l479).j l492).w, rfl, ((((((o322.up l375).up l434).up l448).up l464).up l479).up l492), ((((((o325.up l375).up l434).up l448).up l464).up l479).up l492), ((((b443.up l448).up l464).up l479).up l492), (o479.up l492), ((((((o333.up l375).up l434).up l448).up l464).up l479).up l492), b492, hm⟩)
          ·refine sr (la (b383.up l434) (cr hm (fun _ => p71 (k0 := 17) (k1 := 18) (Repo.rd (K := [0]) x0.Commits x0.Heads (h0_0.ul a435) (h0_1.ul a435))) ?_))
           rintro z507 _ W509 hm l509 ⟨v0_0_509, v0_1_509, rfl, f509_0, f509_1⟩
           have a510 := a435.n l509
           refine sta (b443.up l509) (oc_cons f509_0.oc (oc_cons f509_1.oc oc_nil)) fun W522 l522 b522 => ?_
           have a523 := a510.t l522
           refine Nb rfl ?_
           obtain ⟨W536, ew536, l536, o536⟩ := (f509_0.up l522).dyeO 31
           have a537 := a523.t l536
           obtain ⟨W550, ew550, l550, o550⟩ := ((f509_1.up l522).up l536).dyeO 32
           have a551 := a537.t l550
           cases hm
           rw [← ew550.trans (ew536)]
           exact Cw.ret (retA2 rfl ((b522.up l536).up l550) rfl (Res.mk a551 ⟨v0_0_509, v0_1_509, rfl, (o536.up l550).s, o550.s⟩))
       ·refine Cw.exit ?_
        rw [hK336] at hm
        refine sr (fl b342 rfl (Lw.ln y93 o339.rd rfl (Ni rfl (rg (fl b342 rfl (la b334 (Lw.t rfl (T.bs 19 [.agg [v328, vS y330, v332].toArray] (cs := [v328, vS y330, v332]) rfl rfl (bsA rfl)) ?_)))))))
        rintro _ _ ⟨g564, W564, rfl, rfl, l564, b564⟩
        obtain ⟨q577, e578, hm⟩ := ob hm
        refine Lw.t rfl (T.app1 (α := Commit) (J := [14, 12]) (K' := []) (o339.up l564) b564 (Commit.own y327 y330 y331 (o329.up l564).s (o333.up l564).s) rfl rfl e578) ?_
        rintro v579 _ ⟨W579, rfl, l579, o579⟩
        refine Lw.fa rfl (Lw.u (T.st (j := 0) (v := v579) ((b342.up l564).up l579) rfl rfl o579.oc rfl rfl) ?_)
        rintro _ _ ⟨W590, rfl, l590, b590⟩
        exact nl (rg (Lw.add rfl (mi rfl (nl ((agm) ⟨y317, (y93.length : Int), w64 (y85 + 1), y320, y323, q577, y96, vI y85, ptr (bx g116), ptr (bx pg6), j318, v321, v324, v579, v97, W590, rfl, ((((((((l100.j l116).j l125).j l179).j l304).j l335).j l564).j l579).j l590).w, rfl, (((o322.up l564).up l579).up l590), (((o325.up l564).up l579).up l590), (((b326.up l564).up l579).up l590), (o579.up l590), ((((((((o98.up l116).up l125).up l179).up lW rfl).up l335).up l564).up l579).up l590), b590, hm⟩)))))
     ·refine Cw.exit ?_
      rw [hK101] at hm
      refine Cw.seq (Cw.draw [6, 7, 20, 21] [(0, 1), (1, 1), (2, 0), (3, 0), (4, 2), (5, 2), (6, 0), (7, 0), (8, 3), (9, 0)] mixed (by kernel_rfl) fun W601 l601 => ?_)
      have a602 := a103.n l601
      refine Mw.q rfl rfl (fun _ c => R.lda (cs := [v0_0_, v0_1_]) ((b104.up l601).clcs rfl c) rfl rfl) (Mw.q rfl rfl (fun _ c => R.lda (cs := [v94, v97]) ((b99.up l601).clcs rfl c) rfl rfl) (Ds rfl (Di rfl ?_)))
      obtain ⟨z610, e611, hm⟩ := ob hm
      refine Mw.t rfl rfl (T.call rfl (p128 (K := [0]) (k0 := 20) (k1 := 21) (c0 := 6) (c1 := 7) (x0 := (Vm.Repo.mk y93 y96)) (o95.up l601) (o98.up l601) rfl e611)) ?_
      rintro _ _ ⟨W612, rfl, l612, ⟨v0_0_612, v0_1_612, rfl, f612_0, f612_1⟩⟩
      have a613 := a602.t l612
      refine m0 l612 fun d612 => ?_
      obtain ⟨z622, e623, hm⟩ := ob hm
      refine Mw.t rfl rfl (T.call rfl (p127 (k0 := 22) (k1 := 23) (c0 := 20) (c1 := 21) (x1 := (Vm.Repo.mk z610.Commits z610.Heads)) (Repo.rd (K := [0]) x0.Commits x0.Heads (h0_0.ul a613) (h0_1.ul a613)) f612_0 f612_1 (h99.ul a613) rfl e623)) ?_
      rintro _ _ ⟨W624, rfl, l624, ⟨v0_0_624, v0_1_624, rfl, f624_0, f624_1⟩⟩
      have a625 := a613.t l624
      refine mc d612 l624 fun d624 => Mw.p rfl rfl (fun _ => R.ext (vs := [.agg [v0_0_624, v0_1_624].toArray, vB z622.2]) (v := .agg [v0_0_624, v0_1_624].toArray) rfl rfl) (Mw.p rfl rfl (fun _ => R.ext (vs := [.agg [v0_0_624, v0_1_624].toArray, vB z622.2]) (v := vB z622.2) rfl rfl) (Mw.lu rfl (T.sta (vs := [v0_0_624, v0_1_624]) (((b92.up l601).up l612).up l624) rfl rfl (oc_cons f624_0.oc (oc_cons f624_1.oc oc_nil)) rfl rfl) ?_))
      rintro _ _ ⟨W631, rfl, l631, b631⟩
      have a632 := a625.t l631
      refine Hb rfl (Mw.nil ?_)
      obtain ⟨W639, ew639, l639, o639⟩ := (f624_0.up l631).dyeO 31
      have a640 := a632.t l639
      obtain ⟨W647, ew647, l647, o647⟩ := ((f624_1.up l631).up l639).dyeO 32
      have a648 := a640.t l647
      cases hm
      rw [← ew647.trans (ew639)]
      exact Cw.ret (retA2 rfl ((b631.up l639).up l647) rfl (Res.mk a648 ⟨v0_0_624, v0_1_624, rfl, (o639.up l647).s, o647.s⟩))
    ·refine sr (mv v1_ rfl (Lw.ln x1 (h1.ul a64) rfl (Lw.gt rfl (nl (cn hm (fun hm => ?_) fun hm => ?_)))))
     ·refine rg (mv v1_ rfl ?_)
      obtain ⟨u657, e658, hm⟩ := ob hm
      exact Lw.r rfl (R.ix (α := Int) (h1.ul a64) e658 rfl rfl rfl) (Lw.r rfl (R.ld rfl rfl ((h1.ul a64).at_ e658).int) (Ni rfl ((ag) ⟨u657, W63, rfl, Le.refl _ _, rfl, hm⟩)))
     ·exact sk ((ag) ⟨(-1), W63, rfl, Le.refl _ _, rfl, hm⟩)
  ·refine rg (mv v1_ rfl (Lw.ln x1 (h1.ul a12) rfl (Lw.gt rfl (mb rfl (bs hm (fun hc660 hm => ?_) fun hc660 hm => ?_)))))
   ·exact psk 4 hc660 rfl (Pb hc660 rfl (mb rfl (psk 6 rfl rfl (Pb rfl rfl (nl ((ag) ⟨true, W11, rfl, Le.refl _ _, rfl, hm⟩))))))
   ·refine wak 4 hc660 (la b13 (mv v1_ rfl (ca hm (fun _ => p87 (Repo.rd (K := [0]) x0.Commits x0.Heads (h0_0.ul a12) (h0_1.ul a12)) (h1.ul a12) (h99.ul a12)) fun z664 W666 hm l666 => ?_)))
    have a667 := a12.n l666
    refine Lw.r rfl (R.not rfl) (Pb hc660 rfl (mb rfl (bs hm (fun hc670 hm => ?_) fun hc670 hm => ?_)))
    ·exact psk 6 hc670 rfl (Pb hc670 rfl (nl ((ag) ⟨true, W666, rfl, l666, rfl, hm⟩)))
    ·exact wak 6 hc670 (mv v2_ rfl (Lw.ln x2 (h2.ul a667) rfl (mv v1_ rfl (Lw.ln x1 (h1.ul a667) rfl (Lw.add rfl (Lw.eq rfl (Pb hc670 rfl (nl ((ag) ⟨((w64 ((x2.length : Int) + (x1.length : Int)) : Int) == (0 : Int)), W666, rfl, l666, rfl, hm⟩)))))))))
theorem p66 {x0 v0_0_ v0_1_ x1 v1_ x2 v2_ x3 k0 k1 r} (h0 : Rd W K [v0_0_, v0_1_] x0) (h1 : Rd W K [v1_] x1) (h2 : Rd W K [v2_] x2) (h99 : Gl 0 W K) (hm : Vm.impl_SendTake x0 x1 x2 x3 = some r) : Q1 66 [.agg [v0_0_, v0_1_].toArray, v1_, v2_, vS x3] W [] fun W' v => ∃ u0_0 u0_1, v = .tuple [.agg [u0_0, u0_1].toArray, vB r.2].toArray ∧ Ow W' k0 [] [u0_0] r.1.Commits ∧ Ow W' k1 [] [u0_1] r.1.Heads :=
 CallR.adJ (J := []) (fun c => bif Nat.beq c 0 then 0 else bif Nat.beq c 31 then k0 else bif Nat.beq c 32 then k1 else 0) (c66 (h0.view _) (h1.view _) (h2.view _) (h99.view _) hm) fun _ _ ⟨u0_0, u0_1, e, f0, f1⟩ => ⟨u0_0, u0_1, e, f0.one1.backN rfl, f1.one1.backN rfl⟩
theorem c80 {x0 v0_0_ v0_1_ x1 r} (h0 : Rd W0 [0] [v0_0_, v0_1_] x0) (hm : Vm.impl_Repo_at x0 x1 = some r) : Q0 80 [.agg [v0_0_, v0_1_].toArray, vS x1] W0 fun Wf v => v = vI r := by
 unfold Vm.impl_Repo_at at hm
 obtain ⟨w0_0, w0_1, he0, h0_0, h0_1⟩ := Repo.split h0
 simp only [List.cons.injEq, and_true, true_and] at he0
 obtain ⟨rfl, rfl⟩ := he0
 refine CallR.of Tryz.func80 rfl rfl rfl rfl (sr (bo 2 rfl fun g1 W1 l1 b1 => ?_))
 have a2 := l1.o
 refine Ni rfl (ssr (fl b1 rfl (Lw.ln x0.Heads (h0_1.ul a2) rfl (mi rfl (nl (Cw.block ?_))))))
 obtain ⟨K8, hK8, hm⟩ := jn_e hm
 refine Cw.loop 10 20 [4, 6, 10] (fun m l w => ∃ y4 y6 j5 W7, CW.w W7 = w ∧ Le [3] W1 W7 ∧ l = [vI y4, j5, vI y6] ∧ Vm.impl_Repo_at_l1 x0 x1 K8 m y4 y6 = some r) _ ⟨0, 0, undef, W1, rfl, Le.refl _ _, rfl, hm⟩ ?_
 rintro (_ | m9) _ _ σ ⟨y4, y6, j5, W7, rfl, l7, rfl, hm⟩
 ·cases hm
 unfold Vm.impl_Repo_at_l1 at hm
 have a10 := a2.t l7
 refine sr (Lw.lt rfl (nl (Cw.seq (cn hm (fun hm => ?_) fun hm => ?_))))
 ·refine sk (Cw.seq (Cw.block (sr ?_)))
  obtain ⟨u13, e14, hm⟩ := ob hm
  refine Lw.r rfl (R.ix (α := Head) (h0_1.ul a10) e14 rfl rfl rfl) ?_
  obtain ⟨x16, c17, _, r18⟩ := ((h0_1.ul a10).at_ e14).cells
  obtain rfl := Head.split r18
  refine Lw.r rfl (R.lda c17 rfl rfl) (al 3 [vS ([] : Str), vI 0] fun g19 W19 l19 b19 => ?_)
  have a20 := a10.n l19
  refine sta b19 (oc_cons rfl (oc_cons rfl oc_nil)) fun W22 l22 b22 => ?_
  have a23 := a20.t l22
  refine nl (sr (fl b22 rfl (ms rfl (Lw.seq rfl (nl (cn hm (fun hm => ?_) fun hm => ?_))))))
  ·exact sr (fl b22 rfl (Ni rfl (.ret (rt hm a23))))
  ·exact sk (rg (Lw.add rfl (mi rfl (nl ((agm) ⟨y4, w64 (y6 + 1), ptr (bx g19), W22, rfl, ((l7.j l19).j l22).w, rfl, hm⟩)))))
 ·refine Cw.exit ?_
  rw [hK8] at hm
  exact sr (Ni rfl (.ret (rt hm a10)))
theorem p80 {x0 v0_0_ v0_1_ x1 r} (h0 : Rd W K [v0_0_, v0_1_] x0) (hm : Vm.impl_Repo_at x0 x1 = some r) : Q1 80 [.agg [v0_0_, v0_1_].toArray, vS x1] W [] fun W' v => v = vI r :=
 (c80 (h0.view _) hm).ad (fk 0) fun _ _ e => e
theorem c20 {x0 v0_0_ v0_1_ x1 r} (h0 : Rd W0 [0] [v0_0_, v0_1_] x0) (h99 : Gl 0 W0 [0]) (hm : Vm.impl_RepoAt x0 x1 = some r) : Q0 20 [.agg [v0_0_, v0_1_].toArray, vS x1] W0 fun Wf v => v = vI r := by
 unfold Vm.impl_RepoAt at hm
 obtain ⟨w0_0, w0_1, he0, h0_0, h0_1⟩ := Repo.split h0
 simp only [List.cons.injEq, and_true, true_and] at he0
 obtain ⟨rfl, rfl⟩ := he0
 refine CallR.of Tryz.func20 rfl rfl rfl rfl (sr (bo 2 rfl fun g1 W1 l1 b1 => ?_))
 have a2 := l1.o
 refine Ni rfl (ssr (la b1 (ca hm (fun _ => p19 (Repo.rd (K := [0]) x0.Commits x0.Heads (h0_0.ul a2) (h0_1.ul a2)) (h99.ul a2)) fun z6 W8 hm l8 => ?_)))
 have a9 := a2.n l8
 refine Lw.r rfl (R.not rfl) (nl (cn hm (fun hm => ?_) fun hm => ?_))
 ·exact sr (Ni rfl (.ret (rt hm a9)))
 ·refine sk (sr (la (b1.up l8) (ms rfl (ca hm (fun _ => p80 (Repo.rd (K := [0]) x0.Commits x0.Heads (h0_0.ul a9) (h0_1.ul a9))) fun z14 W16 hm l16 => ?_))))
  have a17 := a9.n l16
  exact Ni rfl (.ret (rt hm a17))
theorem p20 {x0 v0_0_ v0_1_ x1 r} (h0 : Rd W K [v0_0_, v0_1_] x0) (h99 : Gl 0 W K) (hm : Vm.impl_RepoAt x0 x1 = some r) : Q1 20 [.agg [v0_0_, v0_1_].toArray, vS x1] W [] fun W' v => v = vI r :=
 (c20 (h0.view _) (h99.view _) hm).ad (fk 0) fun _ _ e => e
theorem c56 {x0 v0_0_ v0_1_ x1 r} (h0 : Rd W0 [0] [v0_0_, v0_1_] x0) (h99 : Gl 0 W0 [0]) (hm : Vm.impl_RepoTree x0 x1 = some r) : Q0 56 [.agg [v0_0_, v0_1_].toArray, vI x1] W0 fun Wf v => ∃ u0, v = .tuple [u0, vB r.2].toArray ∧ OwS Wf LL [] [u0] r.1 := by
 unfold Vm.impl_RepoTree at hm
 obtain ⟨w0_0, w0_1, he0, h0_0, h0_1⟩ := Repo.split h0
 simp only [List.cons.injEq, and_true, true_and] at he0
 obtain ⟨rfl, rfl⟩ := he0
 refine CallR.of Tryz.func56 rfl rfl rfl rfl (sr (bo 2 rfl fun g1 W1 l1 b1 => ?_))
 have a2 := l1.o
 refine Gv (.slice none 0 0) rfl (Nb rfl (Cw.seq ?_))
 obtain ⟨K5, hK5, hm⟩ := jn_e hm
 refine Cw.join 6 14 [14] (fun l w => ∃ y3 W4, CW.w W4 = w ∧ Le [] W1 W4 ∧ l = [vB y3] ∧ K5 y3 = some r) ?_ ?_
 ·rintro _ _ σ ⟨y3, W4, rfl, l4, rfl, hm⟩
  rw [hK5] at hm
  have a6 := a2.n l4
  refine cn hm (fun hm => ?_) fun hm => ?_
  ·refine sr (Gv (.slice none 0 0) rfl (Nb rfl ?_))
   cases hm
   exact Cw.ret (ret2 rfl rfl (Res.mk a6 ⟨.slice none 0 0, rfl, (owsN []).sub rfl rfl⟩))
  ·refine sk (sr (la (b1.up l4) (mi rfl (cr hm (fun _ => p115 (Repo.rd (K := [0]) x0.Commits x0.Heads (h0_0.ul a6) (h0_1.ul a6))) ?_))))
   rintro z11 v0_13 W13 hm l13 ⟨_, rfl, f13_0⟩
   have s14 := f13_0.sub (M := [0]) rfl
   have a15 := a6.n l13
   refine cr hm (fun _ => p114 (k0 := 3) s14) ?_
   rintro z17 v0_19 W19 hm l19 ⟨_, rfl, f19_0⟩
   have a20 := a15.n l19
   refine Gv v0_19 rfl (Nb rfl ?_)
   cases hm
   exact Cw.ret (ret2 rfl rfl (Res.mk a20 ⟨v0_19, rfl, f19_0.s.sub rfl rfl⟩))
 ·refine rg (la b1 (ca hm (fun _ => p19 (Repo.rd (K := [0]) x0.Commits x0.Heads (h0_0.ul a2) (h0_1.ul a2)) (h99.ul a2)) fun z25 W27 hm l27 => ?_))
  have a28 := a2.n l27
  refine Lw.r rfl (R.not rfl) (mb rfl (bs hm (fun hc30 hm => ?_) fun hc30 hm => ?_))
  ·exact psk 4 hc30 rfl (Pb hc30 rfl (nl ((ag) ⟨true, W27, rfl, l27, rfl, hm⟩)))
  ·exact wak 4 hc30 (la (b1.up l27) (mi rfl (ca hm (fun _ => p126 (Repo.rd (K := [0]) x0.Commits x0.Heads (h0_0.ul a28) (h0_1.ul a28))) fun z33 W35 hm l35 => Lw.r rfl (R.not rfl) (Pb hc30 rfl (nl ((ag) ⟨(!z33), W35, rfl, (l27.j l35).w, rfl, hm⟩))))))
theorem p56 {x0 v0_0_ v0_1_ x1 k0 r} (h0 : Rd W K [v0_0_, v0_1_] x0) (h99 : Gl 0 W K) (hm : Vm.impl_RepoTree x0 x1 = some r) : Q1 56 [.agg [v0_0_, v0_1_].toArray, vI x1] W [] fun W' v => ∃ u0, v = .tuple [u0, vB r.2].toArray ∧ Ow W' k0 [] [u0] r.1 :=
 (c56 (h0.view _) (h99.view _) hm).ad (fk k0) fun _ _ ⟨u0, e, f0⟩ => ⟨u0, e, f0.back (fk_LL _)⟩
theorem c36 {x0 v0_ x1 v1_ r} (h0 : Rd W0 [0] [v0_] x0) (h1 : Rd W0 [0] [v1_] x1) (hm : Vm.laws_smTexts x0 x1 = some r) : Q0 36 [v0_, v1_] W0 fun Wf v => v = vB r := by
 unfold Vm.laws_smTexts at hm
 refine CallR.of Tryz.func36 rfl rfl rfl rfl (sr (Nb rfl (ssr (mv v0_ rfl (Lw.ln x0 h0 rfl (mv v1_ rfl (Lw.ln x1 h1 rfl (Lw.ne rfl (nl (cn hm (fun hm => ?_) fun hm => ?_))))))))))
 ·exact sr (Nb rfl (.ret (rt hm (Le.refl _ _))))
 ·refine sk (ssr (Ni rfl (Cw.block ?_)))
  obtain ⟨K5, hK5, hm⟩ := jn_e hm
  refine Cw.loop 11 25 [4, 5] (fun m l w => ∃ y2 y3 W4, CW.w W4 = w ∧ Le [] W0 W4 ∧ l = [vB y2, vI y3] ∧ Vm.laws_smTexts_l1 x0 x1 K5 m y2 y3 = some r) _ ⟨false, 0, W0, rfl, Le.refl _ _, rfl, hm⟩ ?_
  rintro (_ | m6) _ _ σ ⟨y2, y3, W4, rfl, l4, rfl, hm⟩
  ·cases hm
  unfold Vm.laws_smTexts_l1 at hm
  have a7 := l4.o
  refine ssr (mi rfl (mv v0_ rfl (Lw.ln x0 (h0.ul a7) rfl (Lw.lt rfl (nl (cn hm (fun hm => ?_) fun hm => ?_))))))
  ·refine sk (Cw.seq (Cw.block (Cw.seq (Cw.draw [] [(0, 0), (1, 0), (2, 0), (3, 1), (4, 0), (5, 0), (6, 0), (7, 1), (8, 0)] mixed (by kernel_rfl) fun W10 l10 => ?_))))
   have a11 := a7.n l10
   refine Dv v0_ rfl (Di rfl ?_)
   obtain ⟨u12, e13, hm⟩ := ob hm
   refine Mw.p rfl rfl (fun _ => R.ix (α := Str) (h0.ul a11) e13 rfl rfl rfl) (Mw.q rfl rfl (fun _ c => R.ld rfl rfl (cl_cell ((h0.ul a11).at_ e13).1 rfl ((h0.ul a11).at_ e13).str c)) (Dv v1_ rfl (Di rfl ?_)))
   obtain ⟨u15, e16, hm⟩ := ob hm
   refine Mw.p rfl rfl (fun _ => R.ix (α := Str) (h1.ul a11) e16 rfl rfl rfl) (Mw.q rfl rfl (fun _ c => R.ld rfl rfl (cl_cell ((h1.ul a11).at_ e16).1 rfl ((h1.ul a11).at_ e16).str c)) (Mw.p rfl rfl (fun _ => R.sne rfl rfl) (Mw.nil (cn hm (fun hm => ?_) fun hm => ?_))))
   ·exact sr (Nb rfl (.ret (rt hm a11)))
   ·exact sk (rg (mi rfl (Lw.add rfl (Ni rfl ((agm) ⟨y2, w64 (y3 + 1), W10, rfl, (l4.j l10).w, rfl, hm⟩)))))
  ·refine Cw.exit ?_
   rw [hK5] at hm
   exact sr (Nb rfl (.ret (rt hm a7)))
theorem p36 {x0 v0_ x1 v1_ r} (h0 : Rd W K [v0_] x0) (h1 : Rd W K [v1_] x1) (hm : Vm.laws_smTexts x0 x1 = some r) : Q1 36 [v0_, v1_] W [] fun W' v => v = vB r :=
 (c36 (h0.view _) (h1.view _) hm).ad (fk 0) fun _ _ e => e
theorem c42 {x0 v0_ x1 v1_ r} (h0 : Rd W0 [0] [v0_] x0) (h1 : Rd W0 [0] [v1_] x1) (hm : Vm.laws_smTree x0 x1 = some r) : Q0 42 [v0_, v1_] W0 fun Wf v => v = vB r := by
 unfold Vm.laws_smTree at hm
 refine CallR.of Tryz.func42 rfl rfl rfl rfl (sr (Nb rfl (ssr (mv v0_ rfl (Lw.ln x0 h0 rfl (mv v1_ rfl (Lw.ln x1 h1 rfl (Lw.ne rfl (nl (cn hm (fun hm => ?_) fun hm => ?_))))))))))
 ·exact sr (Nb rfl (.ret (rt hm (Le.refl _ _))))
 ·refine sk (ssr (Ni rfl (Cw.block ?_)))
  obtain ⟨K5, hK5, hm⟩ := jn_e hm
  refine Cw.loop 11 41 [4, 5] (fun m l w => ∃ y2 y3 W4, CW.w W4 = w ∧ Le [] W0 W4 ∧ l = [vB y2, vI y3] ∧ Vm.laws_smTree_l1 x0 x1 K5 m y2 y3 = some r) _ ⟨false, 0, W0, rfl, Le.refl _ _, rfl, hm⟩ ?_
  rintro (_ | m6) _ _ σ ⟨y2, y3, W4, rfl, l4, rfl, hm⟩
  ·cases hm
  unfold Vm.laws_smTree_l1 at hm
  have a7 := l4.o
  refine ssr (mi rfl (mv v0_ rfl (Lw.ln x0 (h0.ul a7) rfl (Lw.lt rfl (nl (cn hm (fun hm => ?_) fun hm => ?_))))))
  ·refine sk (Cw.seq (Cw.block ?_))
   obtain ⟨K12, hK12, hm⟩ := jn_e hm
   refine Cw.join 17 41 [41] (fun l w => ∃ y10 W11, CW.w W11 = w ∧ Le [] W4 W11 ∧ l = [vB y10] ∧ K12 y10 = some r) ?_ ?_
   ·rintro _ _ σ ⟨y10, W11, rfl, l11, rfl, hm⟩
    rw [hK12] at hm
    have a13 := a7.n l11
    refine cn hm (fun hm => ?_) fun hm => ?_
    ·exact sr (Nb rfl (.ret (rt hm a13)))
    ·exact sk (rg (mi rfl (Lw.add rfl (Ni rfl ((agm) ⟨y2, w64 (y3 + 1), W11, rfl, (l4.j l11).w, rfl, hm⟩)))))
   ·refine Cw.draw [] [(0, 0), (1, 0), (2, 0), (3, 0), (4, 1), (5, 0), (6, 0), (7, 0), (8, 0), (9, 1), (10, 0), (11, 0), (12, 0), (13, 0), (14, 0), (15, 0), (16, 1), (17, 0), (18, 0), (19, 0), (20, 0), (21, 1), (22, 2), (23, 0), (24, 0)] mixed (by kernel_rfl) fun W15 l15 => ?_
    have a16 := a7.n l15
    refine Dv v0_ rfl (Di rfl ?_)
    obtain ⟨u17, e18, hm⟩ := ob hm
    have s19 := h0.ul a16
    refine Mw.p rfl rfl (fun _ => R.ix (α := File) s19 e18 rfl rfl rfl) (Df rfl (Mw.q rfl rfl (fun _ c => R.ld rfl rfl (cl_cell (File.at0 (s19.at_ e18)).1 rfl (File.at0 (s19.at_ e18)).str c)) (Dv v1_ rfl (Di rfl ?_))))
    obtain ⟨u20, e21, hm⟩ := ob hm
    have s22 := h1.ul a16
    refine Mw.p rfl rfl (fun _ => R.ix (α := File) s22 e21 rfl rfl rfl) (Df rfl (Mw.q rfl rfl (fun _ c => R.ld rfl rfl (cl_cell (File.at0 (s22.at_ e21)).1 rfl (File.at0 (s22.at_ e21)).str c)) (Mw.p rfl rfl (fun _ => R.sne rfl rfl) (Db rfl (bs hm (fun hc23 hm => ?_) fun hc23 hm => ?_)))))
    ·exact dps 12 hc23 rfl (Mw.p rfl rfl (fun _ => R.pk hc23 rfl (v := vB true) rfl) (Mw.nil ((ag) ⟨true, W15, rfl, l15, rfl, hm⟩)))
    ·refine Wp hc23 rfl (fun _ => R.mv (v := v0_) rfl) (Wp hc23 rfl (fun _ => R.mv (v := vI y3) rfl) ?_)
     obtain ⟨u24, e25, hm⟩ := ob hm
     refine Wp hc23 rfl (fun _ => R.ix (α := File) s19 e25 rfl rfl rfl) (Wp hc23 rfl (fun _ => R.fa rfl) ?_)
     obtain ⟨v26, c27, r28⟩ := (File.at1 (s19.at_ e25)).cell rfl
     refine Wq hc23 rfl (fun _ c => R.ld rfl rfl (cl_cell (File.at1 (s19.at_ e25)).1 rfl c27 c)) (Wp hc23 rfl (fun _ => R.mv (v := v1_) rfl) (Wp hc23 rfl (fun _ => R.mv (v := vI y3) rfl) ?_))
     obtain ⟨u29, e30, hm⟩ := ob hm
     refine Wp hc23 rfl (fun _ => R.ix (α := File) s22 e30 rfl rfl rfl) (Wp hc23 rfl (fun _ => R.fa rfl) ?_)
     obtain ⟨v31, c32, r33⟩ := (File.at1 (s22.at_ e30)).cell rfl
     refine Wq hc23 rfl (fun _ c => R.ld rfl rfl (cl_cell (File.at1 (s22.at_ e30)).1 rfl c32 c)) ?_
     obtain ⟨z34, e35, hm⟩ := ob hm
     refine Wt hc23 rfl (T.call rfl (p36  r28 r33 e35)) ?_
     rintro _ _ ⟨W36, rfl, l36, rfl⟩
     exact m0 l36 fun d36 => Wp hc23 rfl (fun _ => R.not rfl) (Mw.p rfl rfl (fun _ => R.pk hc23 rfl (v := vB (!z34)) rfl) (Mw.nil ((ag) ⟨(!z34), W36, rfl, (l15.j l36).w, rfl, hm⟩)))
  ·refine Cw.exit ?_
   rw [hK5] at hm
   exact sr (Nb rfl (.ret (rt hm a7)))
theorem p42 {x0 v0_ x1 v1_ r} (h0 : Rd W K [v0_] x0) (h1 : Rd W K [v1_] x1) (hm : Vm.laws_smTree x0 x1 = some r) : Q1 42 [v0_, v1_] W [] fun W' v => v = vB r :=
 (c42 (h0.view _) (h1.view _) hm).ad (fk 0) fun _ _ e => e
theorem c14 {x0 v0_ r} (h0 : Rd W0 [0] [v0_] x0) (h99 : Gl 0 W0 [0]) (hm : Vm.laws_FnSendWay x0 = some r) : Q0 14 [v0_] W0 fun Wf v => v = vB r := by
 unfold Vm.laws_FnSendWay at hm
 refine CallR.of Tryz.func14 rfl rfl rfl rfl (sr (Nb rfl (ssr (mv v0_ rfl (Lw.ln x0 h0 rfl (Lw.gt rfl (nl (cn hm (fun hm => ?_) fun hm => ?_))))))))
 ·exact sr (Nb rfl (.ret (rt hm (Le.refl _ _))))
 ·refine sk (sr (mv v0_ rfl (cr hm (fun _ => p68 (k0 := 2) (k1 := 3) h0) ?_)))
  rintro z2 _ W4 hm l4 ⟨v0_0_4, v0_1_4, rfl, f4_0, f4_1⟩
  have a5 := l4.o
  refine mv (.tuple [.agg [v0_0_4, v0_1_4].toArray, vI z2.2.1, vI z2.2.2].toArray) rfl (Lw.r rfl (R.ext (vs := [.agg [v0_0_4, v0_1_4].toArray, vI z2.2.1, vI z2.2.2]) (v := .agg [v0_0_4, v0_1_4].toArray) rfl rfl) (Lw.r rfl (R.ext (vs := [.agg [v0_0_4, v0_1_4].toArray, vI z2.2.1, vI z2.2.2]) (v := vI z2.2.1) rfl rfl) (Lw.r rfl (R.ext (vs := [.agg [v0_0_4, v0_1_4].toArray, vI z2.2.1, vI z2.2.2]) (v := vI z2.2.2) rfl rfl) (al 4 [.slice none 0 0, .slice none 0 0] fun g6 W6 l6 b6 => ?_))))
  have a7 := a5.n l6
  refine sta b6 (oc_cons (f4_0.up l6).oc (oc_cons (f4_1.up l6).oc oc_nil)) fun W10 l10 b10 => ?_
  have a11 := a7.t l10
  have o12 := (f4_0.up l6).up l10
  have o13 := (f4_1.up l6).up l10
  refine Gi rfl (Ni rfl (sr (la b10 (mi rfl (cr hm (fun _ => p40 (K := [0, 2, 3]) (k0 := 5) (x0 := (Vm.Repo.mk z2.1.Commits z2.1.Heads)) ((Repo.rd (K := [2, 3]) z2.1.Commits z2.1.Heads (o12.rd.sub (M := [2, 3]) rfl) (o13.rd.sub (M := [2, 3]) rfl)).sub (M := [0, 2, 3]) rfl) ((h99.ul a11).sub (M := [0, 2, 3]) rfl)) ?_)))))
  rintro z15 v0_17 W17 hm l17 ⟨_, rfl, f17_0⟩
  have a18 := a11.n l17
  have o19 := o12.up l17
  have b21 := b10.up l17
  refine Nv v0_17 rfl (Cw.seq ?_)
  obtain ⟨K24, hK24, hm⟩ := jn_e hm
  refine Cw.join 29 50 [50] (fun l w => ∃ y22 W23, CW.w W23 = w ∧ Le [] W17 W23 ∧ l = [vB y22] ∧ K24 y22 = some r) ?_ ?_
  ·rintro _ _ σ ⟨y22, W23, rfl, l23, rfl, hm⟩
   rw [hK24] at hm
   have a25 := a18.n l23
   have o27 := (o13.up l17).up l23
   have b29 := b21.up l23
   refine cn hm (fun hm => ?_) fun hm => ?_
   ·refine sr (mv v0_17 rfl (la b29 (mi rfl (cr hm (fun _ => p69 (K := [2, 3]) (k0 := 6) (x0 := (Vm.Repo.mk z2.1.Commits z2.1.Heads)) (Repo.rd (K := [2, 3]) z2.1.Commits z2.1.Heads ((o19.up l23).rd.sub (M := [2, 3]) rfl) (o27.rd.sub (M := [2, 3]) rfl))) ?_))))
    rintro z31 v0_33 W33 hm l33 ⟨_, rfl, f33_0⟩
    have a34 := a25.n l33
    refine ca hm (fun _ => p24 (K := [5, 6]) (((f17_0.up l23).up l33).rd.sub (M := [5, 6]) rfl) (f33_0.rd.sub (M := [5, 6]) rfl)) fun z39 W41 hm l41 => ?_
    have a42 := a34.n l41
    exact Nb rfl (.ret (rt hm a42))
   ·refine sk (sr (fl b29 rfl (mi rfl (Lw.r rfl (R.bd (zs := [vS ([] : Str), vI 0]) (cs := [vS ([120] : Str), vI z2.2.1]) [(0, vS ([120] : Str)), (1, vI z2.2.1)] rfl rfl rfl (bp_cons rfl rfl (bp_cons rfl rfl bp_nil))) (Lw.t rfl (T.bsO (α := Head) (J := []) (xs := [Vm.Head.mk ([120] : Str) z2.2.1]) 7 [.agg [vS ([120] : Str), vI z2.2.1].toArray] (bsL [[vS ([120] : Str), vI z2.2.1]] (mapa rfl mapn) (OwL.cons (x := (Vm.Head.mk ([120] : Str) z2.2.1)) (OwS.atm (K := []) (Head.rd (K := []) ([120] : Str) z2.2.1)) OwL.nil)) rfl) ?_)))))
    rintro v48 _ ⟨W48, rfl, l48, o48⟩
    have a49 := a25.n l48
    have o50 := (o19.up l23).up l48
    refine Lw.r rfl (R.bd (zs := [.slice none 0 0, .slice none 0 0]) (cs := [v0_0_4, v48]) [(0, v0_0_4), (1, v48)] rfl rfl rfl (bp_cons o50.oc rfl (bp_cons o48.oc rfl bp_nil))) (al 8 [.slice none 0 0, .slice none 0 0] fun g54 W54 l54 b54 => ?_)
    have a55 := a49.n l54
    refine sta b54 (oc_cons (o50.up l54).oc (oc_cons (o48.up l54).oc oc_nil)) fun W61 l61 b61 => ?_
    have a62 := a55.t l61
    have o63 := (o50.up l54).up l61
    refine nl (sr (la b61 (cr hm (fun _ => p54 (K := [0, 2, 7]) (k0 := 9) (k1 := 10) (x0 := (Vm.Repo.mk z2.1.Commits ([Vm.Head.mk ([120] : Str) z2.2.1] : List Head))) ((Repo.rd (K := [2, 7]) z2.1.Commits ([Vm.Head.mk ([120] : Str) z2.2.1] : List Head) (o63.rd.sub (M := [2, 7]) rfl) (((o48.up l54).up l61).rd.sub (M := [2, 7]) rfl)).sub (M := [0, 2, 7]) rfl) ((h99.ul a62).sub (M := [0, 2, 7]) rfl)) ?_)))
    rintro z69 _ W71 hm l71 ⟨v0_0_71, v0_1_71, rfl, f71_0, f71_1⟩
    have a72 := a62.n l71
    refine al 11 [.slice none 0 0, .slice none 0 0] fun g79 W79 l79 b79 => ?_
    have a80 := a72.n l79
    refine sta b79 (oc_cons (f71_0.up l79).oc (oc_cons (f71_1.up l79).oc oc_nil)) fun W89 l89 b89 => ?_
    have a90 := a80.t l89
    refine nl (sr (Lw.t rfl (T.lit0 (α := Int) 12 []) ?_))
    rintro v99 _ ⟨W99, rfl, l99, o99⟩
    have a100 := a90.n l99
    refine Nv v99 rfl (ssr (Ni rfl (Cw.block ?_)))
    obtain ⟨K115, hK115, hm⟩ := jn_e hm
    refine Cw.loop 65 74 [9, 10] (fun m l w => ∃ y110 y113 v111 W114, CW.w W114 = w ∧ Le [12] W99 W114 ∧ l = [v111, vI y113] ∧ Ow W114 12 [] [v111] y110 ∧ Vm.laws_FnSendWay_l1 z15 K115 m y110 y113 = some r) _ ⟨([] : List Int), 0, v99, W99, rfl, Le.refl _ _, rfl, o99, hm⟩ ?_
    rintro (_ | m116) _ _ σ ⟨y110, y113, v111, W114, rfl, l114, rfl, o112, hm⟩
    ·cases hm
    unfold Vm.laws_FnSendWay_l1 at hm
    have a117 := a100.t l114
    have o118 := ((((o63.up l71).up l79).up l89).up l99).up l114
    have o119 := (((((((o27.up l48).up l54).up l61).up l71).up l79).up l89).up l99).up l114
    have o120 := ((((((((f17_0.up l23).up l48).up l54).up l61).up l71).up l79).up l89).up l99).up l114
    have b124 := (((((((b29.up l48).up l54).up l61).up l71).up l79).up l89).up l99).up l114
    refine ssr (mi rfl (mv v0_17 rfl (Lw.ln z15 o120.rd rfl (Lw.lt rfl (nl (cn hm (fun hm => ?_) fun hm => ?_))))))
    ·refine sk (Cw.seq (Cw.block (rg (mv v111 rfl (mi rfl (Lw.t rfl (T.bs 13 [vI y113] (cs := [vI y113]) rfl rfl (bsv rfl)) ?_))))))
     rintro _ _ ⟨g128, W128, rfl, rfl, l128, b128⟩
     obtain ⟨q140, e141, hm⟩ := ob hm
     refine Lw.t rfl (T.app1S (α := Int) (K' := []) (o112.up l128) b128 (rdI _) rfl rfl e141) ?_
     rintro v142 _ ⟨W142, rfl, l142, o142⟩
     exact Nv v142 rfl (rg (mi rfl (Lw.add rfl (Ni rfl ((agm) ⟨q140, w64 (y113 + 1), v142, W142, rfl, ((l114.j l128).j l142).w, rfl, o142, hm⟩)))))
    ·refine Cw.exit ?_
     rw [hK115] at hm
     refine sr (la b124 (mv v0_17 rfl (mi rfl (cr hm (fun _ => p44 (K := [0, 2, 3, 5]) (k0 := 14) (x0 := (Vm.Repo.mk z2.1.Commits z2.1.Heads)) ((Repo.rd (K := [2, 3]) z2.1.Commits z2.1.Heads (o118.rd.sub (M := [2, 3]) rfl) (o119.rd.sub (M := [2, 3]) rfl)).sub (M := [0, 2, 3, 5]) rfl) (o120.rd.sub (M := [0, 2, 3, 5]) rfl) ((h99.ul a117).sub (M := [0, 2, 3, 5]) rfl)) ?_))))
     rintro z155 _ W157 hm l157 ⟨v0_157, rfl, f157_0⟩
     have a158 := a117.n l157
     have o163 := ((((f71_0.up l79).up l89).up l99).up l114).up l157
     have b168 := ((b89.up l99).up l114).up l157
     refine mv (.tuple [v0_157, vB z155.2].toArray) rfl (Lw.r rfl (R.ext (vs := [v0_157, vB z155.2]) (v := v0_157) rfl rfl) (Lw.r rfl (R.ext (vs := [v0_157, vB z155.2]) (v := vB z155.2) rfl rfl) (Gv v0_157 rfl (Nb rfl (sr (la b168 (mv v111 rfl (mv v0_157 rfl (cr hm (fun _ => p66 (K := [0, 9, 10, 12, 14]) (k0 := 15) (k1 := 16) (x0 := (Vm.Repo.mk z69.Commits z69.Heads)) ((Repo.rd (K := [9, 10]) z69.Commits z69.Heads (o163.rd.sub (M := [9, 10]) rfl) ((((((f71_1.up l79).up l89).up l99).up l114).up l157).rd.sub (M := [9, 10]) rfl)).sub (M := [0, 9, 10, 12, 14]) rfl) ((o112.up l157).rd.sub (M := [0, 9, 10, 12, 14]) rfl) (f157_0.rd.sub (M := [0, 9, 10, 12, 14]) rfl) ((h99.ul a158).sub (M := [0, 9, 10, 12, 14]) rfl)) ?_)))))))))
     rintro z170 _ W172 hm l172 ⟨v0_0_172, v0_1_172, rfl, f172_0, f172_1⟩
     have a173 := a158.n l172
     refine mv (.tuple [.agg [v0_0_172, v0_1_172].toArray, vB z170.2].toArray) rfl (Lw.r rfl (R.ext (vs := [.agg [v0_0_172, v0_1_172].toArray, vB z170.2]) (v := .agg [v0_0_172, v0_1_172].toArray) rfl rfl) (Lw.r rfl (R.ext (vs := [.agg [v0_0_172, v0_1_172].toArray, vB z170.2]) (v := vB z170.2) rfl rfl) (al 17 [.slice none 0 0, .slice none 0 0] fun g185 W185 l185 b185 => ?_)))
     have a186 := a173.n l185
     refine sta b185 (oc_cons (f172_0.up l185).oc (oc_cons (f172_1.up l185).oc oc_nil)) fun W200 l200 b200 => ?_
     have a201 := a186.t l200
     have o209 := ((f157_0.up l172).up l185).up l200
     refine Nb rfl (Cw.seq ?_)
     obtain ⟨K217, hK217, hm⟩ := jn_e hm
     refine Cw.join 89 99 [99] (fun l w => ∃ y215 W216, CW.w W216 = w ∧ Le [] W200 W216 ∧ l = [vB y215] ∧ K217 y215 = some r) ?_ ?_
     ·rintro _ _ σ ⟨y215, W216, rfl, l216, rfl, hm⟩
      rw [hK217] at hm
      have a218 := a201.n l216
      refine cn hm (fun hm => ?_) fun hm => ?_
      ·obtain ⟨K236, hK236, hm⟩ := jn_e hm
       refine Cw.join 100 112 [2] (fun l w => ∃ y234 W235, CW.w W235 = w ∧ Le [] W216 W235 ∧ l = [vB y234] ∧ K236 y234 = some r) ?_ ?_
       ·rintro _ _ σ ⟨y234, W235, rfl, l235, rfl, hm⟩
        rw [hK236] at hm
        have a237 := a218.n l235
        exact .ret (rt hm a237)
       ·refine rg (mb rfl (mb rfl (bs hm (fun hc252 hm => ?_) fun hc252 hm => ?_)))
        ·refine wak 2 hc252 (mb rfl (mb rfl (bs hm (fun hc253 hm => ?_) fun hc253 hm => ?_)))
         ·exact psk 7 hc253 rfl (wak 1 hc252 (Pb hc253 rfl (Pb hc252 rfl (Nb rfl ((ag) ⟨true, W216, rfl, Le.refl _ _, rfl, hm⟩)))))
         ·exact wak 7 hc253 (fl ((((b168.up l172).up l185).up l200).up l216) rfl (Lw.ln z69.Commits ((((o163.up l172).up l185).up l200).up l216).rd rfl (mv v0_157 rfl (Lw.ln z155.1 (o209.up l216).rd rfl (Lw.add rfl (Lw.gt rfl (wak 1 hc252 (Pb hc253 rfl (Pb hc252 rfl (Nb rfl ((ag) ⟨decide ((16 : Int) < (w64 ((z69.Commits.length : Int) + (z155.1.length : Int)) : Int)), W216, rfl, Le.refl _ _, rfl, hm⟩)))))))))))
        ·exact psk 2 hc252 rfl (puk 7 rfl (psk 1 hc252 rfl (Pb hc252 rfl (Nb rfl ((ag) ⟨false, W216, rfl, Le.refl _ _, rfl, hm⟩)))))
      ·refine sk (Cw.seq (Cw.draw [] [(0, 1), (1, 1), (2, 2), (3, 2), (4, 0), (5, 0), (6, 0), (7, 0), (8, 0)] mixed (by kernel_rfl) fun W254 l254 => ?_))
       have a255 := a218.n l254
       have o264 := (((f172_0.up l185).up l200).up l216).up l254
       have o265 := (((f172_1.up l185).up l200).up l216).up l254
       have b269 := (b200.up l216).up l254
       refine Mw.q rfl rfl (fun _ c => R.lda (cs := [v0_0_172, v0_1_172]) (b269.clcs rfl c) rfl rfl) (Mw.q rfl rfl (fun _ c => R.lda (cs := [v0_0_172, v0_1_172]) (b269.clcs rfl c) rfl rfl) ?_)
       obtain ⟨z271, e272, hm⟩ := ob hm
       refine Mw.t rfl rfl (T.call rfl (p20 (K := [0, 15, 16])  (x0 := (Vm.Repo.mk z170.1.Commits z170.1.Heads)) ((Repo.rd (K := [15, 16]) z170.1.Commits z170.1.Heads (o264.rd.sub (M := [15, 16]) rfl) (o265.rd.sub (M := [15, 16]) rfl)).sub (M := [0, 15, 16]) rfl) ((h99.ul a255).sub (M := [0, 15, 16]) rfl) e272)) ?_
       rintro _ _ ⟨W273, rfl, l273, rfl⟩
       have a274 := a255.n l273
       refine m0 l273 fun d273 => ?_
       obtain ⟨z290, e291, hm⟩ := ob hm
       refine Mw.t rfl rfl (T.call rfl (p56 (K := [0, 15, 16]) (k0 := 18) (x0 := (Vm.Repo.mk z170.1.Commits z170.1.Heads)) ((Repo.rd (K := [15, 16]) z170.1.Commits z170.1.Heads ((o264.up l273).rd.sub (M := [15, 16]) rfl) ((o265.up l273).rd.sub (M := [15, 16]) rfl)).sub (M := [0, 15, 16]) rfl) ((h99.ul a274).sub (M := [0, 15, 16]) rfl) e291)) ?_
       rintro _ _ ⟨W292, rfl, l292, ⟨v0_292, rfl, f292_0⟩⟩
       have a293 := a274.n l292
       refine mc d273 l292 fun d292 => Dv (.tuple [v0_292, vB z290.2].toArray) rfl (Mw.p rfl rfl (fun _ => R.ext (vs := [v0_292, vB z290.2]) (v := v0_292) rfl rfl) (Mw.p rfl rfl (fun _ => R.ext (vs := [v0_292, vB z290.2]) (v := vB z290.2) rfl rfl) (Hv v0_292 rfl (Hb rfl (Mw.nil ?_)))))
       obtain ⟨K310, hK310, hm⟩ := jn_e hm
       refine Cw.join 120 139 [2] (fun l w => ∃ y308 W309, CW.w W309 = w ∧ Le [] W292 W309 ∧ l = [vB y308] ∧ K310 y308 = some r) ?_ ?_
       ·rintro _ _ σ ⟨y308, W309, rfl, l309, rfl, hm⟩
        rw [hK310] at hm
        have a311 := a293.n l309
        exact .ret (rt hm a311)
       ·refine Cw.draw [] [(0, 0), (1, 0), (2, 1), (3, 0), (4, 0), (5, 0), (6, 1), (7, 2), (8, 0), (9, 1), (10, 1), (14, 1), (15, 0), (11, 2), (12, 2), (13, 0), (16, 2), (17, 0), (18, 0), (19, 0), (20, 0)] mixed (by kernel_rfl) fun W327 l327 => ?_
        have a328 := a293.n l327
        have o329 := ((((((((o118.up l157).up l172).up l185).up l200).up l216).up l254).up l273).up l292).up l327
        have b340 := ((((((((b124.up l157).up l172).up l185).up l200).up l216).up l254).up l273).up l292).up l327
        have b343 := ((b269.up l273).up l292).up l327
        refine Dv v0_292 rfl (Dfl b340 rfl rfl rfl (Di rfl ?_))
        obtain ⟨u344, e345, hm⟩ := ob hm
        refine Mw.p rfl rfl (fun _ => R.ix (α := Commit) o329.rd e345 rfl rfl rfl) (Df rfl ?_)
        obtain ⟨v346, c347, r348⟩ := (Commit.at2 (o329.rd.at_ e345)).cell rfl
        refine Mw.q rfl rfl (fun _ c => R.ld rfl rfl (cl_cell (Commit.at2 (o329.rd.at_ e345)).1 rfl c347 c)) ?_
        obtain ⟨z349, e350, hm⟩ := ob hm
        refine Mw.t rfl rfl (T.call rfl (p42 (K := [2, 18])  ((f292_0.up l327).rd.sub (M := [2, 18]) rfl) (r348.sub (M := [2, 18]) rfl) e350)) ?_
        rintro _ _ ⟨W351, rfl, l351, rfl⟩
        have a352 := a328.n l351
        have o361 := (((o264.up l273).up l292).up l327).up l351
        have o362 := (((o265.up l273).up l292).up l327).up l351
        refine m0 l351 fun d351 => Db rfl (bs hm (fun hc368 hm => ?_) fun hc368 hm => ?_)
        ·refine Wq hc368 rfl (fun _ c => R.lda (cs := [v0_0_172, v0_1_172]) (b343.clcs rfl c) rfl rfl) (Wq hc368 rfl (fun _ c => R.lda (cs := [v0_0_172, v0_1_172]) (b343.clcs rfl c) rfl rfl) (Wq hc368 rfl (fun _ c => R.lda (cs := [v0_0_4, v0_1_4]) (b340.clcs rfl c) rfl rfl) (Wp hc368 rfl (fun _ => R.mv (v := vI z2.2.2) rfl) ?_)))
         obtain ⟨z370, e371, hm⟩ := ob hm
         refine Wt hc368 rfl (T.call rfl (p20 (K := [0, 15, 16])  (x0 := (Vm.Repo.mk z170.1.Commits z170.1.Heads)) ((Repo.rd (K := [15, 16]) z170.1.Commits z170.1.Heads (o361.rd.sub (M := [15, 16]) rfl) (o362.rd.sub (M := [15, 16]) rfl)).sub (M := [0, 15, 16]) rfl) ((h99.ul a352).sub (M := [0, 15, 16]) rfl) e371)) ?_
         rintro _ _ ⟨W372, rfl, l372, rfl⟩
         have a373 := a352.n l372
         refine mc d351 l372 fun d372 => ?_
         obtain ⟨z390, e391, hm⟩ := ob hm
         refine Wt hc368 rfl (T.call rfl (p40 (K := [0, 15, 16]) (k0 := 19) (x0 := (Vm.Repo.mk z170.1.Commits z170.1.Heads)) ((Repo.rd (K := [15, 16]) z170.1.Commits z170.1.Heads ((o361.up l372).rd.sub (M := [15, 16]) rfl) ((o362.up l372).rd.sub (M := [15, 16]) rfl)).sub (M := [0, 15, 16]) rfl) ((h99.ul a373).sub (M := [0, 15, 16]) rfl) e391)) ?_
         rintro v0_392 _ ⟨W392, rfl, l392, ⟨_, rfl, f392_0⟩⟩
         have a393 := a373.n l392
         refine mc d372 l392 fun d392 => Wp hc368 rfl (fun _ => lenR (xs := z390) f392_0.rd rfl) ?_
         obtain ⟨z410, e411, hm⟩ := ob hm
         refine Wt hc368 rfl (T.call rfl (p40 (K := [0, 2, 3]) (k0 := 20) (x0 := (Vm.Repo.mk z2.1.Commits z2.1.Heads)) ((Repo.rd (K := [2, 3]) z2.1.Commits z2.1.Heads ((((o329.up l351).up l372).up l392).rd.sub (M := [2, 3]) rfl) (((((((((((((o119.up l157).up l172).up l185).up l200).up l216).up l254).up l273).up l292).up l327).up l351).up l372).up l392).rd.sub (M := [2, 3]) rfl)).sub (M := [0, 2, 3]) rfl) ((h99.ul a393).sub (M := [0, 2, 3]) rfl) e411)) ?_
         rintro v0_412 _ ⟨W412, rfl, l412, ⟨_, rfl, f412_0⟩⟩
         exact mc d392 l412 fun d412 => Wp hc368 rfl (fun _ => lenR (xs := z410) f412_0.rd rfl) (Wp hc368 rfl (fun _ => R.eq rfl rfl) (Mw.p rfl rfl (fun _ => R.pk hc368 rfl (v := vB (((z390.length : Int) : Int) == ((z410.length : Int) : Int))) rfl) (Hb rfl (Mw.nil ((ag) ⟨(((z390.length : Int) : Int) == ((z410.length : Int) : Int)), W412, rfl, ((((l327.j l351).j l372).j l392).j l412).w, rfl, hm⟩)))))
        ·exact dps 10 hc368 rfl (Mw.p rfl rfl (fun _ => R.pk hc368 rfl (v := vB false) rfl) (Hb rfl (Mw.nil ((ag) ⟨false, W351, rfl, (l327.j l351).w, rfl, hm⟩))))
     ·refine rg (mb rfl (Lw.r rfl (R.not rfl) (mb rfl (bs hm (fun hc430 hm => ?_) fun hc430 hm => ?_))))
      ·exact psk 2 hc430 rfl (Pb hc430 rfl (mb rfl (psk 3 rfl rfl (Pb rfl rfl (nl ((ag) ⟨true, W200, rfl, Le.refl _ _, rfl, hm⟩))))))
      ·refine wak 2 hc430 (mb rfl (Lw.r rfl (R.not rfl) (Pb hc430 rfl (mb rfl (bs hm (fun hc431 hm => ?_) fun hc431 hm => ?_)))))
       ·exact psk 3 hc431 rfl (Pb hc431 rfl (nl ((ag) ⟨true, W200, rfl, Le.refl _ _, rfl, hm⟩)))
       ·exact wak 3 hc431 (mv v0_157 rfl (Lw.ln z155.1 o209.rd rfl (Lw.eq rfl (Pb hc431 rfl (nl ((ag) ⟨(((z155.1.length : Int) : Int) == (0 : Int)), W200, rfl, Le.refl _ _, rfl, hm⟩))))))
  ·refine rg (mv v0_17 rfl (la b21 (mi rfl (cr hm (fun _ => p69 (K := [2, 3]) (k0 := 21) (x0 := (Vm.Repo.mk z2.1.Commits z2.1.Heads)) (Repo.rd (K := [2, 3]) z2.1.Commits z2.1.Heads (o19.rd.sub (M := [2, 3]) rfl) ((o13.up l17).rd.sub (M := [2, 3]) rfl))) ?_))))
   rintro z432 v0_434 W434 hm l434 ⟨_, rfl, f434_0⟩
   refine ca hm (fun _ => p24 (K := [5, 21]) ((f17_0.up l434).rd.sub (M := [5, 21]) rfl) (f434_0.rd.sub (M := [5, 21]) rfl)) fun z440 W442 hm l442 => Lw.r rfl (R.not rfl) (mb rfl (bs hm (fun hc449 hm => ?_) fun hc449 hm => ?_))
   ·exact psk 3 hc449 rfl (Pb hc449 rfl (mb rfl (psk 2 rfl rfl (Pb rfl rfl (mb rfl (psk 5 rfl rfl (Pb rfl rfl (nl ((ag) ⟨true, W442, rfl, (l434.j l442).w, rfl, hm⟩)))))))))
   ·refine wak 3 hc449 (mv v0_17 rfl (Lw.ln z15 ((f17_0.up l434).up l442).rd rfl (Lw.eq rfl (Pb hc449 rfl (mb rfl (bs hm (fun hc450 hm => ?_) fun hc450 hm => ?_))))))
    ·exact psk 2 hc450 rfl (Pb hc450 rfl (mb rfl (psk 5 rfl rfl (Pb rfl rfl (nl ((ag) ⟨true, W442, rfl, (l434.j l442).w, rfl, hm⟩))))))
    ·refine wak 2 hc450 (mi rfl (Lw.lt rfl (Pb hc450 rfl (mb rfl (bs hm (fun hc451 hm => ?_) fun hc451 hm => ?_)))))
     ·exact psk 5 hc451 rfl (Pb hc451 rfl (nl ((ag) ⟨true, W442, rfl, (l434.j l442).w, rfl, hm⟩)))
     ·exact wak 5 hc451 (mi rfl (fl ((b21.up l434).up l442) rfl (Lw.ln z2.1.Commits ((o19.up l434).up l442).rd rfl (Lw.ge rfl (Pb hc451 rfl (nl ((ag) ⟨decide (((z2.1.Commits.length : Int) : Int) ≤ (z2.2.2 : Int)), W442, rfl, (l434.j l442).w, rfl, hm⟩)))))))
theorem p14 {x0 v0_ r} (h0 : Rd W K [v0_] x0) (h99 : Gl 0 W K) (hm : Vm.laws_FnSendWay x0 = some r) : Q1 14 [v0_] W [] fun W' v => v = vB r :=
 (c14 (h0.view _) (h99.view _) hm).ad (fk 0) fun _ _ e => e
end Go.Sx
