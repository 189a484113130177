/- Walks: each function answers as its model, printed by a program of ours. Conditions: the arguments read as they are given. -/
import Derived.Test.YtidkloialdageaaGreatDoorBTs
import Derived.Test.YtidkloialdageaaGreatDoorBM3
import Derived.Test.YtidkloialdageaaGreatDoorBW6
import Derived.Test.YtidkloialdageaaGreatDoorBE
namespace Go.Sx
open Go Go.Proofs Go.Vm Rp
set_option linter.unusedVariables false
set_option linter.unusedSimpArgs false

variable {W W0 : CW} {K : List Nat}
theorem c71 {x0 v0_0_ v0_1_ r} (h0 : Rd W0 [0] [v0_0_, v0_1_] x0) (hm : Vm.impl_Repo_own x0 = some r) : Q0 71 [.agg [v0_0_, v0_1_].toArray] W0 fun Wf v => ∃ u0_0 u0_1, v = .agg [u0_0, u0_1].toArray ∧ OwS Wf [31] [] [u0_0] r.Commits ∧ OwS Wf [32] [] [u0_1] r.Heads := by
 unfold Vm.impl_Repo_own at hm
 obtain ⟨w0_0, w0_1, he0, h0_0, h0_1⟩ := Repo.split h0
 simp only [List.cons.injEq, and_true, true_and] at he0
 obtain ⟨rfl, rfl⟩ := he0
 refine CallR.of Tryz.func71 rfl rfl rfl rfl (sr (bo 2 rfl fun g1 W1 l1 b1 => ?_))
 have a2 := l1.o
 refine al 3 [.slice none 0 0, .slice none 0 0] fun g3 W3 l3 b3 => ?_
 have a4 := a2.n l3
 refine nl (sr (Lw.t rfl (T.lit0 (α := Head) 4 []) ?_))
 rintro v6 _ ⟨W6, rfl, l6, o6⟩
 have a7 := a4.n l6
 have b8 := (b1.up l3).up l6
 refine fl b8 rfl ?_
 obtain ⟨q10, e11, hm⟩ := ob hm
 refine Lw.t rfl (T.appP (α := Head) o6 (h0_1.ul a7) rfl rfl e11) ?_
 rintro v12 _ ⟨W12, rfl, l12, o12⟩
 have a14 := a7.t l12
 refine Lw.r rfl (R.bd (zs := [.slice none 0 0, .slice none 0 0]) (cs := [.slice none 0 0, v12]) [(1, v12)] rfl rfl rfl (bp_cons o12.oc rfl bp_nil)) (al 5 [.slice none 0 0, .slice none 0 0] fun g17 W17 l17 b17 => ?_)
 have a18 := a14.n l17
 refine sta b17 (oc_cons rfl (oc_cons (o12.up l17).oc oc_nil)) fun W22 l22 b22 => ?_
 have a23 := a18.t l22
 refine nl (ssr (fl (((b8.up l12).up l17).up l22) rfl (Lw.ln x0.Commits (h0_0.ul a23) rfl (mi rfl (nl (Cw.block ?_))))))
 obtain ⟨K38, hK38, hm⟩ := jn_e hm
 refine Cw.loop 14 33 [5, 14] (fun m l w => ∃ y29 y30 y33 j28 v31 v34 W37, CW.w W37 = w ∧ Le [5, 6, 7, 8, 9] W22 W37 ∧ l = [j28, vI y29] ∧ Ow W37 6 [] [v31] y30 ∧ Ow W37 4 [] [v34] y33 ∧ Bx W37 5 g17 [v31, v34] ∧ Vm.impl_Repo_own_l1 x0 K38 m y29 y30 y33 = some r) _ ⟨0, ([] : List Commit), q10, undef, .slice none 0 0, v12, W22, rfl, Le.refl _ _, rfl, owN 6 [], ((o12.up l17).up l22), b22, hm⟩ ?_
 rintro (_ | m39) _ _ σ ⟨y29, y30, y33, j28, v31, v34, W37, rfl, l37, rfl, o32, o35, b36, hm⟩
 ·cases hm
 unfold Vm.impl_Repo_own_l1 at hm
 have a40 := a23.t l37
 refine sr (Lw.lt rfl (nl (Cw.seq (cn hm (fun hm => ?_) fun hm => ?_))))
 ·refine sk (Cw.seq (Cw.block (sr ?_)))
  obtain ⟨u44, e45, hm⟩ := ob hm
  refine Lw.r rfl (R.ix (α := Commit) (h0_0.ul a40) e45 rfl rfl rfl) ?_
  obtain ⟨x47, c48, _, r49⟩ := ((h0_0.ul a40).at_ e45).cells
  obtain ⟨v50, v52, rfl, r51, r53⟩ := Commit.split r49
  refine Lw.r rfl (R.lda c48 rfl rfl) (al 7 [.slice none 0 0, vS ([] : Str), .slice none 0 0] fun g54 W54 l54 b54 => ?_)
  have a55 := l54.o
  refine sta b54 (oc_cons r51.oc (oc_cons rfl (oc_cons r53.oc oc_nil))) fun W61 l61 b61 => ?_
  have a62 := a55.t l61
  refine nl (Cw.draw [6, 8, 9] [(0, 0), (1, 1), (3, 0), (4, 1), (6, 0), (7, 1), (8, 0), (9, 1), (2, 2), (5, 2), (10, 2), (11, 0), (12, 2), (13, 2), (14, 0), (15, 3)] mixed (by kernel_rfl) fun W68 l68 => ?_)
  have a69 := a62.n l68
  have b74 := ((b36.up l54).up l61).up l68
  have b75 := b61.up l68
  refine Dfl b74 rfl rfl rfl (Dfl b75 rfl rfl rfl (Dfl b75 rfl rfl rfl (Dfl b75 rfl rfl rfl (Mw.t rfl rfl (T.lit0 (α := Int) 8 []) ?_))))
  rintro v76 _ ⟨W76, rfl, l76, o76⟩
  have a77 := a69.n l76
  refine m0 l76 fun d76 => ?_
  obtain ⟨q84, e85, hm⟩ := ob hm
  refine Mw.t rfl rfl (T.appP (α := Int) o76 (r51.ul a77) rfl rfl e85) ?_
  rintro v86 _ ⟨W86, rfl, l86, o86⟩
  have a88 := a77.t l86
  refine mc d76 l86 fun d86 => Dc hm d86 (fun _ => p114 (k0 := 9) (r53.ul a88)) rfl ?_
  rintro z96 v0_98 W98 hm l98 ⟨_, rfl, f98_0⟩ d98
  refine Mw.p rfl rfl (fun _ => R.bd (zs := [.slice none 0 0, vS ([] : Str), .slice none 0 0]) (cs := [v86, vS u44.Who, v0_98]) [(0, v86), (1, vS u44.Who), (2, v0_98)] rfl rfl rfl (bp_cons (o86.up l98).oc rfl (bp_cons rfl rfl (bp_cons f98_0.oc rfl bp_nil)))) (Mw.t rfl rfl (T.bs 10 [.agg [v86, vS u44.Who, v0_98].toArray] (cs := [v86, vS u44.Who, v0_98]) rfl rfl (bsA rfl)) ?_)
  rintro _ _ ⟨g107, W107, rfl, rfl, l107, b107⟩
  refine mc d98 l107 fun d107 => ?_
  obtain ⟨q117, e118, hm⟩ := ob hm
  refine Mw.t rfl rfl (T.app1 (α := Commit) (J := [8, 9]) (K' := []) (((((((o32.up l54).up l61).up l68).up l76).up l86).up l98).up l107) b107 (Commit.own q84 u44.Who z96 ((o86.up l98).up l107).s (f98_0.up l107).s) rfl rfl e118) ?_
  rintro v119 _ ⟨W119, rfl, l119, o119⟩
  refine mc d107 l119 fun d119 => Df rfl (Mw.lu rfl (T.st (j := 0) (v := v119) (((((b74.up l76).up l86).up l98).up l107).up l119) rfl rfl o119.oc rfl rfl) ?_)
  rintro _ _ ⟨W127, rfl, l127, b127⟩
  exact Mw.nil (rg (Lw.add rfl (mi rfl (nl ((agm) ⟨w64 (y29 + 1), q117, y33, ptr (bx g54), v119, v34, W127, rfl, (((((((((l37.j l54).j l61).j l68).j l76).j l86).j l98).j l107).j l119).j l127).w, rfl, (o119.up l127), (((((((((o35.up l54).up l61).up l68).up l76).up l86).up l98).up l107).up l119).up l127), b127, hm⟩)))))
 ·refine Cw.exit ?_
  rw [hK38] at hm
  refine sr (la b36 (sta (((((b3.up l6).up l12).up l17).up l22).up l37) (oc_cons o32.oc (oc_cons o35.oc oc_nil)) fun W135 l135 b135 => ?_))
  have a136 := a40.t l135
  refine nl ?_
  obtain ⟨W141, ew141, l141, o141⟩ := (o32.up l135).dyeO 31
  have a142 := a136.t l141
  obtain ⟨W147, ew147, l147, o147⟩ := ((o35.up l135).up l141).dyeO 32
  have a148 := a142.t l147
  cases hm
  rw [← ew147.trans (ew141)]
  exact Cw.ret (retA1 rfl ((b135.up l141).up l147) (Res.mk a148 ⟨v31, v34, rfl, (o141.up l147).s, o147.s⟩))

theorem p71 {x0 v0_0_ v0_1_ k0 k1 r} (h0 : Rd W K [v0_0_, v0_1_] x0) (hm : Vm.impl_Repo_own x0 = some r) : Q1 71 [.agg [v0_0_, v0_1_].toArray] W [] fun W' v => ∃ u0_0 u0_1, v = .agg [u0_0, u0_1].toArray ∧ Ow W' k0 [] [u0_0] r.Commits ∧ Ow W' k1 [] [u0_1] r.Heads :=
 CallR.adJ (J := []) (fun c => bif Nat.beq c 0 then 0 else bif Nat.beq c 31 then k0 else bif Nat.beq c 32 then k1 else 0) (c71 (h0.view _) hm) fun _ _ ⟨u0_0, u0_1, e, f0, f1⟩ => ⟨u0_0, u0_1, e, f0.one1.backN rfl, f1.one1.backN rfl⟩

theorem c157 {x0 v0_ x1 r} (h0 : Rd W0 [0] [v0_] x0) (h1 : Rd W0 [0] [vS x1.Name, vI x1.At] x1) (hm : Vm.impl_insertHead x0 x1 = some r) : Q0 157 [v0_, .agg [vS x1.Name, vI x1.At].toArray] W0 fun Wf v => ∃ u0, v = u0 ∧ OwS Wf LL [] [u0] r := by
 unfold Vm.impl_insertHead at hm
 refine CallR.of Tryz.func157 rfl rfl rfl rfl (sr (bo 2 rfl fun g1 W1 l1 b1 => ?_))
 have a2 := l1.o
 refine Nv (.slice none 0 0) rfl (sr (mv v0_ rfl (Lw.ln x0 (h0.ul a2) rfl (Ni rfl (Cw.seq (Cw.block ?_))))))
 obtain ⟨K6, hK6, hm⟩ := jn_e hm
 refine Cw.loop 8 22 [5] (fun m l w => ∃ y4 W5, CW.w W5 = w ∧ Le [] W1 W5 ∧ l = [vI y4] ∧ Vm.impl_insertHead_l1 x0 x1 K6 m y4 = some r) _ ⟨(x0.length : Int), W1, rfl, Le.refl _ _, rfl, hm⟩ ?_
 rintro (_ | m7) _ _ σ ⟨y4, W5, rfl, l5, rfl, hm⟩
 ·cases hm
 unfold Vm.impl_insertHead_l1 at hm
 have a8 := a2.n l5
 refine Cw.seq ?_
 obtain ⟨K12, hK12, hm⟩ := jn_e hm
 refine Cw.join 8 20 [20] (fun l w => ∃ y10 W11, CW.w W11 = w ∧ Le [] W5 W11 ∧ l = [vB y10] ∧ K12 y10 = some r) ?_ ?_
 ·rintro _ _ σ ⟨y10, W11, rfl, l11, rfl, hm⟩
  rw [hK12] at hm
  have a13 := a8.n l11
  refine cn hm (fun hm => ?_) fun hm => ?_
  ·exact sk (Cw.block (rg (mi rfl (Lw.sub rfl (Ni rfl ((agm) ⟨w64 (y4 - 1), W11, rfl, (l5.j l11).w, rfl, hm⟩))))))
  ·refine Cw.exit ?_
   rw [hK6] at hm
   refine Cw.seq ?_
   obtain ⟨q22, e23, hm⟩ := ob hm
   obtain ⟨z32, e33, hm⟩ := ob hm
   refine Cw.par [[], [], [0, 1], [], [], [4], [0, 1, 2, 3, 4, 5], [0, 1, 2, 3, 4, 5, 6]] [[], [], [0, 1], [], [], [4], [2, 3, 5], [6]] [[], [], [3], [], [], [], [3], []] [[0], [1], [2], [3], [4], [5], [6], [6, 7]] [[3], [], [3], [], [], [4], [5], []] [1, 3, 4, 5, 6, 7] [3] [fun vs W => Ow W 3 [] [(vs 0)] ([] : List Head), fun vs W => (vs 1) = v0_, fun vs W => Ow W 3 [] [(vs 2)] q22, fun vs W => (vs 3) = vI y4, fun vs W => (vs 4) = .agg [vS x1.Name, vI x1.At].toArray, fun vs W => (vs 5) = .slice (some (bx (pg (vs 5)))) 1 1 ∧ Bx W 4 (pg (vs 5)) [vS x1.Name, vI x1.At], fun vs W => Ow W 5 [] [(vs 6)] z32, fun vs W => (vs 7) = (vs 6)] [] mixed (by kernel_rfl) rfl AllF.nil ?_
   intro W38 l38
   have a39 := a13.n l38
   refine ⟨(Steps.cons ?_ (Steps.cons ?_ (Steps.cons ?_ (Steps.cons ?_ (Steps.cons ?_ (Steps.cons ?_ (Steps.cons ?_ (Steps.cons ?_ Steps.nil)))))))), (Sups.cons (fun vs vs' W W' _ hv l hd h => by (show Ow W' 3 [] [(vs' 0)] ([] : List Head)); rw [hv 0 (anyb rfl)]; exact h.upv l (disj_mem hd (c := 3) rfl)) (Sups.cons (fun vs vs' W W' _ hv l hd h => by (show (vs' 1) = v0_); rw [hv 1 (anyb rfl)]; exact h) (Sups.cons (fun vs vs' W W' _ hv l hd h => by (show Ow W' 3 [] [(vs' 2)] q22); rw [hv 2 (anyb rfl)]; exact h.upv l (disj_mem hd (c := 3) rfl)) (Sups.cons (fun vs vs' W W' _ hv l hd h => by (show (vs' 3) = vI y4); rw [hv 3 (anyb rfl)]; exact h) (Sups.cons (fun vs vs' W W' _ hv l hd h => by (show (vs' 4) = .agg [vS x1.Name, vI x1.At].toArray); rw [hv 4 (anyb rfl)]; exact h) (Sups.cons (fun vs vs' W W' _ hv l hd h => by (show (vs' 5) = .slice (some (bx (pg (vs' 5)))) 1 1 ∧ Bx W' 4 (pg (vs' 5)) [vS x1.Name, vI x1.At]); rw [hv 5 (anyb rfl)]; exact ⟨h.1, h.2.up l (disj_mem hd (c := 4) rfl)⟩) (Sups.cons (fun vs vs' W W' _ hv l hd h => by (show Ow W' 5 [] [(vs' 6)] z32); rw [hv 6 (anyb rfl)]; exact h.upv l (disj_mem hd (c := 5) rfl)) (Sups.cons (fun vs vs' W W' _ hv l hd h => by (show (vs' 7) = (vs' 6)); rw [hv 6 (anyb rfl), hv 7 (anyb rfl)]; exact h) Sups.nil)))))))), ?_⟩
   ·intro vs W lW hN
    obtain ⟨W41, hW41⟩ : ∃ X, X = W := ⟨W, rfl⟩
    subst hW41
    refine Tr.mono (T.lit0 (α := Head) 3 []) ?_
    rintro v44 _ ⟨W44, rfl, l44, o44⟩
    exact ⟨W44, rfl, l44, (show Ow W44 3 [] [v44] ([] : List Head) from o44)⟩
   ·intro vs W lW hN
    obtain ⟨W47, hW47⟩ : ∃ X, X = W := ⟨W, rfl⟩
    subst hW47
    refine Tr.mono (Run.tr (R.mv (v := v0_) rfl)) ?_
    rintro _ _ ⟨hu, rfl⟩
    obtain rfl := hu.symm
    exact ⟨W47, rfl, Le.refl _ _, (show (v0_ : Value) = v0_ from rfl)⟩
   ·intro vs W lW hN
    obtain ⟨W50, hW50⟩ : ∃ X, X = W := ⟨W, rfl⟩
    subst hW50
    have a51 := a39.t lW rfl
    obtain ⟨pv0, e0_⟩ : ∃ v, vs 0 = v := ⟨_, rfl⟩
    obtain ⟨vs, rfl⟩ := up_eq e0_
    have o53 : Ow W50 3 [] [pv0] ([] : List Head) := (hN 0 (anyb rfl))
    have e1_ : vs 1 = v0_ := (hN 1 (anyb rfl))
    obtain ⟨vs, rfl⟩ := up_eq e1_
    refine Tr.mono (T.appP (α := Head) o53 (h0.ul a51) rfl rfl e23) ?_
    rintro v54 _ ⟨W54, rfl, l54, o54⟩
    exact ⟨W54, rfl, l54, (show Ow W54 3 [] [v54] q22 from o54)⟩
   ·intro vs W lW hN
    obtain ⟨W58, hW58⟩ : ∃ X, X = W := ⟨W, rfl⟩
    subst hW58
    refine Tr.mono (Run.tr (R.mv (v := vI y4) rfl)) ?_
    rintro _ _ ⟨hu, rfl⟩
    obtain rfl := hu.symm
    exact ⟨W58, rfl, Le.refl _ _, (show (vI y4 : Value) = vI y4 from rfl)⟩
   ·intro vs W lW hN
    obtain ⟨W61, hW61⟩ : ∃ X, X = W := ⟨W, rfl⟩
    subst hW61
    refine Tr.mono (Run.tr (R.lda (cs := [vS x1.Name, vI x1.At]) ((((b1.up l5).up l11).up l38).up lW rfl).cells rfl rfl)) ?_
    rintro _ _ ⟨hu, rfl⟩
    obtain rfl := hu.symm
    exact ⟨W61, rfl, Le.refl _ _, (show (.agg [vS x1.Name, vI x1.At].toArray : Value) = .agg [vS x1.Name, vI x1.At].toArray from rfl)⟩
   ·intro vs W lW hN
    obtain ⟨W64, hW64⟩ : ∃ X, X = W := ⟨W, rfl⟩
    subst hW64
    have e4_ : vs 4 = .agg [vS x1.Name, vI x1.At].toArray := (hN 4 (anyb rfl))
    obtain ⟨vs, rfl⟩ := up_eq e4_
    refine Tr.mono (T.bs 4 [.agg [vS x1.Name, vI x1.At].toArray] (cs := [vS x1.Name, vI x1.At]) rfl rfl (bsA rfl)) ?_
    rintro _ _ ⟨g67, W67, rfl, rfl, l67, b67⟩
    exact ⟨W67, rfl, l67, (show (.slice (some (bx g67)) 1 1 : Value) = .slice (some (bx g67)) 1 1 ∧ Bx W67 4 g67 [vS x1.Name, vI x1.At] from ⟨rfl, b67⟩)⟩
   ·intro vs W lW hN
    obtain ⟨W70, hW70⟩ : ∃ X, X = W := ⟨W, rfl⟩
    subst hW70
    obtain ⟨pv2, e2_⟩ : ∃ v, vs 2 = v := ⟨_, rfl⟩
    obtain ⟨vs, rfl⟩ := up_eq e2_
    have o73 : Ow W70 3 [] [pv2] q22 := (hN 2 (anyb rfl))
    have e3_ : vs 3 = vI y4 := (hN 3 (anyb rfl))
    obtain ⟨vs, rfl⟩ := up_eq e3_
    obtain ⟨pg5, e5_⟩ : ∃ pg5, vs 5 = .slice (some (bx pg5)) 1 1 := ⟨_, ((hN 5 (anyb rfl))).1⟩
    obtain ⟨vs, rfl⟩ := up_eq e5_
    have o74 : Bx W70 4 pg5 [vS x1.Name, vI x1.At] := (hN 5 (anyb rfl)).2
    refine Tr.mono (T.call rfl (p173 (k0 := 5) (c0 := 3) o73 o74 (Head.rd (K := [0]) x1.Name x1.At ) rfl rfl e33)) ?_
    rintro v0_75 _ ⟨W75, rfl, l75, ⟨_, rfl, f75_0⟩⟩
    exact ⟨W75, rfl, l75, (show Ow W75 5 [] [v0_75] z32 from f75_0)⟩
   ·intro vs W lW hN
    obtain ⟨W79, hW79⟩ : ∃ X, X = W := ⟨W, rfl⟩
    subst hW79
    obtain ⟨pv6, e6_⟩ : ∃ v, vs 6 = v := ⟨_, rfl⟩
    obtain ⟨vs, rfl⟩ := up_eq e6_
    have o82 : Ow W79 5 [] [pv6] z32 := (hN 6 (anyb rfl))
    refine Tr.mono (Run.tr (R.as (v := pv6) rfl)) ?_
    rintro _ _ ⟨hu, rfl⟩
    obtain rfl := hu.symm
    exact ⟨W79, rfl, Le.refl _ _, (show (pv6 : Value) = pv6 from rfl)⟩
   ·intro vs W lW hN
    obtain ⟨W83, hW83⟩ : ∃ X, X = W := ⟨W, rfl⟩
    subst hW83
    have a84 := a39.t lW rfl
    obtain ⟨l83, hl83⟩ : ∃ x, x = lW := ⟨lW, rfl⟩
    have e1_ : vs 1 = v0_ := (hN 1 (anyb rfl))
    obtain ⟨vs, rfl⟩ := up_eq e1_
    have e3_ : vs 3 = vI y4 := (hN 3 (anyb rfl))
    obtain ⟨vs, rfl⟩ := up_eq e3_
    have e4_ : vs 4 = .agg [vS x1.Name, vI x1.At].toArray := (hN 4 (anyb rfl))
    obtain ⟨vs, rfl⟩ := up_eq e4_
    obtain ⟨pg5, e5_⟩ : ∃ pg5, vs 5 = .slice (some (bx pg5)) 1 1 := ⟨_, ((hN 5 (anyb rfl))).1⟩
    obtain ⟨vs, rfl⟩ := up_eq e5_
    have o86 : Bx W83 4 pg5 [vS x1.Name, vI x1.At] := (hN 5 (anyb rfl)).2
    obtain ⟨pv6, e6_⟩ : ∃ v, vs 6 = v := ⟨_, rfl⟩
    obtain ⟨vs, rfl⟩ := up_eq e6_
    have o87 : Ow W83 5 [] [pv6] z32 := (hN 6 (anyb rfl))
    have e7_ : vs 7 = pv6 := (hN 7 (anyb rfl))
    obtain ⟨vs, rfl⟩ := up_eq e7_
    cases hm
    exact Cw.ret (ret1 rfl (Res.mk a84 ⟨pv6, rfl, o87.s.sub rfl rfl⟩))
 ·refine Cw.draw [] [(0, 0), (1, 0), (2, 0), (3, 0), (4, 0), (5, 0), (6, 0), (7, 0), (8, 1), (9, 0), (10, 1), (11, 0), (12, 0)] mixed (by kernel_rfl) fun W88 l88 => ?_
  have a89 := a8.n l88
  refine Di rfl (Mw.p rfl rfl (fun _ => R.gt rfl rfl) (Db rfl (bs hm (fun hc91 hm => ?_) fun hc91 hm => ?_)))
  ·refine Wp hc91 rfl (fun _ => R.mv (v := v0_) rfl) (Wp hc91 rfl (fun _ => R.mv (v := vI y4) rfl) (Wp hc91 rfl (fun _ => R.sub rfl rfl) ?_))
   obtain ⟨u92, e93, hm⟩ := ob hm
   exact Wp hc91 rfl (fun _ => R.ix (α := Head) (h0.ul a89) e93 rfl rfl rfl) (Wp hc91 rfl (fun _ => R.fa rfl) (Wq hc91 rfl (fun _ c => R.ld rfl rfl (cl_cell (Head.at0 ((h0.ul a89).at_ e93)).1 rfl (Head.at0 ((h0.ul a89).at_ e93)).str c)) (Wp hc91 rfl (fun _ => R.fa rfl) (Wq hc91 rfl (fun _ c => R.ld (v := vS x1.Name) rfl rfl (((b1.up l5).up l88).clc rfl rfl c)) (Wp hc91 rfl (fun _ => R.sgt rfl rfl) (Mw.p rfl rfl (fun _ => R.pk hc91 rfl (v := vB (!(Op.bytesLess u92.Name x1.Name || u92.Name == x1.Name))) rfl) (Mw.nil ((ag) ⟨(!(Op.bytesLess u92.Name x1.Name || u92.Name == x1.Name)), W88, rfl, l88, rfl, hm⟩))))))))
  ·exact dps 9 hc91 rfl (Mw.p rfl rfl (fun _ => R.pk hc91 rfl (v := vB false) rfl) (Mw.nil ((ag) ⟨false, W88, rfl, l88, rfl, hm⟩)))

theorem p157 {x0 v0_ x1 k0 r} (h0 : Rd W K [v0_] x0) (h1 : Rd W K [vS x1.Name, vI x1.At] x1) (hm : Vm.impl_insertHead x0 x1 = some r) : Q1 157 [v0_, .agg [vS x1.Name, vI x1.At].toArray] W [] fun W' v => ∃ u0, v = u0 ∧ Ow W' k0 [] [u0] r :=
 (c157 (h0.view _) (h1.view _) hm).ad (fk k0) fun _ _ ⟨u0, e, f0⟩ => ⟨u0, e, f0.back (fk_LL _)⟩

theorem c128 {x0 v0_0_ v0_1_ x1 x2 r} (h0_0 : Ow W0 2 [] [v0_0_] x0.Commits) (h0_1 : Ow W0 3 [] [v0_1_] x0.Heads) (hm : Vm.impl_Repo_point x0 x1 x2 = some r) : Q0 128 [.agg [v0_0_, v0_1_].toArray, vS x1, vI x2] W0 fun Wf v => ∃ u0_0 u0_1, v = .agg [u0_0, u0_1].toArray ∧ OwS Wf [31] [] [u0_0] r.Commits ∧ OwS Wf [32] [] [u0_1] r.Heads := by
 unfold Vm.impl_Repo_point at hm
 refine CallR.of Tryz.func128 rfl rfl rfl rfl (sr (bo 4 rfl fun g1 W1 l1 b1 => ?_))
 have a2 := l1.o
 refine al 5 [.slice none 0 0, .slice none 0 0] fun g5 W5 l5 b5 => ?_
 have a6 := a2.n l5
 have o8 := (h0_1.up l1).up l5
 refine nl (ssr (fl (b1.up l5) rfl (Lw.ln x0.Heads o8.rd rfl (mi rfl (nl (Cw.block ?_))))))
 obtain ⟨K22, hK22, hm⟩ := jn_e hm
 refine Cw.loop 11 29 [7, 11] (fun m l w => ∃ y11 y12 y15 y19 j10 v13 v16 W21, CW.w W21 = w ∧ Le [] W5 W21 ∧ l = [j10, vI y11] ∧ Ow W21 6 [] [v13] y12 ∧ Ow W21 7 [] [v16] y15 ∧ Bx W21 5 g5 [v13, v16] ∧ Ow W21 3 [] [v0_1_] y19 ∧ Vm.impl_Repo_point_l1 x0 x1 x2 K22 m y11 y12 y15 y19 = some r) _ ⟨0, ([] : List Commit), ([] : List Head), x0.Heads, undef, .slice none 0 0, .slice none 0 0, W5, rfl, Le.refl _ _, rfl, owN 6 [], owN 7 [], b5, o8, hm⟩ ?_
 rintro (_ | m23) _ _ σ ⟨y11, y12, y15, y19, j10, v13, v16, W21, rfl, l21, rfl, o14, o17, b18, o20, hm⟩
 ·cases hm
 unfold Vm.impl_Repo_point_l1 at hm
 have a24 := a6.n l21
 have o25 := ((h0_0.up l1).up l5).up l21
 have b26 := (b1.up l5).up l21
 refine sr (Lw.lt rfl (nl (Cw.seq (cn hm (fun hm => ?_) fun hm => ?_))))
 ·refine sk (Cw.seq (Cw.block (sr (mi rfl (Ni rfl (sr (fl b26 rfl (mi rfl ?_))))))))
  obtain ⟨u28, e29, hm⟩ := ob hm
  refine Lw.r rfl (R.ix (α := Head) o20.rd e29 rfl rfl rfl) (Lw.fa rfl (Lw.r rfl (R.ld rfl rfl (Head.at0 (o20.rd.at_ e29)).str) (ms rfl (Lw.seq rfl (nl (cn hm (fun hm => ?_) fun hm => ?_))))))
  ·refine sr (fl b26 rfl (mi rfl (mi rfl ?_)))
   obtain ⟨u31, e32, hm⟩ := ob hm
   refine Lw.r rfl (R.ix (α := Head) o20.rd e32 rfl rfl rfl) (Lw.fa rfl ?_)
   obtain ⟨q34, e35, hm⟩ := ob hm
   refine Lw.u (T.stH (α := Head) (β := Int) (J := []) (Ow.hole (α := Head) (β := Int) (jf := 1) o20 e32) (OwS.atm (K := []) (rdI _)) e35 rfl rfl rfl rfl) ?_
   rintro _ _ ⟨W33, rfl, l33, o33⟩
   have a36 := a24.t l33
   refine nl (sr (la (b26.up l33) (sta (b18.up l33) (oc_cons (o25.up l33).oc (oc_cons o33.oc oc_nil)) fun W42 l42 b42 => ?_)))
   have a43 := a36.t l42
   refine nl ?_
   obtain ⟨W49, ew49, l49, o49⟩ := ((o25.up l33).up l42).dyeO 31
   have a50 := a43.t l49
   obtain ⟨W56, ew56, l56, o56⟩ := ((o33.up l42).up l49).dyeO 32
   have a57 := a50.t l56
   cases hm
   rw [← ew56.trans (ew49)]
   exact Cw.ret (retA1 rfl ((b42.up l49).up l56) (Res.mk a57 ⟨v0_0_, v0_1_, rfl, (o49.up l56).s, o56.s⟩))
  ·exact sk (rg (Lw.add rfl (mi rfl (nl ((agm) ⟨w64 (y11 + 1), y12, y15, y19, vI y11, v13, v16, W21, rfl, l21, rfl, o14, o17, b18, o20, hm⟩)))))
 ·refine Cw.exit ?_
  rw [hK22] at hm
  refine sr (fl b26 rfl (ms rfl (mi rfl (Lw.r rfl (R.bd (zs := [vS ([] : Str), vI 0]) (cs := [vS x1, vI x2]) [(0, vS x1), (1, vI x2)] rfl rfl rfl (bp_cons rfl rfl (bp_cons rfl rfl bp_nil))) (cr hm (fun _ => p157 (K := [0, 3]) (k0 := 8) (x1 := (Vm.Head.mk x1 x2)) (o20.rd.sub (M := [0, 3]) rfl) ((Head.rd (K := [0]) x1 x2 ).sub (M := [0, 3]) rfl)) ?_)))))
  rintro z63 v0_65 W65 hm l65 ⟨_, rfl, f65_0⟩
  have a66 := a24.n l65
  refine Lw.fa rfl (Lw.u (T.st (j := 1) (v := v0_65) (b26.up l65) rfl rfl f65_0.oc rfl rfl) ?_)
  rintro _ _ ⟨W73, rfl, l73, b73⟩
  have a74 := a66.t l73
  have o75 := (o25.up l65).up l73
  refine nl (sr (la b73 (sta ((b18.up l65).up l73) (oc_cons o75.oc (oc_cons (f65_0.up l73).oc oc_nil)) fun W81 l81 b81 => ?_)))
  have a82 := a74.t l81
  refine nl ?_
  obtain ⟨W89, ew89, l89, o89⟩ := (o75.up l81).dyeO 31
  have a90 := a82.t l89
  obtain ⟨W97, ew97, l97, o97⟩ := (((f65_0.up l73).up l81).up l89).dyeO 32
  have a98 := a90.t l97
  cases hm
  rw [← ew97.trans (ew89)]
  exact Cw.ret (retA1 rfl ((b81.up l89).up l97) (Res.mk a98 ⟨v0_0_, v0_65, rfl, (o89.up l97).s, o97.s⟩))

theorem p128 {x0 v0_0_ v0_1_ x1 x2 k0 k1 c0 c1 r} (h0_0 : Ow W c0 [] [v0_0_] x0.Commits) (h0_1 : Ow W c1 [] [v0_1_] x0.Heads) (hJ : okJ K [c0, c1] = true) (hm : Vm.impl_Repo_point x0 x1 x2 = some r) : Q1 128 [.agg [v0_0_, v0_1_].toArray, vS x1, vI x2] W [c0, c1] fun W' v => ∃ u0_0 u0_1, v = .agg [u0_0, u0_1].toArray ∧ Ow W' k0 [] [u0_0] r.Commits ∧ Ow W' k1 [] [u0_1] r.Heads :=
 CallR.adJ (J := [c0, c1]) (fun c => bif Nat.beq c 0 then 0 else bif Nat.beq c 2 then c0 else bif Nat.beq c 3 then c1 else bif Nat.beq c 31 then k0 else bif Nat.beq c 32 then k1 else 0) (c128 (h0_0.viewJ 0 hJ) (h0_1.viewJ 1 hJ) hm) fun _ _ ⟨u0_0, u0_1, e, f0, f1⟩ => ⟨u0_0, u0_1, e, f0.one1.backN rfl, f1.one1.backN rfl⟩

theorem c127 {x0 v0_0_ v0_1_ x1 v1_0_ v1_1_ r} (h0 : Rd W0 [0] [v0_0_, v0_1_] x0) (h1_0 : Ow W0 2 [] [v1_0_] x1.Commits) (h1_1 : Ow W0 3 [] [v1_1_] x1.Heads) (h99 : Gl 0 W0 [0]) (hm : Vm.impl_Repo_tried x0 x1 = some r) : Q0 127 [.agg [v0_0_, v0_1_].toArray, .agg [v1_0_, v1_1_].toArray] W0 fun Wf v => ∃ u0_0 u0_1, v = .tuple [.agg [u0_0, u0_1].toArray, vB r.2].toArray ∧ OwS Wf [31] [] [u0_0] r.1.Commits ∧ OwS Wf [32] [] [u0_1] r.1.Heads := by
 unfold Vm.impl_Repo_tried at hm
 obtain ⟨w0_0, w0_1, he0, h0_0, h0_1⟩ := Repo.split h0
 simp only [List.cons.injEq, and_true, true_and] at he0
 obtain ⟨rfl, rfl⟩ := he0
 refine CallR.of Tryz.func127 rfl rfl rfl rfl (sr (bo 4 rfl fun g1 W1 l1 b1 => ?_))
 have a2 := l1.o
 refine bo 5 rfl fun g5 W5 l5 b5 => ?_
 have a6 := a2.n l5
 refine al 6 [.slice none 0 0, .slice none 0 0] fun g10 W10 l10 b10 => ?_
 have a11 := a6.n l10
 have o12 := ((h1_0.up l1).up l5).up l10
 have o13 := ((h1_1.up l1).up l5).up l10
 refine Nb rfl (ssr (la (b5.up l10) (ca hm (fun _ => p19 (K := [0, 2, 3]) (x0 := (Vm.Repo.mk x1.Commits x1.Heads)) ((Repo.rd (K := [2, 3]) x1.Commits x1.Heads (o12.rd.sub (M := [2, 3]) rfl) (o13.rd.sub (M := [2, 3]) rfl)).sub (M := [0, 2, 3]) rfl) ((h99.ul a11).sub (M := [0, 2, 3]) rfl)) fun z17 W19 hm l19 => ?_)))
 have a20 := a11.n l19
 refine Lw.r rfl (R.not rfl) (nl (cn hm (fun hm => ?_) fun hm => ?_))
 ·refine sr (la (((b1.up l5).up l10).up l19) (cr hm (fun _ => p71 (k0 := 7) (k1 := 8) (Repo.rd (K := [0]) x0.Commits x0.Heads (h0_0.ul a20) (h0_1.ul a20))) ?_))
  rintro z29 _ W31 hm l31 ⟨v0_0_31, v0_1_31, rfl, f31_0, f31_1⟩
  have a32 := a20.n l31
  refine sta ((b10.up l19).up l31) (oc_cons f31_0.oc (oc_cons f31_1.oc oc_nil)) fun W38 l38 b38 => ?_
  have a39 := a32.t l38
  refine Nb rfl ?_
  obtain ⟨W46, ew46, l46, o46⟩ := (f31_0.up l38).dyeO 31
  have a47 := a39.t l46
  obtain ⟨W54, ew54, l54, o54⟩ := ((f31_1.up l38).up l46).dyeO 32
  have a55 := a47.t l54
  cases hm
  rw [← ew54.trans (ew46)]
  exact Cw.ret (retA2 rfl ((b38.up l46).up l54) rfl (Res.mk a55 ⟨v0_0_31, v0_1_31, rfl, (o46.up l54).s, o54.s⟩))
 ·refine sk (sr (la ((b5.up l10).up l19) (sta (b10.up l19) (oc_cons (o12.up l19).oc (oc_cons (o13.up l19).oc oc_nil)) fun W62 l62 b62 => ?_)))
  have a63 := a20.t l62
  refine Nb rfl ?_
  obtain ⟨W68, ew68, l68, o68⟩ := ((o12.up l19).up l62).dyeO 31
  have a69 := a63.t l68
  obtain ⟨W74, ew74, l74, o74⟩ := (((o13.up l19).up l62).up l68).dyeO 32
  have a75 := a69.t l74
  cases hm
  rw [← ew74.trans (ew68)]
  exact Cw.ret (retA2 rfl ((b62.up l68).up l74) rfl (Res.mk a75 ⟨v1_0_, v1_1_, rfl, (o68.up l74).s, o74.s⟩))

theorem p127 {x0 v0_0_ v0_1_ x1 v1_0_ v1_1_ k0 k1 c0 c1 r} (h0 : Rd W K [v0_0_, v0_1_] x0) (h1_0 : Ow W c0 [] [v1_0_] x1.Commits) (h1_1 : Ow W c1 [] [v1_1_] x1.Heads) (h99 : Gl 0 W K) (hJ : okJ K [c0, c1] = true) (hm : Vm.impl_Repo_tried x0 x1 = some r) : Q1 127 [.agg [v0_0_, v0_1_].toArray, .agg [v1_0_, v1_1_].toArray] W [c0, c1] fun W' v => ∃ u0_0 u0_1, v = .tuple [.agg [u0_0, u0_1].toArray, vB r.2].toArray ∧ Ow W' k0 [] [u0_0] r.1.Commits ∧ Ow W' k1 [] [u0_1] r.1.Heads :=
 CallR.adJ (J := [c0, c1]) (fun c => bif Nat.beq c 0 then 0 else bif Nat.beq c 2 then c0 else bif Nat.beq c 3 then c1 else bif Nat.beq c 31 then k0 else bif Nat.beq c 32 then k1 else 0) (c127 (h0.view _) (h1_0.viewJ 0 hJ) (h1_1.viewJ 1 hJ) (h99.view _) hm) fun _ _ ⟨u0_0, u0_1, e, f0, f1⟩ => ⟨u0_0, u0_1, e, f0.one1.backN rfl, f1.one1.backN rfl⟩

theorem c66 {x0 v0_0_ v0_1_ x1 v1_ x2 v2_ x3 r} (h0 : Rd W0 [0] [v0_0_, v0_1_] x0) (h1 : Rd W0 [0] [v1_] x1) (h2 : Rd W0 [0] [v2_] x2) (h99 : Gl 0 W0 [0]) (hm : Vm.impl_SendTake x0 x1 x2 x3 = some r) : Q0 66 [.agg [v0_0_, v0_1_].toArray, v1_, v2_, vS x3] W0 fun Wf v => ∃ u0_0 u0_1, v = .tuple [.agg [u0_0, u0_1].toArray, vB r.2].toArray ∧ OwS Wf [31] [] [u0_0] r.1.Commits ∧ OwS Wf [32] [] [u0_1] r.1.Heads := by
 unfold Vm.impl_SendTake at hm
 obtain ⟨w0_0, w0_1, he0, h0_0, h0_1⟩ := Repo.split h0
 simp only [List.cons.injEq, and_true, true_and] at he0
 obtain ⟨rfl, rfl⟩ := he0
 refine CallR.of Tryz.func66 rfl rfl rfl rfl (sr (bo 2 rfl fun g1 W1 l1 b1 => ?_))
 have a2 := l1.o
 refine al 3 [.slice none 0 0, .slice none 0 0] fun g3 W3 l3 b3 => ?_
 have a4 := a2.n l3
 refine Nb rfl (ssr (la (b1.up l3) (ca hm (fun _ => p19 (Repo.rd (K := [0]) x0.Commits x0.Heads (h0_0.ul a4) (h0_1.ul a4)) (h99.ul a4)) fun z9 W11 hm l11 => ?_)))
 have a12 := a4.n l11
 have b13 := (b1.up l3).up l11
 refine Lw.r rfl (R.not rfl) (nl (cn hm (fun hm => ?_) fun hm => ?_))
 ·refine sr (Lw.r rfl (R.bd (zs := [.slice none 0 0, .slice none 0 0]) (cs := [.slice none 0 0, .slice none 0 0]) [] rfl rfl rfl bp_nil) (sta (b3.up l11) (oc_cons rfl (oc_cons rfl oc_nil)) fun W16 l16 b16 => ?_))
  have a17 := a12.t l16
  refine Nb rfl ?_
  cases hm
  exact Cw.ret (retA2 rfl b16 rfl (Res.mk a17 ⟨.slice none 0 0, .slice none 0 0, rfl, (owsN []).sub rfl rfl, (owsN []).sub rfl rfl⟩))
 ·refine sk (Cw.seq ?_)
  obtain ⟨K21, hK21, hm⟩ := jn_e hm
  refine Cw.join 21 37 [37] (fun l w => ∃ y19 W20, CW.w W20 = w ∧ Le [] W11 W20 ∧ l = [vB y19] ∧ K21 y19 = some r) ?_ ?_
  ·rintro _ _ σ ⟨y19, W20, rfl, l20, rfl, hm⟩
   rw [hK21] at hm
   have a22 := a12.n l20
   have b23 := b13.up l20
   have b24 := (b3.up l11).up l20
   refine cn hm (fun hm => ?_) fun hm => ?_
   ·refine sr (la b23 (cr hm (fun _ => p71 (k0 := 4) (k1 := 5) (Repo.rd (K := [0]) x0.Commits x0.Heads (h0_0.ul a22) (h0_1.ul a22))) ?_))
    rintro z28 _ W30 hm l30 ⟨v0_0_30, v0_1_30, rfl, f30_0, f30_1⟩
    have a31 := a22.n l30
    refine sta (b24.up l30) (oc_cons f30_0.oc (oc_cons f30_1.oc oc_nil)) fun W34 l34 b34 => ?_
    have a35 := a31.t l34
    refine Nb rfl ?_
    obtain ⟨W39, ew39, l39, o39⟩ := (f30_0.up l34).dyeO 31
    have a40 := a35.t l39
    obtain ⟨W44, ew44, l44, o44⟩ := ((f30_1.up l34).up l39).dyeO 32
    have a45 := a40.t l44
    cases hm
    rw [← ew44.trans (ew39)]
    exact Cw.ret (retA2 rfl ((b34.up l39).up l44) rfl (Res.mk a45 ⟨v0_0_30, v0_1_30, rfl, (o39.up l44).s, o44.s⟩))
   ·refine sk (sr (la b23 (cr hm (fun _ => p71 (k0 := 6) (k1 := 7) (Repo.rd (K := [0]) x0.Commits x0.Heads (h0_0.ul a22) (h0_1.ul a22))) ?_)))
    rintro z51 _ W53 hm l53 ⟨v0_0_53, v0_1_53, rfl, f53_0, f53_1⟩
    have a54 := a22.n l53
    refine al 8 [.slice none 0 0, .slice none 0 0] fun g57 W57 l57 b57 => ?_
    have a58 := a54.n l57
    refine sta b57 (oc_cons (f53_0.up l57).oc (oc_cons (f53_1.up l57).oc oc_nil)) fun W63 l63 b63 => ?_
    have a64 := a58.t l63
    refine nl (sr (Ni rfl ?_))
    obtain ⟨K71, hK71, hm⟩ := jn_e hm
    refine Cw.join 42 47 [11] (fun l w => ∃ y69 W70, CW.w W70 = w ∧ Le [] W63 W70 ∧ l = [vI y69] ∧ K71 y69 = some r) ?_ ?_
    ·rintro _ _ σ ⟨y69, W70, rfl, l70, rfl, hm⟩
     rw [hK71] at hm
     have a72 := a64.n l70
     refine ssr (mv v2_ rfl (Lw.ln x2 (h2.ul a72) rfl (mi rfl (nl (Cw.block ?_)))))
     obtain ⟨K101, hK101, hm⟩ := jn_e hm
     refine Cw.loop 50 111 [9, 11, 12, 13, 14, 16, 50] (fun m l w => ∃ y79 y80 y85 y86 y89 y93 y96 j81 j82 j83 j84 v87 v90 v94 v97 W100, CW.w W100 = w ∧ Le [6, 8, 11, 12, 13, 14] W70 W100 ∧ l = [vB y79, vI y80, j81, j82, j83, j84, vI y85] ∧ Ow W100 9 [] [v87] y86 ∧ Ow W100 10 [] [v90] y89 ∧ Bx W100 3 g3 [v87, v90] ∧ Ow W100 6 [] [v94] y93 ∧ Ow W100 7 [] [v97] y96 ∧ Bx W100 8 g57 [v94, v97] ∧ Vm.impl_SendTake_l1 x0 x1 x2 K101 m y79 y80 y85 y86 y89 y93 y96 = some r) _ ⟨false, y69, 0, ([] : List Commit), ([] : List Head), z51.Commits, z51.Heads, undef, undef, undef, undef, .slice none 0 0, .slice none 0 0, v0_0_53, v0_1_53, W70, rfl, Le.refl _ _, rfl, owN 9 [], owN 10 [], ((((b24.up l53).up l57).up l63).up l70), (((f53_0.up l57).up l63).up l70), (((f53_1.up l57).up l63).up l70), (b63.up l70), hm⟩ ?_
     rintro (_ | m102) _ _ σ ⟨y79, y80, y85, y86, y89, y93, y96, j81, j82, j83, j84, v87, v90, v94, v97, W100, rfl, l100, rfl, o88, o91, b92, o95, o98, b99, hm⟩
     ·cases hm
     unfold Vm.impl_SendTake_l1 at hm
     have a103 := a72.t l100
     have b104 := ((((b23.up l53).up l57).up l63).up l70).up l100
     refine sr (Lw.lt rfl (nl (Cw.seq (cn hm (fun hm => ?_) fun hm => ?_))))
     ·refine sk (Cw.seq (Cw.block (sr (mi rfl ?_))))
      obtain ⟨u106, e107, hm⟩ := ob hm
      refine Lw.r rfl (R.ix (α := Commit) (h2.ul a103) e107 rfl rfl rfl) ?_
      obtain ⟨x109, c110, _, r111⟩ := ((h2.ul a103).at_ e107).cells
      obtain ⟨v112, v114, rfl, r113, r115⟩ := Commit.split r111
      refine Lw.r rfl (R.lda c110 rfl rfl) (al 11 [.slice none 0 0, vS ([] : Str), .slice none 0 0] fun g116 W116 l116 b116 => ?_)
      have a117 := l116.o
      refine Gi rfl (sta b116 (oc_cons r113.oc (oc_cons rfl (oc_cons r115.oc oc_nil))) fun W125 l125 b125 => ?_)
      have a126 := l125.s
      refine nl (Cw.seq ?_)
      obtain ⟨z145, e146, hm⟩ := ob hm
      refine Cw.par [[], [0], [], [2], [2, 3], [0, 1, 2, 3, 4], [], [0, 1, 2, 3, 4, 5, 6]] [[], [0], [], [2], [3], [1, 4], [], [4, 5, 6]] [[], [], [], [], [], [], [], [13]] [[0], [1], [2], [3], [4], [4, 5], [6], [4, 6]] [[], [], [], [], [12], [], [13], [13]] [0, 1, 2, 3, 4, 5, 7] [13] [fun vs W => (vs 0) = ptr ((bx g116).add 1), fun vs W => (vs 1) = vS u106.Who, fun vs W => (vs 2) = ptr ((bx g116).add 2), fun vs W => (vs 3) = v114, fun vs W => Ow W 12 [] [(vs 4)] z145, fun vs W => (vs 5) = .agg [.slice none 0 0, vS u106.Who, (vs 4)].toArray, fun vs W => (vs 6) = ptr (bx (pg (vs 6))) ∧ Bx W 13 (pg (vs 6)) [.slice none 0 0, vS ([] : Str), .slice none 0 0], fun vs W => (vs 6) = ptr (bx (pg (vs 6))) ∧ Bx W 13 (pg (vs 6)) [.slice none 0 0, vS u106.Who, (vs 4)]] [] mixed (by kernel_rfl) rfl AllF.nil ?_
      intro W179 l179
      have a180 := l179.o
      have b188 := b125.up l179
      refine ⟨(Steps.cons ?_ (Steps.cons ?_ (Steps.cons ?_ (Steps.cons ?_ (Steps.cons ?_ (Steps.cons ?_ (Steps.cons ?_ (Steps.cons ?_ Steps.nil)))))))), (Sups.cons (fun vs vs' W W' _ hv l hd h => by (show (vs' 0) = ptr ((bx g116).add 1)); rw [hv 0 (anyb rfl)]; exact h) (Sups.cons (fun vs vs' W W' _ hv l hd h => by (show (vs' 1) = vS u106.Who); rw [hv 1 (anyb rfl)]; exact h) (Sups.cons (fun vs vs' W W' _ hv l hd h => by (show (vs' 2) = ptr ((bx g116).add 2)); rw [hv 2 (anyb rfl)]; exact h) (Sups.cons (fun vs vs' W W' _ hv l hd h => by (show (vs' 3) = v114); rw [hv 3 (anyb rfl)]; exact h) (Sups.cons (fun vs vs' W W' _ hv l hd h => by (show Ow W' 12 [] [(vs' 4)] z145); rw [hv 4 (anyb rfl)]; exact h.upv l (disj_mem hd (c := 12) rfl)) (Sups.cons (fun vs vs' W W' _ hv l hd h => by (show (vs' 5) = .agg [.slice none 0 0, vS u106.Who, (vs' 4)].toArray); rw [hv 4 (anyb rfl), hv 5 (anyb rfl)]; exact h) (Sups.cons (fun vs vs' W W' _ hv l hd h => by (show (vs' 6) = ptr (bx (pg (vs' 6))) ∧ Bx W' 13 (pg (vs' 6)) [.slice none 0 0, vS ([] : Str), .slice none 0 0]); rw [hv 6 (anyb rfl)]; exact ⟨h.1, h.2.up l (disj_mem hd (c := 13) rfl)⟩) (Sups.cons (fun vs vs' W W' _ hv l hd h => by (show (vs' 6) = ptr (bx (pg (vs' 6))) ∧ Bx W' 13 (pg (vs' 6)) [.slice none 0 0, vS u106.Who, (vs' 4)]); rw [hv 4 (anyb rfl), hv 6 (anyb rfl)]; exact ⟨h.1, h.2.up l (disj_mem hd (c := 13) rfl)⟩) Sups.nil)))))))), ?_⟩
      ·intro vs W lW hN
       obtain ⟨W189, hW189⟩ : ∃ X, X = W := ⟨W, rfl⟩
       subst hW189
       refine Tr.mono (Run.tr (R.fa rfl)) ?_
       rintro _ _ ⟨hu, rfl⟩
       obtain rfl := hu.symm
       exact ⟨W189, rfl, Le.refl _ _, (show (ptr ((bx g116).add 1) : Value) = ptr ((bx g116).add 1) from rfl)⟩
      ·intro vs W lW hN
       obtain ⟨W199, hW199⟩ : ∃ X, X = W := ⟨W, rfl⟩
       subst hW199
       have e0_ : vs 0 = ptr ((bx g116).add 1) := (hN 0 (anyb rfl))
       obtain ⟨vs, rfl⟩ := up_eq e0_
       refine Tr.mono (Run.tr (R.ld (v := vS u106.Who) rfl rfl ((b188.up lW rfl).cell rfl))) ?_
       rintro _ _ ⟨hu, rfl⟩
       obtain rfl := hu.symm
       exact ⟨W199, rfl, Le.refl _ _, (show (vS u106.Who : Value) = vS u106.Who from rfl)⟩
      ·intro vs W lW hN
       obtain ⟨W209, hW209⟩ : ∃ X, X = W := ⟨W, rfl⟩
       subst hW209
       refine Tr.mono (Run.tr (R.fa rfl)) ?_
       rintro _ _ ⟨hu, rfl⟩
       obtain rfl := hu.symm
       exact ⟨W209, rfl, Le.refl _ _, (show (ptr ((bx g116).add 2) : Value) = ptr ((bx g116).add 2) from rfl)⟩
      ·intro vs W lW hN
       obtain ⟨W219, hW219⟩ : ∃ X, X = W := ⟨W, rfl⟩
       subst hW219
       have e2_ : vs 2 = ptr ((bx g116).add 2) := (hN 2 (anyb rfl))
       obtain ⟨vs, rfl⟩ := up_eq e2_
       refine Tr.mono (Run.tr (R.ld (v := v114) rfl rfl ((b188.up lW rfl).cell rfl))) ?_
       rintro _ _ ⟨hu, rfl⟩
       obtain rfl := hu.symm
       exact ⟨W219, rfl, Le.refl _ _, (show (v114 : Value) = v114 from rfl)⟩
      ·intro vs W lW hN
       obtain ⟨W229, hW229⟩ : ∃ X, X = W := ⟨W, rfl⟩
       subst hW229
       have a230 := ((a117.trans a126).trans a180).t lW rfl
       have e3_ : vs 3 = v114 := (hN 3 (anyb rfl))
       obtain ⟨vs, rfl⟩ := up_eq e3_
       refine Tr.mono (T.call rfl (p114 (k0 := 12) (r115.ul a230) e146)) ?_
       rintro v0_240 _ ⟨W240, rfl, l240, ⟨_, rfl, f240_0⟩⟩
       exact ⟨W240, rfl, l240, (show Ow W240 12 [] [v0_240] z145 from f240_0)⟩
      ·intro vs W lW hN
       obtain ⟨W250, hW250⟩ : ∃ X, X = W := ⟨W, rfl⟩
       subst hW250
       have e1_ : vs 1 = vS u106.Who := (hN 1 (anyb rfl))
       obtain ⟨vs, rfl⟩ := up_eq e1_
       obtain ⟨pv4, e4_⟩ : ∃ v, vs 4 = v := ⟨_, rfl⟩
       obtain ⟨vs, rfl⟩ := up_eq e4_
       have o260 : Ow W250 12 [] [pv4] z145 := (hN 4 (anyb rfl))
       refine Tr.mono (Run.tr (R.bd (zs := [.slice none 0 0, vS ([] : Str), .slice none 0 0]) (cs := [.slice none 0 0, vS u106.Who, pv4]) [(1, vS u106.Who), (2, pv4)] rfl rfl rfl (bp_cons rfl rfl (bp_cons o260.oc rfl bp_nil)))) ?_
       rintro _ _ ⟨hu, rfl⟩
       obtain rfl := hu.symm
       exact ⟨W250, rfl, Le.refl _ _, (show (.agg [.slice none 0 0, vS u106.Who, pv4].toArray : Value) = .agg [.slice none 0 0, vS u106.Who, pv4].toArray from rfl)⟩
      ·intro vs W lW hN
       obtain ⟨W261, hW261⟩ : ∃ X, X = W := ⟨W, rfl⟩
       subst hW261
       refine Tr.mono (T.alloc 13 (cs := [.slice none 0 0, vS ([] : Str), .slice none 0 0]) rfl) ?_
       rintro _ _ ⟨g271, W271, rfl, rfl, l271, b271⟩
       exact ⟨W271, rfl, l271, (show (ptr (bx g271) : Value) = ptr (bx g271) ∧ Bx W271 13 g271 [.slice none 0 0, vS ([] : Str), .slice none 0 0] from ⟨rfl, b271⟩)⟩
      ·intro vs W lW hN
       obtain ⟨W281, hW281⟩ : ∃ X, X = W := ⟨W, rfl⟩
       subst hW281
       obtain ⟨pv4, e4_⟩ : ∃ v, vs 4 = v := ⟨_, rfl⟩
       obtain ⟨vs, rfl⟩ := up_eq e4_
       have o291 : Ow W281 12 [] [pv4] z145 := (hN 4 (anyb rfl))
       have e5_ : vs 5 = .agg [.slice none 0 0, vS u106.Who, pv4].toArray := (hN 5 (anyb rfl))
       obtain ⟨vs, rfl⟩ := up_eq e5_
       obtain ⟨pg6, e6_⟩ : ∃ pg6, vs 6 = ptr (bx pg6) := ⟨_, ((hN 6 (anyb rfl))).1⟩
       obtain ⟨vs, rfl⟩ := up_eq e6_
       have o292 : Bx W281 13 pg6 [.slice none 0 0, vS ([] : Str), .slice none 0 0] := (hN 6 (anyb rfl)).2
       refine Tr.mono (T.sta (vs := [.slice none 0 0, vS u106.Who, pv4]) o292 rfl rfl (oc_cons rfl (oc_cons rfl (oc_cons o291.oc oc_nil))) rfl rfl) ?_
       rintro _ _ ⟨W293, rfl, l293, b293⟩
       exact ⟨W293, rfl, l293, (show (ptr (bx pg6)) = ptr (bx pg6) ∧ Bx W293 13 pg6 [.slice none 0 0, vS u106.Who, pv4] from ⟨rfl, b293⟩)⟩
      ·intro vs W lW hN
       obtain ⟨W304, hW304⟩ : ∃ X, X = W := ⟨W, rfl⟩
       subst hW304
       have a305 := lW.s rfl
       obtain ⟨l304, hl304⟩ : ∃ x, x = lW := ⟨lW, rfl⟩
       have e0_ : vs 0 = ptr ((bx g116).add 1) := (hN 0 (anyb rfl))
       obtain ⟨vs, rfl⟩ := up_eq e0_
       have e1_ : vs 1 = vS u106.Who := (hN 1 (anyb rfl))
       obtain ⟨vs, rfl⟩ := up_eq e1_
       have e2_ : vs 2 = ptr ((bx g116).add 2) := (hN 2 (anyb rfl))
       obtain ⟨vs, rfl⟩ := up_eq e2_
       have e3_ : vs 3 = v114 := (hN 3 (anyb rfl))
       obtain ⟨vs, rfl⟩ := up_eq e3_
       obtain ⟨pv4, e4_⟩ : ∃ v, vs 4 = v := ⟨_, rfl⟩
       obtain ⟨vs, rfl⟩ := up_eq e4_
       have o314 : Ow W304 12 [] [pv4] z145 := (hN 4 (anyb rfl))
       have e5_ : vs 5 = .agg [.slice none 0 0, vS u106.Who, pv4].toArray := (hN 5 (anyb rfl))
       obtain ⟨vs, rfl⟩ := up_eq e5_
       obtain ⟨pg6, e6_⟩ : ∃ pg6, vs 6 = ptr (bx pg6) := ⟨_, (hN 7 (anyb rfl)).1⟩
       obtain ⟨vs, rfl⟩ := up_eq e6_
       have o315 : Bx W304 13 pg6 [.slice none 0 0, vS u106.Who, pv4] := (hN 7 (anyb rfl)).2
       refine ssr (fl (b188.up lW rfl) rfl (Lw.ln u106.Parents (r113.ul (((a117.trans a126).trans a180).trans a305)) rfl (mi rfl (nl (Cw.block ?_)))))
       obtain ⟨K336, hK336, hm⟩ := jn_e hm
       refine Cw.loop 64 101 [9, 16, 64] (fun m l w => ∃ y317 y319 y320 y323 y327 y330 y331 j318 v321 v324 v328 v332 W335, CW.w W335 = w ∧ Le [13, 14] W304 W335 ∧ l = [vB y317, j318, vI y319] ∧ Ow W335 9 [] [v321] y320 ∧ Ow W335 10 [] [v324] y323 ∧ Bx W335 3 g3 [v321, v324] ∧ Ow W335 14 [] [v328] y327 ∧ Ow W335 12 [] [v332] y331 ∧ Bx W335 13 pg6 [v328, vS y330, v332] ∧ Vm.impl_SendTake_l2 x0 x1 y85 u106 K336 m y317 y319 y320 y323 y327 y330 y331 = some r) _ ⟨y79, 0, y86, y89, ([] : List Int), u106.Who, z145, j84, v87, v90, .slice none 0 0, pv4, W304, rfl, Le.refl _ _, rfl, ((((o88.up l116).up l125).up l179).up lW rfl), ((((o91.up l116).up l125).up l179).up lW rfl), ((((b92.up l116).up l125).up l179).up lW rfl), owN 14 [], o314, o315, hm⟩ ?_
       rintro (_ | m337) _ _ σ ⟨y317, y319, y320, y323, y327, y330, y331, j318, v321, v324, v328, v332, W335, rfl, l335, rfl, o322, o325, b326, o329, o333, b334, hm⟩
       ·cases hm
       unfold Vm.impl_SendTake_l2 at hm
       have a338 := l335.s
       have o339 := ((((o95.up l116).up l125).up l179).up lW rfl).up l335
       have b342 := ((((b99.up l116).up l125).up l179).up lW rfl).up l335
       refine sr (Lw.lt rfl (nl (Cw.seq (cn hm (fun hm => ?_) fun hm => ?_))))
       ·refine sk ?_
        obtain ⟨K363, hK363, hm⟩ := jn_e hm
        refine Cw.join 66 100 [9, 16] (fun l w => ∃ y345 y347 y350 y354 y357 y358 j346 v348 v351 v355 v359 W362, CW.w W362 = w ∧ Le [13, 14] W335 W362 ∧ l = [vB y345, j346] ∧ Ow W362 9 [] [v348] y347 ∧ Ow W362 10 [] [v351] y350 ∧ Bx W362 3 g3 [v348, v351] ∧ Ow W362 14 [] [v355] y354 ∧ Ow W362 12 [] [v359] y358 ∧ Bx W362 13 pg6 [v355, vS y357, v359] ∧ K363 y345 y347 y350 y354 y357 y358 = some r) ?_ ?_
        ·rintro _ _ σ ⟨y345, y347, y350, y354, y357, y358, j346, v348, v351, v355, v359, W362, rfl, l362, rfl, o349, o352, b353, o356, o360, b361, hm⟩
         rw [hK363] at hm
         exact rg (Lw.add rfl (mi rfl (nl ((agm) ⟨y345, w64 (y319 + 1), y347, y350, y354, y357, y358, j346, v348, v351, v355, v359, W362, rfl, (l335.j l362).w, rfl, o349, o352, b353, o356, o360, b361, hm⟩))))
        ·refine Cw.block (sr ?_)
         obtain ⟨u370, e371, hm⟩ := ob hm
         have s372 := r113.ul ((((a117.trans a126).trans a180).trans a305).trans a338)
         refine Lw.r rfl (R.ix (α := Int) s372 e371 rfl rfl rfl) (Lw.r rfl (R.ld rfl rfl (s372.at_ e371).int) (Ni rfl (Cw.block (sr (mi rfl (mi rfl (Lw.sub rfl (ca hm (fun _ => p78) fun z373 W375 hm l375 => ?_))))))))
         have a376 := (((((a103.trans a117).trans a126).trans a180).trans a305).trans a338).n l375
         have b383 := (((((b104.up l116).up l125).up l179).up lW rfl).up l335).up l375
         have b387 := b334.up l375
         refine Nb rfl (cn hm (fun hm => ?_) fun hm => ?_)
         ·refine rg (fl b387 rfl (fl b383 rfl (Lw.ln x0.Commits (h0_0.ul a376) rfl (mi rfl (Lw.add rfl (Lw.t rfl (T.bs 15 [vI (w64 ((x0.Commits.length : Int) + u370))] (cs := [vI (w64 ((x0.Commits.length : Int) + u370))]) rfl rfl (bsv rfl)) ?_))))))
          rintro _ _ ⟨g390, W390, rfl, rfl, l390, b390⟩
          obtain ⟨q403, e404, hm⟩ := ob hm
          refine Lw.t rfl (T.app1S (α := Int) (K' := []) ((o329.up l375).up l390) b390 (rdI _) rfl rfl e404) ?_
          rintro v405 _ ⟨W405, rfl, l405, o405⟩
          refine Lw.fa rfl (Lw.u (T.st (j := 0) (v := v405) ((b387.up l390).up l405) rfl rfl o405.oc rfl rfl) ?_)
          rintro _ _ ⟨W418, rfl, l418, b418⟩
          exact nl ((ag) ⟨y317, y320, y323, q403, y330, y331, vI u370, v321, v324, v405, v332, W418, rfl, (((l375.j l390).j l405).j l418).w, rfl, ((((o322.up l375).up l390).up l405).up l418), ((((o325.up l375).up l390).up l405).up l418), ((((b326.up l375).up l390).up l405).up l418), (o405.up l418), ((((o333.up l375).up l390).up l405).up l418), b418, hm⟩)
         ·refine sr (mi rfl (mv v1_ rfl (Lw.ln x1 (h1.ul a376) rfl (Lw.r rfl (R.neg rfl) (ca hm (fun _ => p78) fun z432 W434 hm l434 => ?_)))))
          have a435 := a376.n l434
          have b443 := (b326.up l375).up l434
          refine Nb rfl (cn hm (fun hm => ?_) fun hm => ?_)
          ·refine Cw.draw [14] [(0, 0), (1, 1), (2, 0), (3, 0), (4, 0), (5, 0), (6, 1), (7, 2), (8, 2), (9, 0), (10, 3)] mixed (by kernel_rfl) fun W448 l448 => ?_
           have a449 := a435.n l448
           refine Dfl ((b387.up l434).up l448) rfl rfl rfl (Dv v1_ rfl (Di rfl (Mw.p rfl rfl (fun _ => R.sub rfl rfl) ?_)))
           obtain ⟨u461, e462, hm⟩ := ob hm
           refine Mw.p rfl rfl (fun _ => R.ix (α := Int) (h1.ul a449) e462 rfl rfl rfl) (Mw.q rfl rfl (fun _ c => R.ld rfl rfl (cl_cell ((h1.ul a449).at_ e462).1 rfl ((h1.ul a449).at_ e462).int c)) (Mw.t rfl rfl (T.bs 16 [vI u461] (cs := [vI u461]) rfl rfl (bsv rfl)) ?_))
           rintro _ _ ⟨g464, W464, rfl, rfl, l464, b464⟩
           refine m0 l464 fun d464 => ?_
           obtain ⟨q477, e478, hm⟩ := ob hm
           refine Mw.t rfl rfl (T.app1S (α := Int) (K' := []) ((((o329.up l375).up l434).up l448).up l464) b464 (rdI _) rfl rfl e478) ?_
           rintro v479 _ ⟨W479, rfl, l479, o479⟩
           refine mc d464 l479 fun d479 => Df rfl (Mw.lu rfl (T.st (j := 0) (v := v479) ((((b387.up l434).up l448).up l464).up l479) rfl rfl o479.oc rfl rfl) ?_)
           rintro _ _ ⟨W492, rfl, l492, b492⟩
           exact Mw.nil ((ag) ⟨y317, y320, y323, q477, y330, y331, vI u370, v321, v324, v479, v332, W492, rfl, (((((l375.j l434).j l448).j l464).j l479).j l492).w, rfl, ((((((o322.up l375).up l434).up l448).up l464).up l479).up l492), ((((((o325.up l375).up l434).up l448).up l464).up l479).up l492), ((((b443.up l448).up l464).up l479).up l492), (o479.up l492), ((((((o333.up l375).up l434).up l448).up l464).up l479).up l492), b492, hm⟩)
          ·refine sr (la (b383.up l434) (cr hm (fun _ => p71 (k0 := 17) (k1 := 18) (Repo.rd (K := [0]) x0.Commits x0.Heads (h0_0.ul a435) (h0_1.ul a435))) ?_))
           rintro z507 _ W509 hm l509 ⟨v0_0_509, v0_1_509, rfl, f509_0, f509_1⟩
           have a510 := a435.n l509
           refine sta (b443.up l509) (oc_cons f509_0.oc (oc_cons f509_1.oc oc_nil)) fun W522 l522 b522 => ?_
           have a523 := a510.t l522
           refine Nb rfl ?_
           obtain ⟨W536, ew536, l536, o536⟩ := (f509_0.up l522).dyeO 31
           have a537 := a523.t l536
           obtain ⟨W550, ew550, l550, o550⟩ := ((f509_1.up l522).up l536).dyeO 32
           have a551 := a537.t l550
           cases hm
           rw [← ew550.trans (ew536)]
           exact Cw.ret (retA2 rfl ((b522.up l536).up l550) rfl (Res.mk a551 ⟨v0_0_509, v0_1_509, rfl, (o536.up l550).s, o550.s⟩))
       ·refine Cw.exit ?_
        rw [hK336] at hm
        refine sr (fl b342 rfl (Lw.ln y93 o339.rd rfl (Ni rfl (rg (fl b342 rfl (la b334 (Lw.t rfl (T.bs 19 [.agg [v328, vS y330, v332].toArray] (cs := [v328, vS y330, v332]) rfl rfl (bsA rfl)) ?_)))))))
        rintro _ _ ⟨g564, W564, rfl, rfl, l564, b564⟩
        obtain ⟨q577, e578, hm⟩ := ob hm
        refine Lw.t rfl (T.app1 (α := Commit) (J := [14, 12]) (K' := []) (o339.up l564) b564 (Commit.own y327 y330 y331 (o329.up l564).s (o333.up l564).s) rfl rfl e578) ?_
        rintro v579 _ ⟨W579, rfl, l579, o579⟩
        refine Lw.fa rfl (Lw.u (T.st (j := 0) (v := v579) ((b342.up l564).up l579) rfl rfl o579.oc rfl rfl) ?_)
        rintro _ _ ⟨W590, rfl, l590, b590⟩
        exact nl (rg (Lw.add rfl (mi rfl (nl ((agm) ⟨y317, (y93.length : Int), w64 (y85 + 1), y320, y323, q577, y96, vI y85, ptr (bx g116), ptr (bx pg6), j318, v321, v324, v579, v97, W590, rfl, ((((((((l100.j l116).j l125).j l179).j l304).j l335).j l564).j l579).j l590).w, rfl, (((o322.up l564).up l579).up l590), (((o325.up l564).up l579).up l590), (((b326.up l564).up l579).up l590), (o579.up l590), ((((((((o98.up l116).up l125).up l179).up lW rfl).up l335).up l564).up l579).up l590), b590, hm⟩)))))
     ·refine Cw.exit ?_
      rw [hK101] at hm
      refine Cw.seq (Cw.draw [6, 7, 20, 21] [(0, 1), (1, 1), (2, 0), (3, 0), (4, 2), (5, 2), (6, 0), (7, 0), (8, 3), (9, 0)] mixed (by kernel_rfl) fun W601 l601 => ?_)
      have a602 := a103.n l601
      refine Mw.q rfl rfl (fun _ c => R.lda (cs := [v0_0_, v0_1_]) ((b104.up l601).clcs rfl c) rfl rfl) (Mw.q rfl rfl (fun _ c => R.lda (cs := [v94, v97]) ((b99.up l601).clcs rfl c) rfl rfl) (Ds rfl (Di rfl ?_)))
      obtain ⟨z610, e611, hm⟩ := ob hm
      refine Mw.t rfl rfl (T.call rfl (p128 (K := [0]) (k0 := 20) (k1 := 21) (c0 := 6) (c1 := 7) (x0 := (Vm.Repo.mk y93 y96)) (o95.up l601) (o98.up l601) rfl e611)) ?_
      rintro _ _ ⟨W612, rfl, l612, ⟨v0_0_612, v0_1_612, rfl, f612_0, f612_1⟩⟩
      have a613 := a602.t l612
      refine m0 l612 fun d612 => ?_
      obtain ⟨z622, e623, hm⟩ := ob hm
      refine Mw.t rfl rfl (T.call rfl (p127 (k0 := 22) (k1 := 23) (c0 := 20) (c1 := 21) (x1 := (Vm.Repo.mk z610.Commits z610.Heads)) (Repo.rd (K := [0]) x0.Commits x0.Heads (h0_0.ul a613) (h0_1.ul a613)) f612_0 f612_1 (h99.ul a613) rfl e623)) ?_
      rintro _ _ ⟨W624, rfl, l624, ⟨v0_0_624, v0_1_624, rfl, f624_0, f624_1⟩⟩
      have a625 := a613.t l624
      refine mc d612 l624 fun d624 => Mw.p rfl rfl (fun _ => R.ext (vs := [.agg [v0_0_624, v0_1_624].toArray, vB z622.2]) (v := .agg [v0_0_624, v0_1_624].toArray) rfl rfl) (Mw.p rfl rfl (fun _ => R.ext (vs := [.agg [v0_0_624, v0_1_624].toArray, vB z622.2]) (v := vB z622.2) rfl rfl) (Mw.lu rfl (T.sta (vs := [v0_0_624, v0_1_624]) (((b92.up l601).up l612).up l624) rfl rfl (oc_cons f624_0.oc (oc_cons f624_1.oc oc_nil)) rfl rfl) ?_))
      rintro _ _ ⟨W631, rfl, l631, b631⟩
      have a632 := a625.t l631
      refine Hb rfl (Mw.nil ?_)
      obtain ⟨W639, ew639, l639, o639⟩ := (f624_0.up l631).dyeO 31
      have a640 := a632.t l639
      obtain ⟨W647, ew647, l647, o647⟩ := ((f624_1.up l631).up l639).dyeO 32
      have a648 := a640.t l647
      cases hm
      rw [← ew647.trans (ew639)]
      exact Cw.ret (retA2 rfl ((b631.up l639).up l647) rfl (Res.mk a648 ⟨v0_0_624, v0_1_624, rfl, (o639.up l647).s, o647.s⟩))
    ·refine sr (mv v1_ rfl (Lw.ln x1 (h1.ul a64) rfl (Lw.gt rfl (nl (cn hm (fun hm => ?_) fun hm => ?_)))))
     ·refine rg (mv v1_ rfl ?_)
      obtain ⟨u657, e658, hm⟩ := ob hm
      exact Lw.r rfl (R.ix (α := Int) (h1.ul a64) e658 rfl rfl rfl) (Lw.r rfl (R.ld rfl rfl ((h1.ul a64).at_ e658).int) (Ni rfl ((ag) ⟨u657, W63, rfl, Le.refl _ _, rfl, hm⟩)))
     ·exact sk ((ag) ⟨(-1), W63, rfl, Le.refl _ _, rfl, hm⟩)
  ·refine rg (mv v1_ rfl (Lw.ln x1 (h1.ul a12) rfl (Lw.gt rfl (mb rfl (bs hm (fun hc660 hm => ?_) fun hc660 hm => ?_)))))
   ·exact psk 4 hc660 rfl (Pb hc660 rfl (mb rfl (psk 6 rfl rfl (Pb rfl rfl (nl ((ag) ⟨true, W11, rfl, Le.refl _ _, rfl, hm⟩))))))
   ·refine wak 4 hc660 (la b13 (mv v1_ rfl (ca hm (fun _ => p87 (Repo.rd (K := [0]) x0.Commits x0.Heads (h0_0.ul a12) (h0_1.ul a12)) (h1.ul a12) (h99.ul a12)) fun z664 W666 hm l666 => ?_)))
    have a667 := a12.n l666
    refine Lw.r rfl (R.not rfl) (Pb hc660 rfl (mb rfl (bs hm (fun hc670 hm => ?_) fun hc670 hm => ?_)))
    ·exact psk 6 hc670 rfl (Pb hc670 rfl (nl ((ag) ⟨true, W666, rfl, l666, rfl, hm⟩)))
    ·exact wak 6 hc670 (mv v2_ rfl (Lw.ln x2 (h2.ul a667) rfl (mv v1_ rfl (Lw.ln x1 (h1.ul a667) rfl (Lw.add rfl (Lw.eq rfl (Pb hc670 rfl (nl ((ag) ⟨((w64 ((x2.length : Int) + (x1.length : Int)) : Int) == (0 : Int)), W666, rfl, l666, rfl, hm⟩)))))))))

theorem p66 {x0 v0_0_ v0_1_ x1 v1_ x2 v2_ x3 k0 k1 r} (h0 : Rd W K [v0_0_, v0_1_] x0) (h1 : Rd W K [v1_] x1) (h2 : Rd W K [v2_] x2) (h99 : Gl 0 W K) (hm : Vm.impl_SendTake x0 x1 x2 x3 = some r) : Q1 66 [.agg [v0_0_, v0_1_].toArray, v1_, v2_, vS x3] W [] fun W' v => ∃ u0_0 u0_1, v = .tuple [.agg [u0_0, u0_1].toArray, vB r.2].toArray ∧ Ow W' k0 [] [u0_0] r.1.Commits ∧ Ow W' k1 [] [u0_1] r.1.Heads :=
 CallR.adJ (J := []) (fun c => bif Nat.beq c 0 then 0 else bif Nat.beq c 31 then k0 else bif Nat.beq c 32 then k1 else 0) (c66 (h0.view _) (h1.view _) (h2.view _) (h99.view _) hm) fun _ _ ⟨u0_0, u0_1, e, f0, f1⟩ => ⟨u0_0, u0_1, e, f0.one1.backN rfl, f1.one1.backN rfl⟩

theorem c80 {x0 v0_0_ v0_1_ x1 r} (h0 : Rd W0 [0] [v0_0_, v0_1_] x0) (hm : Vm.impl_Repo_at x0 x1 = some r) : Q0 80 [.agg [v0_0_, v0_1_].toArray, vS x1] W0 fun Wf v => v = vI r := by
 unfold Vm.impl_Repo_at at hm
 obtain ⟨w0_0, w0_1, he0, h0_0, h0_1⟩ := Repo.split h0
 simp only [List.cons.injEq, and_true, true_and] at he0
 obtain ⟨rfl, rfl⟩ := he0
 refine CallR.of Tryz.func80 rfl rfl rfl rfl (sr (bo 2 rfl fun g1 W1 l1 b1 => ?_))
 have a2 := l1.o
 refine Ni rfl (ssr (fl b1 rfl (Lw.ln x0.Heads (h0_1.ul a2) rfl (mi rfl (nl (Cw.block ?_))))))
 obtain ⟨K8, hK8, hm⟩ := jn_e hm
 refine Cw.loop 10 20 [4, 6, 10] (fun m l w => ∃ y4 y6 j5 W7, CW.w W7 = w ∧ Le [3] W1 W7 ∧ l = [vI y4, j5, vI y6] ∧ Vm.impl_Repo_at_l1 x0 x1 K8 m y4 y6 = some r) _ ⟨0, 0, undef, W1, rfl, Le.refl _ _, rfl, hm⟩ ?_
 rintro (_ | m9) _ _ σ ⟨y4, y6, j5, W7, rfl, l7, rfl, hm⟩
 ·cases hm
 unfold Vm.impl_Repo_at_l1 at hm
 have a10 := a2.t l7
 refine sr (Lw.lt rfl (nl (Cw.seq (cn hm (fun hm => ?_) fun hm => ?_))))
 ·refine sk (Cw.seq (Cw.block (sr ?_)))
  obtain ⟨u13, e14, hm⟩ := ob hm
  refine Lw.r rfl (R.ix (α := Head) (h0_1.ul a10) e14 rfl rfl rfl) ?_
  obtain ⟨x16, c17, _, r18⟩ := ((h0_1.ul a10).at_ e14).cells
  obtain rfl := Head.split r18
  refine Lw.r rfl (R.lda c17 rfl rfl) (al 3 [vS ([] : Str), vI 0] fun g19 W19 l19 b19 => ?_)
  have a20 := a10.n l19
  refine sta b19 (oc_cons rfl (oc_cons rfl oc_nil)) fun W22 l22 b22 => ?_
  have a23 := a20.t l22
  refine nl (sr (fl b22 rfl (ms rfl (Lw.seq rfl (nl (cn hm (fun hm => ?_) fun hm => ?_))))))
  ·exact sr (fl b22 rfl (Ni rfl (.ret (rt hm a23))))
  ·exact sk (rg (Lw.add rfl (mi rfl (nl ((agm) ⟨y4, w64 (y6 + 1), ptr (bx g19), W22, rfl, ((l7.j l19).j l22).w, rfl, hm⟩)))))
 ·refine Cw.exit ?_
  rw [hK8] at hm
  exact sr (Ni rfl (.ret (rt hm a10)))

theorem p80 {x0 v0_0_ v0_1_ x1 r} (h0 : Rd W K [v0_0_, v0_1_] x0) (hm : Vm.impl_Repo_at x0 x1 = some r) : Q1 80 [.agg [v0_0_, v0_1_].toArray, vS x1] W [] fun W' v => v = vI r :=
 (c80 (h0.view _) hm).ad (fk 0) fun _ _ e => e

theorem c20 {x0 v0_0_ v0_1_ x1 r} (h0 : Rd W0 [0] [v0_0_, v0_1_] x0) (h99 : Gl 0 W0 [0]) (hm : Vm.impl_RepoAt x0 x1 = some r) : Q0 20 [.agg [v0_0_, v0_1_].toArray, vS x1] W0 fun Wf v => v = vI r := by
 unfold Vm.impl_RepoAt at hm
 obtain ⟨w0_0, w0_1, he0, h0_0, h0_1⟩ := Repo.split h0
 simp only [List.cons.injEq, and_true, true_and] at he0
 obtain ⟨rfl, rfl⟩ := he0
 refine CallR.of Tryz.func20 rfl rfl rfl rfl (sr (bo 2 rfl fun g1 W1 l1 b1 => ?_))
 have a2 := l1.o
 refine Ni rfl (ssr (la b1 (ca hm (fun _ => p19 (Repo.rd (K := [0]) x0.Commits x0.Heads (h0_0.ul a2) (h0_1.ul a2)) (h99.ul a2)) fun z6 W8 hm l8 => ?_)))
 have a9 := a2.n l8
 refine Lw.r rfl (R.not rfl) (nl (cn hm (fun hm => ?_) fun hm => ?_))
 ·exact sr (Ni rfl (.ret (rt hm a9)))
 ·refine sk (sr (la (b1.up l8) (ms rfl (ca hm (fun _ => p80 (Repo.rd (K := [0]) x0.Commits x0.Heads (h0_0.ul a9) (h0_1.ul a9))) fun z14 W16 hm l16 => ?_))))
  have a17 := a9.n l16
  exact Ni rfl (.ret (rt hm a17))

theorem p20 {x0 v0_0_ v0_1_ x1 r} (h0 : Rd W K [v0_0_, v0_1_] x0) (h99 : Gl 0 W K) (hm : Vm.impl_RepoAt x0 x1 = some r) : Q1 20 [.agg [v0_0_, v0_1_].toArray, vS x1] W [] fun W' v => v = vI r :=
 (c20 (h0.view _) (h99.view _) hm).ad (fk 0) fun _ _ e => e

end Go.Sx
