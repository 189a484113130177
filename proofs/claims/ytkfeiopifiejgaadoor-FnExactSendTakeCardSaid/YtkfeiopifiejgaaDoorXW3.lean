/- Walks: each function answers as its model, printed by a program of ours. Conditions: the arguments read as they are given. -/
import Derived.Test.YtkfeiopifiejgaaDoorXTs
import Derived.Test.YtkfeiopifiejgaaDoorXMd
import Derived.Test.YtkfeiopifiejgaaDoorXW2
import Derived.Test.YtkfeiopifiejgaaDoorXE
namespace Go.Sx
open Go Go.Proofs Go.Vm Rp
set_option linter.unusedVariables false
set_option linter.unusedSimpArgs false

variable {W W0 : CW} {K : List Nat}
theorem c52 {x0 v0_0_ v0_1_ r} (h0 : Rd W0 [0] [v0_0_, v0_1_] x0) (hm : Vm.impl_Repo_own x0 = some r) : Q0 52 [.agg [v0_0_, v0_1_].toArray] W0 fun Wf v => ∃ u0_0 u0_1, v = .agg [u0_0, u0_1].toArray ∧ OwS Wf [31] [] [u0_0] r.Commits ∧ OwS Wf [32] [] [u0_1] r.Heads := by
 unfold Vm.impl_Repo_own at hm
 obtain ⟨w0_0, w0_1, he0, h0_0, h0_1⟩ := Repo.split h0
 simp only [List.cons.injEq, and_true, true_and] at he0
 obtain ⟨rfl, rfl⟩ := he0
 refine CallR.of Tryd.func52 rfl rfl rfl rfl (sr (bo 2 rfl fun g1 W1 l1 b1 => ?_))
 have a2 := l1.o
 refine al 3 [.slice none 0 0, .slice none 0 0] fun g3 W3 l3 b3 => ?_
 have a4 := a2.n l3
 refine nl (sr (Lw.t rfl (T.lit0 (α := Head) 4 []) ?_))
 rintro v6 _ ⟨W6, rfl, l6, o6⟩
 have a7 := a4.n l6
 have b8 := (b1.up l3).up l6
 refine fl b8 rfl ?_
 obtain ⟨q10, e11, hm⟩ := ob hm
 refine Lw.t rfl (T.appP (α := Head) o6 (h0_1.ul a7) rfl rfl e11) ?_
 rintro v12 _ ⟨W12, rfl, l12, o12⟩
 have a14 := a7.t l12
 refine Lw.r rfl (R.bd (zs := [.slice none 0 0, .slice none 0 0]) (cs := [.slice none 0 0, v12]) [(1, v12)] rfl rfl rfl (bp_cons o12.oc rfl bp_nil)) (al 5 [.slice none 0 0, .slice none 0 0] fun g17 W17 l17 b17 => ?_)
 have a18 := a14.n l17
 refine sta b17 (oc_cons rfl (oc_cons (o12.up l17).oc oc_nil)) fun W22 l22 b22 => ?_
 have a23 := a18.t l22
 refine nl (ssr (fl (((b8.up l12).up l17).up l22) rfl (Lw.ln x0.Commits (h0_0.ul a23) rfl (mi rfl (nl (Cw.block ?_))))))
 obtain ⟨K38, hK38, hm⟩ := jn_e hm
 refine Cw.loop 14 33 [5, 14] (fun m l w => ∃ y29 y30 y33 j28 v31 v34 W37, CW.w W37 = w ∧ Le [5, 6, 7, 8, 9] W22 W37 ∧ l = [j28, vI y29] ∧ Ow W37 6 [] [v31] y30 ∧ Ow W37 4 [] [v34] y33 ∧ Bx W37 5 g17 [v31, v34] ∧ Vm.impl_Repo_own_l1 x0 K38 m y29 y30 y33 = some r) _ ⟨0, ([] : List Commit), q10, undef, .slice none 0 0, v12, W22, rfl, Le.refl _ _, rfl, owN 6 [], ((o12.up l17).up l22), b22, hm⟩ ?_
 rintro (_ | m39) _ _ σ ⟨y29, y30, y33, j28, v31, v34, W37, rfl, l37, rfl, o32, o35, b36, hm⟩
 ·cases hm
 unfold Vm.impl_Repo_own_l1 at hm
 have a40 := a23.t l37
 refine sr (Lw.lt rfl (nl (Cw.seq (cn hm (fun hm => ?_) fun hm => ?_))))
 ·refine sk (Cw.seq (Cw.block (sr ?_)))
  obtain ⟨u44, e45, hm⟩ := ob hm
  refine Lw.r rfl (R.ix (α := Commit) (h0_0.ul a40) e45 rfl rfl rfl) ?_
  obtain ⟨x47, c48, _, r49⟩ := ((h0_0.ul a40).at_ e45).cells
  obtain ⟨v50, v52, rfl, r51, r53⟩ := Commit.split r49
  refine Lw.r rfl (R.lda c48 rfl rfl) (al 7 [.slice none 0 0, vS ([] : Str), .slice none 0 0] fun g54 W54 l54 b54 => ?_)
  have a55 := l54.o
  refine sta b54 (oc_cons r51.oc (oc_cons rfl (oc_cons r53.oc oc_nil))) fun W61 l61 b61 => ?_
  have a62 := a55.t l61
  refine nl (Cw.draw [6, 8, 9] [(0, 0), (1, 1), (3, 0), (4, 1), (6, 0), (7, 1), (8, 0), (9, 1), (2, 2), (5, 2), (10, 2), (11, 0), (12, 2), (13, 2), (14, 0), (15, 3)] mixed (by kernel_rfl) fun W68 l68 => ?_)
  have a69 := a62.n l68
  have b74 := ((b36.up l54).up l61).up l68
  have b75 := b61.up l68
  refine Dfl b74 rfl rfl rfl (Dfl b75 rfl rfl rfl (Dfl b75 rfl rfl rfl (Dfl b75 rfl rfl rfl (Mw.t rfl rfl (T.lit0 (α := Int) 8 []) ?_))))
  rintro v76 _ ⟨W76, rfl, l76, o76⟩
  have a77 := a69.n l76
  refine m0 l76 fun d76 => ?_
  obtain ⟨q84, e85, hm⟩ := ob hm
  refine Mw.t rfl rfl (T.appP (α := Int) o76 (r51.ul a77) rfl rfl e85) ?_
  rintro v86 _ ⟨W86, rfl, l86, o86⟩
  have a88 := a77.t l86
  refine mc d76 l86 fun d86 => Dc hm d86 (fun _ => p68 (k0 := 9) (r53.ul a88)) rfl ?_
  rintro z96 v0_98 W98 hm l98 ⟨_, rfl, f98_0⟩ d98
  refine Mw.p rfl rfl (fun _ => R.bd (zs := [.slice none 0 0, vS ([] : Str), .slice none 0 0]) (cs := [v86, vS u44.Who, v0_98]) [(0, v86), (1, vS u44.Who), (2, v0_98)] rfl rfl rfl (bp_cons (o86.up l98).oc rfl (bp_cons rfl rfl (bp_cons f98_0.oc rfl bp_nil)))) (Mw.t rfl rfl (T.bs 10 [.agg [v86, vS u44.Who, v0_98].toArray] (cs := [v86, vS u44.Who, v0_98]) rfl rfl (bsA rfl)) ?_)
  rintro _ _ ⟨g107, W107, rfl, rfl, l107, b107⟩
  refine mc d98 l107 fun d107 => ?_
  obtain ⟨q117, e118, hm⟩ := ob hm
  refine Mw.t rfl rfl (T.app1 (α := Commit) (J := [8, 9]) (K' := []) (((((((o32.up l54).up l61).up l68).up l76).up l86).up l98).up l107) b107 (Commit.own q84 u44.Who z96 ((o86.up l98).up l107).s (f98_0.up l107).s) rfl rfl e118) ?_
  rintro v119 _ ⟨W119, rfl, l119, o119⟩
  refine mc d107 l119 fun d119 => Df rfl (Mw.lu rfl (T.st (j := 0) (v := v119) (((((b74.up l76).up l86).up l98).up l107).up l119) rfl rfl o119.oc rfl rfl) ?_)
  rintro _ _ ⟨W127, rfl, l127, b127⟩
  exact Mw.nil (rg (Lw.add rfl (mi rfl (nl ((agm) ⟨w64 (y29 + 1), q117, y33, ptr (bx g54), v119, v34, W127, rfl, (((((((((l37.j l54).j l61).j l68).j l76).j l86).j l98).j l107).j l119).j l127).w, rfl, (o119.up l127), (((((((((o35.up l54).up l61).up l68).up l76).up l86).up l98).up l107).up l119).up l127), b127, hm⟩)))))
 ·refine Cw.exit ?_
  rw [hK38] at hm
  refine sr (la b36 (sta (((((b3.up l6).up l12).up l17).up l22).up l37) (oc_cons o32.oc (oc_cons o35.oc oc_nil)) fun W135 l135 b135 => ?_))
  have a136 := a40.t l135
  refine nl ?_
  obtain ⟨W141, ew141, l141, o141⟩ := (o32.up l135).dyeO 31
  have a142 := a136.t l141
  obtain ⟨W147, ew147, l147, o147⟩ := ((o35.up l135).up l141).dyeO 32
  have a148 := a142.t l147
  cases hm
  rw [← ew147.trans (ew141)]
  exact Cw.ret (retA1 rfl ((b135.up l141).up l147) (Res.mk a148 ⟨v31, v34, rfl, (o141.up l147).s, o147.s⟩))

theorem p52 {x0 v0_0_ v0_1_ k0 k1 r} (h0 : Rd W K [v0_0_, v0_1_] x0) (hm : Vm.impl_Repo_own x0 = some r) : Q1 52 [.agg [v0_0_, v0_1_].toArray] W [] fun W' v => ∃ u0_0 u0_1, v = .agg [u0_0, u0_1].toArray ∧ Ow W' k0 [] [u0_0] r.Commits ∧ Ow W' k1 [] [u0_1] r.Heads :=
 CallR.adJ (J := []) (fun c => bif Nat.beq c 0 then 0 else bif Nat.beq c 31 then k0 else bif Nat.beq c 32 then k1 else 0) (c52 (h0.view _) hm) fun _ _ ⟨u0_0, u0_1, e, f0, f1⟩ => ⟨u0_0, u0_1, e, f0.one1.backN rfl, f1.one1.backN rfl⟩

theorem c110 {x0 v0_ x1 r} (h0 : Rd W0 [0] [v0_] x0) (h1 : Rd W0 [0] [vS x1.Name, vI x1.At] x1) (hm : Vm.impl_insertHead x0 x1 = some r) : Q0 110 [v0_, .agg [vS x1.Name, vI x1.At].toArray] W0 fun Wf v => ∃ u0, v = u0 ∧ OwS Wf LL [] [u0] r := by
 unfold Vm.impl_insertHead at hm
 refine CallR.of Tryd.func110 rfl rfl rfl rfl (sr (bo 2 rfl fun g1 W1 l1 b1 => ?_))
 have a2 := l1.o
 refine Nv (.slice none 0 0) rfl (sr (mv v0_ rfl (Lw.ln x0 (h0.ul a2) rfl (Ni rfl (Cw.seq (Cw.block ?_))))))
 obtain ⟨K6, hK6, hm⟩ := jn_e hm
 refine Cw.loop 8 22 [5] (fun m l w => ∃ y4 W5, CW.w W5 = w ∧ Le [] W1 W5 ∧ l = [vI y4] ∧ Vm.impl_insertHead_l1 x0 x1 K6 m y4 = some r) _ ⟨(x0.length : Int), W1, rfl, Le.refl _ _, rfl, hm⟩ ?_
 rintro (_ | m7) _ _ σ ⟨y4, W5, rfl, l5, rfl, hm⟩
 ·cases hm
 unfold Vm.impl_insertHead_l1 at hm
 have a8 := a2.n l5
 refine Cw.seq ?_
 obtain ⟨K12, hK12, hm⟩ := jn_e hm
 refine Cw.join 8 20 [20] (fun l w => ∃ y10 W11, CW.w W11 = w ∧ Le [] W5 W11 ∧ l = [vB y10] ∧ K12 y10 = some r) ?_ ?_
 ·rintro _ _ σ ⟨y10, W11, rfl, l11, rfl, hm⟩
  rw [hK12] at hm
  have a13 := a8.n l11
  refine cn hm (fun hm => ?_) fun hm => ?_
  ·exact sk (Cw.block (rg (mi rfl (Lw.sub rfl (Ni rfl ((agm) ⟨w64 (y4 - 1), W11, rfl, (l5.j l11).w, rfl, hm⟩))))))
  ·refine Cw.exit ?_
   rw [hK6] at hm
   refine Cw.seq ?_
   obtain ⟨q22, e23, hm⟩ := ob hm
   obtain ⟨z32, e33, hm⟩ := ob hm
   refine Cw.par [[], [], [0, 1], [], [], [4], [0, 1, 2, 3, 4, 5], [0, 1, 2, 3, 4, 5, 6]] [[], [], [0, 1], [], [], [4], [2, 3, 5], [6]] [[], [], [3], [], [], [], [3], []] [[0], [1], [2], [3], [4], [5], [6], [6, 7]] [[3], [], [3], [], [], [4], [5], []] [1, 3, 4, 5, 6, 7] [3] [fun vs W => Ow W 3 [] [(vs 0)] ([] : List Head), fun vs W => (vs 1) = v0_, fun vs W => Ow W 3 [] [(vs 2)] q22, fun vs W => (vs 3) = vI y4, fun vs W => (vs 4) = .agg [vS x1.Name, vI x1.At].toArray, fun vs W => (vs 5) = .slice (some (bx (pg (vs 5)))) 1 1 ∧ Bx W 4 (pg (vs 5)) [vS x1.Name, vI x1.At], fun vs W => Ow W 5 [] [(vs 6)] z32, fun vs W => (vs 7) = (vs 6)] [] mixed (by kernel_rfl) rfl AllF.nil ?_
   intro W38 l38
   have a39 := a13.n l38
   refine ⟨(Steps.cons ?_ (Steps.cons ?_ (Steps.cons ?_ (Steps.cons ?_ (Steps.cons ?_ (Steps.cons ?_ (Steps.cons ?_ (Steps.cons ?_ Steps.nil)))))))), (Sups.cons (fun vs vs' W W' _ hv l hd h => by (show Ow W' 3 [] [(vs' 0)] ([] : List Head)); rw [hv 0 (anyb rfl)]; exact h.upv l (disj_mem hd (c := 3) rfl)) (Sups.cons (fun vs vs' W W' _ hv l hd h => by (show (vs' 1) = v0_); rw [hv 1 (anyb rfl)]; exact h) (Sups.cons (fun vs vs' W W' _ hv l hd h => by (show Ow W' 3 [] [(vs' 2)] q22); rw [hv 2 (anyb rfl)]; exact h.upv l (disj_mem hd (c := 3) rfl)) (Sups.cons (fun vs vs' W W' _ hv l hd h => by (show (vs' 3) = vI y4); rw [hv 3 (anyb rfl)]; exact h) (Sups.cons (fun vs vs' W W' _ hv l hd h => by (show (vs' 4) = .agg [vS x1.Name, vI x1.At].toArray); rw [hv 4 (anyb rfl)]; exact h) (Sups.cons (fun vs vs' W W' _ hv l hd h => by (show (vs' 5) = .slice (some (bx (pg (vs' 5)))) 1 1 ∧ Bx W' 4 (pg (vs' 5)) [vS x1.Name, vI x1.At]); rw [hv 5 (anyb rfl)]; exact ⟨h.1, h.2.up l (disj_mem hd (c := 4) rfl)⟩) (Sups.cons (fun vs vs' W W' _ hv l hd h => by (show Ow W' 5 [] [(vs' 6)] z32); rw [hv 6 (anyb rfl)]; exact h.upv l (disj_mem hd (c := 5) rfl)) (Sups.cons (fun vs vs' W W' _ hv l hd h => by (show (vs' 7) = (vs' 6)); rw [hv 6 (anyb rfl), hv 7 (anyb rfl)]; exact h) Sups.nil)))))))), ?_⟩
   ·intro vs W lW hN
    obtain ⟨W41, hW41⟩ : ∃ X, X = W := ⟨W, rfl⟩
    subst hW41
    refine Tr.mono (T.lit0 (α := Head) 3 []) ?_
    rintro v44 _ ⟨W44, rfl, l44, o44⟩
    exact ⟨W44, rfl, l44, (show Ow W44 3 [] [v44] ([] : List Head) from o44)⟩
   ·intro vs W lW hN
    obtain ⟨W47, hW47⟩ : ∃ X, X = W := ⟨W, rfl⟩
    subst hW47
    refine Tr.mono (Run.tr (R.mv (v := v0_) rfl)) ?_
    rintro _ _ ⟨hu, rfl⟩
    obtain rfl := hu.symm
    exact ⟨W47, rfl, Le.refl _ _, (show (v0_ : Value) = v0_ from rfl)⟩
   ·intro vs W lW hN
    obtain ⟨W50, hW50⟩ : ∃ X, X = W := ⟨W, rfl⟩
    subst hW50
    have a51 := a39.t lW rfl
    obtain ⟨pv0, e0_⟩ : ∃ v, vs 0 = v := ⟨_, rfl⟩
    obtain ⟨vs, rfl⟩ := up_eq e0_
    have o53 : Ow W50 3 [] [pv0] ([] : List Head) := (hN 0 (anyb rfl))
    have e1_ : vs 1 = v0_ := (hN 1 (anyb rfl))
    obtain ⟨vs, rfl⟩ := up_eq e1_
    refine Tr.mono (T.appP (α := Head) o53 (h0.ul a51) rfl rfl e23) ?_
    rintro v54 _ ⟨W54, rfl, l54, o54⟩
    exact ⟨W54, rfl, l54, (show Ow W54 3 [] [v54] q22 from o54)⟩
   ·intro vs W lW hN
    obtain ⟨W58, hW58⟩ : ∃ X, X = W := ⟨W, rfl⟩
    subst hW58
    refine Tr.mono (Run.tr (R.mv (v := vI y4) rfl)) ?_
    rintro _ _ ⟨hu, rfl⟩
    obtain rfl := hu.symm
    exact ⟨W58, rfl, Le.refl _ _, (show (vI y4 : Value) = vI y4 from rfl)⟩
   ·intro vs W lW hN
    obtain ⟨W61, hW61⟩ : ∃ X, X = W := ⟨W, rfl⟩
    subst hW61
    refine Tr.mono (Run.tr (R.lda (cs := [vS x1.Name, vI x1.At]) ((((b1.up l5).up l11).up l38).up lW rfl).cells rfl rfl)) ?_
    rintro _ _ ⟨hu, rfl⟩
    obtain rfl := hu.symm
    exact ⟨W61, rfl, Le.refl _ _, (show (.agg [vS x1.Name, vI x1.At].toArray : Value) = .agg [vS x1.Name, vI x1.At].toArray from rfl)⟩
   ·intro vs W lW hN
    obtain ⟨W64, hW64⟩ : ∃ X, X = W := ⟨W, rfl⟩
    subst hW64
    have e4_ : vs 4 = .agg [vS x1.Name, vI x1.At].toArray := (hN 4 (anyb rfl))
    obtain ⟨vs, rfl⟩ := up_eq e4_
    refine Tr.mono (T.bs 4 [.agg [vS x1.Name, vI x1.At].toArray] (cs := [vS x1.Name, vI x1.At]) rfl rfl (bsA rfl)) ?_
    rintro _ _ ⟨g67, W67, rfl, rfl, l67, b67⟩
    exact ⟨W67, rfl, l67, (show (.slice (some (bx g67)) 1 1 : Value) = .slice (some (bx g67)) 1 1 ∧ Bx W67 4 g67 [vS x1.Name, vI x1.At] from ⟨rfl, b67⟩)⟩
   ·intro vs W lW hN
    obtain ⟨W70, hW70⟩ : ∃ X, X = W := ⟨W, rfl⟩
    subst hW70
    obtain ⟨pv2, e2_⟩ : ∃ v, vs 2 = v := ⟨_, rfl⟩
    obtain ⟨vs, rfl⟩ := up_eq e2_
    have o73 : Ow W70 3 [] [pv2] q22 := (hN 2 (anyb rfl))
    have e3_ : vs 3 = vI y4 := (hN 3 (anyb rfl))
    obtain ⟨vs, rfl⟩ := up_eq e3_
    obtain ⟨pg5, e5_⟩ : ∃ pg5, vs 5 = .slice (some (bx pg5)) 1 1 := ⟨_, ((hN 5 (anyb rfl))).1⟩
    obtain ⟨vs, rfl⟩ := up_eq e5_
    have o74 : Bx W70 4 pg5 [vS x1.Name, vI x1.At] := (hN 5 (anyb rfl)).2
    refine Tr.mono (T.call rfl (p134 (k0 := 5) (c0 := 3) o73 o74 (Head.rd (K := [0]) x1.Name x1.At ) rfl rfl e33)) ?_
    rintro v0_75 _ ⟨W75, rfl, l75, ⟨_, rfl, f75_0⟩⟩
    exact ⟨W75, rfl, l75, (show Ow W75 5 [] [v0_75] z32 from f75_0)⟩
   ·intro vs W lW hN
    obtain ⟨W79, hW79⟩ : ∃ X, X = W := ⟨W, rfl⟩
    subst hW79
    obtain ⟨pv6, e6_⟩ : ∃ v, vs 6 = v := ⟨_, rfl⟩
    obtain ⟨vs, rfl⟩ := up_eq e6_
    have o82 : Ow W79 5 [] [pv6] z32 := (hN 6 (anyb rfl))
    refine Tr.mono (Run.tr (R.as (v := pv6) rfl)) ?_
    rintro _ _ ⟨hu, rfl⟩
    obtain rfl := hu.symm
    exact ⟨W79, rfl, Le.refl _ _, (show (pv6 : Value) = pv6 from rfl)⟩
   ·intro vs W lW hN
    obtain ⟨W83, hW83⟩ : ∃ X, X = W := ⟨W, rfl⟩
    subst hW83
    have a84 := a39.t lW rfl
    obtain ⟨l83, hl83⟩ : ∃ x, x = lW := ⟨lW, rfl⟩
    have e1_ : vs 1 = v0_ := (hN 1 (anyb rfl))
    obtain ⟨vs, rfl⟩ := up_eq e1_
    have e3_ : vs 3 = vI y4 := (hN 3 (anyb rfl))
    obtain ⟨vs, rfl⟩ := up_eq e3_
    have e4_ : vs 4 = .agg [vS x1.Name, vI x1.At].toArray := (hN 4 (anyb rfl))
    obtain ⟨vs, rfl⟩ := up_eq e4_
    obtain ⟨pg5, e5_⟩ : ∃ pg5, vs 5 = .slice (some (bx pg5)) 1 1 := ⟨_, ((hN 5 (anyb rfl))).1⟩
    obtain ⟨vs, rfl⟩ := up_eq e5_
    have o86 : Bx W83 4 pg5 [vS x1.Name, vI x1.At] := (hN 5 (anyb rfl)).2
    obtain ⟨pv6, e6_⟩ : ∃ v, vs 6 = v := ⟨_, rfl⟩
    obtain ⟨vs, rfl⟩ := up_eq e6_
    have o87 : Ow W83 5 [] [pv6] z32 := (hN 6 (anyb rfl))
    have e7_ : vs 7 = pv6 := (hN 7 (anyb rfl))
    obtain ⟨vs, rfl⟩ := up_eq e7_
    cases hm
    exact Cw.ret (ret1 rfl (Res.mk a84 ⟨pv6, rfl, o87.s.sub rfl rfl⟩))
 ·refine Cw.draw [] [(0, 0), (1, 0), (2, 0), (3, 0), (4, 0), (5, 0), (6, 0), (7, 0), (8, 1), (9, 0), (10, 1), (11, 0), (12, 0)] mixed (by kernel_rfl) fun W88 l88 => ?_
  have a89 := a8.n l88
  refine Di rfl (Mw.p rfl rfl (fun _ => R.gt rfl rfl) (Db rfl (bs hm (fun hc91 hm => ?_) fun hc91 hm => ?_)))
  ·refine Wp hc91 rfl (fun _ => R.mv (v := v0_) rfl) (Wp hc91 rfl (fun _ => R.mv (v := vI y4) rfl) (Wp hc91 rfl (fun _ => R.sub rfl rfl) ?_))
   obtain ⟨u92, e93, hm⟩ := ob hm
   exact Wp hc91 rfl (fun _ => R.ix (α := Head) (h0.ul a89) e93 rfl rfl rfl) (Wp hc91 rfl (fun _ => R.fa rfl) (Wq hc91 rfl (fun _ c => R.ld rfl rfl (cl_cell (Head.at0 ((h0.ul a89).at_ e93)).1 rfl (Head.at0 ((h0.ul a89).at_ e93)).str c)) (Wp hc91 rfl (fun _ => R.fa rfl) (Wq hc91 rfl (fun _ c => R.ld (v := vS x1.Name) rfl rfl (((b1.up l5).up l88).clc rfl rfl c)) (Wp hc91 rfl (fun _ => R.sgt rfl rfl) (Mw.p rfl rfl (fun _ => R.pk hc91 rfl (v := vB (!(Op.bytesLess u92.Name x1.Name || u92.Name == x1.Name))) rfl) (Mw.nil ((ag) ⟨(!(Op.bytesLess u92.Name x1.Name || u92.Name == x1.Name)), W88, rfl, l88, rfl, hm⟩))))))))
  ·exact dps 9 hc91 rfl (Mw.p rfl rfl (fun _ => R.pk hc91 rfl (v := vB false) rfl) (Mw.nil ((ag) ⟨false, W88, rfl, l88, rfl, hm⟩)))

theorem p110 {x0 v0_ x1 k0 r} (h0 : Rd W K [v0_] x0) (h1 : Rd W K [vS x1.Name, vI x1.At] x1) (hm : Vm.impl_insertHead x0 x1 = some r) : Q1 110 [v0_, .agg [vS x1.Name, vI x1.At].toArray] W [] fun W' v => ∃ u0, v = u0 ∧ Ow W' k0 [] [u0] r :=
 (c110 (h0.view _) (h1.view _) hm).ad (fk k0) fun _ _ ⟨u0, e, f0⟩ => ⟨u0, e, f0.back (fk_LL _)⟩

theorem c70 {x0 v0_0_ v0_1_ x1 x2 r} (h0_0 : Ow W0 2 [] [v0_0_] x0.Commits) (h0_1 : Ow W0 3 [] [v0_1_] x0.Heads) (hm : Vm.impl_Repo_point x0 x1 x2 = some r) : Q0 70 [.agg [v0_0_, v0_1_].toArray, vS x1, vI x2] W0 fun Wf v => ∃ u0_0 u0_1, v = .agg [u0_0, u0_1].toArray ∧ OwS Wf [31] [] [u0_0] r.Commits ∧ OwS Wf [32] [] [u0_1] r.Heads := by
 unfold Vm.impl_Repo_point at hm
 refine CallR.of Tryd.func70 rfl rfl rfl rfl (sr (bo 4 rfl fun g1 W1 l1 b1 => ?_))
 have a2 := l1.o
 refine al 5 [.slice none 0 0, .slice none 0 0] fun g5 W5 l5 b5 => ?_
 have a6 := a2.n l5
 have o8 := (h0_1.up l1).up l5
 refine nl (ssr (fl (b1.up l5) rfl (Lw.ln x0.Heads o8.rd rfl (mi rfl (nl (Cw.block ?_))))))
 obtain ⟨K22, hK22, hm⟩ := jn_e hm
 refine Cw.loop 11 29 [7, 11] (fun m l w => ∃ y11 y12 y15 y19 j10 v13 v16 W21, CW.w W21 = w ∧ Le [] W5 W21 ∧ l = [j10, vI y11] ∧ Ow W21 6 [] [v13] y12 ∧ Ow W21 7 [] [v16] y15 ∧ Bx W21 5 g5 [v13, v16] ∧ Ow W21 3 [] [v0_1_] y19 ∧ Vm.impl_Repo_point_l1 x0 x1 x2 K22 m y11 y12 y15 y19 = some r) _ ⟨0, ([] : List Commit), ([] : List Head), x0.Heads, undef, .slice none 0 0, .slice none 0 0, W5, rfl, Le.refl _ _, rfl, owN 6 [], owN 7 [], b5, o8, hm⟩ ?_
 rintro (_ | m23) _ _ σ ⟨y11, y12, y15, y19, j10, v13, v16, W21, rfl, l21, rfl, o14, o17, b18, o20, hm⟩
 ·cases hm
 unfold Vm.impl_Repo_point_l1 at hm
 have a24 := a6.n l21
 have o25 := ((h0_0.up l1).up l5).up l21
 have b26 := (b1.up l5).up l21
 refine sr (Lw.lt rfl (nl (Cw.seq (cn hm (fun hm => ?_) fun hm => ?_))))
 ·refine sk (Cw.seq (Cw.block (sr (mi rfl (Ni rfl (sr (fl b26 rfl (mi rfl ?_))))))))
  obtain ⟨u28, e29, hm⟩ := ob hm
  refine Lw.r rfl (R.ix (α := Head) o20.rd e29 rfl rfl rfl) (Lw.fa rfl (Lw.r rfl (R.ld rfl rfl (Head.at0 (o20.rd.at_ e29)).str) (ms rfl (Lw.seq rfl (nl (cn hm (fun hm => ?_) fun hm => ?_))))))
  ·refine sr (fl b26 rfl (mi rfl (mi rfl ?_)))
   obtain ⟨u31, e32, hm⟩ := ob hm
   refine Lw.r rfl (R.ix (α := Head) o20.rd e32 rfl rfl rfl) (Lw.fa rfl ?_)
   obtain ⟨q34, e35, hm⟩ := ob hm
   refine Lw.u (T.stH (α := Head) (β := Int) (J := []) (Ow.hole (α := Head) (β := Int) (jf := 1) o20 e32) (OwS.atm (K := []) (rdI _)) e35 rfl rfl rfl rfl) ?_
   rintro _ _ ⟨W33, rfl, l33, o33⟩
   have a36 := a24.t l33
   refine nl (sr (la (b26.up l33) (sta (b18.up l33) (oc_cons (o25.up l33).oc (oc_cons o33.oc oc_nil)) fun W42 l42 b42 => ?_)))
   have a43 := a36.t l42
   refine nl ?_
   obtain ⟨W49, ew49, l49, o49⟩ := ((o25.up l33).up l42).dyeO 31
   have a50 := a43.t l49
   obtain ⟨W56, ew56, l56, o56⟩ := ((o33.up l42).up l49).dyeO 32
   have a57 := a50.t l56
   cases hm
   rw [← ew56.trans (ew49)]
   exact Cw.ret (retA1 rfl ((b42.up l49).up l56) (Res.mk a57 ⟨v0_0_, v0_1_, rfl, (o49.up l56).s, o56.s⟩))
  ·exact sk (rg (Lw.add rfl (mi rfl (nl ((agm) ⟨w64 (y11 + 1), y12, y15, y19, vI y11, v13, v16, W21, rfl, l21, rfl, o14, o17, b18, o20, hm⟩)))))
 ·refine Cw.exit ?_
  rw [hK22] at hm
  refine sr (fl b26 rfl (ms rfl (mi rfl (Lw.r rfl (R.bd (zs := [vS ([] : Str), vI 0]) (cs := [vS x1, vI x2]) [(0, vS x1), (1, vI x2)] rfl rfl rfl (bp_cons rfl rfl (bp_cons rfl rfl bp_nil))) (cr hm (fun _ => p110 (K := [0, 3]) (k0 := 8) (x1 := (Vm.Head.mk x1 x2)) (o20.rd.sub (M := [0, 3]) rfl) ((Head.rd (K := [0]) x1 x2 ).sub (M := [0, 3]) rfl)) ?_)))))
  rintro z63 v0_65 W65 hm l65 ⟨_, rfl, f65_0⟩
  have a66 := a24.n l65
  refine Lw.fa rfl (Lw.u (T.st (j := 1) (v := v0_65) (b26.up l65) rfl rfl f65_0.oc rfl rfl) ?_)
  rintro _ _ ⟨W73, rfl, l73, b73⟩
  have a74 := a66.t l73
  have o75 := (o25.up l65).up l73
  refine nl (sr (la b73 (sta ((b18.up l65).up l73) (oc_cons o75.oc (oc_cons (f65_0.up l73).oc oc_nil)) fun W81 l81 b81 => ?_)))
  have a82 := a74.t l81
  refine nl ?_
  obtain ⟨W89, ew89, l89, o89⟩ := (o75.up l81).dyeO 31
  have a90 := a82.t l89
  obtain ⟨W97, ew97, l97, o97⟩ := (((f65_0.up l73).up l81).up l89).dyeO 32
  have a98 := a90.t l97
  cases hm
  rw [← ew97.trans (ew89)]
  exact Cw.ret (retA1 rfl ((b81.up l89).up l97) (Res.mk a98 ⟨v0_0_, v0_65, rfl, (o89.up l97).s, o97.s⟩))

theorem p70 {x0 v0_0_ v0_1_ x1 x2 k0 k1 c0 c1 r} (h0_0 : Ow W c0 [] [v0_0_] x0.Commits) (h0_1 : Ow W c1 [] [v0_1_] x0.Heads) (hJ : okJ K [c0, c1] = true) (hm : Vm.impl_Repo_point x0 x1 x2 = some r) : Q1 70 [.agg [v0_0_, v0_1_].toArray, vS x1, vI x2] W [c0, c1] fun W' v => ∃ u0_0 u0_1, v = .agg [u0_0, u0_1].toArray ∧ Ow W' k0 [] [u0_0] r.Commits ∧ Ow W' k1 [] [u0_1] r.Heads :=
 CallR.adJ (J := [c0, c1]) (fun c => bif Nat.beq c 0 then 0 else bif Nat.beq c 2 then c0 else bif Nat.beq c 3 then c1 else bif Nat.beq c 31 then k0 else bif Nat.beq c 32 then k1 else 0) (c70 (h0_0.viewJ 0 hJ) (h0_1.viewJ 1 hJ) hm) fun _ _ ⟨u0_0, u0_1, e, f0, f1⟩ => ⟨u0_0, u0_1, e, f0.one1.backN rfl, f1.one1.backN rfl⟩

theorem c53 {x0 v0_0_ v0_1_ x1 x2 x3 v3_ x4 v4_ r} (h0_0 : Ow W0 2 [] [v0_0_] x0.Commits) (h0_1 : Ow W0 3 [] [v0_1_] x0.Heads) (h3 : Rd W0 [0] [v3_] x3) (h4 : Ow W0 4 [] [v4_] x4) (hm : Vm.impl_Repo_commit x0 x1 x2 x3 x4 = some r) : Q0 53 [.agg [v0_0_, v0_1_].toArray, vS x1, vS x2, v3_, v4_] W0 fun Wf v => ∃ u0_0 u0_1, v = .agg [u0_0, u0_1].toArray ∧ OwS Wf [31] [] [u0_0] r.Commits ∧ OwS Wf [32] [] [u0_1] r.Heads := by
 unfold Vm.impl_Repo_commit at hm
 refine CallR.of Tryd.func53 rfl rfl rfl rfl (sr (bo 5 rfl fun g1 W1 l1 b1 => ?_))
 have a2 := l1.o
 refine al 6 [.slice none 0 0, .slice none 0 0] fun g6 W6 l6 b6 => ?_
 have a7 := a2.n l6
 refine nl (Cw.seq (Cw.draw [] [(0, 0), (1, 1), (2, 0), (3, 0), (4, 0), (5, 2), (6, 0), (7, 2), (8, 3), (9, 0), (10, 3)] mixed (by kernel_rfl) fun W12 l12 => ?_))
 have a13 := a7.n l12
 have b17 := (b1.up l6).up l12
 refine Dfl b17 rfl rfl rfl (Dv v4_ rfl (Ds rfl (Dv v3_ rfl ?_)))
 obtain ⟨z20, e21, hm⟩ := ob hm
 refine Mw.t rfl rfl (T.call rfl (p68 (k0 := 7) (h3.ul a13) e21)) ?_
 rintro v0_22 _ ⟨W22, rfl, l22, ⟨_, rfl, f22_0⟩⟩
 have a23 := a13.n l22
 have o26 := (((h4.up l1).up l6).up l12).up l22
 refine m0 l22 fun d22 => Mw.p rfl rfl (fun _ => R.bd (zs := [.slice none 0 0, vS ([] : Str), .slice none 0 0]) (cs := [v4_, vS x2, v0_22]) [(0, v4_), (1, vS x2), (2, v0_22)] rfl rfl rfl (bp_cons o26.oc rfl (bp_cons rfl rfl (bp_cons f22_0.oc rfl bp_nil)))) (Mw.t rfl rfl (T.bs 8 [.agg [v4_, vS x2, v0_22].toArray] (cs := [v4_, vS x2, v0_22]) rfl rfl (bsA rfl)) ?_)
 rintro _ _ ⟨g29, W29, rfl, rfl, l29, b29⟩
 have a30 := a23.n l29
 refine mc d22 l29 fun d29 => ?_
 obtain ⟨q37, e38, hm⟩ := ob hm
 refine Mw.l rfl rfl (T.app1 (α := Commit) (J := [4, 7]) (K' := []) (((((h0_0.up l1).up l6).up l12).up l22).up l29) b29 (Commit.own x4 x2 z20 (o26.up l29).s (f22_0.up l29).s) rfl rfl e38) ?_
 rintro v39 _ ⟨W39, rfl, l39, o39⟩
 have a40 := a30.t l39
 refine Df rfl (Mw.lu rfl (T.st (j := 0) (v := v39) (((b17.up l22).up l29).up l39) rfl rfl o39.oc rfl rfl) ?_)
 rintro _ _ ⟨W45, rfl, l45, b45⟩
 have a46 := a40.t l45
 refine Mw.nil (sr (la b45 (ms rfl (fl b45 rfl (Lw.ln q37 (o39.up l45).rd rfl (Lw.sub rfl (cr hm (fun _ => p70 (K := [0]) (k0 := 9) (k1 := 10) (c0 := 2) (c1 := 3) (x0 := (Vm.Repo.mk q37 x0.Heads)) (o39.up l45) (((((((h0_1.up l1).up l6).up l12).up l22).up l29).up l39).up l45) rfl) ?_)))))))
 rintro z51 _ W53 hm l53 ⟨v0_0_53, v0_1_53, rfl, f53_0, f53_1⟩
 have a54 := a46.t l53
 refine sta ((((((b6.up l12).up l22).up l29).up l39).up l45).up l53) (oc_cons f53_0.oc (oc_cons f53_1.oc oc_nil)) fun W58 l58 b58 => ?_
 have a59 := a54.t l58
 refine nl ?_
 obtain ⟨W64, ew64, l64, o64⟩ := (f53_0.up l58).dyeO 31
 have a65 := a59.t l64
 obtain ⟨W70, ew70, l70, o70⟩ := ((f53_1.up l58).up l64).dyeO 32
 have a71 := a65.t l70
 cases hm
 rw [← ew70.trans (ew64)]
 exact Cw.ret (retA1 rfl ((b58.up l64).up l70) (Res.mk a71 ⟨v0_0_53, v0_1_53, rfl, (o64.up l70).s, o70.s⟩))

theorem p53 {x0 v0_0_ v0_1_ x1 x2 x3 v3_ x4 v4_ k0 k1 c0 c1 c2 r} (h0_0 : Ow W c0 [] [v0_0_] x0.Commits) (h0_1 : Ow W c1 [] [v0_1_] x0.Heads) (h3 : Rd W K [v3_] x3) (h4 : Ow W c2 [] [v4_] x4) (hJ : okJ K [c0, c1, c2] = true) (hm : Vm.impl_Repo_commit x0 x1 x2 x3 x4 = some r) : Q1 53 [.agg [v0_0_, v0_1_].toArray, vS x1, vS x2, v3_, v4_] W [c0, c1, c2] fun W' v => ∃ u0_0 u0_1, v = .agg [u0_0, u0_1].toArray ∧ Ow W' k0 [] [u0_0] r.Commits ∧ Ow W' k1 [] [u0_1] r.Heads :=
 CallR.adJ (J := [c0, c1, c2]) (fun c => bif Nat.beq c 0 then 0 else bif Nat.beq c 2 then c0 else bif Nat.beq c 3 then c1 else bif Nat.beq c 4 then c2 else bif Nat.beq c 31 then k0 else bif Nat.beq c 32 then k1 else 0) (c53 (h0_0.viewJ 0 hJ) (h0_1.viewJ 1 hJ) (h3.view _) (h4.viewJ 2 hJ) hm) fun _ _ ⟨u0_0, u0_1, e, f0, f1⟩ => ⟨u0_0, u0_1, e, f0.one1.backN rfl, f1.one1.backN rfl⟩

theorem c51 {x0 v0_0_ v0_1_ x1 v1_0_ v1_1_ r} (h0 : Rd W0 [0] [v0_0_, v0_1_] x0) (h1_0 : Ow W0 2 [] [v1_0_] x1.Commits) (h1_1 : Ow W0 3 [] [v1_1_] x1.Heads) (h99 : Gl 2 W0 [0]) (hm : Vm.impl_Repo_tried x0 x1 = some r) : Q0 51 [.agg [v0_0_, v0_1_].toArray, .agg [v1_0_, v1_1_].toArray] W0 fun Wf v => ∃ u0_0 u0_1, v = .tuple [.agg [u0_0, u0_1].toArray, vB r.2].toArray ∧ OwS Wf [31] [] [u0_0] r.1.Commits ∧ OwS Wf [32] [] [u0_1] r.1.Heads := by
 unfold Vm.impl_Repo_tried at hm
 obtain ⟨w0_0, w0_1, he0, h0_0, h0_1⟩ := Repo.split h0
 simp only [List.cons.injEq, and_true, true_and] at he0
 obtain ⟨rfl, rfl⟩ := he0
 refine CallR.of Tryd.func51 rfl rfl rfl rfl (sr (bo 4 rfl fun g1 W1 l1 b1 => ?_))
 have a2 := l1.o
 refine bo 5 rfl fun g5 W5 l5 b5 => ?_
 have a6 := a2.n l5
 refine al 6 [.slice none 0 0, .slice none 0 0] fun g10 W10 l10 b10 => ?_
 have a11 := a6.n l10
 have o12 := ((h1_0.up l1).up l5).up l10
 have o13 := ((h1_1.up l1).up l5).up l10
 refine Nb rfl (ssr (la (b5.up l10) (ca hm (fun _ => p49 (K := [0, 2, 3]) (x0 := (Vm.Repo.mk x1.Commits x1.Heads)) ((Repo.rd (K := [2, 3]) x1.Commits x1.Heads (o12.rd.sub (M := [2, 3]) rfl) (o13.rd.sub (M := [2, 3]) rfl)).sub (M := [0, 2, 3]) rfl) ((h99.ul a11).sub (M := [0, 2, 3]) rfl)) fun z17 W19 hm l19 => ?_)))
 have a20 := a11.n l19
 refine Lw.r rfl (R.not rfl) (nl (cn hm (fun hm => ?_) fun hm => ?_))
 ·refine sr (la (((b1.up l5).up l10).up l19) (cr hm (fun _ => p52 (k0 := 7) (k1 := 8) (Repo.rd (K := [0]) x0.Commits x0.Heads (h0_0.ul a20) (h0_1.ul a20))) ?_))
  rintro z29 _ W31 hm l31 ⟨v0_0_31, v0_1_31, rfl, f31_0, f31_1⟩
  have a32 := a20.n l31
  refine sta ((b10.up l19).up l31) (oc_cons f31_0.oc (oc_cons f31_1.oc oc_nil)) fun W38 l38 b38 => ?_
  have a39 := a32.t l38
  refine Nb rfl ?_
  obtain ⟨W46, ew46, l46, o46⟩ := (f31_0.up l38).dyeO 31
  have a47 := a39.t l46
  obtain ⟨W54, ew54, l54, o54⟩ := ((f31_1.up l38).up l46).dyeO 32
  have a55 := a47.t l54
  cases hm
  rw [← ew54.trans (ew46)]
  exact Cw.ret (retA2 rfl ((b38.up l46).up l54) rfl (Res.mk a55 ⟨v0_0_31, v0_1_31, rfl, (o46.up l54).s, o54.s⟩))
 ·refine sk (sr (la ((b5.up l10).up l19) (sta (b10.up l19) (oc_cons (o12.up l19).oc (oc_cons (o13.up l19).oc oc_nil)) fun W62 l62 b62 => ?_)))
  have a63 := a20.t l62
  refine Nb rfl ?_
  obtain ⟨W68, ew68, l68, o68⟩ := ((o12.up l19).up l62).dyeO 31
  have a69 := a63.t l68
  obtain ⟨W74, ew74, l74, o74⟩ := (((o13.up l19).up l62).up l68).dyeO 32
  have a75 := a69.t l74
  cases hm
  rw [← ew74.trans (ew68)]
  exact Cw.ret (retA2 rfl ((b62.up l68).up l74) rfl (Res.mk a75 ⟨v1_0_, v1_1_, rfl, (o68.up l74).s, o74.s⟩))

theorem p51 {x0 v0_0_ v0_1_ x1 v1_0_ v1_1_ k0 k1 c0 c1 r} (h0 : Rd W K [v0_0_, v0_1_] x0) (h1_0 : Ow W c0 [] [v1_0_] x1.Commits) (h1_1 : Ow W c1 [] [v1_1_] x1.Heads) (h99 : Gl 2 W K) (hJ : okJ K [c0, c1] = true) (hm : Vm.impl_Repo_tried x0 x1 = some r) : Q1 51 [.agg [v0_0_, v0_1_].toArray, .agg [v1_0_, v1_1_].toArray] W [c0, c1] fun W' v => ∃ u0_0 u0_1, v = .tuple [.agg [u0_0, u0_1].toArray, vB r.2].toArray ∧ Ow W' k0 [] [u0_0] r.1.Commits ∧ Ow W' k1 [] [u0_1] r.1.Heads :=
 CallR.adJ (J := [c0, c1]) (fun c => bif Nat.beq c 0 then 0 else bif Nat.beq c 2 then c0 else bif Nat.beq c 3 then c1 else bif Nat.beq c 31 then k0 else bif Nat.beq c 32 then k1 else 0) (c51 (h0.view _) (h1_0.viewJ 0 hJ) (h1_1.viewJ 1 hJ) (h99.view _) hm) fun _ _ ⟨u0_0, u0_1, e, f0, f1⟩ => ⟨u0_0, u0_1, e, f0.one1.backN rfl, f1.one1.backN rfl⟩

theorem c13 {x0 v0_0_ v0_1_ x1 x2 x3 v3_ r} (h0 : Rd W0 [0] [v0_0_, v0_1_] x0) (h3 : Rd W0 [0] [v3_] x3) (h99 : Gl 2 W0 [0]) (hm : Vm.impl_RepoCommit x0 x1 x2 x3 = some r) : Q0 13 [.agg [v0_0_, v0_1_].toArray, vS x1, vS x2, v3_] W0 fun Wf v => ∃ u0_0 u0_1, v = .tuple [.agg [u0_0, u0_1].toArray, vB r.2].toArray ∧ OwS Wf [31] [] [u0_0] r.1.Commits ∧ OwS Wf [32] [] [u0_1] r.1.Heads := by
 unfold Vm.impl_RepoCommit at hm
 obtain ⟨w0_0, w0_1, he0, h0_0, h0_1⟩ := Repo.split h0
 simp only [List.cons.injEq, and_true, true_and] at he0
 obtain ⟨rfl, rfl⟩ := he0
 refine CallR.of Tryd.func13 rfl rfl rfl rfl (sr (bo 2 rfl fun g1 W1 l1 b1 => ?_))
 have a2 := l1.o
 refine al 3 [.slice none 0 0, .slice none 0 0] fun g3 W3 l3 b3 => ?_
 have a4 := a2.n l3
 refine Nb rfl (ssr (la (b1.up l3) (ca hm (fun _ => p49 (Repo.rd (K := [0]) x0.Commits x0.Heads (h0_0.ul a4) (h0_1.ul a4)) (h99.ul a4)) fun z9 W11 hm l11 => ?_)))
 have a12 := a4.n l11
 have b13 := (b1.up l3).up l11
 refine Lw.r rfl (R.not rfl) (nl (cn hm (fun hm => ?_) fun hm => ?_))
 ·refine sr (Lw.r rfl (R.bd (zs := [.slice none 0 0, .slice none 0 0]) (cs := [.slice none 0 0, .slice none 0 0]) [] rfl rfl rfl bp_nil) (sta (b3.up l11) (oc_cons rfl (oc_cons rfl oc_nil)) fun W16 l16 b16 => ?_))
  have a17 := a12.t l16
  refine Nb rfl ?_
  cases hm
  exact Cw.ret (retA2 rfl b16 rfl (Res.mk a17 ⟨.slice none 0 0, .slice none 0 0, rfl, (owsN []).sub rfl rfl, (owsN []).sub rfl rfl⟩))
 ·refine sk (sr (Nv (.slice none 0 0) rfl ?_))
  obtain ⟨K24, hK24, hm⟩ := jn_e hm
  refine Cw.join 16 24 [10, 11] (fun l w => ∃ y19 v20 j22 W23, CW.w W23 = w ∧ Le [12] W11 W23 ∧ l = [v20, j22] ∧ Ow W23 4 [] [v20] y19 ∧ K24 y19 = some r) ?_ ?_
  ·rintro _ _ σ ⟨y19, v20, j22, W23, rfl, l23, rfl, o21, hm⟩
   rw [hK24] at hm
   have a25 := a12.t l23
   refine Cw.seq (Cw.draw [4, 5, 6, 7, 8] [(0, 1), (1, 1), (3, 0), (4, 0), (5, 0), (6, 0), (2, 2), (7, 2), (8, 2), (9, 0), (10, 0), (11, 3), (12, 0)] mixed (by kernel_rfl) fun W28 l28 => ?_)
   have a29 := a25.n l28
   have b31 := (b13.up l23).up l28
   refine Mw.q rfl rfl (fun _ c => R.lda (cs := [v0_0_, v0_1_]) (b31.clcs rfl c) rfl rfl) (Mw.q rfl rfl (fun _ c => R.lda (cs := [v0_0_, v0_1_]) (b31.clcs rfl c) rfl rfl) (Ds rfl (Ds rfl (Dv v3_ rfl (Dv v20 rfl ?_)))))
   obtain ⟨z35, e36, hm⟩ := ob hm
   refine Mw.t rfl rfl (T.call rfl (p52 (k0 := 5) (k1 := 6) (Repo.rd (K := [0]) x0.Commits x0.Heads (h0_0.ul a29) (h0_1.ul a29)) e36)) ?_
   rintro _ _ ⟨W37, rfl, l37, ⟨v0_0_37, v0_1_37, rfl, f37_0, f37_1⟩⟩
   have a38 := a29.n l37
   refine m0 l37 fun d37 => ?_
   obtain ⟨z43, e44, hm⟩ := ob hm
   refine Mw.t rfl rfl (T.call rfl (p53 (k0 := 7) (k1 := 8) (c0 := 5) (c1 := 6) (c2 := 4) (x0 := (Vm.Repo.mk z35.Commits z35.Heads)) f37_0 f37_1 (h3.ul a38) ((o21.up l28).up l37) rfl e44)) ?_
   rintro _ _ ⟨W45, rfl, l45, ⟨v0_0_45, v0_1_45, rfl, f45_0, f45_1⟩⟩
   have a46 := a38.t l45
   refine mc d37 l45 fun d45 => ?_
   obtain ⟨z52, e53, hm⟩ := ob hm
   refine Mw.t rfl rfl (T.call rfl (p51 (k0 := 9) (k1 := 10) (c0 := 7) (c1 := 8) (x1 := (Vm.Repo.mk z43.Commits z43.Heads)) (Repo.rd (K := [0]) x0.Commits x0.Heads (h0_0.ul a46) (h0_1.ul a46)) f45_0 f45_1 (h99.ul a46) rfl e53)) ?_
   rintro _ _ ⟨W54, rfl, l54, ⟨v0_0_54, v0_1_54, rfl, f54_0, f54_1⟩⟩
   have a55 := a46.t l54
   refine mc d45 l54 fun d54 => Mw.p rfl rfl (fun _ => R.ext (vs := [.agg [v0_0_54, v0_1_54].toArray, vB z52.2]) (v := .agg [v0_0_54, v0_1_54].toArray) rfl rfl) (Mw.p rfl rfl (fun _ => R.ext (vs := [.agg [v0_0_54, v0_1_54].toArray, vB z52.2]) (v := vB z52.2) rfl rfl) (Mw.lu rfl (T.sta (vs := [v0_0_54, v0_1_54]) ((((((b3.up l11).up l23).up l28).up l37).up l45).up l54) rfl rfl (oc_cons f54_0.oc (oc_cons f54_1.oc oc_nil)) rfl rfl) ?_))
   rintro _ _ ⟨W58, rfl, l58, b58⟩
   have a59 := a55.t l58
   refine Hb rfl (Mw.nil ?_)
   obtain ⟨W63, ew63, l63, o63⟩ := (f54_0.up l58).dyeO 31
   have a64 := a59.t l63
   obtain ⟨W68, ew68, l68, o68⟩ := ((f54_1.up l58).up l63).dyeO 32
   have a69 := a64.t l68
   cases hm
   rw [← ew68.trans (ew63)]
   exact Cw.ret (retA2 rfl ((b58.up l63).up l68) rfl (Res.mk a69 ⟨v0_0_54, v0_1_54, rfl, (o63.up l68).s, o68.s⟩))
  ·refine sr (la b13 (ms rfl (ca hm (fun _ => p50 (Repo.rd (K := [0]) x0.Commits x0.Heads (h0_0.ul a12) (h0_1.ul a12))) fun z75 W77 hm l77 => Ni rfl (sr (mi rfl (Lw.ge rfl (nl (cn hm (fun hm => ?_) fun hm => ?_))))))))
   ·refine rg (mv (.slice none 0 0) rfl (mi rfl (Lw.t rfl (T.bs 11 [vI z75] (cs := [vI z75]) rfl rfl (bsv rfl)) ?_)))
    rintro _ _ ⟨g82, W82, rfl, rfl, l82, b82⟩
    obtain ⟨q86, e87, hm⟩ := ob hm
    refine Lw.t rfl (T.app1S (α := Int) (K' := []) (owN 12 []) b82 (rdI _) rfl rfl e87) ?_
    rintro v88 _ ⟨W88, rfl, l88, o88⟩
    refine Nv v88 rfl ?_
    obtain ⟨W93, ew93, l93, o93⟩ := o88.dyeO 4
    exact (ag) ⟨q86, v88, vI z75, W93, ew93, (((l77.j l82).j l88).j l93).w, rfl, o93, hm⟩
   ·exact sk ((ag) ⟨([] : List Int), .slice none 0 0, vI z75, W77, rfl, l77.w, rfl, owN 4 [], hm⟩)

theorem p13 {x0 v0_0_ v0_1_ x1 x2 x3 v3_ k0 k1 r} (h0 : Rd W K [v0_0_, v0_1_] x0) (h3 : Rd W K [v3_] x3) (h99 : Gl 2 W K) (hm : Vm.impl_RepoCommit x0 x1 x2 x3 = some r) : Q1 13 [.agg [v0_0_, v0_1_].toArray, vS x1, vS x2, v3_] W [] fun W' v => ∃ u0_0 u0_1, v = .tuple [.agg [u0_0, u0_1].toArray, vB r.2].toArray ∧ Ow W' k0 [] [u0_0] r.1.Commits ∧ Ow W' k1 [] [u0_1] r.1.Heads :=
 CallR.adJ (J := []) (fun c => bif Nat.beq c 0 then 0 else bif Nat.beq c 31 then k0 else bif Nat.beq c 32 then k1 else 0) (c13 (h0.view _) (h3.view _) (h99.view _) hm) fun _ _ ⟨u0_0, u0_1, e, f0, f1⟩ => ⟨u0_0, u0_1, e, f0.one1.backN rfl, f1.one1.backN rfl⟩

theorem c24 {x0 v0_ x1 v1_ r} (h0 : Rd W0 [0] [v0_] x0) (h1 : Rd W0 [0] [v1_] x1) (hm : Vm.laws_eqIntS x0 x1 = some r) : Q0 24 [v0_, v1_] W0 fun Wf v => v = vB r := by
 unfold Vm.laws_eqIntS at hm
 refine CallR.of Tryd.func24 rfl rfl rfl rfl (sr (Nb rfl (ssr (mv v0_ rfl (Lw.ln x0 h0 rfl (mv v1_ rfl (Lw.ln x1 h1 rfl (Lw.ne rfl (nl (cn hm (fun hm => ?_) fun hm => ?_))))))))))
 ·exact sr (Nb rfl (.ret (rt hm (Le.refl _ _))))
 ·refine sk (ssr (Ni rfl (Cw.block ?_)))
  obtain ⟨K5, hK5, hm⟩ := jn_e hm
  refine Cw.loop 11 25 [4, 5] (fun m l w => ∃ y2 y3 W4, CW.w W4 = w ∧ Le [] W0 W4 ∧ l = [vB y2, vI y3] ∧ Vm.laws_eqIntS_l1 x0 x1 K5 m y2 y3 = some r) _ ⟨false, 0, W0, rfl, Le.refl _ _, rfl, hm⟩ ?_
  rintro (_ | m6) _ _ σ ⟨y2, y3, W4, rfl, l4, rfl, hm⟩
  ·cases hm
  unfold Vm.laws_eqIntS_l1 at hm
  have a7 := l4.o
  refine ssr (mi rfl (mv v0_ rfl (Lw.ln x0 (h0.ul a7) rfl (Lw.lt rfl (nl (cn hm (fun hm => ?_) fun hm => ?_))))))
  ·refine sk (Cw.seq (Cw.block (Cw.seq (Cw.draw [] [(0, 0), (1, 0), (2, 0), (3, 1), (4, 0), (5, 0), (6, 0), (7, 1), (8, 0)] mixed (by kernel_rfl) fun W10 l10 => ?_))))
   have a11 := a7.n l10
   refine Dv v0_ rfl (Di rfl ?_)
   obtain ⟨u12, e13, hm⟩ := ob hm
   refine Mw.p rfl rfl (fun _ => R.ix (α := Int) (h0.ul a11) e13 rfl rfl rfl) (Mw.q rfl rfl (fun _ c => R.ld rfl rfl (cl_cell ((h0.ul a11).at_ e13).1 rfl ((h0.ul a11).at_ e13).int c)) (Dv v1_ rfl (Di rfl ?_)))
   obtain ⟨u15, e16, hm⟩ := ob hm
   refine Mw.p rfl rfl (fun _ => R.ix (α := Int) (h1.ul a11) e16 rfl rfl rfl) (Mw.q rfl rfl (fun _ c => R.ld rfl rfl (cl_cell ((h1.ul a11).at_ e16).1 rfl ((h1.ul a11).at_ e16).int c)) (Mw.p rfl rfl (fun _ => R.ne rfl rfl) (Mw.nil (cn hm (fun hm => ?_) fun hm => ?_))))
   ·exact sr (Nb rfl (.ret (rt hm a11)))
   ·exact sk (rg (mi rfl (Lw.add rfl (Ni rfl ((agm) ⟨y2, w64 (y3 + 1), W10, rfl, (l4.j l10).w, rfl, hm⟩)))))
  ·refine Cw.exit ?_
   rw [hK5] at hm
   exact sr (Nb rfl (.ret (rt hm a7)))

theorem p24 {x0 v0_ x1 v1_ r} (h0 : Rd W K [v0_] x0) (h1 : Rd W K [v1_] x1) (hm : Vm.laws_eqIntS x0 x1 = some r) : Q1 24 [v0_, v1_] W [] fun W' v => v = vB r :=
 (c24 (h0.view _) (h1.view _) hm).ad (fk 0) fun _ _ e => e

theorem c83 {x0 v0_ x1 v1_ r} (h0 : Rd W0 [0] [v0_] x0) (h1 : Rd W0 [0] [v1_] x1) (hm : Vm.laws_eqStringS x0 x1 = some r) : Q0 83 [v0_, v1_] W0 fun Wf v => v = vB r := by
 unfold Vm.laws_eqStringS at hm
 refine CallR.of Tryd.func83 rfl rfl rfl rfl (sr (Nb rfl (ssr (mv v0_ rfl (Lw.ln x0 h0 rfl (mv v1_ rfl (Lw.ln x1 h1 rfl (Lw.ne rfl (nl (cn hm (fun hm => ?_) fun hm => ?_))))))))))
 ·exact sr (Nb rfl (.ret (rt hm (Le.refl _ _))))
 ·refine sk (ssr (Ni rfl (Cw.block ?_)))
  obtain ⟨K5, hK5, hm⟩ := jn_e hm
  refine Cw.loop 11 25 [4, 5] (fun m l w => ∃ y2 y3 W4, CW.w W4 = w ∧ Le [] W0 W4 ∧ l = [vB y2, vI y3] ∧ Vm.laws_eqStringS_l1 x0 x1 K5 m y2 y3 = some r) _ ⟨false, 0, W0, rfl, Le.refl _ _, rfl, hm⟩ ?_
  rintro (_ | m6) _ _ σ ⟨y2, y3, W4, rfl, l4, rfl, hm⟩
  ·cases hm
  unfold Vm.laws_eqStringS_l1 at hm
  have a7 := l4.o
  refine ssr (mi rfl (mv v0_ rfl (Lw.ln x0 (h0.ul a7) rfl (Lw.lt rfl (nl (cn hm (fun hm => ?_) fun hm => ?_))))))
  ·refine sk (Cw.seq (Cw.block (Cw.seq (Cw.draw [] [(0, 0), (1, 0), (2, 0), (3, 1), (4, 0), (5, 0), (6, 0), (7, 1), (8, 0)] mixed (by kernel_rfl) fun W10 l10 => ?_))))
   have a11 := a7.n l10
   refine Dv v0_ rfl (Di rfl ?_)
   obtain ⟨u12, e13, hm⟩ := ob hm
   refine Mw.p rfl rfl (fun _ => R.ix (α := Str) (h0.ul a11) e13 rfl rfl rfl) (Mw.q rfl rfl (fun _ c => R.ld rfl rfl (cl_cell ((h0.ul a11).at_ e13).1 rfl ((h0.ul a11).at_ e13).str c)) (Dv v1_ rfl (Di rfl ?_)))
   obtain ⟨u15, e16, hm⟩ := ob hm
   refine Mw.p rfl rfl (fun _ => R.ix (α := Str) (h1.ul a11) e16 rfl rfl rfl) (Mw.q rfl rfl (fun _ c => R.ld rfl rfl (cl_cell ((h1.ul a11).at_ e16).1 rfl ((h1.ul a11).at_ e16).str c)) (Mw.p rfl rfl (fun _ => R.sne rfl rfl) (Mw.nil (cn hm (fun hm => ?_) fun hm => ?_))))
   ·exact sr (Nb rfl (.ret (rt hm a11)))
   ·exact sk (rg (mi rfl (Lw.add rfl (Ni rfl ((agm) ⟨y2, w64 (y3 + 1), W10, rfl, (l4.j l10).w, rfl, hm⟩)))))
  ·refine Cw.exit ?_
   rw [hK5] at hm
   exact sr (Nb rfl (.ret (rt hm a7)))

theorem p83 {x0 v0_ x1 v1_ r} (h0 : Rd W K [v0_] x0) (h1 : Rd W K [v1_] x1) (hm : Vm.laws_eqStringS x0 x1 = some r) : Q1 83 [v0_, v1_] W [] fun W' v => v = vB r :=
 (c83 (h0.view _) (h1.view _) hm).ad (fk 0) fun _ _ e => e

theorem c55 {x0 v0_1_ x1 v1_1_ r} (h0 : Rd W0 [0] [vS x0.Path, v0_1_] x0) (h1 : Rd W0 [0] [vS x1.Path, v1_1_] x1) (hm : Vm.laws_eqFile x0 x1 = some r) : Q0 55 [.agg [vS x0.Path, v0_1_].toArray, .agg [vS x1.Path, v1_1_].toArray] W0 fun Wf v => v = vB r := by
 unfold Vm.laws_eqFile at hm
 obtain ⟨w0_0, he0, h0_1⟩ := File.split h0
 simp only [List.cons.injEq, and_true, true_and] at he0
 obtain rfl := he0
 obtain ⟨w1_0, he1, h1_1⟩ := File.split h1
 simp only [List.cons.injEq, and_true, true_and] at he1
 obtain rfl := he1
 refine CallR.of Tryd.func55 rfl rfl rfl rfl (sr (bo 2 rfl fun g1 W1 l1 b1 => ?_))
 have a2 := l1.o
 refine bo 3 rfl fun g3 W3 l3 b3 => ?_
 have a4 := a2.n l3
 refine Nb rfl (ssr (fl (b1.up l3) rfl (fl b3 rfl (Lw.sne rfl (nl (cn hm (fun hm => ?_) fun hm => ?_))))))
 ·exact sr (Nb rfl (.ret (rt hm a4)))
 ·refine sk (ssr (fl (b1.up l3) rfl (fl b3 rfl (ca hm (fun _ => p83 (h0_1.ul a4) (h1_1.ul a4)) fun z9 W11 hm l11 => ?_))))
  have a12 := a4.n l11
  refine Lw.r rfl (R.not rfl) (nl (cn hm (fun hm => ?_) fun hm => ?_))
  ·exact sr (Nb rfl (.ret (rt hm a12)))
  ·exact sk (sr (Nb rfl (.ret (rt hm a12))))

theorem p55 {x0 v0_1_ x1 v1_1_ r} (h0 : Rd W K [vS x0.Path, v0_1_] x0) (h1 : Rd W K [vS x1.Path, v1_1_] x1) (hm : Vm.laws_eqFile x0 x1 = some r) : Q1 55 [.agg [vS x0.Path, v0_1_].toArray, .agg [vS x1.Path, v1_1_].toArray] W [] fun W' v => v = vB r :=
 (c55 (h0.view _) (h1.view _) hm).ad (fk 0) fun _ _ e => e

theorem c15 {x0 v0_ x1 v1_ r} (h0 : Rd W0 [0] [v0_] x0) (h1 : Rd W0 [0] [v1_] x1) (hm : Vm.laws_eqFileS x0 x1 = some r) : Q0 15 [v0_, v1_] W0 fun Wf v => v = vB r := by
 unfold Vm.laws_eqFileS at hm
 refine CallR.of Tryd.func15 rfl rfl rfl rfl (sr (Nb rfl (ssr (mv v0_ rfl (Lw.ln x0 h0 rfl (mv v1_ rfl (Lw.ln x1 h1 rfl (Lw.ne rfl (nl (cn hm (fun hm => ?_) fun hm => ?_))))))))))
 ·exact sr (Nb rfl (.ret (rt hm (Le.refl _ _))))
 ·refine sk (ssr (Ni rfl (Cw.block ?_)))
  obtain ⟨K5, hK5, hm⟩ := jn_e hm
  refine Cw.loop 11 26 [4, 5] (fun m l w => ∃ y2 y3 W4, CW.w W4 = w ∧ Le [] W0 W4 ∧ l = [vB y2, vI y3] ∧ Vm.laws_eqFileS_l1 x0 x1 K5 m y2 y3 = some r) _ ⟨false, 0, W0, rfl, Le.refl _ _, rfl, hm⟩ ?_
  rintro (_ | m6) _ _ σ ⟨y2, y3, W4, rfl, l4, rfl, hm⟩
  ·cases hm
  unfold Vm.laws_eqFileS_l1 at hm
  have a7 := l4.o
  refine ssr (mi rfl (mv v0_ rfl (Lw.ln x0 (h0.ul a7) rfl (Lw.lt rfl (nl (cn hm (fun hm => ?_) fun hm => ?_))))))
  ·refine sk (Cw.seq (Cw.block (Cw.seq (Cw.draw [] [(0, 0), (1, 0), (2, 0), (3, 1), (4, 0), (5, 0), (6, 0), (7, 1), (8, 3), (9, 0)] mixed (by kernel_rfl) fun W10 l10 => ?_))))
   have a11 := a7.n l10
   refine Dv v0_ rfl (Di rfl ?_)
   obtain ⟨u12, e13, hm⟩ := ob hm
   refine Mw.p rfl rfl (fun _ => R.ix (α := File) (h0.ul a11) e13 rfl rfl rfl) ?_
   obtain ⟨x15, c16, _, r17⟩ := ((h0.ul a11).at_ e13).cells
   obtain ⟨v18, rfl, r19⟩ := File.split r17
   refine Mw.q rfl rfl (fun _ c => R.lda (cl_cells ((h0.ul a11).at_ e13).1 rfl c16 c) rfl rfl) (Dv v1_ rfl (Di rfl ?_))
   obtain ⟨u20, e21, hm⟩ := ob hm
   refine Mw.p rfl rfl (fun _ => R.ix (α := File) (h1.ul a11) e21 rfl rfl rfl) ?_
   obtain ⟨x23, c24, _, r25⟩ := ((h1.ul a11).at_ e21).cells
   obtain ⟨v26, rfl, r27⟩ := File.split r25
   refine Mw.q rfl rfl (fun _ c => R.lda (cl_cells ((h1.ul a11).at_ e21).1 rfl c24 c) rfl rfl) ?_
   obtain ⟨z28, e29, hm⟩ := ob hm
   refine Mw.l rfl rfl (T.call rfl (p55  (File.rd (K := [0]) u12.Path u12.Text r19) (File.rd (K := [0]) u20.Path u20.Text r27) e29)) ?_
   rintro _ _ ⟨W30, rfl, l30, rfl⟩
   have a31 := a11.n l30
   refine Mw.p rfl rfl (fun _ => R.not rfl) (Mw.nil (cn hm (fun hm => ?_) fun hm => ?_))
   ·exact sr (Nb rfl (.ret (rt hm a31)))
   ·exact sk (rg (mi rfl (Lw.add rfl (Ni rfl ((agm) ⟨y2, w64 (y3 + 1), W30, rfl, ((l4.j l10).j l30).w, rfl, hm⟩)))))
  ·refine Cw.exit ?_
   rw [hK5] at hm
   exact sr (Nb rfl (.ret (rt hm a7)))

theorem p15 {x0 v0_ x1 v1_ r} (h0 : Rd W K [v0_] x0) (h1 : Rd W K [v1_] x1) (hm : Vm.laws_eqFileS x0 x1 = some r) : Q1 15 [v0_, v1_] W [] fun W' v => v = vB r :=
 (c15 (h0.view _) (h1.view _) hm).ad (fk 0) fun _ _ e => e

theorem c71 {x0 v0_0_ v0_2_ x1 v1_0_ v1_2_ r} (h0 : Rd W0 [0] [v0_0_, vS x0.Who, v0_2_] x0) (h1 : Rd W0 [0] [v1_0_, vS x1.Who, v1_2_] x1) (hm : Vm.laws_eqCommit x0 x1 = some r) : Q0 71 [.agg [v0_0_, vS x0.Who, v0_2_].toArray, .agg [v1_0_, vS x1.Who, v1_2_].toArray] W0 fun Wf v => v = vB r := by
 unfold Vm.laws_eqCommit at hm
 obtain ⟨w0_0, w0_1, he0, h0_0, h0_2⟩ := Commit.split h0
 simp only [List.cons.injEq, and_true, true_and] at he0
 obtain ⟨rfl, rfl⟩ := he0
 obtain ⟨w1_0, w1_1, he1, h1_0, h1_2⟩ := Commit.split h1
 simp only [List.cons.injEq, and_true, true_and] at he1
 obtain ⟨rfl, rfl⟩ := he1
 refine CallR.of Tryd.func71 rfl rfl rfl rfl (sr (bo 2 rfl fun g1 W1 l1 b1 => ?_))
 have a2 := l1.o
 refine bo 3 rfl fun g3 W3 l3 b3 => ?_
 have a4 := a2.n l3
 refine Nb rfl (ssr (fl (b1.up l3) rfl (fl b3 rfl (ca hm (fun _ => p24 (h0_0.ul a4) (h1_0.ul a4)) fun z8 W10 hm l10 => ?_))))
 have a11 := a4.n l10
 have b12 := (b1.up l3).up l10
 refine Lw.r rfl (R.not rfl) (nl (cn hm (fun hm => ?_) fun hm => ?_))
 ·exact sr (Nb rfl (.ret (rt hm a11)))
 ·refine sk (ssr (fl b12 rfl (fl (b3.up l10) rfl (Lw.sne rfl (nl (cn hm (fun hm => ?_) fun hm => ?_))))))
  ·exact sr (Nb rfl (.ret (rt hm a11)))
  ·refine sk (ssr (fl b12 rfl (fl (b3.up l10) rfl (ca hm (fun _ => p15 (h0_2.ul a11) (h1_2.ul a11)) fun z18 W20 hm l20 => ?_))))
   have a21 := a11.n l20
   refine Lw.r rfl (R.not rfl) (nl (cn hm (fun hm => ?_) fun hm => ?_))
   ·exact sr (Nb rfl (.ret (rt hm a21)))
   ·exact sk (sr (Nb rfl (.ret (rt hm a21))))

theorem p71 {x0 v0_0_ v0_2_ x1 v1_0_ v1_2_ r} (h0 : Rd W K [v0_0_, vS x0.Who, v0_2_] x0) (h1 : Rd W K [v1_0_, vS x1.Who, v1_2_] x1) (hm : Vm.laws_eqCommit x0 x1 = some r) : Q1 71 [.agg [v0_0_, vS x0.Who, v0_2_].toArray, .agg [v1_0_, vS x1.Who, v1_2_].toArray] W [] fun W' v => v = vB r :=
 (c71 (h0.view _) (h1.view _) hm).ad (fk 0) fun _ _ e => e

theorem c25 {x0 v0_ x1 v1_ r} (h0 : Rd W0 [0] [v0_] x0) (h1 : Rd W0 [0] [v1_] x1) (hm : Vm.laws_eqCommitS x0 x1 = some r) : Q0 25 [v0_, v1_] W0 fun Wf v => v = vB r := by
 unfold Vm.laws_eqCommitS at hm
 refine CallR.of Tryd.func25 rfl rfl rfl rfl (sr (Nb rfl (ssr (mv v0_ rfl (Lw.ln x0 h0 rfl (mv v1_ rfl (Lw.ln x1 h1 rfl (Lw.ne rfl (nl (cn hm (fun hm => ?_) fun hm => ?_))))))))))
 ·exact sr (Nb rfl (.ret (rt hm (Le.refl _ _))))
 ·refine sk (ssr (Ni rfl (Cw.block ?_)))
  obtain ⟨K5, hK5, hm⟩ := jn_e hm
  refine Cw.loop 11 26 [4, 5] (fun m l w => ∃ y2 y3 W4, CW.w W4 = w ∧ Le [] W0 W4 ∧ l = [vB y2, vI y3] ∧ Vm.laws_eqCommitS_l1 x0 x1 K5 m y2 y3 = some r) _ ⟨false, 0, W0, rfl, Le.refl _ _, rfl, hm⟩ ?_
  rintro (_ | m6) _ _ σ ⟨y2, y3, W4, rfl, l4, rfl, hm⟩
  ·cases hm
  unfold Vm.laws_eqCommitS_l1 at hm
  have a7 := l4.o
  refine ssr (mi rfl (mv v0_ rfl (Lw.ln x0 (h0.ul a7) rfl (Lw.lt rfl (nl (cn hm (fun hm => ?_) fun hm => ?_))))))
  ·refine sk (Cw.seq (Cw.block (Cw.seq (Cw.draw [] [(0, 0), (1, 0), (2, 0), (3, 1), (4, 0), (5, 0), (6, 0), (7, 1), (8, 3), (9, 0)] mixed (by kernel_rfl) fun W10 l10 => ?_))))
   have a11 := a7.n l10
   refine Dv v0_ rfl (Di rfl ?_)
   obtain ⟨u12, e13, hm⟩ := ob hm
   refine Mw.p rfl rfl (fun _ => R.ix (α := Commit) (h0.ul a11) e13 rfl rfl rfl) ?_
   obtain ⟨x15, c16, _, r17⟩ := ((h0.ul a11).at_ e13).cells
   obtain ⟨v18, v20, rfl, r19, r21⟩ := Commit.split r17
   refine Mw.q rfl rfl (fun _ c => R.lda (cl_cells ((h0.ul a11).at_ e13).1 rfl c16 c) rfl rfl) (Dv v1_ rfl (Di rfl ?_))
   obtain ⟨u22, e23, hm⟩ := ob hm
   refine Mw.p rfl rfl (fun _ => R.ix (α := Commit) (h1.ul a11) e23 rfl rfl rfl) ?_
   obtain ⟨x25, c26, _, r27⟩ := ((h1.ul a11).at_ e23).cells
   obtain ⟨v28, v30, rfl, r29, r31⟩ := Commit.split r27
   refine Mw.q rfl rfl (fun _ c => R.lda (cl_cells ((h1.ul a11).at_ e23).1 rfl c26 c) rfl rfl) ?_
   obtain ⟨z32, e33, hm⟩ := ob hm
   refine Mw.l rfl rfl (T.call rfl (p71  (Commit.rd (K := [0]) u12.Parents u12.Who u12.Tree r19 r21) (Commit.rd (K := [0]) u22.Parents u22.Who u22.Tree r29 r31) e33)) ?_
   rintro _ _ ⟨W34, rfl, l34, rfl⟩
   have a35 := a11.n l34
   refine Mw.p rfl rfl (fun _ => R.not rfl) (Mw.nil (cn hm (fun hm => ?_) fun hm => ?_))
   ·exact sr (Nb rfl (.ret (rt hm a35)))
   ·exact sk (rg (mi rfl (Lw.add rfl (Ni rfl ((agm) ⟨y2, w64 (y3 + 1), W34, rfl, ((l4.j l10).j l34).w, rfl, hm⟩)))))
  ·refine Cw.exit ?_
   rw [hK5] at hm
   exact sr (Nb rfl (.ret (rt hm a7)))

theorem p25 {x0 v0_ x1 v1_ r} (h0 : Rd W K [v0_] x0) (h1 : Rd W K [v1_] x1) (hm : Vm.laws_eqCommitS x0 x1 = some r) : Q1 25 [v0_, v1_] W [] fun W' v => v = vB r :=
 (c25 (h0.view _) (h1.view _) hm).ad (fk 0) fun _ _ e => e

theorem c104 {x0 x1 r} (h0 : Rd W0 [0] [vS x0.Name, vI x0.At] x0) (h1 : Rd W0 [0] [vS x1.Name, vI x1.At] x1) (hm : Vm.laws_eqHead x0 x1 = some r) : Q0 104 [.agg [vS x0.Name, vI x0.At].toArray, .agg [vS x1.Name, vI x1.At].toArray] W0 fun Wf v => v = vB r := by
 unfold Vm.laws_eqHead at hm
 refine CallR.of Tryd.func104 rfl rfl rfl rfl (sr (bo 2 rfl fun g1 W1 l1 b1 => ?_))
 have a2 := l1.o
 refine bo 3 rfl fun g3 W3 l3 b3 => ?_
 have a4 := a2.n l3
 refine Nb rfl (ssr (fl (b1.up l3) rfl (fl b3 rfl (Lw.sne rfl (nl (cn hm (fun hm => ?_) fun hm => ?_))))))
 ·exact sr (Nb rfl (.ret (rt hm a4)))
 ·refine sk (ssr (fl (b1.up l3) rfl (fl b3 rfl (Lw.ne rfl (nl (cn hm (fun hm => ?_) fun hm => ?_))))))
  ·exact sr (Nb rfl (.ret (rt hm a4)))
  ·exact sk (sr (Nb rfl (.ret (rt hm a4))))

theorem p104 {x0 x1 r} (h0 : Rd W K [vS x0.Name, vI x0.At] x0) (h1 : Rd W K [vS x1.Name, vI x1.At] x1) (hm : Vm.laws_eqHead x0 x1 = some r) : Q1 104 [.agg [vS x0.Name, vI x0.At].toArray, .agg [vS x1.Name, vI x1.At].toArray] W [] fun W' v => v = vB r :=
 (c104 (h0.view _) (h1.view _) hm).ad (fk 0) fun _ _ e => e

theorem c54 {x0 v0_ x1 v1_ r} (h0 : Rd W0 [0] [v0_] x0) (h1 : Rd W0 [0] [v1_] x1) (hm : Vm.laws_eqHeadS x0 x1 = some r) : Q0 54 [v0_, v1_] W0 fun Wf v => v = vB r := by
 unfold Vm.laws_eqHeadS at hm
 refine CallR.of Tryd.func54 rfl rfl rfl rfl (sr (Nb rfl (ssr (mv v0_ rfl (Lw.ln x0 h0 rfl (mv v1_ rfl (Lw.ln x1 h1 rfl (Lw.ne rfl (nl (cn hm (fun hm => ?_) fun hm => ?_))))))))))
 ·exact sr (Nb rfl (.ret (rt hm (Le.refl _ _))))
 ·refine sk (ssr (Ni rfl (Cw.block ?_)))
  obtain ⟨K5, hK5, hm⟩ := jn_e hm
  refine Cw.loop 11 26 [4, 5] (fun m l w => ∃ y2 y3 W4, CW.w W4 = w ∧ Le [] W0 W4 ∧ l = [vB y2, vI y3] ∧ Vm.laws_eqHeadS_l1 x0 x1 K5 m y2 y3 = some r) _ ⟨false, 0, W0, rfl, Le.refl _ _, rfl, hm⟩ ?_
  rintro (_ | m6) _ _ σ ⟨y2, y3, W4, rfl, l4, rfl, hm⟩
  ·cases hm
  unfold Vm.laws_eqHeadS_l1 at hm
  have a7 := l4.o
  refine ssr (mi rfl (mv v0_ rfl (Lw.ln x0 (h0.ul a7) rfl (Lw.lt rfl (nl (cn hm (fun hm => ?_) fun hm => ?_))))))
  ·refine sk (Cw.seq (Cw.block (Cw.seq (Cw.draw [] [(0, 0), (1, 0), (2, 0), (3, 1), (4, 0), (5, 0), (6, 0), (7, 1), (8, 3), (9, 0)] mixed (by kernel_rfl) fun W10 l10 => ?_))))
   have a11 := a7.n l10
   refine Dv v0_ rfl (Di rfl ?_)
   obtain ⟨u12, e13, hm⟩ := ob hm
   refine Mw.p rfl rfl (fun _ => R.ix (α := Head) (h0.ul a11) e13 rfl rfl rfl) ?_
   obtain ⟨x15, c16, _, r17⟩ := ((h0.ul a11).at_ e13).cells
   obtain rfl := Head.split r17
   refine Mw.q rfl rfl (fun _ c => R.lda (cl_cells ((h0.ul a11).at_ e13).1 rfl c16 c) rfl rfl) (Dv v1_ rfl (Di rfl ?_))
   obtain ⟨u18, e19, hm⟩ := ob hm
   refine Mw.p rfl rfl (fun _ => R.ix (α := Head) (h1.ul a11) e19 rfl rfl rfl) ?_
   obtain ⟨x21, c22, _, r23⟩ := ((h1.ul a11).at_ e19).cells
   obtain rfl := Head.split r23
   refine Mw.q rfl rfl (fun _ c => R.lda (cl_cells ((h1.ul a11).at_ e19).1 rfl c22 c) rfl rfl) ?_
   obtain ⟨z24, e25, hm⟩ := ob hm
   refine Mw.l rfl rfl (T.call rfl (p104  (Head.rd (K := [0]) u12.Name u12.At ) (Head.rd (K := [0]) u18.Name u18.At ) e25)) ?_
   rintro _ _ ⟨W26, rfl, l26, rfl⟩
   have a27 := a11.n l26
   refine Mw.p rfl rfl (fun _ => R.not rfl) (Mw.nil (cn hm (fun hm => ?_) fun hm => ?_))
   ·exact sr (Nb rfl (.ret (rt hm a27)))
   ·exact sk (rg (mi rfl (Lw.add rfl (Ni rfl ((agm) ⟨y2, w64 (y3 + 1), W26, rfl, ((l4.j l10).j l26).w, rfl, hm⟩)))))
  ·refine Cw.exit ?_
   rw [hK5] at hm
   exact sr (Nb rfl (.ret (rt hm a7)))

theorem p54 {x0 v0_ x1 v1_ r} (h0 : Rd W K [v0_] x0) (h1 : Rd W K [v1_] x1) (hm : Vm.laws_eqHeadS x0 x1 = some r) : Q1 54 [v0_, v1_] W [] fun W' v => v = vB r :=
 (c54 (h0.view _) (h1.view _) hm).ad (fk 0) fun _ _ e => e

theorem c14 {x0 v0_0_ v0_1_ x1 v1_0_ v1_1_ r} (h0 : Rd W0 [0] [v0_0_, v0_1_] x0) (h1 : Rd W0 [0] [v1_0_, v1_1_] x1) (hm : Vm.laws_eqRepo x0 x1 = some r) : Q0 14 [.agg [v0_0_, v0_1_].toArray, .agg [v1_0_, v1_1_].toArray] W0 fun Wf v => v = vB r := by
 unfold Vm.laws_eqRepo at hm
 obtain ⟨w0_0, w0_1, he0, h0_0, h0_1⟩ := Repo.split h0
 simp only [List.cons.injEq, and_true, true_and] at he0
 obtain ⟨rfl, rfl⟩ := he0
 obtain ⟨w1_0, w1_1, he1, h1_0, h1_1⟩ := Repo.split h1
 simp only [List.cons.injEq, and_true, true_and] at he1
 obtain ⟨rfl, rfl⟩ := he1
 refine CallR.of Tryd.func14 rfl rfl rfl rfl (sr (bo 2 rfl fun g1 W1 l1 b1 => ?_))
 have a2 := l1.o
 refine bo 3 rfl fun g3 W3 l3 b3 => ?_
 have a4 := a2.n l3
 refine Nb rfl (ssr (fl (b1.up l3) rfl (fl b3 rfl (ca hm (fun _ => p25 (h0_0.ul a4) (h1_0.ul a4)) fun z8 W10 hm l10 => ?_))))
 have a11 := a4.n l10
 refine Lw.r rfl (R.not rfl) (nl (cn hm (fun hm => ?_) fun hm => ?_))
 ·exact sr (Nb rfl (.ret (rt hm a11)))
 ·refine sk (ssr (fl ((b1.up l3).up l10) rfl (fl (b3.up l10) rfl (ca hm (fun _ => p54 (h0_1.ul a11) (h1_1.ul a11)) fun z17 W19 hm l19 => ?_))))
  have a20 := a11.n l19
  refine Lw.r rfl (R.not rfl) (nl (cn hm (fun hm => ?_) fun hm => ?_))
  ·exact sr (Nb rfl (.ret (rt hm a20)))
  ·exact sk (sr (Nb rfl (.ret (rt hm a20))))

theorem p14 {x0 v0_0_ v0_1_ x1 v1_0_ v1_1_ r} (h0 : Rd W K [v0_0_, v0_1_] x0) (h1 : Rd W K [v1_0_, v1_1_] x1) (hm : Vm.laws_eqRepo x0 x1 = some r) : Q1 14 [.agg [v0_0_, v0_1_].toArray, .agg [v1_0_, v1_1_].toArray] W [] fun W' v => v = vB r :=
 (c14 (h0.view _) (h1.view _) hm).ad (fk 0) fun _ _ e => e

theorem c26 {x0 v0_ x1 r} (h0 : Ow W0 2 [] [v0_] x0) (hm : Vm.laws_markIntS x0 x1 = some r) : Q0 26 [v0_, vI x1] W0 fun Wf v => v = vI r.1 ∧ Ow Wf 2 [] [v0_] r.2 := by
 unfold Vm.laws_markIntS at hm
 refine CallR.of Tryd.func26 rfl rfl rfl rfl (sr (Ni rfl (ssr (Ni rfl (Cw.block ?_)))))
 obtain ⟨K6, hK6, hm⟩ := jn_e hm
 refine Cw.loop 6 17 [1, 5] (fun m l w => ∃ y1 y2 y3 W5, CW.w W5 = w ∧ Le [2] W0 W5 ∧ l = [vI y1, vI y2] ∧ Ow W5 2 [] [v0_] y3 ∧ Vm.laws_markIntS_l1 K6 m y1 y2 y3 = some r) _ ⟨x1, 0, x0, W0, rfl, Le.refl _ _, rfl, h0, hm⟩ ?_
 rintro (_ | m7) _ _ σ ⟨y1, y2, y3, W5, rfl, l5, rfl, o4, hm⟩
 ·cases hm
 unfold Vm.laws_markIntS_l1 at hm
 have a8 := l5.s
 refine ssr (mi rfl (mv v0_ rfl (Lw.ln y3 o4.rd rfl (Lw.lt rfl (nl (cn hm (fun hm => ?_) fun hm => ?_))))))
 ·refine sk (Cw.seq (Cw.block (sr (mv v0_ rfl (mi rfl (mi rfl ?_))))))
  obtain ⟨u10, e11, hm⟩ := ob hm
  refine Lw.r rfl (R.ix (α := Int) o4.rd e11 rfl rfl rfl) ?_
  obtain ⟨q13, e14, hm⟩ := ob hm
  refine Lw.u (T.stS (K' := []) o4 (rdI _) e14 rfl rfl rfl) ?_
  rintro _ _ ⟨W12, rfl, l12, o12⟩
  exact nl (rg (mi rfl (Lw.add rfl (Ni rfl (rg (mi rfl (Lw.add rfl (Ni rfl ((agm) ⟨w64 (y1 + 1), w64 (y2 + 1), q13, W12, rfl, (l5.j l12).w, rfl, o12, hm⟩)))))))))
 ·refine Cw.exit ?_
  rw [hK6] at hm
  refine sr (mi rfl (Ni rfl ?_))
  cases hm
  exact Cw.ret (ret1 rfl (Res.mk a8 ⟨rfl, o4⟩))

theorem p26 {x0 v0_ x1 c0 r} (h0 : Ow W c0 [] [v0_] x0) (hJ : okJ K [c0] = true) (hm : Vm.laws_markIntS x0 x1 = some r) : Q1 26 [v0_, vI x1] W [c0] fun W' v => v = vI r.1 ∧ Ow W' c0 [] [v0_] r.2 :=
 CallR.adJ (J := [c0]) (fun c => bif Nat.beq c 0 then 0 else bif Nat.beq c 2 then c0 else 0) (c26 (h0.viewJ 0 hJ) hm) fun _ _ ⟨e, f0⟩ => ⟨e, Ow.backJ 0 f0 rfl⟩

theorem c57 {x0 r} (hm : Vm.laws_markText x0 = some r) : Q0 57 [vI x0] W0 fun Wf v => v = vS r := by
 unfold Vm.laws_markText at hm
 refine CallR.of Tryd.func57 rfl rfl rfl rfl (sr (Ns rfl (ssr (mi rfl (Lw.le rfl (nl (cn hm (fun hm => ?_) fun hm => ?_)))))))
 ·exact sr (Ns rfl (.ret (rt hm (Le.refl _ _))))
 ·refine sk (sr (Ns rfl (Cw.seq (Cw.block ?_))))
  obtain ⟨K5, hK5, hm⟩ := jn_e hm
  refine Cw.loop 6 17 [0, 3] (fun m l w => ∃ y2 y3 W4, CW.w W4 = w ∧ Le [] W0 W4 ∧ l = [vI y2, vS y3] ∧ Vm.laws_markText_l1 K5 m y2 y3 = some r) _ ⟨x0, ([] : Str), W0, rfl, Le.refl _ _, rfl, hm⟩ ?_
  rintro (_ | m6) _ _ σ ⟨y2, y3, W4, rfl, l4, rfl, hm⟩
  ·cases hm
  unfold Vm.laws_markText_l1 at hm
  have a7 := l4.o
  refine ssr (mi rfl (Lw.gt rfl (nl (cn hm (fun hm => ?_) fun hm => ?_))))
  ·refine sk (Cw.block (sr (mi rfl (Lw.r rfl (R.rem rfl rfl (by decide)) (Lw.add rfl (Lw.r rfl (R.cv8 rfl rfl) (Lw.t rfl (T.bsS (α := Byte) (xs := [(by8 (w64 (48 + (Int.tmod y2 10))))]) 2 [] (W := W4) [.int .u8 (UInt8.toNat (by8 (w64 (48 + (Int.tmod y2 10)))) : Int)] (Each.cons ((rdY _)) Each.nil) rfl) ?_)))))))
   rintro v9 _ ⟨W9, rfl, l9, o9⟩
   refine Lw.r rfl (R.cvB (xs := ([(by8 (w64 (48 + (Int.tmod y2 10))))] : List Byte)) o9.rd rfl (fun h => h.1)) (ms rfl ?_)
   obtain ⟨q11, e12, hm⟩ := ob hm
   exact Lw.r rfl (R.sad e12 rfl rfl) (Ns rfl (rg (mi rfl (Lw.r rfl (R.quo rfl rfl (by decide)) (Ni rfl ((agm) ⟨w64 (Int.tdiv y2 10), q11, W9, rfl, (l4.j l9).w, rfl, hm⟩))))))
  ·refine Cw.exit ?_
   rw [hK5] at hm
   refine sr (ms rfl ?_)
   obtain ⟨q13, e14, hm⟩ := ob hm
   exact Lw.r rfl (R.sad e14 rfl rfl) (Ns rfl (.ret (rt hm a7)))

theorem p57 {x0 r} (hm : Vm.laws_markText x0 = some r) : Q1 57 [vI x0] W [] fun W' v => v = vS r :=
 (c57 (W0 := W.view [] [])  hm).ad (fk 0) fun _ _ e => e

theorem c58 {x0 v0_ x1 r} (h0 : Ow W0 2 [] [v0_] x0) (hm : Vm.laws_markStringS x0 x1 = some r) : Q0 58 [v0_, vI x1] W0 fun Wf v => v = vI r.1 ∧ Ow Wf 2 [] [v0_] r.2 := by
 unfold Vm.laws_markStringS at hm
 refine CallR.of Tryd.func58 rfl rfl rfl rfl (sr (Ni rfl (ssr (Ni rfl (Cw.block ?_)))))
 obtain ⟨K6, hK6, hm⟩ := jn_e hm
 refine Cw.loop 6 18 [1, 5] (fun m l w => ∃ y1 y2 y3 W5, CW.w W5 = w ∧ Le [2] W0 W5 ∧ l = [vI y1, vI y2] ∧ Ow W5 2 [] [v0_] y3 ∧ Vm.laws_markStringS_l1 K6 m y1 y2 y3 = some r) _ ⟨x1, 0, x0, W0, rfl, Le.refl _ _, rfl, h0, hm⟩ ?_
 rintro (_ | m7) _ _ σ ⟨y1, y2, y3, W5, rfl, l5, rfl, o4, hm⟩
 ·cases hm
 unfold Vm.laws_markStringS_l1 at hm
 have a8 := l5.s
 refine ssr (mi rfl (mv v0_ rfl (Lw.ln y3 o4.rd rfl (Lw.lt rfl (nl (cn hm (fun hm => ?_) fun hm => ?_))))))
 ·refine sk (Cw.seq (Cw.block (sr (mv v0_ rfl (mi rfl (mi rfl (ca hm (fun _ => p57) fun z10 W12 hm l12 => ?_)))))))
  obtain ⟨u15, e16, hm⟩ := ob hm
  refine Lw.r rfl (R.ix (α := Str) (o4.up l12).rd e16 rfl rfl rfl) ?_
  obtain ⟨q18, e19, hm⟩ := ob hm
  refine Lw.u (T.stS (K' := []) (o4.up l12) (rdS _) e19 rfl rfl rfl) ?_
  rintro _ _ ⟨W17, rfl, l17, o17⟩
  exact nl (rg (mi rfl (Lw.add rfl (Ni rfl (rg (mi rfl (Lw.add rfl (Ni rfl ((agm) ⟨w64 (y1 + 1), w64 (y2 + 1), q18, W17, rfl, ((l5.j l12).j l17).w, rfl, o17, hm⟩)))))))))
 ·refine Cw.exit ?_
  rw [hK6] at hm
  refine sr (mi rfl (Ni rfl ?_))
  cases hm
  exact Cw.ret (ret1 rfl (Res.mk a8 ⟨rfl, o4⟩))

theorem p58 {x0 v0_ x1 c0 r} (h0 : Ow W c0 [] [v0_] x0) (hJ : okJ K [c0] = true) (hm : Vm.laws_markStringS x0 x1 = some r) : Q1 58 [v0_, vI x1] W [c0] fun W' v => v = vI r.1 ∧ Ow W' c0 [] [v0_] r.2 :=
 CallR.adJ (J := [c0]) (fun c => bif Nat.beq c 0 then 0 else bif Nat.beq c 2 then c0 else 0) (c58 (h0.viewJ 0 hJ) hm) fun _ _ ⟨e, f0⟩ => ⟨e, Ow.backJ 0 f0 rfl⟩

theorem c17 {x0 v0_ x1 r} (h0 : Ow W0 2 [] [v0_] x0) (hm : Vm.laws_markFileS x0 x1 = some r) : Q0 17 [v0_, vI x1] W0 fun Wf v => v = vI r.1 ∧ Ow Wf 2 [] [v0_] r.2 := by
 unfold Vm.laws_markFileS at hm
 refine CallR.of Tryd.func17 rfl rfl rfl rfl (sr (Ni rfl (ssr (Ni rfl (Cw.block ?_)))))
 obtain ⟨K6, hK6, hm⟩ := jn_e hm
 refine Cw.loop 6 26 [1, 5] (fun m l w => ∃ y1 y2 y3 W5, CW.w W5 = w ∧ Le [2, 3] W0 W5 ∧ l = [vI y1, vI y2] ∧ Ow W5 2 [] [v0_] y3 ∧ Vm.laws_markFileS_l1 K6 m y1 y2 y3 = some r) _ ⟨x1, 0, x0, W0, rfl, Le.refl _ _, rfl, h0, hm⟩ ?_
 rintro (_ | m7) _ _ σ ⟨y1, y2, y3, W5, rfl, l5, rfl, o4, hm⟩
 ·cases hm
 unfold Vm.laws_markFileS_l1 at hm
 have a8 := l5.s
 refine ssr (mi rfl (mv v0_ rfl (Lw.ln y3 o4.rd rfl (Lw.lt rfl (nl (cn hm (fun hm => ?_) fun hm => ?_))))))
 ·refine sk (Cw.seq (Cw.block (sr (mv v0_ rfl (mi rfl (mi rfl (ca hm (fun _ => p57) fun z10 W12 hm l12 => ?_)))))))
  obtain ⟨u15, e16, hm⟩ := ob hm
  refine Lw.r rfl (R.ix (α := File) (o4.up l12).rd e16 rfl rfl rfl) (Lw.fa rfl ?_)
  obtain ⟨q18, e19, hm⟩ := ob hm
  refine Lw.u (T.stH (α := File) (β := Str) (J := []) (Ow.hole (α := File) (β := Str) (jf := 0) (o4.up l12) e16) (OwS.atm (K := []) (rdS _)) e19 rfl rfl rfl rfl) ?_
  rintro _ _ ⟨W17, rfl, l17, o17⟩
  refine nl (sr (mi rfl (Lw.add rfl (Ni rfl (rg (mv v0_ rfl (mi rfl ?_)))))))
  obtain ⟨u21, e22, hm⟩ := ob hm
  refine Lw.r rfl (R.ix (α := File) o17.rd e22 rfl rfl rfl) (Lw.fa rfl ?_)
  obtain ⟨v23, c24, r25⟩ := (File.at1 (o17.rd.at_ e22)).cell rfl
  refine Lw.r rfl (R.ld rfl rfl c24) (mi rfl ?_)
  obtain ⟨W26, ew26, l26, o26, gb26⟩ := Ow.lend (α := File) (β := List Str) (j := 3) (jf := 1) o17 e22 c24 rfl
  rw [← ew26]
  refine cr hm (fun _ => p58 (K := [0]) (c0 := 3) o26 rfl) ?_
  rintro z28 _ W30 hm l30 ⟨rfl, f30_0⟩
  obtain ⟨W33, ew33, l33, q33, eq33, o33⟩ := gb26 _ _ l30 f30_0
  obtain ⟨q33_, eqm33, hm⟩ := ob hm
  obtain rfl : q33_ = q33 := Option.some.inj (eqm33.symm.trans eq33)
  rw [← ew33]
  exact Ni rfl (rg (mi rfl (Lw.add rfl (Ni rfl ((agm) ⟨z28.1, w64 (y2 + 1), q33_, W33, rfl, (((((l5.j l12).j l17).j l26).j l30).j l33).w, rfl, o33, hm⟩)))))
 ·refine Cw.exit ?_
  rw [hK6] at hm
  refine sr (mi rfl (Ni rfl ?_))
  cases hm
  exact Cw.ret (ret1 rfl (Res.mk a8 ⟨rfl, o4⟩))

theorem p17 {x0 v0_ x1 c0 r} (h0 : Ow W c0 [] [v0_] x0) (hJ : okJ K [c0] = true) (hm : Vm.laws_markFileS x0 x1 = some r) : Q1 17 [v0_, vI x1] W [c0] fun W' v => v = vI r.1 ∧ Ow W' c0 [] [v0_] r.2 :=
 CallR.adJ (J := [c0]) (fun c => bif Nat.beq c 0 then 0 else bif Nat.beq c 2 then c0 else 0) (c17 (h0.viewJ 0 hJ) hm) fun _ _ ⟨e, f0⟩ => ⟨e, Ow.backJ 0 f0 rfl⟩

end Go.Sx
