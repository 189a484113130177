/- Walks: each function answers as its model, printed by a program of ours. Conditions: the arguments read as they are given. -/
import Derived.Test.YtkfeiopifiejgaaGreatDoorXTs
import Derived.Test.YtkfeiopifiejgaaGreatDoorXM14
import Derived.Test.YtkfeiopifiejgaaGreatDoorXW0
import Derived.Test.YtkfeiopifiejgaaGreatDoorXW1
import Derived.Test.YtkfeiopifiejgaaGreatDoorXW10
import Derived.Test.YtkfeiopifiejgaaGreatDoorXW11
import Derived.Test.YtkfeiopifiejgaaGreatDoorXW3
import Derived.Test.YtkfeiopifiejgaaGreatDoorXW6
import Derived.Test.YtkfeiopifiejgaaGreatDoorXW7
import Derived.Test.YtkfeiopifiejgaaGreatDoorXW9
namespace Go.Sx
open Go Go.Proofs Go.Vm Rp
set_option linter.unusedVariables false
set_option linter.unusedSimpArgs false

variable {W W0 : CW} {K : List Nat}
theorem c77 {x0 v0_0_ v0_1_ x1 r} (h0 : Rd W0 [0] [v0_0_, v0_1_] x0) (hm : Vm.spec_RepoDrop x0 x1 = some r) : Q0 77 [.agg [v0_0_, v0_1_].toArray, vS x1] W0 fun Wf v => ∃ u0_0 u0_1, v = .tuple [.agg [u0_0, u0_1].toArray, vB r.2].toArray ∧ OwS Wf [31] [] [u0_0] r.1.Commits ∧ OwS Wf [32] [] [u0_1] r.1.Heads := by
 unfold Vm.spec_RepoDrop at hm
 obtain ⟨w0_0, w0_1, he0, h0_0, h0_1⟩ := Repo.split h0
 simp only [List.cons.injEq, and_true, true_and] at he0
 obtain ⟨rfl, rfl⟩ := he0
 refine CallR.of Tryz.func77 rfl rfl rfl rfl (sr (bo 2 rfl fun g1 W1 l1 b1 => ?_))
 have a2 := l1.o
 refine al 3 [.slice none 0 0, .slice none 0 0] fun g3 W3 l3 b3 => ?_
 have a4 := a2.n l3
 refine Nb rfl (ssr (la (b1.up l3) (ca hm (fun _ => p38 (Repo.rd (K := [0]) x0.Commits x0.Heads (h0_0.ul a4) (h0_1.ul a4))) fun z8 W10 hm l10 => ?_)))
 have a11 := a4.n l10
 have b12 := (b1.up l3).up l10
 refine Lw.r rfl (R.not rfl) (nl (cn hm (fun hm => ?_) fun hm => ?_))
 ·refine sr (Lw.r rfl (R.bd (zs := [.slice none 0 0, .slice none 0 0]) (cs := [.slice none 0 0, .slice none 0 0]) [] rfl rfl rfl bp_nil) (sta (b3.up l10) (oc_cons rfl (oc_cons rfl oc_nil)) fun W15 l15 b15 => ?_))
  have a16 := a11.t l15
  refine Nb rfl ?_
  cases hm
  exact Cw.ret (retA2 rfl b15 rfl (Res.mk a16 ⟨.slice none 0 0, .slice none 0 0, rfl, (owsN []).sub rfl rfl, (owsN []).sub rfl rfl⟩))
 ·refine sk (sr (la b12 (cr hm (fun _ => p82 (k0 := 4) (k1 := 5) (Repo.rd (K := [0]) x0.Commits x0.Heads (h0_0.ul a11) (h0_1.ul a11))) ?_)))
  rintro z20 _ W22 hm l22 ⟨v0_0_22, v0_1_22, rfl, f22_0, f22_1⟩
  have a23 := a11.n l22
  refine al 6 [.slice none 0 0, .slice none 0 0] fun g26 W26 l26 b26 => ?_
  have a27 := a23.n l26
  refine sta b26 (oc_cons (f22_0.up l26).oc (oc_cons (f22_1.up l26).oc oc_nil)) fun W32 l32 b32 => ?_
  have a33 := a27.t l32
  have o34 := (f22_0.up l26).up l32
  refine nl (sr (fl b32 rfl (Lw.r rfl (R.bd (zs := [.slice none 0 0, .slice none 0 0]) (cs := [v0_0_22, .slice none 0 0]) [(0, v0_0_22)] rfl rfl rfl (bp_cons o34.oc rfl bp_nil)) (al 7 [.slice none 0 0, .slice none 0 0] fun g38 W38 l38 b38 => ?_))))
  have a39 := a33.n l38
  refine sta b38 (oc_cons (o34.up l38).oc (oc_cons rfl oc_nil)) fun W45 l45 b45 => ?_
  have a46 := a39.t l45
  refine nl (ssr (Ni rfl (Cw.block ?_)))
  obtain ⟨K61, hK61, hm⟩ := jn_e hm
  refine Cw.loop 18 42 [8] (fun m l w => ∃ y52 y53 y56 v54 v57 W60, CW.w W60 = w ∧ Le [7, 8] W45 W60 ∧ l = [vI y52] ∧ Ow W60 4 [] [v54] y53 ∧ Ow W60 8 [] [v57] y56 ∧ Bx W60 7 g38 [v54, v57] ∧ Vm.spec_RepoDrop_l1 x0 x1 K61 m y52 y53 y56 = some r) _ ⟨0, z20.Commits, ([] : List Head), v0_0_22, .slice none 0 0, W45, rfl, Le.refl _ _, rfl, ((o34.up l38).up l45), owN 8 [], b45, hm⟩ ?_
  rintro (_ | m62) _ _ σ ⟨y52, y53, y56, v54, v57, W60, rfl, l60, rfl, o55, o58, b59, hm⟩
  ·cases hm
  unfold Vm.spec_RepoDrop_l1 at hm
  have a63 := a46.t l60
  have b65 := (((((b12.up l22).up l26).up l32).up l38).up l45).up l60
  refine ssr ?_
  have s68 := h0_1.ul a63
  refine mi rfl (fl b65 rfl (Lw.ln x0.Heads s68 rfl (Lw.lt rfl (nl (cn hm (fun hm => ?_) fun hm => ?_)))))
  ·refine sk ?_
   obtain ⟨K78, hK78, hm⟩ := jn_e hm
   refine Cw.join 25 42 [] (fun l w => ∃ y70 y73 v71 v74 W77, CW.w W77 = w ∧ Le [7, 8] W60 W77 ∧ l = [] ∧ Ow W77 4 [] [v71] y70 ∧ Ow W77 8 [] [v74] y73 ∧ Bx W77 7 g38 [v71, v74] ∧ K78 y70 y73 = some r) ?_ ?_
   ·rintro _ _ σ ⟨y70, y73, v71, v74, W77, rfl, l77, rfl, o72, o75, b76, hm⟩
    rw [hK78] at hm
    exact rg (mi rfl (Lw.add rfl (Ni rfl ((agm) ⟨w64 (y52 + 1), y70, y73, v71, v74, W77, rfl, (l60.j l77).w, rfl, o72, o75, b76, hm⟩))))
   ·refine Cw.block (sr (fl b65 rfl (mi rfl ?_)))
    obtain ⟨u84, e85, hm⟩ := ob hm
    refine Lw.r rfl (R.ix (α := Head) s68 e85 rfl rfl rfl) (Lw.fa rfl (Lw.r rfl (R.ld rfl rfl (Head.at0 (s68.at_ e85)).str) (ms rfl (Lw.sne rfl (nl (cn hm (fun hm => ?_) fun hm => ?_))))))
    ·refine Cw.draw [8] [(0, 0), (1, 1), (2, 0), (3, 1), (4, 0), (5, 0), (6, 1), (7, 2), (8, 2), (9, 0), (10, 3)] mixed (by kernel_rfl) fun W87 l87 => ?_
     have a88 := a63.n l87
     refine Dfl (b59.up l87) rfl rfl rfl (Dfl (b65.up l87) rfl rfl rfl (Di rfl ?_))
     obtain ⟨u96, e97, hm⟩ := ob hm
     refine Mw.p rfl rfl (fun _ => R.ix (α := Head) (h0_1.ul a88) e97 rfl rfl rfl) ?_
     obtain ⟨x99, c100, _, r101⟩ := ((h0_1.ul a88).at_ e97).cells
     obtain rfl := Head.split r101
     refine Mw.q rfl rfl (fun _ c => R.lda (cl_cells ((h0_1.ul a88).at_ e97).1 rfl c100 c) rfl rfl) (Mw.t rfl rfl (T.bs 9 [.agg [vS u96.Name, vI u96.At].toArray] (cs := [vS u96.Name, vI u96.At]) rfl rfl (bsA rfl)) ?_)
     rintro _ _ ⟨g102, W102, rfl, rfl, l102, b102⟩
     refine m0 l102 fun d102 => ?_
     obtain ⟨q111, e112, hm⟩ := ob hm
     refine Mw.t rfl rfl (T.app1S (α := Head) (K' := []) ((o58.up l87).up l102) b102 (Head.rd (K := []) u96.Name u96.At) rfl rfl e112) ?_
     rintro v113 _ ⟨W113, rfl, l113, o113⟩
     refine mc d102 l113 fun d113 => Df rfl (Mw.lu rfl (T.st (j := 1) (v := v113) (((b59.up l87).up l102).up l113) rfl rfl o113.oc rfl rfl) ?_)
     rintro _ _ ⟨W122, rfl, l122, b122⟩
     exact Mw.nil ((ag) ⟨y53, q111, v54, v113, W122, rfl, (((l87.j l102).j l113).j l122).w, rfl, ((((o55.up l87).up l102).up l113).up l122), (o113.up l122), b122, hm⟩)
    ·exact sk ((ag) ⟨y53, y56, v54, v57, W60, rfl, Le.refl _ _, rfl, o55, o58, b59, hm⟩)
  ·refine Cw.exit ?_
   rw [hK61] at hm
   refine Cw.seq (Cw.draw [3] [(0, 1), (1, 0), (2, 1), (3, 0), (4, 0), (5, 1), (6, 0), (7, 0), (8, 2), (9, 0)] mixed (by kernel_rfl) fun W131 l131 => ?_)
   have a132 := a63.n l131
   have o135 := o58.up l131
   refine Mw.q rfl rfl (fun _ c => R.lda (cs := [v54, v57]) ((b59.up l131).clcs rfl c) rfl rfl) (Dfl (b59.up l131) rfl rfl rfl (Mw.p rfl rfl (fun _ => lenR (xs := y56) o135.rd rfl) (Dfl (b65.up l131) rfl rfl rfl (Mw.p rfl rfl (fun _ => lenR (xs := x0.Heads) (h0_1.ul a132) rfl) (Mw.p rfl rfl (fun _ => R.lt rfl rfl) (Mw.tu rfl (T.sta (vs := [v54, v57]) ((((((((b3.up l10).up l22).up l26).up l32).up l38).up l45).up l60).up l131) rfl rfl (oc_cons (o55.up l131).oc (oc_cons o135.oc oc_nil)) rfl rfl) ?_))))))
   rintro _ _ ⟨W141, rfl, l141, b141⟩
   have a142 := a132.t l141
   refine m0 l141 fun d141 => Hb rfl (Mw.nil ?_)
   obtain ⟨W149, ew149, l149, o149⟩ := ((o55.up l131).up l141).dyeO 31
   have a150 := a142.t l149
   obtain ⟨W157, ew157, l157, o157⟩ := ((o135.up l141).up l149).dyeO 32
   have a158 := a150.t l157
   cases hm
   rw [← ew157.trans (ew149)]
   exact Cw.ret (retA2 rfl ((b141.up l149).up l157) rfl (Res.mk a158 ⟨v54, v57, rfl, (o149.up l157).s, o157.s⟩))

theorem p77 {x0 v0_0_ v0_1_ x1 k0 k1 r} (h0 : Rd W K [v0_0_, v0_1_] x0) (hm : Vm.spec_RepoDrop x0 x1 = some r) : Q1 77 [.agg [v0_0_, v0_1_].toArray, vS x1] W [] fun W' v => ∃ u0_0 u0_1, v = .tuple [.agg [u0_0, u0_1].toArray, vB r.2].toArray ∧ Ow W' k0 [] [u0_0] r.1.Commits ∧ Ow W' k1 [] [u0_1] r.1.Heads :=
 CallR.adJ (J := []) (fun c => bif Nat.beq c 0 then 0 else bif Nat.beq c 31 then k0 else bif Nat.beq c 32 then k1 else 0) (c77 (h0.view _) hm) fun _ _ ⟨u0_0, u0_1, e, f0, f1⟩ => ⟨u0_0, u0_1, e, f0.one1.backN rfl, f1.one1.backN rfl⟩

theorem c58 {x0 g0_ v0_0_ r} (hB0 : Bx W0 2 g0_ [v0_0_, vI x0.p]) (h0_0 : Rd W0 [0] [v0_0_] x0.b) (hm : Vm.spec_l30Loose x0 = some r) : Q0 58 [ptr (bx g0_)] W0 fun Wf v => ∃ u0_0 u0_1, v = .agg [u0_0, u0_1].toArray ∧ OwS Wf [31] [] [u0_0] r.1.Commits ∧ OwS Wf [32] [] [u0_1] r.1.Heads ∧ Bx Wf 2 g0_ [v0_0_, vI r.2] := by
 unfold Vm.spec_l30Loose at hm
 refine CallR.of Tryz.func58 rfl rfl rfl rfl (sr (al 3 [.slice none 0 0, .slice none 0 0] fun g1 W1 l1 b1 => ?_))
 have a2 := l1.o
 have b3 := hB0.up l1
 refine nl (sr (mp rfl (cr hm (fun _ => p42 (k0 := 4) (k1 := 5) (c0 := 2) (x0 := x0) b3 (h0_0.ul a2) rfl) ?_)))
 rintro z5 _ W7 hm l7 ⟨v0_0_7, v0_1_7, rfl, f7_0, f7_1, f7_2⟩
 have a8 := a2.t l7
 refine al 6 [.slice none 0 0, .slice none 0 0] fun g10 W10 l10 b10 => ?_
 have a11 := a8.n l10
 refine sta b10 (oc_cons (f7_0.up l10).oc (oc_cons (f7_1.up l10).oc oc_nil)) fun W16 l16 b16 => ?_
 have a17 := a11.t l16
 refine nl (ssr (mp rfl (cr hm (fun _ => p69 (c0 := 2) (x0 := (Vm.l30Rd.mk x0.b z5.2)) ((f7_2.up l10).up l16) (h0_0.ul a17) rfl) ?_)))
 rintro z23 _ W25 hm l25 ⟨rfl, f25_0⟩
 have a26 := a17.t l25
 refine Ni rfl (Cw.block ?_)
 obtain ⟨K44, hK44, hm⟩ := jn_e hm
 refine Cw.loop 11 28 [4, 5, 6] (fun m l w => ∃ y31 y34 y36 y39 j32 j33 v37 v40 W43, CW.w W43 = w ∧ Le [2, 6, 7, 8, 9] W25 W43 ∧ l = [vI y31, j32, j33] ∧ Bx W43 2 g0_ [v0_0_, vI y34] ∧ Ow W43 4 [] [v37] y36 ∧ Ow W43 5 [] [v40] y39 ∧ Bx W43 6 g10 [v37, v40] ∧ Vm.spec_l30Loose_l1 x0 K44 m y31 y34 y36 y39 = some r) _ ⟨z23.1, z23.2, z5.1.Commits, z5.1.Heads, undef, undef, v0_0_7, v0_1_7, W25, rfl, Le.refl _ _, rfl, f25_0, (((f7_0.up l10).up l16).up l25), (((f7_1.up l10).up l16).up l25), (b16.up l25), hm⟩ ?_
 rintro (_ | m45) _ _ σ ⟨y31, y34, y36, y39, j32, j33, v37, v40, W43, rfl, l43, rfl, b35, o38, o41, b42, hm⟩
 ·cases hm
 unfold Vm.spec_l30Loose_l1 at hm
 have a46 := a26.t l43
 refine ssr (mi rfl (Lw.gt rfl (nl (cn hm (fun hm => ?_) fun hm => ?_))))
 ·refine sk ?_
  obtain ⟨K61, hK61, hm⟩ := jn_e hm
  refine Cw.join 15 28 [5, 6] (fun l w => ∃ y51 y53 y56 j49 j50 v54 v57 W60, CW.w W60 = w ∧ Le [2, 6, 7, 8, 9] W43 W60 ∧ l = [j49, j50] ∧ Bx W60 2 g0_ [v0_0_, vI y51] ∧ Ow W60 4 [] [v54] y53 ∧ Ow W60 5 [] [v57] y56 ∧ Bx W60 6 g10 [v54, v57] ∧ K61 y51 y53 y56 = some r) ?_ ?_
  ·rintro _ _ σ ⟨y51, y53, y56, j49, j50, v54, v57, W60, rfl, l60, rfl, b52, o55, o58, b59, hm⟩
   rw [hK61] at hm
   exact rg (mi rfl (Lw.sub rfl (Ni rfl ((agm) ⟨w64 (y31 - 1), y51, y53, y56, j49, j50, v54, v57, W60, rfl, (l43.j l60).w, rfl, b52, o55, o58, b59, hm⟩))))
  ·refine Cw.block (Cw.seq ?_)
   obtain ⟨z72, e73, hm⟩ := ob hm
   obtain ⟨z80, e81, hm⟩ := ob hm
   refine Cw.par [[], [], [1], [0, 1, 2], [0, 1, 2, 3], [0, 1, 2, 3, 4], [0, 1, 2, 3, 4], [], [0, 1, 2, 3, 4, 5, 7], [0, 1, 2, 3, 4, 5, 6, 7, 8]] [[], [10], [1, 10], [0, 2], [3], [3, 4], [3, 4], [], [3, 5, 7], [6]] [[], [], [2], [], [], [], [], [], [9], []] [[0], [1], [2], [3], [3, 4], [3, 5], [6], [7], [3, 7], [9], []] [[], [], [2], [7, 8], [], [], [], [9], [9], [], [2]] [0, 1, 2, 3, 4, 5, 6, 8, 9] [2, 9] [fun vs W => (vs 0) = .agg [v37, v40].toArray, fun vs W => (vs 1) = ptr (bx g0_), fun vs W => (vs 2) = vS z72.1 ∧ Bx W 2 g0_ [v0_0_, vI z72.2], fun vs W => (vs 3) = .tuple [.agg [(cellOf (cellOf (vs 3) 0) 0), (cellOf (cellOf (vs 3) 0) 1)].toArray, vB z80.2].toArray ∧ Ow W 7 [] [(cellOf (cellOf (vs 3) 0) 0)] z80.1.Commits ∧ Ow W 8 [] [(cellOf (cellOf (vs 3) 0) 1)] z80.1.Heads, fun vs W => (vs 4) = .tuple [.agg [(cellOf (cellOf (vs 3) 0) 0), (cellOf (cellOf (vs 3) 0) 1)].toArray, vB z80.2].toArray, fun vs W => (vs 5) = .agg [(cellOf (cellOf (vs 3) 0) 0), (cellOf (cellOf (vs 3) 0) 1)].toArray, fun vs W => (vs 6) = vB z80.2, fun vs W => (vs 7) = ptr (bx (pg (vs 7))) ∧ Bx W 9 (pg (vs 7)) [.slice none 0 0, .slice none 0 0], fun vs W => (vs 7) = ptr (bx (pg (vs 7))) ∧ Bx W 9 (pg (vs 7)) [(cellOf (cellOf (vs 3) 0) 0), (cellOf (cellOf (vs 3) 0) 1)], fun vs W => (vs 9) = vB z80.2] [fun _ W => Bx W 2 g0_ [v0_0_, vI y34]] mixed (by kernel_rfl) rfl (AllF.cons (fun _ _ l => b35.up l rfl) AllF.nil) ?_
   intro W107 l107
   have a108 := a46.n l107
   refine ⟨(Steps.cons ?_ (Steps.cons ?_ (Steps.cons ?_ (Steps.cons ?_ (Steps.cons ?_ (Steps.cons ?_ (Steps.cons ?_ (Steps.cons ?_ (Steps.cons ?_ (Steps.cons ?_ Steps.nil)))))))))), (Sups.cons (fun vs vs' W W' _ hv l hd h => by (show (vs' 0) = .agg [v37, v40].toArray); rw [hv 0 (anyb rfl)]; exact h) (Sups.cons (fun vs vs' W W' _ hv l hd h => by (show (vs' 1) = ptr (bx g0_)); rw [hv 1 (anyb rfl)]; exact h) (Sups.cons (fun vs vs' W W' _ hv l hd h => by (show (vs' 2) = vS z72.1 ∧ Bx W' 2 g0_ [v0_0_, vI z72.2]); rw [hv 2 (anyb rfl)]; exact ⟨h.1, h.2.up l (disj_mem hd (c := 2) rfl)⟩) (Sups.cons (fun vs vs' W W' _ hv l hd h => by (show (vs' 3) = .tuple [.agg [(cellOf (cellOf (vs' 3) 0) 0), (cellOf (cellOf (vs' 3) 0) 1)].toArray, vB z80.2].toArray ∧ Ow W' 7 [] [(cellOf (cellOf (vs' 3) 0) 0)] z80.1.Commits ∧ Ow W' 8 [] [(cellOf (cellOf (vs' 3) 0) 1)] z80.1.Heads); rw [hv 3 (anyb rfl)]; exact ⟨h.1, h.2.1.upv l (disj_mem hd (c := 7) rfl), h.2.2.upv l (disj_mem hd (c := 8) rfl)⟩) (Sups.cons (fun vs vs' W W' _ hv l hd h => by (show (vs' 4) = .tuple [.agg [(cellOf (cellOf (vs' 3) 0) 0), (cellOf (cellOf (vs' 3) 0) 1)].toArray, vB z80.2].toArray); rw [hv 3 (anyb rfl), hv 4 (anyb rfl)]; exact h) (Sups.cons (fun vs vs' W W' _ hv l hd h => by (show (vs' 5) = .agg [(cellOf (cellOf (vs' 3) 0) 0), (cellOf (cellOf (vs' 3) 0) 1)].toArray); rw [hv 3 (anyb rfl), hv 5 (anyb rfl)]; exact h) (Sups.cons (fun vs vs' W W' _ hv l hd h => by (show (vs' 6) = vB z80.2); rw [hv 6 (anyb rfl)]; exact h) (Sups.cons (fun vs vs' W W' _ hv l hd h => by (show (vs' 7) = ptr (bx (pg (vs' 7))) ∧ Bx W' 9 (pg (vs' 7)) [.slice none 0 0, .slice none 0 0]); rw [hv 7 (anyb rfl)]; exact ⟨h.1, h.2.up l (disj_mem hd (c := 9) rfl)⟩) (Sups.cons (fun vs vs' W W' _ hv l hd h => by (show (vs' 7) = ptr (bx (pg (vs' 7))) ∧ Bx W' 9 (pg (vs' 7)) [(cellOf (cellOf (vs' 3) 0) 0), (cellOf (cellOf (vs' 3) 0) 1)]); rw [hv 3 (anyb rfl), hv 7 (anyb rfl)]; exact ⟨h.1, h.2.up l (disj_mem hd (c := 9) rfl)⟩) (Sups.cons (fun vs vs' W W' _ hv l hd h => by (show (vs' 9) = vB z80.2); rw [hv 9 (anyb rfl)]; exact h) (Sups.cons (fun _ _ _ _ _ _ l hd h => h.up l (disj_mem hd (c := 2) rfl)) Sups.nil))))))))))), ?_⟩
   ·intro vs W lW hN
    obtain ⟨W114, hW114⟩ : ∃ X, X = W := ⟨W, rfl⟩
    subst hW114
    refine Tr.mono (Run.tr (R.lda (cs := [v37, v40]) ((b42.up l107).up lW rfl).cells rfl rfl)) ?_
    rintro _ _ ⟨hu, rfl⟩
    obtain rfl := hu.symm
    exact ⟨W114, rfl, Le.refl _ _, (show (.agg [v37, v40].toArray : Value) = .agg [v37, v40].toArray from rfl)⟩
   ·intro vs W lW hN
    obtain ⟨W120, hW120⟩ : ∃ X, X = W := ⟨W, rfl⟩
    subst hW120
    have o126 : Bx W120 2 g0_ [v0_0_, vI y34] := hN 10 (anyb rfl)
    refine Tr.mono (Run.tr (R.mv (v := ptr (bx g0_)) rfl)) ?_
    rintro _ _ ⟨hu, rfl⟩
    obtain rfl := hu.symm
    exact ⟨W120, rfl, Le.refl _ _, (show (ptr (bx g0_) : Value) = ptr (bx g0_) from rfl)⟩
   ·intro vs W lW hN
    obtain ⟨W127, hW127⟩ : ∃ X, X = W := ⟨W, rfl⟩
    subst hW127
    have a128 := a108.t lW rfl
    have e1_ : vs 1 = ptr (bx g0_) := (hN 1 (anyb rfl))
    obtain ⟨vs, rfl⟩ := up_eq e1_
    have o133 : Bx W127 2 g0_ [v0_0_, vI y34] := hN 10 (anyb rfl)
    refine Tr.mono (T.call rfl (p78  (c0 := 2) (x0 := (Vm.l30Rd.mk x0.b y34)) o133 (h0_0.ul a128) rfl e73)) ?_
    rintro _ _ ⟨W135, rfl, l135, ⟨rfl, f135_0⟩⟩
    exact ⟨W135, rfl, l135, (show (vS z72.1 : Value) = vS z72.1 ∧ Bx W135 2 g0_ [v0_0_, vI z72.2] from ⟨rfl, f135_0⟩)⟩
   ·intro vs W lW hN
    obtain ⟨W141, hW141⟩ : ∃ X, X = W := ⟨W, rfl⟩
    subst hW141
    have e0_ : vs 0 = .agg [v37, v40].toArray := (hN 0 (anyb rfl))
    obtain ⟨vs, rfl⟩ := up_eq e0_
    have e2_ : vs 2 = vS z72.1 := (hN 2 (anyb rfl)).1
    obtain ⟨vs, rfl⟩ := up_eq e2_
    have o147 : Bx W141 2 g0_ [v0_0_, vI z72.2] := (hN 2 (anyb rfl)).2
    refine Tr.mono (T.call rfl (p77 (K := [4, 5]) (k0 := 7) (k1 := 8) (x0 := (Vm.Repo.mk y36 y39)) (Repo.rd (K := [4, 5]) y36 y39 (((o38.up l107).up lW rfl).rd.sub (M := [4, 5]) rfl) (((o41.up l107).up lW rfl).rd.sub (M := [4, 5]) rfl)) e81)) ?_
    rintro _ _ ⟨W148, rfl, l148, ⟨v0_0_148, v0_1_148, rfl, f148_0, f148_1⟩⟩
    exact ⟨W148, rfl, l148, (show (.tuple [.agg [v0_0_148, v0_1_148].toArray, vB z80.2].toArray : Value) = .tuple [.agg [v0_0_148, v0_1_148].toArray, vB z80.2].toArray ∧ Ow W148 7 [] [v0_0_148] z80.1.Commits ∧ Ow W148 8 [] [v0_1_148] z80.1.Heads from ⟨rfl, f148_0, f148_1⟩)⟩
   ·intro vs W lW hN
    obtain ⟨W155, hW155⟩ : ∃ X, X = W := ⟨W, rfl⟩
    subst hW155
    obtain ⟨pc3_0n0, pc3_0n1, e3_⟩ : ∃ pc3_0n0 pc3_0n1 : Value, vs 3 = .tuple [.agg [pc3_0n0, pc3_0n1].toArray, vB z80.2].toArray := ⟨_, _, (hN 3 (anyb rfl)).1⟩
    obtain ⟨vs, rfl⟩ := up_eq e3_
    have o161 : Ow W155 7 [] [pc3_0n0] z80.1.Commits := (hN 3 (anyb rfl)).2.1
    have o162 : Ow W155 8 [] [pc3_0n1] z80.1.Heads := (hN 3 (anyb rfl)).2.2
    refine Tr.mono (Run.tr (R.mv (v := .tuple [.agg [pc3_0n0, pc3_0n1].toArray, vB z80.2].toArray) rfl)) ?_
    rintro _ _ ⟨hu, rfl⟩
    obtain rfl := hu.symm
    exact ⟨W155, rfl, Le.refl _ _, (show (.tuple [.agg [pc3_0n0, pc3_0n1].toArray, vB z80.2].toArray : Value) = .tuple [.agg [pc3_0n0, pc3_0n1].toArray, vB z80.2].toArray from rfl)⟩
   ·intro vs W lW hN
    obtain ⟨W163, hW163⟩ : ∃ X, X = W := ⟨W, rfl⟩
    subst hW163
    obtain ⟨pc3_0n0, pc3_0n1, e3_⟩ : ∃ pc3_0n0 pc3_0n1 : Value, vs 3 = .tuple [.agg [pc3_0n0, pc3_0n1].toArray, vB z80.2].toArray := ⟨_, _, (hN 3 (anyb rfl)).1⟩
    obtain ⟨vs, rfl⟩ := up_eq e3_
    have o169 : Ow W163 7 [] [pc3_0n0] z80.1.Commits := (hN 3 (anyb rfl)).2.1
    have o170 : Ow W163 8 [] [pc3_0n1] z80.1.Heads := (hN 3 (anyb rfl)).2.2
    have e4_ : vs 4 = .tuple [.agg [pc3_0n0, pc3_0n1].toArray, vB z80.2].toArray := (hN 4 (anyb rfl))
    obtain ⟨vs, rfl⟩ := up_eq e4_
    refine Tr.mono (Run.tr (R.ext (vs := [.agg [pc3_0n0, pc3_0n1].toArray, vB z80.2]) (v := .agg [pc3_0n0, pc3_0n1].toArray) rfl rfl)) ?_
    rintro _ _ ⟨hu, rfl⟩
    obtain rfl := hu.symm
    exact ⟨W163, rfl, Le.refl _ _, (show (.agg [pc3_0n0, pc3_0n1].toArray : Value) = .agg [pc3_0n0, pc3_0n1].toArray from rfl)⟩
   ·intro vs W lW hN
    obtain ⟨W171, hW171⟩ : ∃ X, X = W := ⟨W, rfl⟩
    subst hW171
    obtain ⟨pc3_0n0, pc3_0n1, e3_⟩ : ∃ pc3_0n0 pc3_0n1 : Value, vs 3 = .tuple [.agg [pc3_0n0, pc3_0n1].toArray, vB z80.2].toArray := ⟨_, _, (hN 3 (anyb rfl)).1⟩
    obtain ⟨vs, rfl⟩ := up_eq e3_
    have o177 : Ow W171 7 [] [pc3_0n0] z80.1.Commits := (hN 3 (anyb rfl)).2.1
    have o178 : Ow W171 8 [] [pc3_0n1] z80.1.Heads := (hN 3 (anyb rfl)).2.2
    have e4_ : vs 4 = .tuple [.agg [pc3_0n0, pc3_0n1].toArray, vB z80.2].toArray := (hN 4 (anyb rfl))
    obtain ⟨vs, rfl⟩ := up_eq e4_
    refine Tr.mono (Run.tr (R.ext (vs := [.agg [pc3_0n0, pc3_0n1].toArray, vB z80.2]) (v := vB z80.2) rfl rfl)) ?_
    rintro _ _ ⟨hu, rfl⟩
    obtain rfl := hu.symm
    exact ⟨W171, rfl, Le.refl _ _, (show (vB z80.2 : Value) = vB z80.2 from rfl)⟩
   ·intro vs W lW hN
    obtain ⟨W179, hW179⟩ : ∃ X, X = W := ⟨W, rfl⟩
    subst hW179
    refine Tr.mono (T.alloc 9 (cs := [.slice none 0 0, .slice none 0 0]) rfl) ?_
    rintro _ _ ⟨g185, W185, rfl, rfl, l185, b185⟩
    exact ⟨W185, rfl, l185, (show (ptr (bx g185) : Value) = ptr (bx g185) ∧ Bx W185 9 g185 [.slice none 0 0, .slice none 0 0] from ⟨rfl, b185⟩)⟩
   ·intro vs W lW hN
    obtain ⟨W191, hW191⟩ : ∃ X, X = W := ⟨W, rfl⟩
    subst hW191
    obtain ⟨pc3_0n0, pc3_0n1, e3_⟩ : ∃ pc3_0n0 pc3_0n1 : Value, vs 3 = .tuple [.agg [pc3_0n0, pc3_0n1].toArray, vB z80.2].toArray := ⟨_, _, (hN 3 (anyb rfl)).1⟩
    obtain ⟨vs, rfl⟩ := up_eq e3_
    have o197 : Ow W191 7 [] [pc3_0n0] z80.1.Commits := (hN 3 (anyb rfl)).2.1
    have o198 : Ow W191 8 [] [pc3_0n1] z80.1.Heads := (hN 3 (anyb rfl)).2.2
    have e5_ : vs 5 = .agg [pc3_0n0, pc3_0n1].toArray := (hN 5 (anyb rfl))
    obtain ⟨vs, rfl⟩ := up_eq e5_
    obtain ⟨pg7, e7_⟩ : ∃ pg7, vs 7 = ptr (bx pg7) := ⟨_, ((hN 7 (anyb rfl))).1⟩
    obtain ⟨vs, rfl⟩ := up_eq e7_
    have o199 : Bx W191 9 pg7 [.slice none 0 0, .slice none 0 0] := (hN 7 (anyb rfl)).2
    refine Tr.mono (T.sta (vs := [pc3_0n0, pc3_0n1]) o199 rfl rfl (oc_cons o197.oc (oc_cons o198.oc oc_nil)) rfl rfl) ?_
    rintro _ _ ⟨W200, rfl, l200, b200⟩
    exact ⟨W200, rfl, l200, (show (ptr (bx pg7)) = ptr (bx pg7) ∧ Bx W200 9 pg7 [pc3_0n0, pc3_0n1] from ⟨rfl, b200⟩)⟩
   ·intro vs W lW hN
    obtain ⟨W208, hW208⟩ : ∃ X, X = W := ⟨W, rfl⟩
    subst hW208
    have e6_ : vs 6 = vB z80.2 := (hN 6 (anyb rfl))
    obtain ⟨vs, rfl⟩ := up_eq e6_
    refine Tr.mono (Run.tr (R.as (v := vB z80.2) rfl)) ?_
    rintro _ _ ⟨hu, rfl⟩
    obtain rfl := hu.symm
    exact ⟨W208, rfl, Le.refl _ _, (show (vB z80.2 : Value) = vB z80.2 from rfl)⟩
   ·intro vs W lW hN
    obtain ⟨W214, hW214⟩ : ∃ X, X = W := ⟨W, rfl⟩
    subst hW214
    have o216 := (o38.up l107).up lW rfl
    have o217 := (o41.up l107).up lW rfl
    have b219 := (b42.up l107).up lW rfl
    obtain ⟨l214, hl214⟩ : ∃ x, x = lW := ⟨lW, rfl⟩
    have e0_ : vs 0 = .agg [v37, v40].toArray := (hN 0 (anyb rfl))
    obtain ⟨vs, rfl⟩ := up_eq e0_
    have e1_ : vs 1 = ptr (bx g0_) := (hN 1 (anyb rfl))
    obtain ⟨vs, rfl⟩ := up_eq e1_
    have e2_ : vs 2 = vS z72.1 := (hN 2 (anyb rfl)).1
    obtain ⟨vs, rfl⟩ := up_eq e2_
    have o220 : Bx W214 2 g0_ [v0_0_, vI z72.2] := (hN 2 (anyb rfl)).2
    obtain ⟨pc3_0n0, pc3_0n1, e3_⟩ : ∃ pc3_0n0 pc3_0n1 : Value, vs 3 = .tuple [.agg [pc3_0n0, pc3_0n1].toArray, vB z80.2].toArray := ⟨_, _, (hN 3 (anyb rfl)).1⟩
    obtain ⟨vs, rfl⟩ := up_eq e3_
    have o221 : Ow W214 7 [] [pc3_0n0] z80.1.Commits := (hN 3 (anyb rfl)).2.1
    have o222 : Ow W214 8 [] [pc3_0n1] z80.1.Heads := (hN 3 (anyb rfl)).2.2
    have e4_ : vs 4 = .tuple [.agg [pc3_0n0, pc3_0n1].toArray, vB z80.2].toArray := (hN 4 (anyb rfl))
    obtain ⟨vs, rfl⟩ := up_eq e4_
    have e5_ : vs 5 = .agg [pc3_0n0, pc3_0n1].toArray := (hN 5 (anyb rfl))
    obtain ⟨vs, rfl⟩ := up_eq e5_
    have e6_ : vs 6 = vB z80.2 := (hN 6 (anyb rfl))
    obtain ⟨vs, rfl⟩ := up_eq e6_
    obtain ⟨pg7, e7_⟩ : ∃ pg7, vs 7 = ptr (bx pg7) := ⟨_, (hN 8 (anyb rfl)).1⟩
    obtain ⟨vs, rfl⟩ := up_eq e7_
    have o223 : Bx W214 9 pg7 [pc3_0n0, pc3_0n1] := (hN 8 (anyb rfl)).2
    have e9_ : vs 9 = vB z80.2 := (hN 9 (anyb rfl))
    obtain ⟨vs, rfl⟩ := up_eq e9_
    obtain ⟨K226, hK226, hm⟩ := jn_e hm
    refine Cw.join 22 27 [27] (fun l w => ∃ y224 W225, CW.w W225 = w ∧ Le [] W214 W225 ∧ l = [vB y224] ∧ K226 y224 = some r) ?_ ?_
    ·rintro _ _ σ ⟨y224, W225, rfl, l225, rfl, hm⟩
     rw [hK226] at hm
     refine cn hm (fun hm => ?_) fun hm => ?_
     ·refine rg (la (o223.up l225) (sta (b219.up l225) (oc_cons (o221.up l225).oc (oc_cons (o222.up l225).oc oc_nil)) fun W237 l237 b237 => nl ?_))
      obtain ⟨W246, ew246, l246, o246⟩ := ((o221.up l225).up l237).dyeO 4
      obtain ⟨W254, ew254, l254, o254⟩ := (((o222.up l225).up l237).up l246).dyeO 5
      exact (ag) ⟨z72.2, z80.1.Commits, z80.1.Heads, ptr (bx pg7), vB z80.2, pc3_0n0, pc3_0n1, W254, ew254.trans (ew246), (((((l107.j l214).j l225).j l237).j l246).j l254).w, rfl, ((((o220.up l225).up l237).up l246).up l254), (o246.up l254), o254, ((b237.up l246).up l254), hm⟩
     ·exact sk ((ag) ⟨z72.2, y36, y39, ptr (bx pg7), vB z80.2, v37, v40, W225, rfl, ((l107.j l214).j l225).w, rfl, (o220.up l225), (o216.up l225), (o217.up l225), (b219.up l225), hm⟩)
    ·refine rg (Lw.r rfl (R.lda (cs := [pc3_0n0, pc3_0n1]) o223.cells rfl rfl) (ca hm (fun _ => p38 (K := [7, 8]) (x0 := (Vm.Repo.mk z80.1.Commits z80.1.Heads)) (Repo.rd (K := [7, 8]) z80.1.Commits z80.1.Heads (o221.rd.sub (M := [7, 8]) rfl) (o222.rd.sub (M := [7, 8]) rfl))) fun z261 W263 hm l263 => mb rfl (bs hm (fun hc273 hm => ?_) fun hc273 hm => ?_)))
     ·exact wak 2 hc273 (la (b219.up l263) (ca hm (fun _ => p38 (K := [4, 5]) (x0 := (Vm.Repo.mk y36 y39)) (Repo.rd (K := [4, 5]) y36 y39 ((o216.up l263).rd.sub (M := [4, 5]) rfl) ((o217.up l263).rd.sub (M := [4, 5]) rfl))) fun z274 W276 hm l276 => Pb hc273 rfl (nl ((ag) ⟨z274, W276, rfl, (l263.j l276).w, rfl, hm⟩))))
     ·exact psk 2 hc273 rfl (Pb hc273 rfl (nl ((ag) ⟨false, W263, rfl, l263, rfl, hm⟩)))
 ·refine Cw.exit ?_
  rw [hK44] at hm
  refine sr (la b42 (sta (((((b1.up l7).up l10).up l16).up l25).up l43) (oc_cons o38.oc (oc_cons o41.oc oc_nil)) fun W286 l286 b286 => ?_))
  have a287 := a46.t l286
  refine nl ?_
  obtain ⟨W292, ew292, l292, o292⟩ := (o38.up l286).dyeO 31
  have a293 := a287.t l292
  obtain ⟨W298, ew298, l298, o298⟩ := ((o41.up l286).up l292).dyeO 32
  have a299 := a293.t l298
  cases hm
  rw [← ew298.trans (ew292)]
  exact Cw.ret (retA1 rfl ((b286.up l292).up l298) (Res.mk a299 ⟨v37, v40, rfl, (o292.up l298).s, o298.s, (((b35.up l286).up l292).up l298)⟩))

theorem p58 {x0 g0_ v0_0_ k0 k1 c0 r} (hB0 : Bx W c0 g0_ [v0_0_, vI x0.p]) (h0_0 : Rd W K [v0_0_] x0.b) (hJ : okJ K [c0] = true) (hm : Vm.spec_l30Loose x0 = some r) : Q1 58 [ptr (bx g0_)] W [c0] fun W' v => ∃ u0_0 u0_1, v = .agg [u0_0, u0_1].toArray ∧ Ow W' k0 [] [u0_0] r.1.Commits ∧ Ow W' k1 [] [u0_1] r.1.Heads ∧ Bx W' c0 g0_ [v0_0_, vI r.2] :=
 CallR.adJ (J := [c0]) (fun c => bif Nat.beq c 0 then 0 else bif Nat.beq c 2 then c0 else bif Nat.beq c 31 then k0 else bif Nat.beq c 32 then k1 else 0) (c58 (hB0.viewJ 0 hJ) (h0_0.view _) hm) fun _ _ ⟨u0_0, u0_1, e, f0, f1, f2⟩ => ⟨u0_0, u0_1, e, f0.one1.backN rfl, f1.one1.backN rfl, Bx.backJ 0 f2 rfl⟩

theorem c27 {x0 v0_ r} (h0 : Rd W0 [0] [v0_] x0) (hm : Vm.spec_DrawKeepLive x0 = some r) : Q0 27 [v0_] W0 fun Wf v => ∃ u0_0 u0_1, v = .agg [u0_0, u0_1].toArray ∧ OwS Wf [31] [] [u0_0] r.Commits ∧ OwS Wf [32] [] [u0_1] r.Heads := by
 unfold Vm.spec_DrawKeepLive at hm
 refine CallR.of Tryz.func27 rfl rfl rfl rfl (sr (al 2 [.slice none 0 0, .slice none 0 0] fun g1 W1 l1 b1 => ?_))
 have a2 := l1.o
 refine nl (sr (mv v0_ rfl (cr hm (fun _ => p41 (k0 := 3) (h0.ul a2)) ?_)))
 rintro z4 _ W6 hm l6 ⟨g0_6, v0_0_6, rfl, f6_0, f6_1⟩
 have s7 := f6_1.sub (M := [0]) rfl
 have a8 := a2.n l6
 refine cr hm (fun _ => p58 (k0 := 4) (k1 := 5) (c0 := 3) (x0 := z4) f6_0 s7 rfl) ?_
 rintro z10 _ W12 hm l12 ⟨v0_0_12, v0_1_12, rfl, f12_0, f12_1, f12_2⟩
 have a13 := a8.t l12
 refine sta ((b1.up l6).up l12) (oc_cons f12_0.oc (oc_cons f12_1.oc oc_nil)) fun W15 l15 b15 => ?_
 have a16 := a13.t l15
 refine nl ?_
 obtain ⟨W20, ew20, l20, o20⟩ := (f12_0.up l15).dyeO 31
 have a21 := a16.t l20
 obtain ⟨W25, ew25, l25, o25⟩ := ((f12_1.up l15).up l20).dyeO 32
 have a26 := a21.t l25
 cases hm
 rw [← ew25.trans (ew20)]
 exact Cw.ret (retA1 rfl ((b15.up l20).up l25) (Res.mk a26 ⟨v0_0_12, v0_1_12, rfl, (o20.up l25).s, o25.s⟩))

theorem p27 {x0 v0_ k0 k1 r} (h0 : Rd W K [v0_] x0) (hm : Vm.spec_DrawKeepLive x0 = some r) : Q1 27 [v0_] W [] fun W' v => ∃ u0_0 u0_1, v = .agg [u0_0, u0_1].toArray ∧ Ow W' k0 [] [u0_0] r.Commits ∧ Ow W' k1 [] [u0_1] r.Heads :=
 CallR.adJ (J := []) (fun c => bif Nat.beq c 0 then 0 else bif Nat.beq c 31 then k0 else bif Nat.beq c 32 then k1 else 0) (c27 (h0.view _) hm) fun _ _ ⟨u0_0, u0_1, e, f0, f1⟩ => ⟨u0_0, u0_1, e, f0.one1.backN rfl, f1.one1.backN rfl⟩

theorem c59 {x0 v0_0_ v0_1_ r} (h0 : Rd W0 [0] [v0_0_, v0_1_] x0) (hm : Vm.impl_Repo_live x0 = some r) : Q0 59 [.agg [v0_0_, v0_1_].toArray] W0 fun Wf v => ∃ u0, v = u0 ∧ OwS Wf LL [] [u0] r := by
 unfold Vm.impl_Repo_live at hm
 obtain ⟨w0_0, w0_1, he0, h0_0, h0_1⟩ := Repo.split h0
 simp only [List.cons.injEq, and_true, true_and] at he0
 obtain ⟨rfl, rfl⟩ := he0
 refine CallR.of Tryz.func59 rfl rfl rfl rfl (sr (bo 2 rfl fun g1 W1 l1 b1 => ?_))
 have a2 := l1.o
 refine Nv (.slice none 0 0) rfl (sr (fl b1 rfl (Lw.ln x0.Commits (h0_0.ul a2) rfl ?_)))
 obtain ⟨q4, e5, hm⟩ := ob hm
 refine Lw.t rfl (T.mk (α := Bool) 3 [] (n := (x0.Commits.length : Int)) rfl rfl e5) ?_
 rintro v6 _ ⟨W6, rfl, l6, o6⟩
 have a7 := a2.n l6
 refine Nv v6 rfl (ssr (fl (b1.up l6) rfl (Lw.ln x0.Heads (h0_1.ul a7) rfl (mi rfl (nl (Cw.block ?_))))))
 obtain ⟨K16, hK16, hm⟩ := jn_e hm
 refine Cw.loop 15 33 [5, 7, 15] (fun m l w => ∃ y12 y13 j10 j11 W15, CW.w W15 = w ∧ Le [3, 4] W6 W15 ∧ l = [j10, j11, vI y12] ∧ Ow W15 3 [] [v6] y13 ∧ Vm.impl_Repo_live_l1 x0 K16 m y12 y13 = some r) _ ⟨0, q4, undef, undef, W6, rfl, Le.refl _ _, rfl, o6, hm⟩ ?_
 rintro (_ | m17) _ _ σ ⟨y12, y13, j10, j11, W15, rfl, l15, rfl, o14, hm⟩
 ·cases hm
 unfold Vm.impl_Repo_live_l1 at hm
 have a18 := a7.t l15
 refine sr (Lw.lt rfl (nl (Cw.seq (cn hm (fun hm => ?_) fun hm => ?_))))
 ·refine sk (Cw.seq (Cw.block (sr ?_)))
  obtain ⟨u21, e22, hm⟩ := ob hm
  refine Lw.r rfl (R.ix (α := Head) (h0_1.ul a18) e22 rfl rfl rfl) ?_
  obtain ⟨x24, c25, _, r26⟩ := ((h0_1.ul a18).at_ e22).cells
  obtain rfl := Head.split r26
  refine Lw.r rfl (R.lda c25 rfl rfl) (al 4 [vS ([] : Str), vI 0] fun g27 W27 l27 b27 => ?_)
  have a28 := a18.n l27
  refine sta b27 (oc_cons rfl (oc_cons rfl oc_nil)) fun W31 l31 b31 => ?_
  have a32 := a28.t l31
  refine nl (sr (la ((((b1.up l6).up l15).up l27).up l31) (fl b31 rfl (cr hm (fun _ => p40 (k0 := 5) (Repo.rd (K := [0]) x0.Commits x0.Heads (h0_0.ul a32) (h0_1.ul a32))) ?_))))
  rintro z37 v0_39 W39 hm l39 ⟨_, rfl, f39_0⟩
  refine cr hm (fun _ => p52 (K := [5]) (k0 := 6) f39_0.rd) ?_
  rintro z44 v0_46 W46 hm l46 ⟨_, rfl, f46_0⟩
  refine Lw.ln z44 f46_0.rd rfl (mi rfl (nl (Cw.block ?_)))
  obtain ⟨K57, hK57, hm⟩ := jn_e hm
  refine Cw.loop 25 32 [7, 25] (fun m l w => ∃ y53 y54 j52 W56, CW.w W56 = w ∧ Le [3] W46 W56 ∧ l = [j52, vI y53] ∧ Ow W56 3 [] [v6] y54 ∧ Vm.impl_Repo_live_l2 z44 K57 m y53 y54 = some r) _ ⟨0, y13, j11, W46, rfl, Le.refl _ _, rfl, ((((o14.up l27).up l31).up l39).up l46), hm⟩ ?_
  rintro (_ | m58) _ _ σ ⟨y53, y54, j52, W56, rfl, l56, rfl, o55, hm⟩
  ·cases hm
  unfold Vm.impl_Repo_live_l2 at hm
  refine sr (Lw.lt rfl (nl (Cw.seq (cn hm (fun hm => ?_) fun hm => ?_))))
  ·refine sk (Cw.seq (Cw.block (sr ?_)))
   obtain ⟨u65, e66, hm⟩ := ob hm
   refine Lw.r rfl (R.ix (α := Int) (f46_0.up l56).rd e66 rfl rfl rfl) (Lw.r rfl (R.ld rfl rfl ((f46_0.up l56).rd.at_ e66).int) (Ni rfl (rg (mv v6 rfl (mi rfl ?_)))))
   obtain ⟨u67, e68, hm⟩ := ob hm
   refine Lw.r rfl (R.ix (α := Bool) o55.rd e68 rfl rfl rfl) ?_
   obtain ⟨q70, e71, hm⟩ := ob hm
   refine Lw.u (T.stS (K' := []) o55 (rdB _) e71 rfl rfl rfl) ?_
   rintro _ _ ⟨W69, rfl, l69, o69⟩
   exact nl (rg (Lw.add rfl (mi rfl (nl ((agm) ⟨w64 (y53 + 1), q70, vI u65, W69, rfl, (l56.j l69).w, rfl, o69, hm⟩)))))
  ·refine Cw.exit ?_
   rw [hK57] at hm
   exact rg (Lw.add rfl (mi rfl (nl ((agm) ⟨w64 (y12 + 1), y54, ptr (bx g27), j52, W56, rfl, (((((l15.j l27).j l31).j l39).j l46).j l56).w, rfl, o55, hm⟩))))
 ·refine Cw.exit ?_
  rw [hK16] at hm
  refine sr (mv v6 rfl (Nv v6 rfl ?_))
  cases hm
  exact Cw.ret (ret1 rfl (Res.mk a18 ⟨v6, rfl, o14.s.sub rfl rfl⟩))

theorem p59 {x0 v0_0_ v0_1_ k0 r} (h0 : Rd W K [v0_0_, v0_1_] x0) (hm : Vm.impl_Repo_live x0 = some r) : Q1 59 [.agg [v0_0_, v0_1_].toArray] W [] fun W' v => ∃ u0, v = u0 ∧ Ow W' k0 [] [u0] r :=
 (c59 (h0.view _) hm).ad (fk k0) fun _ _ ⟨u0, e, f0⟩ => ⟨u0, e, f0.back (fk_LL _)⟩

theorem c28 {x0 v0_0_ v0_1_ r} (h0 : Rd W0 [0] [v0_0_, v0_1_] x0) (h99 : Gl 0 W0 [0]) (hm : Vm.impl_KeepLive x0 = some r) : Q0 28 [.agg [v0_0_, v0_1_].toArray] W0 fun Wf v => ∃ u0, v = u0 ∧ OwS Wf LL [] [u0] r := by
 unfold Vm.impl_KeepLive at hm
 obtain ⟨w0_0, w0_1, he0, h0_0, h0_1⟩ := Repo.split h0
 simp only [List.cons.injEq, and_true, true_and] at he0
 obtain ⟨rfl, rfl⟩ := he0
 refine CallR.of Tryz.func28 rfl rfl rfl rfl (sr (bo 2 rfl fun g1 W1 l1 b1 => ?_))
 have a2 := l1.o
 refine Nv (.slice none 0 0) rfl (ssr (la b1 (ca hm (fun _ => p18 (Repo.rd (K := [0]) x0.Commits x0.Heads (h0_0.ul a2) (h0_1.ul a2)) (h99.ul a2)) fun z6 W8 hm l8 => ?_)))
 have a9 := a2.n l8
 refine Lw.r rfl (R.not rfl) (nl (cn hm (fun hm => ?_) fun hm => ?_))
 ·refine sr (Nv (.slice none 0 0) rfl ?_)
  cases hm
  exact Cw.ret (ret1 rfl (Res.mk a9 ⟨.slice none 0 0, rfl, (owsN []).sub rfl rfl⟩))
 ·refine sk (sr (la (b1.up l8) (cr hm (fun _ => p59 (k0 := 3) (Repo.rd (K := [0]) x0.Commits x0.Heads (h0_0.ul a9) (h0_1.ul a9))) ?_)))
  rintro z14 v0_16 W16 hm l16 ⟨_, rfl, f16_0⟩
  have a17 := a9.n l16
  refine cr hm (fun _ => p52 (K := [3]) (k0 := 4) f16_0.rd) ?_
  rintro z19 v0_21 W21 hm l21 ⟨_, rfl, f21_0⟩
  have a22 := a17.n l21
  refine Nv v0_21 rfl ?_
  cases hm
  exact Cw.ret (ret1 rfl (Res.mk a22 ⟨v0_21, rfl, f21_0.s.sub rfl rfl⟩))

theorem p28 {x0 v0_0_ v0_1_ k0 r} (h0 : Rd W K [v0_0_, v0_1_] x0) (h99 : Gl 0 W K) (hm : Vm.impl_KeepLive x0 = some r) : Q1 28 [.agg [v0_0_, v0_1_].toArray] W [] fun W' v => ∃ u0, v = u0 ∧ Ow W' k0 [] [u0] r :=
 (c28 (h0.view _) (h99.view _) hm).ad (fk k0) fun _ _ ⟨u0, e, f0⟩ => ⟨u0, e, f0.back (fk_LL _)⟩

theorem c60 {x0 v0_0_ v0_1_ r} (h0 : Rd W0 [0] [v0_0_, v0_1_] x0) (hm : Vm.spec_l14Live x0 = some r) : Q0 60 [.agg [v0_0_, v0_1_].toArray] W0 fun Wf v => ∃ u0, v = u0 ∧ OwS Wf LL [] [u0] r := by
 unfold Vm.spec_l14Live at hm
 obtain ⟨w0_0, w0_1, he0, h0_0, h0_1⟩ := Repo.split h0
 simp only [List.cons.injEq, and_true, true_and] at he0
 obtain ⟨rfl, rfl⟩ := he0
 refine CallR.of Tryz.func60 rfl rfl rfl rfl (sr (bo 2 rfl fun g1 W1 l1 b1 => ?_))
 have a2 := l1.o
 refine Nv (.slice none 0 0) rfl (sr (fl b1 rfl (Lw.ln x0.Commits (h0_0.ul a2) rfl ?_)))
 obtain ⟨q4, e5, hm⟩ := ob hm
 refine Lw.t rfl (T.mk (α := Bool) 3 [] (n := (x0.Commits.length : Int)) rfl rfl e5) ?_
 rintro v6 _ ⟨W6, rfl, l6, o6⟩
 have a7 := a2.n l6
 refine Nv v6 rfl (ssr (Ni rfl (Cw.block ?_)))
 obtain ⟨K15, hK15, hm⟩ := jn_e hm
 refine Cw.loop 13 39 [4, 5, 6] (fun m l w => ∃ y9 y12 j10 j11 W14, CW.w W14 = w ∧ Le [3] W6 W14 ∧ l = [vI y9, j10, j11] ∧ Ow W14 3 [] [v6] y12 ∧ Vm.spec_l14Live_l1 x0 K15 m y9 y12 = some r) _ ⟨0, q4, undef, undef, W6, rfl, Le.refl _ _, rfl, o6, hm⟩ ?_
 rintro (_ | m16) _ _ σ ⟨y9, y12, j10, j11, W14, rfl, l14, rfl, o13, hm⟩
 ·cases hm
 unfold Vm.spec_l14Live_l1 at hm
 have a17 := a7.t l14
 have b18 := (b1.up l6).up l14
 refine ssr (mi rfl (fl b18 rfl (Lw.ln x0.Heads (h0_1.ul a17) rfl (Lw.lt rfl (nl (cn hm (fun hm => ?_) fun hm => ?_))))))
 ·refine sk (Cw.seq (Cw.block (Cw.seq (Cw.draw [] [(0, 1), (1, 0), (2, 1), (3, 0), (4, 0), (5, 0), (6, 1), (7, 2), (8, 0)] mixed (by kernel_rfl) fun W21 l21 => ?_))))
  have a22 := a17.n l21
  refine Mw.q rfl rfl (fun _ c => R.lda (cs := [v0_0_, v0_1_]) ((b18.up l21).clcs rfl c) rfl rfl) (Dfl (b18.up l21) rfl rfl rfl (Di rfl ?_))
  obtain ⟨u25, e26, hm⟩ := ob hm
  have s27 := h0_1.ul a22
  refine Mw.p rfl rfl (fun _ => R.ix (α := Head) s27 e26 rfl rfl rfl) (Df rfl (Mw.q rfl rfl (fun _ c => R.ld rfl rfl (cl_cell (Head.at1 (s27.at_ e26)).1 rfl (Head.at1 (s27.at_ e26)).int c)) (Dc hm (Le.refl _ _) (fun _ => p47 (k0 := 4) (Repo.rd (K := [0]) x0.Commits x0.Heads (h0_0.ul a22) s27)) rfl ?_)))
  rintro z29 v0_31 W31 hm l31 ⟨_, rfl, f31_0⟩ d31
  refine Hv v0_31 rfl (Mw.nil (sr (Ni rfl (Cw.block ?_))))
  obtain ⟨K39, hK39, hm⟩ := jn_e hm
  refine Cw.loop 28 39 [6] (fun m l w => ∃ y35 y36 W38, CW.w W38 = w ∧ Le [3] W31 W38 ∧ l = [vI y35] ∧ Ow W38 3 [] [v6] y36 ∧ Vm.spec_l14Live_l2 z29 K39 m y35 y36 = some r) _ ⟨0, y12, W31, rfl, Le.refl _ _, rfl, ((o13.up l21).up l31), hm⟩ ?_
  rintro (_ | m40) _ _ σ ⟨y35, y36, W38, rfl, l38, rfl, o37, hm⟩
  ·cases hm
  unfold Vm.spec_l14Live_l2 at hm
  have o42 := f31_0.up l38
  refine ssr (mi rfl (mv v0_31 rfl (Lw.ln z29 o42.rd rfl (Lw.lt rfl (nl (cn hm (fun hm => ?_) fun hm => ?_))))))
  ·refine sk (Cw.seq (Cw.block (rg (mv v6 rfl (mv v0_31 rfl (mi rfl ?_))))))
   obtain ⟨u45, e46, hm⟩ := ob hm
   refine Lw.r rfl (R.ix (α := Int) o42.rd e46 rfl rfl rfl) (Lw.r rfl (R.ld rfl rfl (o42.rd.at_ e46).int) ?_)
   obtain ⟨u47, e48, hm⟩ := ob hm
   refine Lw.r rfl (R.ix (α := Bool) o37.rd e48 rfl rfl rfl) ?_
   obtain ⟨q50, e51, hm⟩ := ob hm
   refine Lw.u (T.stS (K' := []) o37 (rdB _) e51 rfl rfl rfl) ?_
   rintro _ _ ⟨W49, rfl, l49, o49⟩
   exact nl (rg (mi rfl (Lw.add rfl (Ni rfl ((agm) ⟨w64 (y35 + 1), q50, W49, rfl, (l38.j l49).w, rfl, o49, hm⟩)))))
  ·refine Cw.exit ?_
   rw [hK39] at hm
   exact rg (mi rfl (Lw.add rfl (Ni rfl ((agm) ⟨w64 (y9 + 1), y36, v0_31, vI y35, W38, rfl, (((l14.j l21).j l31).j l38).w, rfl, o37, hm⟩))))
 ·refine Cw.exit ?_
  rw [hK15] at hm
  refine sr (Lw.t rfl (T.lit0 (α := Int) 5 []) ?_)
  rintro v55 _ ⟨W55, rfl, l55, o55⟩
  have a56 := a17.n l55
  refine Nv v55 rfl (ssr (Ni rfl (Cw.block ?_)))
  obtain ⟨K64, hK64, hm⟩ := jn_e hm
  refine Cw.loop 41 54 [7, 8] (fun m l w => ∃ y59 y62 v60 W63, CW.w W63 = w ∧ Le [5] W55 W63 ∧ l = [v60, vI y62] ∧ Ow W63 5 [] [v60] y59 ∧ Vm.spec_l14Live_l3 y12 K64 m y59 y62 = some r) _ ⟨([] : List Int), 0, v55, W55, rfl, Le.refl _ _, rfl, o55, hm⟩ ?_
  rintro (_ | m65) _ _ σ ⟨y59, y62, v60, W63, rfl, l63, rfl, o61, hm⟩
  ·cases hm
  unfold Vm.spec_l14Live_l3 at hm
  have a66 := a56.t l63
  have o67 := (o13.up l55).up l63
  refine ssr (mi rfl (mv v6 rfl (Lw.ln y12 o67.rd rfl (Lw.lt rfl (nl (cn hm (fun hm => ?_) fun hm => ?_))))))
  ·refine sk ?_
   obtain ⟨K74, hK74, hm⟩ := jn_e hm
   refine Cw.join 47 54 [7] (fun l w => ∃ y70 v71 W73, CW.w W73 = w ∧ Le [5] W63 W73 ∧ l = [v71] ∧ Ow W73 5 [] [v71] y70 ∧ K74 y70 = some r) ?_ ?_
   ·rintro _ _ σ ⟨y70, v71, W73, rfl, l73, rfl, o72, hm⟩
    rw [hK74] at hm
    exact rg (mi rfl (Lw.add rfl (Ni rfl ((agm) ⟨y70, w64 (y62 + 1), v71, W73, rfl, (l63.j l73).w, rfl, o72, hm⟩))))
   ·refine Cw.block (sr (mv v6 rfl (mi rfl ?_)))
    obtain ⟨u78, e79, hm⟩ := ob hm
    refine Lw.r rfl (R.ix (α := Bool) o67.rd e79 rfl rfl rfl) (Lw.r rfl (R.ld rfl rfl (o67.rd.at_ e79).bool) (nl (cn hm (fun hm => ?_) fun hm => ?_)))
    ·refine rg (mv v60 rfl (mi rfl (Lw.t rfl (T.bs 6 [vI y62] (cs := [vI y62]) rfl rfl (bsv rfl)) ?_)))
     rintro _ _ ⟨g81, W81, rfl, rfl, l81, b81⟩
     obtain ⟨q86, e87, hm⟩ := ob hm
     refine Lw.t rfl (T.app1S (α := Int) (K' := []) (o61.up l81) b81 (rdI _) rfl rfl e87) ?_
     rintro v88 _ ⟨W88, rfl, l88, o88⟩
     exact Nv v88 rfl ((ag) ⟨q86, v88, W88, rfl, (l81.j l88).w, rfl, o88, hm⟩)
    ·exact sk ((ag) ⟨y59, v60, W63, rfl, Le.refl _ _, rfl, o61, hm⟩)
  ·refine Cw.exit ?_
   rw [hK64] at hm
   refine sr (mv v60 rfl (Nv v60 rfl ?_))
   cases hm
   exact Cw.ret (ret1 rfl (Res.mk a66 ⟨v60, rfl, o61.s.sub rfl rfl⟩))

theorem p60 {x0 v0_0_ v0_1_ k0 r} (h0 : Rd W K [v0_0_, v0_1_] x0) (hm : Vm.spec_l14Live x0 = some r) : Q1 60 [.agg [v0_0_, v0_1_].toArray] W [] fun W' v => ∃ u0, v = u0 ∧ Ow W' k0 [] [u0] r :=
 (c60 (h0.view _) hm).ad (fk k0) fun _ _ ⟨u0, e, f0⟩ => ⟨u0, e, f0.back (fk_LL _)⟩

theorem c29 {x0 v0_0_ v0_1_ r} (h0 : Rd W0 [0] [v0_0_, v0_1_] x0) (hm : Vm.spec_KeepLive x0 = some r) : Q0 29 [.agg [v0_0_, v0_1_].toArray] W0 fun Wf v => ∃ u0, v = u0 ∧ OwS Wf LL [] [u0] r := by
 unfold Vm.spec_KeepLive at hm
 obtain ⟨w0_0, w0_1, he0, h0_0, h0_1⟩ := Repo.split h0
 simp only [List.cons.injEq, and_true, true_and] at he0
 obtain ⟨rfl, rfl⟩ := he0
 refine CallR.of Tryz.func29 rfl rfl rfl rfl (sr (bo 2 rfl fun g1 W1 l1 b1 => ?_))
 have a2 := l1.o
 refine Nv (.slice none 0 0) rfl (ssr (la b1 (ca hm (fun _ => p38 (Repo.rd (K := [0]) x0.Commits x0.Heads (h0_0.ul a2) (h0_1.ul a2))) fun z5 W7 hm l7 => ?_)))
 have a8 := a2.n l7
 refine Lw.r rfl (R.not rfl) (nl (cn hm (fun hm => ?_) fun hm => ?_))
 ·refine sr (Nv (.slice none 0 0) rfl ?_)
  cases hm
  exact Cw.ret (ret1 rfl (Res.mk a8 ⟨.slice none 0 0, rfl, (owsN []).sub rfl rfl⟩))
 ·refine sk (sr (la (b1.up l7) (cr hm (fun _ => p60 (k0 := 3) (Repo.rd (K := [0]) x0.Commits x0.Heads (h0_0.ul a8) (h0_1.ul a8))) ?_)))
  rintro z13 v0_15 W15 hm l15 ⟨_, rfl, f15_0⟩
  have a16 := a8.n l15
  refine Nv v0_15 rfl ?_
  cases hm
  exact Cw.ret (ret1 rfl (Res.mk a16 ⟨v0_15, rfl, f15_0.s.sub rfl rfl⟩))

theorem p29 {x0 v0_0_ v0_1_ k0 r} (h0 : Rd W K [v0_0_, v0_1_] x0) (hm : Vm.spec_KeepLive x0 = some r) : Q1 29 [.agg [v0_0_, v0_1_].toArray] W [] fun W' v => ∃ u0, v = u0 ∧ Ow W' k0 [] [u0] r :=
 (c29 (h0.view _) hm).ad (fk k0) fun _ _ ⟨u0, e, f0⟩ => ⟨u0, e, f0.back (fk_LL _)⟩

theorem c7 {x0 v0_ r} (h0 : Rd W0 [0] [v0_] x0) (h99 : Gl 0 W0 [0]) (hm : Vm.laws_FnKeepLive x0 = some r) : Q0 7 [v0_] W0 fun Wf v => v = vB r := by
 unfold Vm.laws_FnKeepLive at hm
 refine CallR.of Tryz.func7 rfl rfl rfl rfl (sr (Nb rfl (ssr (mv v0_ rfl (Lw.ln x0 h0 rfl (Lw.gt rfl (nl (cn hm (fun hm => ?_) fun hm => ?_))))))))
 ·exact sr (Nb rfl (.ret (rt hm (Le.refl _ _))))
 ·refine sk (sr (mv v0_ rfl (cr hm (fun _ => p27 (k0 := 2) (k1 := 3) h0) ?_)))
  rintro z2 _ W4 hm l4 ⟨v0_0_4, v0_1_4, rfl, f4_0, f4_1⟩
  have a5 := l4.o
  refine al 4 [.slice none 0 0, .slice none 0 0] fun g6 W6 l6 b6 => ?_
  have a7 := a5.n l6
  refine sta b6 (oc_cons (f4_0.up l6).oc (oc_cons (f4_1.up l6).oc oc_nil)) fun W10 l10 b10 => ?_
  have a11 := a7.t l10
  have o12 := (f4_0.up l6).up l10
  have o13 := (f4_1.up l6).up l10
  refine nl (sr (la b10 (cr hm (fun _ => p28 (K := [0, 2, 3]) (k0 := 5) (x0 := (Vm.Repo.mk z2.Commits z2.Heads)) ((Repo.rd (K := [2, 3]) z2.Commits z2.Heads (o12.rd.sub (M := [2, 3]) rfl) (o13.rd.sub (M := [2, 3]) rfl)).sub (M := [0, 2, 3]) rfl) ((h99.ul a11).sub (M := [0, 2, 3]) rfl)) ?_)))
  rintro z15 v0_17 W17 hm l17 ⟨_, rfl, f17_0⟩
  have a18 := a11.n l17
  have o19 := o12.up l17
  have o20 := o13.up l17
  have b21 := b10.up l17
  refine Nv v0_17 rfl (Cw.seq ?_)
  obtain ⟨K24, hK24, hm⟩ := jn_e hm
  refine Cw.join 15 24 [24] (fun l w => ∃ y22 W23, CW.w W23 = w ∧ Le [] W17 W23 ∧ l = [vB y22] ∧ K24 y22 = some r) ?_ ?_
  ·rintro _ _ σ ⟨y22, W23, rfl, l23, rfl, hm⟩
   rw [hK24] at hm
   have a25 := a18.n l23
   refine cn hm (fun hm => ?_) fun hm => ?_
   ·refine sr (mv v0_17 rfl (la (b21.up l23) (cr hm (fun _ => p29 (K := [2, 3]) (k0 := 6) (x0 := (Vm.Repo.mk z2.Commits z2.Heads)) (Repo.rd (K := [2, 3]) z2.Commits z2.Heads ((o19.up l23).rd.sub (M := [2, 3]) rfl) ((o20.up l23).rd.sub (M := [2, 3]) rfl))) ?_)))
    rintro z31 v0_33 W33 hm l33 ⟨_, rfl, f33_0⟩
    have a34 := a25.n l33
    refine ca hm (fun _ => p12 (K := [5, 6]) (((f17_0.up l23).up l33).rd.sub (M := [5, 6]) rfl) (f33_0.rd.sub (M := [5, 6]) rfl)) fun z39 W41 hm l41 => ?_
    have a42 := a34.n l41
    exact Nb rfl (.ret (rt hm a42))
   ·refine sk (ssr (Ni rfl (Cw.block ?_)))
    obtain ⟨K53, hK53, hm⟩ := jn_e hm
    refine Cw.loop 29 59 [2, 5, 6, 7] (fun m l w => ∃ y48 y49 j50 j51 W52, CW.w W52 = w ∧ Le [] W23 W52 ∧ l = [vB y48, vI y49, j50, j51] ∧ Vm.laws_FnKeepLive_l1 z2 z15 K53 m y48 y49 = some r) _ ⟨false, 0, undef, undef, W23, rfl, Le.refl _ _, rfl, hm⟩ ?_
    rintro (_ | m54) _ _ σ ⟨y48, y49, j50, j51, W52, rfl, l52, rfl, hm⟩
    ·cases hm
    unfold Vm.laws_FnKeepLive_l1 at hm
    have a55 := a25.n l52
    have o56 := (o19.up l23).up l52
    have b59 := (b21.up l23).up l52
    refine ssr (mi rfl (fl b59 rfl (Lw.ln z2.Commits o56.rd rfl (Lw.lt rfl (nl (cn hm (fun hm => ?_) fun hm => ?_))))))
    ·refine sk (Cw.seq (Cw.block (sr (Nb rfl (ssr (Ni rfl (Cw.block ?_)))))))
     obtain ⟨K64, hK64, hm⟩ := jn_e hm
     refine Cw.loop 36 54 [6, 7] (fun m l w => ∃ y61 y62 W63, CW.w W63 = w ∧ Le [] W52 W63 ∧ l = [vB y61, vI y62] ∧ Vm.laws_FnKeepLive_l2 z2 y49 K64 m y61 y62 = some r) _ ⟨false, 0, W52, rfl, Le.refl _ _, rfl, hm⟩ ?_
     rintro (_ | m65) _ _ σ ⟨y61, y62, W63, rfl, l63, rfl, hm⟩
     ·cases hm
     unfold Vm.laws_FnKeepLive_l2 at hm
     have a66 := a55.n l63
     have o68 := ((o20.up l23).up l52).up l63
     refine ssr (mi rfl (fl (b59.up l63) rfl (Lw.ln z2.Heads o68.rd rfl (Lw.lt rfl (nl (cn hm (fun hm => ?_) fun hm => ?_))))))
     ·refine sk (Cw.seq (Cw.block (Cw.draw [] [(0, 0), (1, 0), (2, 1), (3, 0), (4, 0), (5, 1), (6, 0), (7, 0), (8, 0), (9, 1), (10, 2), (11, 0), (12, 0)] mixed (by kernel_rfl) fun W72 l72 => ?_)))
      have a73 := a66.n l72
      have o75 := o68.up l72
      have b77 := (b59.up l63).up l72
      refine Db rfl (Db rfl (bs hm (fun hc78 hm => ?_) fun hc78 hm => ?_))
      ·exact dps 9 hc78 rfl (Mw.p rfl rfl (fun _ => R.pk hc78 rfl (v := vB true) rfl) (Hb rfl (Mw.nil (rg (mi rfl (Lw.add rfl (Ni rfl ((agm) ⟨true, w64 (y62 + 1), W72, rfl, (l63.j l72).w, rfl, hm⟩))))))))
      ·refine Wq hc78 rfl (fun _ c => R.lda (cs := [v0_0_4, v0_1_4]) (b77.clcs rfl c) rfl rfl) (Wp hc78 rfl (fun _ => R.mv (v := vI y49) rfl) (Wp hc78 rfl (fun _ => R.fa rfl) (Wq hc78 rfl (fun _ c => R.ld (v := v0_1_4) rfl rfl (b77.clc rfl rfl c)) (Wp hc78 rfl (fun _ => R.mv (v := vI y62) rfl) ?_))))
       obtain ⟨u79, e80, hm⟩ := ob hm
       refine Wp hc78 rfl (fun _ => R.ix (α := Head) o75.rd e80 rfl rfl rfl) (Wp hc78 rfl (fun _ => R.fa rfl) (Wq hc78 rfl (fun _ c => R.ld rfl rfl (cl_cell (Head.at1 (o75.rd.at_ e80)).1 rfl (Head.at1 (o75.rd.at_ e80)).int c)) ?_))
       obtain ⟨z82, e83, hm⟩ := ob hm
       refine Wt hc78 rfl (T.call rfl (p14 (K := [0, 2, 3])  (x0 := (Vm.Repo.mk z2.Commits z2.Heads)) ((Repo.rd (K := [2, 3]) z2.Commits z2.Heads (((o56.up l63).up l72).rd.sub (M := [2, 3]) rfl) (o75.rd.sub (M := [2, 3]) rfl)).sub (M := [0, 2, 3]) rfl) ((h99.ul a73).sub (M := [0, 2, 3]) rfl) e83)) ?_
       rintro _ _ ⟨W84, rfl, l84, rfl⟩
       exact m0 l84 fun d84 => Mw.p rfl rfl (fun _ => R.pk hc78 rfl (v := vB z82) rfl) (Hb rfl (Mw.nil (rg (mi rfl (Lw.add rfl (Ni rfl ((agm) ⟨z82, w64 (y62 + 1), W84, rfl, ((l63.j l72).j l84).w, rfl, hm⟩)))))))
     ·refine Cw.exit ?_
      rw [hK64] at hm
      refine sr (mb rfl (mv v0_17 rfl (mi rfl (ca hm (fun _ => p26 (K := [5]) (((f17_0.up l23).up l52).up l63).rd) fun z90 W92 hm l92 => ?_))))
      have a93 := a66.n l92
      refine Lw.r rfl (R.bne rfl rfl) (nl (cn hm (fun hm => ?_) fun hm => ?_))
      ·exact sr (Nb rfl (.ret (rt hm a93)))
      ·exact sk (rg (mi rfl (Lw.add rfl (Ni rfl ((agm) ⟨y48, w64 (y49 + 1), vB y61, vI y62, W92, rfl, ((l52.j l63).j l92).w, rfl, hm⟩)))))
    ·refine Cw.exit ?_
     rw [hK53] at hm
     exact sr (Nb rfl (.ret (rt hm a55)))
  ·refine rg (mv v0_17 rfl (la b21 (cr hm (fun _ => p29 (K := [2, 3]) (k0 := 7) (x0 := (Vm.Repo.mk z2.Commits z2.Heads)) (Repo.rd (K := [2, 3]) z2.Commits z2.Heads (o19.rd.sub (M := [2, 3]) rfl) (o20.rd.sub (M := [2, 3]) rfl))) ?_)))
   rintro z99 v0_101 W101 hm l101 ⟨_, rfl, f101_0⟩
   have a102 := a18.n l101
   refine ca hm (fun _ => p12 (K := [5, 7]) ((f17_0.up l101).rd.sub (M := [5, 7]) rfl) (f101_0.rd.sub (M := [5, 7]) rfl)) fun z107 W109 hm l109 => ?_
   have a110 := a102.n l109
   refine Lw.r rfl (R.not rfl) (mb rfl (bs hm (fun hc116 hm => ?_) fun hc116 hm => ?_))
   ·exact psk 3 hc116 rfl (Pb hc116 rfl (nl ((ag) ⟨true, W109, rfl, (l101.j l109).w, rfl, hm⟩)))
   ·exact wak 3 hc116 (la ((b21.up l101).up l109) (ca hm (fun _ => p18 (K := [0, 2, 3]) (x0 := (Vm.Repo.mk z2.Commits z2.Heads)) ((Repo.rd (K := [2, 3]) z2.Commits z2.Heads (((o19.up l101).up l109).rd.sub (M := [2, 3]) rfl) (((o20.up l101).up l109).rd.sub (M := [2, 3]) rfl)).sub (M := [0, 2, 3]) rfl) ((h99.ul a110).sub (M := [0, 2, 3]) rfl)) fun z118 W120 hm l120 => Lw.r rfl (R.not rfl) (Pb hc116 rfl (nl ((ag) ⟨(!z118), W120, rfl, ((l101.j l109).j l120).w, rfl, hm⟩)))))

theorem p7 {x0 v0_ r} (h0 : Rd W K [v0_] x0) (h99 : Gl 0 W K) (hm : Vm.laws_FnKeepLive x0 = some r) : Q1 7 [v0_] W [] fun W' v => v = vB r :=
 (c7 (h0.view _) (h99.view _) hm).ad (fk 0) fun _ _ e => e

end Go.Sx
