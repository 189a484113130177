/- Walks: each function answers as its model, printed by a program of ours. Conditions: the arguments read as they are given. -/
import Derived.Test.YtkjleeelabgfoaaGreatDoorATs
import Derived.Test.YtkjleeelabgfoaaGreatDoorAM0
import Derived.Test.YtkjleeelabgfoaaGreatDoorAW0
import Derived.Test.YtkjleeelabgfoaaGreatDoorAW1
import Derived.Test.YtkjleeelabgfoaaGreatDoorAW5
import Derived.Test.YtkjleeelabgfoaaGreatDoorAE
namespace Go.Sx
open Go Go.Proofs Go.Vm Rp
set_option linter.unusedVariables false
set_option linter.unusedSimpArgs false
variable {W W0 : CW} {K : List Nat}
theorem c41 {x0 g0_ v0_0_ r} (hB0 : Bx W0 2 g0_ [v0_0_, vI x0.p]) (h0_0 : Rd W0 [0] [v0_0_] x0.b) (hm : Vm.spec_l30AnyRepo x0 = some r) : Q0 41 [ptr (bx g0_)] W0 fun Wf v => ∃ u0_0 u0_1, v = .agg [u0_0, u0_1].toArray ∧ OwS Wf [31] [] [u0_0] r.1.Commits ∧ OwS Wf [32] [] [u0_1] r.1.Heads ∧ Bx Wf 2 g0_ [v0_0_, vI r.2] := by
 unfold Vm.spec_l30AnyRepo at hm
 refine CallR.of Tryz.func41 rfl rfl rfl rfl (sr (al 3 [.slice none 0 0, .slice none 0 0] fun g1 W1 l1 b1 => ?_))
 have a2 := l1.o
 have b3 := hB0.up l1
 refine nl (sr (mp rfl (cr hm (fun _ => p57 (k0 := 4) (k1 := 5) (c0 := 2) (x0 := x0) b3 (h0_0.ul a2) rfl) ?_)))
 rintro z5 _ W7 hm l7 ⟨v0_0_7, v0_1_7, rfl, f7_0, f7_1, f7_2⟩
 have a8 := a2.t l7
 refine al 6 [.slice none 0 0, .slice none 0 0] fun g10 W10 l10 b10 => ?_
 have a11 := a8.n l10
 refine sta b10 (oc_cons (f7_0.up l10).oc (oc_cons (f7_1.up l10).oc oc_nil)) fun W16 l16 b16 => ?_
 have a17 := a11.t l16
 have o18 := (f7_0.up l10).up l16
 have o19 := (f7_1.up l10).up l16
 have b20 := (f7_2.up l10).up l16
 refine nl ?_
 obtain ⟨K33, hK33, hm⟩ := jn_e hm
 refine Cw.join 7 44 [4] (fun l w => ∃ y23 y25 y28 j22 v26 v29 W32, CW.w W32 = w ∧ Le [2, 4, 5, 6, 7] W16 W32 ∧ l = [j22] ∧ Bx W32 2 g0_ [v0_0_, vI y23] ∧ Ow W32 4 [] [v26] y25 ∧ Ow W32 5 [] [v29] y28 ∧ Bx W32 6 g10 [v26, v29] ∧ K33 y23 y25 y28 = some r) ?_ ?_
 ·rintro _ _ σ ⟨y23, y25, y28, j22, v26, v29, W32, rfl, l32, rfl, b24, o27, o30, b31, hm⟩
  rw [hK33] at hm
  have a34 := a17.t l32
  refine sr (la b31 (sta ((((b1.up l7).up l10).up l16).up l32) (oc_cons o27.oc (oc_cons o30.oc oc_nil)) fun W36 l36 b36 => ?_))
  have a37 := a34.t l36
  refine nl ?_
  obtain ⟨W42, ew42, l42, o42⟩ := (o27.up l36).dyeO 31
  have a43 := a37.t l42
  obtain ⟨W48, ew48, l48, o48⟩ := ((o30.up l36).up l42).dyeO 32
  have a49 := a43.t l48
  cases hm
  rw [← ew48.trans (ew42)]
  exact Cw.ret (retA1 rfl ((b36.up l42).up l48) (Res.mk a49 ⟨v26, v29, rfl, (o42.up l48).s, o48.s, (((b24.up l36).up l42).up l48)⟩))
 ·refine sr (fl b16 rfl (Lw.ln z5.1.Commits o18.rd rfl (Lw.gt rfl (nl (cn hm (fun hm => ?_) fun hm => ?_)))))
  ·refine sr (mp rfl (fl b16 rfl (Lw.ln z5.1.Commits o18.rd rfl (cr hm (fun _ => p42 (c0 := 2) (x0 := (Vm.l30Rd.mk x0.b z5.2)) b20 (h0_0.ul a17) rfl) ?_))))
   rintro z56 _ W58 hm l58 ⟨rfl, f58_0⟩
   have a59 := a17.t l58
   refine Ni rfl (sr (mp rfl (cr hm (fun _ => p42 (c0 := 2) (x0 := (Vm.l30Rd.mk x0.b z56.2)) f58_0 (h0_0.ul a59) rfl) ?_)))
   rintro z65 _ W67 hm l67 ⟨rfl, f67_0⟩
   have o69 := (o18.up l58).up l67
   have o70 := (o19.up l58).up l67
   have b72 := (b16.up l58).up l67
   refine nl (Cw.block (sr (Lw.eq rfl (Nb rfl (cn hm (fun hm => ?_) fun hm => ?_)))))
   ·refine rg (fl b72 rfl (mi rfl (mi rfl (Lw.t rfl (T.bsS (α := Int) (xs := [z56.1]) 7 [] (W := W67) [vI z56.1] (Each.cons ((rdI _)) Each.nil) rfl) ?_))))
    rintro v74 _ ⟨W74, rfl, l74, o74⟩
    obtain ⟨u81, e82, hm⟩ := ob hm
    refine Lw.r rfl (R.ix (α := Commit) (o69.up l74).rd e82 rfl rfl rfl) (Lw.fa rfl ?_)
    obtain ⟨q84, e85, hm⟩ := ob hm
    refine Lw.u (T.stH (α := Commit) (β := List Int) (J := [7]) (Ow.hole (α := Commit) (β := List Int) (jf := 0) (o69.up l74) e82) o74.s e85 rfl rfl rfl rfl) ?_
    rintro _ _ ⟨W83, rfl, l83, o83⟩
    exact nl ((ag) ⟨z65.2, q84, z5.1.Heads, vI z56.1, v0_0_7, v0_1_7, W83, rfl, (((l58.j l67).j l74).j l83).w, rfl, ((f67_0.up l74).up l83), o83, ((o70.up l74).up l83), ((b72.up l74).up l83), hm⟩)
   ·refine sr (Lw.eq rfl (Nb rfl (cn hm (fun hm => ?_) fun hm => ?_)))
    ·refine rg (fl b72 rfl (mi rfl ?_))
     obtain ⟨u92, e93, hm⟩ := ob hm
     refine Lw.r rfl (R.ix (α := Commit) o69.rd e93 rfl rfl rfl) (Lw.fa rfl ?_)
     obtain ⟨q95, e96, hm⟩ := ob hm
     refine Lw.u (T.stH (α := Commit) (β := Str) (J := []) (Ow.hole (α := Commit) (β := Str) (jf := 1) o69 e93) (OwS.atm (K := []) (rdS _)) e96 rfl rfl rfl rfl) ?_
     rintro _ _ ⟨W94, rfl, l94, o94⟩
     exact nl ((ag) ⟨z65.2, q95, z5.1.Heads, vI z56.1, v0_0_7, v0_1_7, W94, rfl, ((l58.j l67).j l94).w, rfl, (f67_0.up l94), o94, (o70.up l94), (b72.up l94), hm⟩)
    ·refine sr (Lw.eq rfl (Nb rfl (cn hm (fun hm => ?_) fun hm => ?_)))
     ·refine Cw.draw [5] [(0, 0), (1, 1), (2, 0), (3, 1), (4, 0), (5, 2), (6, 2), (7, 2), (8, 0), (9, 3)] mixed (by kernel_rfl) fun W103 l103 => ?_
      have o106 := o70.up l103
      have b109 := b72.up l103
      refine Dfl b109 rfl rfl rfl (Dfl b109 rfl rfl rfl ?_)
      obtain ⟨u110, e111, hm⟩ := ob hm
      refine Mw.p rfl rfl (fun _ => R.ix (α := Head) o106.rd e111 rfl rfl rfl) ?_
      obtain ⟨x112, c113, _, r114⟩ := (o106.rd.at_ e111).cells
      obtain rfl := Head.split r114
      refine Mw.t rfl rfl (Run.tr (R.lda c113 rfl rfl)) ?_
      rintro _ _ ⟨hu, rfl⟩
      obtain rfl := hu.symm
      refine ⟨⟨_, rfl, (Le.refl _ _)⟩, ?_⟩
      refine Mw.t rfl rfl (T.bs 8 [.agg [vS u110.Name, vI u110.At].toArray] (cs := [vS u110.Name, vI u110.At]) rfl rfl (bsA rfl)) ?_
      rintro _ _ ⟨g115, W115, rfl, rfl, l115, b115⟩
      refine m0 l115 fun d115 => ?_
      obtain ⟨q122, e123, hm⟩ := ob hm
      refine Mw.t rfl rfl (T.app1S (α := Head) (K' := []) (o106.up l115) b115 (Head.rd (K := []) u110.Name u110.At) rfl rfl e123) ?_
      rintro v124 _ ⟨W124, rfl, l124, o124⟩
      refine mc d115 l124 fun d124 => Df rfl (Mw.lu rfl (T.st (j := 1) (v := v124) ((b109.up l115).up l124) rfl rfl o124.oc rfl rfl) ?_)
      rintro _ _ ⟨W131, rfl, l131, b131⟩
      exact Mw.nil ((ag) ⟨z65.2, z5.1.Commits, q122, vI z56.1, v0_0_7, v124, W131, rfl, (((((l58.j l67).j l103).j l115).j l124).j l131).w, rfl, ((((f67_0.up l103).up l115).up l124).up l131), ((((o69.up l103).up l115).up l124).up l131), (o124.up l131), b131, hm⟩)
     ·exact sk ((ag) ⟨z65.2, z5.1.Commits, z5.1.Heads, vI z56.1, v0_0_7, v0_1_7, W67, rfl, (l58.j l67).w, rfl, f67_0, o69, o70, b72, hm⟩)
  ·exact sk ((ag) ⟨z5.2, z5.1.Commits, z5.1.Heads, undef, v0_0_7, v0_1_7, W16, rfl, Le.refl _ _, rfl, b20, o18, o19, b16, hm⟩)
theorem p41 {x0 g0_ v0_0_ k0 k1 c0 r} (hB0 : Bx W c0 g0_ [v0_0_, vI x0.p]) (h0_0 : Rd W K [v0_0_] x0.b) (hJ : okJ K [c0] = true) (hm : Vm.spec_l30AnyRepo x0 = some r) : Q1 41 [ptr (bx g0_)] W [c0] fun W' v => ∃ u0_0 u0_1, v = .agg [u0_0, u0_1].toArray ∧ Ow W' k0 [] [u0_0] r.1.Commits ∧ Ow W' k1 [] [u0_1] r.1.Heads ∧ Bx W' c0 g0_ [v0_0_, vI r.2] :=
 CallR.adJ (J := [c0]) (fun c => bif Nat.beq c 0 then 0 else bif Nat.beq c 2 then c0 else bif Nat.beq c 31 then k0 else bif Nat.beq c 32 then k1 else 0) (c41 (hB0.viewJ 0 hJ) (h0_0.view _) hm) fun _ _ ⟨u0_0, u0_1, e, f0, f1, f2⟩ => ⟨u0_0, u0_1, e, f0.one1.backN rfl, f1.one1.backN rfl, Bx.backJ 0 f2 rfl⟩
theorem c43 {x0 v0_0_ v0_1_ x1 r} (h0 : Rd W0 [0] [v0_0_, v0_1_] x0) (hm : Vm.spec_RepoDrop x0 x1 = some r) : Q0 43 [.agg [v0_0_, v0_1_].toArray, vS x1] W0 fun Wf v => ∃ u0_0 u0_1, v = .tuple [.agg [u0_0, u0_1].toArray, vB r.2].toArray ∧ OwS Wf [31] [] [u0_0] r.1.Commits ∧ OwS Wf [32] [] [u0_1] r.1.Heads := by
 unfold Vm.spec_RepoDrop at hm
 obtain ⟨w0_0, w0_1, he0, h0_0, h0_1⟩ := Repo.split h0
 simp only [List.cons.injEq, and_true, true_and] at he0
 obtain ⟨rfl, rfl⟩ := he0
 refine CallR.of Tryz.func43 rfl rfl rfl rfl (sr (bo 2 rfl fun g1 W1 l1 b1 => ?_))
 have a2 := l1.o
 refine al 3 [.slice none 0 0, .slice none 0 0] fun g3 W3 l3 b3 => ?_
 have a4 := a2.n l3
 refine Nb rfl (ssr (la (b1.up l3) (ca hm (fun _ => p22 (Repo.rd (K := [0]) x0.Commits x0.Heads (h0_0.ul a4) (h0_1.ul a4))) fun z8 W10 hm l10 => ?_)))
 have a11 := a4.n l10
 have b12 := (b1.up l3).up l10
 refine Lw.r rfl (R.not rfl) (nl (cn hm (fun hm => ?_) fun hm => ?_))
 ·refine sr (Lw.r rfl (R.bd (zs := [.slice none 0 0, .slice none 0 0]) (cs := [.slice none 0 0, .slice none 0 0]) [] rfl rfl rfl bp_nil) (sta (b3.up l10) (oc_cons rfl (oc_cons rfl oc_nil)) fun W15 l15 b15 => ?_))
  have a16 := a11.t l15
  refine Nb rfl ?_
  cases hm
  exact Cw.ret (retA2 rfl b15 rfl (Res.mk a16 ⟨.slice none 0 0, .slice none 0 0, rfl, (owsN []).sub rfl rfl, (owsN []).sub rfl rfl⟩))
 ·refine sk (sr (la b12 (cr hm (fun _ => p58 (k0 := 4) (k1 := 5) (Repo.rd (K := [0]) x0.Commits x0.Heads (h0_0.ul a11) (h0_1.ul a11))) ?_)))
  rintro z20 _ W22 hm l22 ⟨v0_0_22, v0_1_22, rfl, f22_0, f22_1⟩
  have a23 := a11.n l22
  refine al 6 [.slice none 0 0, .slice none 0 0] fun g26 W26 l26 b26 => ?_
  have a27 := a23.n l26
  refine sta b26 (oc_cons (f22_0.up l26).oc (oc_cons (f22_1.up l26).oc oc_nil)) fun W32 l32 b32 => ?_
  have a33 := a27.t l32
  have o34 := (f22_0.up l26).up l32
  refine nl (sr (fl b32 rfl (Lw.r rfl (R.bd (zs := [.slice none 0 0, .slice none 0 0]) (cs := [v0_0_22, .slice none 0 0]) [(0, v0_0_22)] rfl rfl rfl (bp_cons o34.oc rfl bp_nil)) (al 7 [.slice none 0 0, .slice none 0 0] fun g38 W38 l38 b38 => ?_))))
  have a39 := a33.n l38
  refine sta b38 (oc_cons (o34.up l38).oc (oc_cons rfl oc_nil)) fun W45 l45 b45 => ?_
  have a46 := a39.t l45
  refine nl (ssr (Ni rfl (Cw.block ?_)))
  obtain ⟨K61, hK61, hm⟩ := jn_e hm
  refine Cw.loop 18 42 [8] (fun m l w => ∃ y52 y53 y56 v54 v57 W60, CW.w W60 = w ∧ Le [7, 8] W45 W60 ∧ l = [vI y52] ∧ Ow W60 4 [] [v54] y53 ∧ Ow W60 8 [] [v57] y56 ∧ Bx W60 7 g38 [v54, v57] ∧ Vm.spec_RepoDrop_l1 x0 x1 K61 m y52 y53 y56 = some r) _ ⟨0, z20.Commits, ([] : List Head), v0_0_22, .slice none 0 0, W45, rfl, Le.refl _ _, rfl, ((o34.up l38).up l45), owN 8 [], b45, hm⟩ ?_
  rintro (_ | m62) _ _ σ ⟨y52, y53, y56, v54, v57, W60, rfl, l60, rfl, o55, o58, b59, hm⟩
  ·cases hm
  unfold Vm.spec_RepoDrop_l1 at hm
  have a63 := a46.t l60
  have b65 := (((((b12.up l22).up l26).up l32).up l38).up l45).up l60
  refine ssr ?_
  have s68 := h0_1.ul a63
  refine mi rfl (fl b65 rfl (Lw.ln x0.Heads s68 rfl (Lw.lt rfl (nl (cn hm (fun hm => ?_) fun hm => ?_)))))
  ·refine sk ?_
   obtain ⟨K78, hK78, hm⟩ := jn_e hm
   refine Cw.join 25 42 [] (fun l w => ∃ y70 y73 v71 v74 W77, CW.w W77 = w ∧ Le [7, 8] W60 W77 ∧ l = [] ∧ Ow W77 4 [] [v71] y70 ∧ Ow W77 8 [] [v74] y73 ∧ Bx W77 7 g38 [v71, v74] ∧ K78 y70 y73 = some r) ?_ ?_
   ·rintro _ _ σ ⟨y70, y73, v71, v74, W77, rfl, l77, rfl, o72, o75, b76, hm⟩
    rw [hK78] at hm
    exact rg (mi rfl (Lw.add rfl (Ni rfl ((agm) ⟨w64 (y52 + 1), y70, y73, v71, v74, W77, rfl, (l60.j l77).w, rfl, o72, o75, b76, hm⟩))))
   ·refine Cw.block (sr (fl b65 rfl (mi rfl ?_)))
    obtain ⟨u84, e85, hm⟩ := ob hm
    refine Lw.r rfl (R.ix (α := Head) s68 e85 rfl rfl rfl) (Lw.fa rfl (Lw.r rfl (R.ld rfl rfl (Head.at0 (s68.at_ e85)).str) (ms rfl (Lw.sne rfl (nl (cn hm (fun hm => ?_) fun hm => ?_))))))
    ·refine Cw.draw [8] [(0, 0), (1, 1), (2, 0), (3, 1), (4, 0), (5, 0), (6, 1), (7, 2), (8, 2), (9, 0), (10, 3)] mixed (by kernel_rfl) fun W87 l87 => ?_
     have a88 := a63.n l87
     refine Dfl (b59.up l87) rfl rfl rfl (Dfl (b65.up l87) rfl rfl rfl (Di rfl ?_))
     obtain ⟨u96, e97, hm⟩ := ob hm
     refine Mw.p rfl rfl (fun _ => R.ix (α := Head) (h0_1.ul a88) e97 rfl rfl rfl) ?_
     obtain ⟨x99, c100, _, r101⟩ := ((h0_1.ul a88).at_ e97).cells
     obtain rfl := Head.split r101
     refine Mw.q rfl rfl (fun _ c => R.lda (cl_cells ((h0_1.ul a88).at_ e97).1 rfl c100 c) rfl rfl) (Mw.t rfl rfl (T.bs 9 [.agg [vS u96.Name, vI u96.At].toArray] (cs := [vS u96.Name, vI u96.At]) rfl rfl (bsA rfl)) ?_)
     rintro _ _ ⟨g102, W102, rfl, rfl, l102, b102⟩
     refine m0 l102 fun d102 => ?_
     obtain ⟨q111, e112, hm⟩ := ob hm
     refine Mw.t rfl rfl (T.app1S (α := Head) (K' := []) ((o58.up l87).up l102) b102 (Head.rd (K := []) u96.Name u96.At) rfl rfl e112) ?_
     rintro v113 _ ⟨W113, rfl, l113, o113⟩
     refine mc d102 l113 fun d113 => Df rfl (Mw.lu rfl (T.st (j := 1) (v := v113) (((b59.up l87).up l102).up l113) rfl rfl o113.oc rfl rfl) ?_)
     rintro _ _ ⟨W122, rfl, l122, b122⟩
     exact Mw.nil ((ag) ⟨y53, q111, v54, v113, W122, rfl, (((l87.j l102).j l113).j l122).w, rfl, ((((o55.up l87).up l102).up l113).up l122), (o113.up l122), b122, hm⟩)
    ·exact sk ((ag) ⟨y53, y56, v54, v57, W60, rfl, Le.refl _ _, rfl, o55, o58, b59, hm⟩)
  ·refine Cw.exit ?_
   rw [hK61] at hm
   refine Cw.seq (Cw.draw [3] [(0, 1), (1, 0), (2, 1), (3, 0), (4, 0), (5, 1), (6, 0), (7, 0), (8, 2), (9, 0)] mixed (by kernel_rfl) fun W131 l131 => ?_)
   have a132 := a63.n l131
   have o135 := o58.up l131
   refine Mw.q rfl rfl (fun _ c => R.lda (cs := [v54, v57]) ((b59.up l131).clcs rfl c) rfl rfl) (Dfl (b59.up l131) rfl rfl rfl (Mw.p rfl rfl (fun _ => lenR (xs := y56) o135.rd rfl) (Dfl (b65.up l131) rfl rfl rfl (Mw.p rfl rfl (fun _ => lenR (xs := x0.Heads) (h0_1.ul a132) rfl) (Mw.p rfl rfl (fun _ => R.lt rfl rfl) (Mw.tu rfl (T.sta (vs := [v54, v57]) ((((((((b3.up l10).up l22).up l26).up l32).up l38).up l45).up l60).up l131) rfl rfl (oc_cons (o55.up l131).oc (oc_cons o135.oc oc_nil)) rfl rfl) ?_))))))
   rintro _ _ ⟨W141, rfl, l141, b141⟩
   have a142 := a132.t l141
   refine m0 l141 fun d141 => Hb rfl (Mw.nil ?_)
   obtain ⟨W149, ew149, l149, o149⟩ := ((o55.up l131).up l141).dyeO 31
   have a150 := a142.t l149
   obtain ⟨W157, ew157, l157, o157⟩ := ((o135.up l141).up l149).dyeO 32
   have a158 := a150.t l157
   cases hm
   rw [← ew157.trans (ew149)]
   exact Cw.ret (retA2 rfl ((b141.up l149).up l157) rfl (Res.mk a158 ⟨v54, v57, rfl, (o149.up l157).s, o157.s⟩))
theorem p43 {x0 v0_0_ v0_1_ x1 k0 k1 r} (h0 : Rd W K [v0_0_, v0_1_] x0) (hm : Vm.spec_RepoDrop x0 x1 = some r) : Q1 43 [.agg [v0_0_, v0_1_].toArray, vS x1] W [] fun W' v => ∃ u0_0 u0_1, v = .tuple [.agg [u0_0, u0_1].toArray, vB r.2].toArray ∧ Ow W' k0 [] [u0_0] r.1.Commits ∧ Ow W' k1 [] [u0_1] r.1.Heads :=
 CallR.adJ (J := []) (fun c => bif Nat.beq c 0 then 0 else bif Nat.beq c 31 then k0 else bif Nat.beq c 32 then k1 else 0) (c43 (h0.view _) hm) fun _ _ ⟨u0_0, u0_1, e, f0, f1⟩ => ⟨u0_0, u0_1, e, f0.one1.backN rfl, f1.one1.backN rfl⟩
theorem c15 {x0 g0_ v0_0_ r} (hB0 : Bx W0 2 g0_ [v0_0_, vI x0.p]) (h0_0 : Rd W0 [0] [v0_0_] x0.b) (hm : Vm.spec_l30Loose x0 = some r) : Q0 15 [ptr (bx g0_)] W0 fun Wf v => ∃ u0_0 u0_1, v = .agg [u0_0, u0_1].toArray ∧ OwS Wf [31] [] [u0_0] r.1.Commits ∧ OwS Wf [32] [] [u0_1] r.1.Heads ∧ Bx Wf 2 g0_ [v0_0_, vI r.2] := by
 unfold Vm.spec_l30Loose at hm
 refine CallR.of Tryz.func15 rfl rfl rfl rfl (sr (al 3 [.slice none 0 0, .slice none 0 0] fun g1 W1 l1 b1 => ?_))
 have a2 := l1.o
 have b3 := hB0.up l1
 refine nl (sr (mp rfl (cr hm (fun _ => p41 (k0 := 4) (k1 := 5) (c0 := 2) (x0 := x0) b3 (h0_0.ul a2) rfl) ?_)))
 rintro z5 _ W7 hm l7 ⟨v0_0_7, v0_1_7, rfl, f7_0, f7_1, f7_2⟩
 have a8 := a2.t l7
 refine al 6 [.slice none 0 0, .slice none 0 0] fun g10 W10 l10 b10 => ?_
 have a11 := a8.n l10
 refine sta b10 (oc_cons (f7_0.up l10).oc (oc_cons (f7_1.up l10).oc oc_nil)) fun W16 l16 b16 => ?_
 have a17 := a11.t l16
 refine nl (ssr (mp rfl (cr hm (fun _ => p42 (c0 := 2) (x0 := (Vm.l30Rd.mk x0.b z5.2)) ((f7_2.up l10).up l16) (h0_0.ul a17) rfl) ?_)))
 rintro z23 _ W25 hm l25 ⟨rfl, f25_0⟩
 have a26 := a17.t l25
 refine Ni rfl (Cw.block ?_)
 obtain ⟨K44, hK44, hm⟩ := jn_e hm
 refine Cw.loop 11 28 [4, 5, 6] (fun m l w => ∃ y31 y34 y36 y39 j32 j33 v37 v40 W43, CW.w W43 = w ∧ Le [2, 6, 7, 8, 9] W25 W43 ∧ l = [vI y31, j32, j33] ∧ Bx W43 2 g0_ [v0_0_, vI y34] ∧ Ow W43 4 [] [v37] y36 ∧ Ow W43 5 [] [v40] y39 ∧ Bx W43 6 g10 [v37, v40] ∧ Vm.spec_l30Loose_l1 x0 K44 m y31 y34 y36 y39 = some r) _ ⟨z23.1, z23.2, z5.1.Commits, z5.1.Heads, undef, undef, v0_0_7, v0_1_7, W25, rfl, Le.refl _ _, rfl, f25_0, (((f7_0.up l10).up l16).up l25), (((f7_1.up l10).up l16).up l25), (b16.up l25), hm⟩ ?_
 rintro (_ | m45) _ _ σ ⟨y31, y34, y36, y39, j32, j33, v37, v40, W43, rfl, l43, rfl, b35, o38, o41, b42, hm⟩
 ·cases hm
 unfold Vm.spec_l30Loose_l1 at hm
 have a46 := a26.t l43
 refine ssr (mi rfl (Lw.gt rfl (nl (cn hm (fun hm => ?_) fun hm => ?_))))
 ·refine sk ?_
  obtain ⟨K61, hK61, hm⟩ := jn_e hm
  refine Cw.join 15 28 [5, 6] (fun l w => ∃ y51 y53 y56 j49 j50 v54 v57 W60, CW.w W60 = w ∧ Le [2, 6, 7, 8, 9] W43 W60 ∧ l = [j49, j50] ∧ Bx W60 2 g0_ [v0_0_, vI y51] ∧ Ow W60 4 [] [v54] y53 ∧ Ow W60 5 [] [v57] y56 ∧ Bx W60 6 g10 [v54, v57] ∧ K61 y51 y53 y56 = some r) ?_ ?_
  ·rintro _ _ σ ⟨y51, y53, y56, j49, j50, v54, v57, W60, rfl, l60, rfl, b52, o55, o58, b59, hm⟩
   rw [hK61] at hm
   exact rg (mi rfl (Lw.sub rfl (Ni rfl ((agm) ⟨w64 (y31 - 1), y51, y53, y56, j49, j50, v54, v57, W60, rfl, (l43.j l60).w, rfl, b52, o55, o58, b59, hm⟩))))
  ·refine Cw.block (Cw.seq ?_)
   obtain ⟨z72, e73, hm⟩ := ob hm
   obtain ⟨z80, e81, hm⟩ := ob hm
   refine Cw.par [[], [], [1], [0, 1, 2], [0, 1, 2, 3], [0, 1, 2, 3, 4], [0, 1, 2, 3, 4], [], [0, 1, 2, 3, 4, 5, 7], [0, 1, 2, 3, 4, 5, 6, 7, 8]] [[], [10], [1, 10], [0, 2], [3], [3, 4], [3, 4], [], [3, 5, 7], [6]] [[], [], [2], [], [], [], [], [], [9], []] [[0], [1], [2], [3], [3, 4], [3, 5], [6], [7], [3, 7], [9], []] [[], [], [2], [7, 8], [], [], [], [9], [9], [], [2]] [0, 1, 2, 3, 4, 5, 6, 8, 9] [2, 9] [fun vs W => (vs 0) = .agg [v37, v40].toArray, fun vs W => (vs 1) = ptr (bx g0_), fun vs W => (vs 2) = vS z72.1 ∧ Bx W 2 g0_ [v0_0_, vI z72.2], fun vs W => (vs 3) = .tuple [.agg [(cellOf (cellOf (vs 3) 0) 0), (cellOf (cellOf (vs 3) 0) 1)].toArray, vB z80.2].toArray ∧ Ow W 7 [] [(cellOf (cellOf (vs 3) 0) 0)] z80.1.Commits ∧ Ow W 8 [] [(cellOf (cellOf (vs 3) 0) 1)] z80.1.Heads, fun vs W => (vs 4) = .tuple [.agg [(cellOf (cellOf (vs 3) 0) 0), (cellOf (cellOf (vs 3) 0) 1)].toArray, vB z80.2].toArray, fun vs W => (vs 5) = .agg [(cellOf (cellOf (vs 3) 0) 0), (cellOf (cellOf (vs 3) 0) 1)].toArray, fun vs W => (vs 6) = vB z80.2, fun vs W => (vs 7) = ptr (bx (pg (vs 7))) ∧ Bx W 9 (pg (vs 7)) [.slice none 0 0, .slice none 0 0], fun vs W => (vs 7) = ptr (bx (pg (vs 7))) ∧ Bx W 9 (pg (vs 7)) [(cellOf (cellOf (vs 3) 0) 0), (cellOf (cellOf (vs 3) 0) 1)], fun vs W => (vs 9) = vB z80.2] [fun _ W => Bx W 2 g0_ [v0_0_, vI y34]] mixed (by kernel_rfl) rfl (AllF.cons (fun _ _ l => b35.up l rfl) AllF.nil) ?_
   intro W107 l107
   have a108 := a46.n l107
   refine ⟨(Steps.cons ?_ (Steps.cons ?_ (Steps.cons ?_ (Steps.cons ?_ (Steps.cons ?_ (Steps.cons ?_ (Steps.cons ?_ (Steps.cons ?_ (Steps.cons ?_ (Steps.cons ?_ Steps.nil)))))))))), (Sups.cons (fun vs vs' W W' _ hv l hd h => by (show (vs' 0) = .agg [v37, v40].toArray); rw [hv 0 (anyb rfl)]; exact h) (Sups.cons (fun vs vs' W W' _ hv l hd h => by (show (vs' 1) = ptr (bx g0_)); rw [hv 1 (anyb rfl)]; exact h) (Sups.cons (fun vs vs' W W' _ hv l hd h => by (show (vs' 2) = vS z72.1 ∧ Bx W' 2 g0_ [v0_0_, vI z72.2]); rw [hv 2 (anyb rfl)]; exact ⟨h.1, h.2.up l (disj_mem hd (c := 2) rfl)⟩) (Sups.cons (fun vs vs' W W' _ hv l hd h => by (show (vs' 3) = .tuple [.agg [(cellOf (cellOf (vs' 3) 0) 0), (cellOf (cellOf (vs' 3) 0) 1)].toArray, vB z80.2].toArray ∧ Ow W' 7 [] [(cellOf (cellOf (vs' 3) 0) 0)] z80.1.Commits ∧ Ow W' 8 [] [(cellOf (cellOf (vs' 3) 0) 1)] z80.1.Heads); rw [hv 3 (anyb rfl)]; exact ⟨h.1, h.2.1.upv l (disj_mem hd (c := 7) rfl), h.2.2.upv l (disj_mem hd (c := 8) rfl)⟩) (Sups.cons (fun vs vs' W W' _ hv l hd h => by (show (vs' 4) = .tuple [.agg [(cellOf (cellOf (vs' 3) 0) 0), (cellOf (cellOf (vs' 3) 0) 1)].toArray, vB z80.2].toArray); rw [hv 3 (anyb rfl), hv 4 (anyb rfl)]; exact h) (Sups.cons (fun vs vs' W W' _ hv l hd h => by (show (vs' 5) = .agg [(cellOf (cellOf (vs' 3) 0) 0), (cellOf (cellOf (vs' 3) 0) 1)].toArray); rw [hv 3 (anyb rfl), hv 5 (anyb rfl)]; exact h) (Sups.cons (fun vs vs' W W' _ hv l hd h => by (show (vs' 6) = vB z80.2); rw [hv 6 (anyb rfl)]; exact h) (Sups.cons (fun vs vs' W W' _ hv l hd h => by (show (vs' 7) = ptr (bx (pg (vs' 7))) ∧ Bx W' 9 (pg (vs' 7)) [.slice none 0 0, .slice none 0 0]); rw [hv 7 (anyb rfl)]; exact ⟨h.1, h.2.up l (disj_mem hd (c := 9) rfl)⟩) (Sups.cons (fun vs vs' W W' _ hv l hd h => by (show (vs' 7) = ptr (bx (pg (vs' 7))) ∧ Bx W' 9 (pg (vs' 7)) [(cellOf (cellOf (vs' 3) 0) 0), (cellOf (cellOf (vs' 3) 0) 1)]); rw [hv 3 (anyb rfl), hv 7 (anyb rfl)]; exact ⟨h.1, h.2.up l (disj_mem hd (c := 9) rfl)⟩) (Sups.cons (fun vs vs' W W' _ hv l hd h => by (show (vs' 9) = vB z80.2); rw [hv 9 (anyb rfl)]; exact h) (Sups.cons (fun _ _ _ _ _ _ l hd h => h.up l (disj_mem hd (c := 2) rfl)) Sups.nil))))))))))), ?_⟩
   ·intro vs W lW hN
    obtain ⟨W114, hW114⟩ : ∃ X, X = W := ⟨W, rfl⟩
    subst hW114
    refine Tr.mono (Run.tr (R.lda (cs := [v37, v40]) ((b42.up l107).up lW rfl).cells rfl rfl)) ?_
    rintro _ _ ⟨hu, rfl⟩
    obtain rfl := hu.symm
    exact ⟨W114, rfl, Le.refl _ _, (show (.agg [v37, v40].toArray : Value) = .agg [v37, v40].toArray from rfl)⟩
   ·intro vs W lW hN
    obtain ⟨W120, hW120⟩ : ∃ X, X = W := ⟨W, rfl⟩
    subst hW120
    have o126 : Bx W120 2 g0_ [v0_0_, vI y34] := hN 10 (anyb rfl)
    refine Tr.mono (Run.tr (R.mv (v := ptr (bx g0_)) rfl)) ?_
    rintro _ _ ⟨hu, rfl⟩
    obtain rfl := hu.symm
    exact ⟨W120, rfl, Le.refl _ _, (show (ptr (bx g0_) : Value) = ptr (bx g0_) from rfl)⟩
   ·intro vs W lW hN
    obtain ⟨W127, hW127⟩ : ∃ X, X = W := ⟨W, rfl⟩
    subst hW127
    have a128 := a108.t lW rfl
    have e1_ : vs 1 = ptr (bx g0_) := (hN 1 (anyb rfl))
    obtain ⟨vs, rfl⟩ := up_eq e1_
    have o133 : Bx W127 2 g0_ [v0_0_, vI y34] := hN 10 (anyb rfl)
    refine Tr.mono (T.call rfl (p44  (c0 := 2) (x0 := (Vm.l30Rd.mk x0.b y34)) o133 (h0_0.ul a128) rfl e73)) ?_
    rintro _ _ ⟨W135, rfl, l135, ⟨rfl, f135_0⟩⟩
    exact ⟨W135, rfl, l135, (show (vS z72.1 : Value) = vS z72.1 ∧ Bx W135 2 g0_ [v0_0_, vI z72.2] from ⟨rfl, f135_0⟩)⟩
   ·intro vs W lW hN
    obtain ⟨W141, hW141⟩ : ∃ X, X = W := ⟨W, rfl⟩
    subst hW141
    have e0_ : vs 0 = .agg [v37, v40].toArray := (hN 0 (anyb rfl))
    obtain ⟨vs, rfl⟩ := up_eq e0_
    have e2_ : vs 2 = vS z72.1 := (hN 2 (anyb rfl)).1
    obtain ⟨vs, rfl⟩ := up_eq e2_
    have o147 : Bx W141 2 g0_ [v0_0_, vI z72.2] := (hN 2 (anyb rfl)).2
    refine Tr.mono (T.call rfl (p43 (K := [4, 5]) (k0 := 7) (k1 := 8) (x0 := (Vm.Repo.mk y36 y39)) (Repo.rd (K := [4, 5]) y36 y39 (((o38.up l107).up lW rfl).rd.sub (M := [4, 5]) rfl) (((o41.up l107).up lW rfl).rd.sub (M := [4, 5]) rfl)) e81)) ?_
    rintro _ _ ⟨W148, rfl, l148, ⟨v0_0_148, v0_1_148, rfl, f148_0, f148_1⟩⟩
    exact ⟨W148, rfl, l148, (show (.tuple [.agg [v0_0_148, v0_1_148].toArray, vB z80.2].toArray : Value) = .tuple [.agg [v0_0_148, v0_1_148].toArray, vB z80.2].toArray ∧ Ow W148 7 [] [v0_0_148] z80.1.Commits ∧ Ow W148 8 [] [v0_1_148] z80.1.Heads from ⟨rfl, f148_0, f148_1⟩)⟩
   ·intro vs W lW hN
    obtain ⟨W155, hW155⟩ : ∃ X, X = W := ⟨W, rfl⟩
    subst hW155
    obtain ⟨pc3_0n0, pc3_0n1, e3_⟩ : ∃ pc3_0n0 pc3_0n1 : Value, vs 3 = .tuple [.agg [pc3_0n0, pc3_0n1].toArray, vB z80.2].toArray := ⟨_, _, (hN 3 (anyb rfl)).1⟩
    obtain ⟨vs, rfl⟩ := up_eq e3_
    have o161 : Ow W155 7 [] [pc3_0n0] z80.1.Commits := (hN 3 (anyb rfl)).2.1
    have o162 : Ow W155 8 [] [pc3_0n1] z80.1.Heads := (hN 3 (anyb rfl)).2.2
    refine Tr.mono (Run.tr (R.mv (v := .tuple [.agg [pc3_0n0, pc3_0n1].toArray, vB z80.2].toArray) rfl)) ?_
    rintro _ _ ⟨hu, rfl⟩
    obtain rfl := hu.symm
    exact ⟨W155, rfl, Le.refl _ _, (show (.tuple [.agg [pc3_0n0, pc3_0n1].toArray, vB z80.2].toArray : Value) = .tuple [.agg [pc3_0n0, pc3_0n1].toArray, vB z80.2].toArray from rfl)⟩
   ·intro vs W lW hN
    obtain ⟨W163, hW163⟩ : ∃ X, X = W := ⟨W, rfl⟩
    subst hW163
    obtain ⟨pc3_0n0, pc3_0n1, e3_⟩ : ∃ pc3_0n0 pc3_0n1 : Value, vs 3 = .tuple [.agg [pc3_0n0, pc3_0n1].toArray, vB z80.2].toArray := ⟨_, _, (hN 3 (anyb rfl)).1⟩
    obtain ⟨vs, rfl⟩ := up_eq e3_
    have o169 : Ow W163 7 [] [pc3_0n0] z80.1.Commits := (hN 3 (anyb rfl)).2.1
    have o170 : Ow W163 8 [] [pc3_0n1] z80.1.Heads := (hN 3 (anyb rfl)).2.2
    have e4_ : vs 4 = .tuple [.agg [pc3_0n0, pc3_0n1].toArray, vB z80.2].toArray := (hN 4 (anyb rfl))
    obtain ⟨vs, rfl⟩ := up_eq e4_
    refine Tr.mono (Run.tr (R.ext (vs := [.agg [pc3_0n0, pc3_0n1].toArray, vB z80.2]) (v := .agg [pc3_0n0, pc3_0n1].toArray) rfl rfl)) ?_
    rintro _ _ ⟨hu, rfl⟩
    obtain rfl := hu.symm
    exact ⟨W163, rfl, Le.refl _ _, (show (.agg [pc3_0n0, pc3_0n1].toArray : Value) = .agg [pc3_0n0, pc3_0n1].toArray from rfl)⟩
   ·intro vs W lW hN
    obtain ⟨W171, hW171⟩ : ∃ X, X = W := ⟨W, rfl⟩
    subst hW171
    obtain ⟨pc3_0n0, pc3_0n1, e3_⟩ : ∃ pc3_0n0 pc3_0n1 : Value, vs 3 = .tuple [.agg [pc3_0n0, pc3_0n1].toArray, vB z80.2].toArray := ⟨_, _, (hN 3 (anyb rfl)).1⟩
    obtain ⟨vs, rfl⟩ := up_eq e3_
    have o177 : Ow W171 7 [] [pc3_0n0] z80.1.Commits := (hN 3 (anyb rfl)).2.1
    have o178 : Ow W171 8 [] [pc3_0n1] z80.1.Heads := (hN 3 (anyb rfl)).2.2
    have e4_ : vs 4 = .tuple [.agg [pc3_0n0, pc3_0n1].toArray, vB z80.2].toArray := (hN 4 (anyb rfl))
    obtain ⟨vs, rfl⟩ := up_eq e4_
    refine Tr.mono (Run.tr (R.ext (vs := [.agg [pc3_0n0, pc3_0n1].toArray, vB z80.2]) (v := vB z80.2) rfl rfl)) ?_
    rintro _ _ ⟨hu, rfl⟩
    obtain rfl := hu.symm
    exact ⟨W171, rfl, Le.refl _ _, (show (vB z80.2 : Value) = vB z80.2 from rfl)⟩
   ·intro vs W lW hN
    obtain ⟨W179, hW179⟩ : ∃ X, X = W := ⟨W, rfl⟩
    subst hW179
    refine Tr.mono (T.alloc 9 (cs := [.slice none 0 0, .slice none 0 0]) rfl) ?_
    rintro _ _ ⟨g185, W185, rfl, rfl, l185, b185⟩
    exact ⟨W185, rfl, l185, (show (ptr (bx g185) : Value) = ptr (bx g185) ∧ Bx W185 9 g185 [.slice none 0 0, .slice none 0 0] from ⟨rfl, b185⟩)⟩
   ·intro vs W lW hN
    obtain ⟨W191, hW191⟩ : ∃ X, X = W := ⟨W, rfl⟩
    subst hW191
    obtain ⟨pc3_0n0, pc3_0n1, e3_⟩ : ∃ pc3_0n0 pc3_0n1 : Value, vs 3 = .tuple [.agg [pc3_0n0, pc3_0n1].toArray, vB z80.2].toArray := ⟨_, _, (hN 3 (anyb rfl)).1⟩
    obtain ⟨vs, rfl⟩ := up_eq e3_
    have o197 : Ow W191 7 [] [pc3_0n0] z80.1.Commits := (hN 3 (anyb rfl)).2.1
    have o198 : Ow W191 8 [] [pc3_0n1] z80.1.Heads := (hN 3 (anyb rfl)).2.2
    have e5_ : vs 5 = .agg [pc3_0n0, pc3_0n1].toArray := (hN 5 (anyb rfl))
    obtain ⟨vs, rfl⟩ := up_eq e5_
    obtain ⟨pg7, e7_⟩ : ∃ pg7, vs 7 = ptr (bx pg7) := ⟨_, ((hN 7 (anyb rfl))).1⟩
    obtain ⟨vs, rfl⟩ := up_eq e7_
    have o199 : Bx W191 9 pg7 [.slice none 0 0, .slice none 0 0] := (hN 7 (anyb rfl)).2
    refine Tr.mono (T.sta (vs := [pc3_0n0, pc3_0n1]) o199 rfl rfl (oc_cons o197.oc (oc_cons o198.oc oc_nil)) rfl rfl) ?_
    rintro _ _ ⟨W200, rfl, l200, b200⟩
    exact ⟨W200, rfl, l200, (show (ptr (bx pg7)) = ptr (bx pg7) ∧ Bx W200 9 pg7 [pc3_0n0, pc3_0n1] from ⟨rfl, b200⟩)⟩
   ·intro vs W lW hN
    obtain ⟨W208, hW208⟩ : ∃ X, X = W := ⟨W, rfl⟩
    subst hW208
    have e6_ : vs 6 = vB z80.2 := (hN 6 (anyb rfl))
    obtain ⟨vs, rfl⟩ := up_eq e6_
    refine Tr.mono (Run.tr (R.as (v := vB z80.2) rfl)) ?_
    rintro _ _ ⟨hu, rfl⟩
    obtain rfl := hu.symm
    exact ⟨W208, rfl, Le.refl _ _, (show (vB z80.2 : Value) = vB z80.2 from rfl)⟩
   ·intro vs W lW hN
    obtain ⟨W214, hW214⟩ : ∃ X, X = W := ⟨W, rfl⟩
    subst hW214
    have o216 := (o38.up l107).up lW rfl
    have o217 := (o41.up l107).up lW rfl
    have b219 := (b42.up l107).up lW rfl
    obtain ⟨l214, hl214⟩ : ∃ x, x = lW := ⟨lW, rfl⟩
    have e0_ : vs 0 = .agg [v37, v40].toArray := (hN 0 (anyb rfl))
    obtain ⟨vs, rfl⟩ := up_eq e0_
    have e1_ : vs 1 = ptr (bx g0_) := (hN 1 (anyb rfl))
    obtain ⟨vs, rfl⟩ := up_eq e1_
    have e2_ : vs 2 = vS z72.1 := (hN 2 (anyb rfl)).1
    obtain ⟨vs, rfl⟩ := up_eq e2_
    have o220 : Bx W214 2 g0_ [v0_0_, vI z72.2] := (hN 2 (anyb rfl)).2
    obtain ⟨pc3_0n0, pc3_0n1, e3_⟩ : ∃ pc3_0n0 pc3_0n1 : Value, vs 3 = .tuple [.agg [pc3_0n0, pc3_0n1].toArray, vB z80.2].toArray := ⟨_, _, (hN 3 (anyb rfl)).1⟩
    obtain ⟨vs, rfl⟩ := up_eq e3_
    have o221 : Ow W214 7 [] [pc3_0n0] z80.1.Commits := (hN 3 (anyb rfl)).2.1
    have o222 : Ow W214 8 [] [pc3_0n1] z80.1.Heads := (hN 3 (anyb rfl)).2.2
    have e4_ : vs 4 = .tuple [.agg [pc3_0n0, pc3_0n1].toArray, vB z80.2].toArray := (hN 4 (anyb rfl))
    obtain ⟨vs, rfl⟩ := up_eq e4_
    have e5_ : vs 5 = .agg [pc3_0n0, pc3_0n1].toArray := (hN 5 (anyb rfl))
    obtain ⟨vs, rfl⟩ := up_eq e5_
    have e6_ : vs 6 = vB z80.2 := (hN 6 (anyb rfl))
    obtain ⟨vs, rfl⟩ := up_eq e6_
    obtain ⟨pg7, e7_⟩ : ∃ pg7, vs 7 = ptr (bx pg7) := ⟨_, (hN 8 (anyb rfl)).1⟩
    obtain ⟨vs, rfl⟩ := up_eq e7_
    have o223 : Bx W214 9 pg7 [pc3_0n0, pc3_0n1] := (hN 8 (anyb rfl)).2
    have e9_ : vs 9 = vB z80.2 := (hN 9 (anyb rfl))
    obtain ⟨vs, rfl⟩ := up_eq e9_
    obtain ⟨K226, hK226, hm⟩ := jn_e hm
    refine Cw.join 22 27 [27] (fun l w => ∃ y224 W225, CW.w W225 = w ∧ Le [] W214 W225 ∧ l = [vB y224] ∧ K226 y224 = some r) ?_ ?_
    ·rintro _ _ σ ⟨y224, W225, rfl, l225, rfl, hm⟩
     rw [hK226] at hm
     refine cn hm (fun hm => ?_) fun hm => ?_
     ·refine rg (la (o223.up l225) (sta (b219.up l225) (oc_cons (o221.up l225).oc (oc_cons (o222.up l225).oc oc_nil)) fun W237 l237 b237 => nl ?_))
      obtain ⟨W246, ew246, l246, o246⟩ := ((o221.up l225).up l237).dyeO 4
      obtain ⟨W254, ew254, l254, o254⟩ := (((o222.up l225).up l237).up l246).dyeO 5
      exact (ag) ⟨z72.2, z80.1.Commits, z80.1.Heads, ptr (bx pg7), vB z80.2, pc3_0n0, pc3_0n1, W254, ew254.trans (ew246), (((((l107.j l214).j l225).j l237).j l246).j l254).w, rfl, ((((o220.up l225).up l237).up l246).up l254), (o246.up l254), o254, ((b237.up l246).up l254), hm⟩
     ·exact sk ((ag) ⟨z72.2, y36, y39, ptr (bx pg7), vB z80.2, v37, v40, W225, rfl, ((l107.j l214).j l225).w, rfl, (o220.up l225), (o216.up l225), (o217.up l225), (b219.up l225), hm⟩)
    ·refine rg (Lw.r rfl (R.lda (cs := [pc3_0n0, pc3_0n1]) o223.cells rfl rfl) (ca hm (fun _ => p22 (K := [7, 8]) (x0 := (Vm.Repo.mk z80.1.Commits z80.1.Heads)) (Repo.rd (K := [7, 8]) z80.1.Commits z80.1.Heads (o221.rd.sub (M := [7, 8]) rfl) (o222.rd.sub (M := [7, 8]) rfl))) fun z261 W263 hm l263 => mb rfl (bs hm (fun hc273 hm => ?_) fun hc273 hm => ?_)))
     ·exact wak 2 hc273 (la (b219.up l263) (ca hm (fun _ => p22 (K := [4, 5]) (x0 := (Vm.Repo.mk y36 y39)) (Repo.rd (K := [4, 5]) y36 y39 ((o216.up l263).rd.sub (M := [4, 5]) rfl) ((o217.up l263).rd.sub (M := [4, 5]) rfl))) fun z274 W276 hm l276 => Pb hc273 rfl (nl ((ag) ⟨z274, W276, rfl, (l263.j l276).w, rfl, hm⟩))))
     ·exact psk 2 hc273 rfl (Pb hc273 rfl (nl ((ag) ⟨false, W263, rfl, l263, rfl, hm⟩)))
 ·refine Cw.exit ?_
  rw [hK44] at hm
  refine sr (la b42 (sta (((((b1.up l7).up l10).up l16).up l25).up l43) (oc_cons o38.oc (oc_cons o41.oc oc_nil)) fun W286 l286 b286 => ?_))
  have a287 := a46.t l286
  refine nl ?_
  obtain ⟨W292, ew292, l292, o292⟩ := (o38.up l286).dyeO 31
  have a293 := a287.t l292
  obtain ⟨W298, ew298, l298, o298⟩ := ((o41.up l286).up l292).dyeO 32
  have a299 := a293.t l298
  cases hm
  rw [← ew298.trans (ew292)]
  exact Cw.ret (retA1 rfl ((b286.up l292).up l298) (Res.mk a299 ⟨v37, v40, rfl, (o292.up l298).s, o298.s, (((b35.up l286).up l292).up l298)⟩))
theorem p15 {x0 g0_ v0_0_ k0 k1 c0 r} (hB0 : Bx W c0 g0_ [v0_0_, vI x0.p]) (h0_0 : Rd W K [v0_0_] x0.b) (hJ : okJ K [c0] = true) (hm : Vm.spec_l30Loose x0 = some r) : Q1 15 [ptr (bx g0_)] W [c0] fun W' v => ∃ u0_0 u0_1, v = .agg [u0_0, u0_1].toArray ∧ Ow W' k0 [] [u0_0] r.1.Commits ∧ Ow W' k1 [] [u0_1] r.1.Heads ∧ Bx W' c0 g0_ [v0_0_, vI r.2] :=
 CallR.adJ (J := [c0]) (fun c => bif Nat.beq c 0 then 0 else bif Nat.beq c 2 then c0 else bif Nat.beq c 31 then k0 else bif Nat.beq c 32 then k1 else 0) (c15 (hB0.viewJ 0 hJ) (h0_0.view _) hm) fun _ _ ⟨u0_0, u0_1, e, f0, f1, f2⟩ => ⟨u0_0, u0_1, e, f0.one1.backN rfl, f1.one1.backN rfl, Bx.backJ 0 f2 rfl⟩
theorem c4 {x0 v0_ r} (h0 : Rd W0 [0] [v0_] x0) (hm : Vm.spec_DrawKeepOnly x0 = some r) : Q0 4 [v0_] W0 fun Wf v => ∃ u0_0 u0_1, v = .agg [u0_0, u0_1].toArray ∧ OwS Wf [31] [] [u0_0] r.Commits ∧ OwS Wf [32] [] [u0_1] r.Heads := by
 unfold Vm.spec_DrawKeepOnly at hm
 refine CallR.of Tryz.func4 rfl rfl rfl rfl (sr (al 2 [.slice none 0 0, .slice none 0 0] fun g1 W1 l1 b1 => ?_))
 have a2 := l1.o
 refine nl (sr (mv v0_ rfl (cr hm (fun _ => p16 (k0 := 3) (h0.ul a2)) ?_)))
 rintro z4 _ W6 hm l6 ⟨g0_6, v0_0_6, rfl, f6_0, f6_1⟩
 have s7 := f6_1.sub (M := [0]) rfl
 have a8 := a2.n l6
 refine cr hm (fun _ => p15 (k0 := 4) (k1 := 5) (c0 := 3) (x0 := z4) f6_0 s7 rfl) ?_
 rintro z10 _ W12 hm l12 ⟨v0_0_12, v0_1_12, rfl, f12_0, f12_1, f12_2⟩
 have a13 := a8.t l12
 refine sta ((b1.up l6).up l12) (oc_cons f12_0.oc (oc_cons f12_1.oc oc_nil)) fun W15 l15 b15 => ?_
 have a16 := a13.t l15
 refine nl ?_
 obtain ⟨W20, ew20, l20, o20⟩ := (f12_0.up l15).dyeO 31
 have a21 := a16.t l20
 obtain ⟨W25, ew25, l25, o25⟩ := ((f12_1.up l15).up l20).dyeO 32
 have a26 := a21.t l25
 cases hm
 rw [← ew25.trans (ew20)]
 exact Cw.ret (retA1 rfl ((b15.up l20).up l25) (Res.mk a26 ⟨v0_0_12, v0_1_12, rfl, (o20.up l25).s, o25.s⟩))
theorem p4 {x0 v0_ k0 k1 r} (h0 : Rd W K [v0_] x0) (hm : Vm.spec_DrawKeepOnly x0 = some r) : Q1 4 [v0_] W [] fun W' v => ∃ u0_0 u0_1, v = .agg [u0_0, u0_1].toArray ∧ Ow W' k0 [] [u0_0] r.Commits ∧ Ow W' k1 [] [u0_1] r.Heads :=
 CallR.adJ (J := []) (fun c => bif Nat.beq c 0 then 0 else bif Nat.beq c 31 then k0 else bif Nat.beq c 32 then k1 else 0) (c4 (h0.view _) hm) fun _ _ ⟨u0_0, u0_1, e, f0, f1⟩ => ⟨u0_0, u0_1, e, f0.one1.backN rfl, f1.one1.backN rfl⟩
theorem c28 {x0 x1 x2 r} (hm : Vm.impl_within x0 x1 x2 = some r) : Q0 28 [vI x0, vI x1, vI x2] W0 fun Wf v => v = vB r := by
 unfold Vm.impl_within at hm
 refine CallR.of Tryz.func28 rfl rfl rfl rfl (sr (Nb rfl ?_))
 obtain ⟨K3, hK3, hm⟩ := jn_e hm
 refine Cw.join 7 14 [6] (fun l w => ∃ y1 W2, CW.w W2 = w ∧ Le [] W0 W2 ∧ l = [vB y1] ∧ K3 y1 = some r) ?_ ?_
 ·rintro _ _ σ ⟨y1, W2, rfl, l2, rfl, hm⟩
  rw [hK3] at hm
  have a4 := l2.o
  exact .ret (rt hm a4)
 ·refine rg (mi rfl (mi rfl (Lw.le rfl (mb rfl (bs hm (fun hc5 hm => ?_) fun hc5 hm => ?_)))))
  ·exact wak 3 hc5 (mi rfl (mi rfl (Lw.le rfl (Pb hc5 rfl (Nb rfl ((ag) ⟨decide ((x0 : Int) ≤ (x2 : Int)), W0, rfl, Le.refl _ _, rfl, hm⟩))))))
  ·exact psk 3 hc5 rfl (Pb hc5 rfl (Nb rfl ((ag) ⟨false, W0, rfl, Le.refl _ _, rfl, hm⟩)))
theorem p28 {x0 x1 x2 r} (hm : Vm.impl_within x0 x1 x2 = some r) : Q1 28 [vI x0, vI x1, vI x2] W [] fun W' v => v = vB r :=
 (c28 (W0 := W.view [] [])  hm).ad (fk 0) fun _ _ e => e
theorem c52 {x0 r} (hm : Vm.impl_wordByte x0 = some r) : Q0 52 [.int .u8 (UInt8.toNat x0 : Int)] W0 fun Wf v => v = vB r := by
 unfold Vm.impl_wordByte at hm
 refine CallR.of Tryz.func52 rfl rfl rfl rfl (sr (Nb rfl ?_))
 obtain ⟨K3, hK3, hm⟩ := jn_e hm
 refine Cw.join 3 16 [2] (fun l w => ∃ y1 W2, CW.w W2 = w ∧ Le [] W0 W2 ∧ l = [vB y1] ∧ K3 y1 = some r) ?_ ?_
 ·rintro _ _ σ ⟨y1, W2, rfl, l2, rfl, hm⟩
  rw [hK3] at hm
  have a4 := l2.o
  exact .ret (rt hm a4)
 ·refine rg (mv (.int .u8 (UInt8.toNat x0 : Int)) rfl (Lw.ge rfl (mb rfl (bs hm (fun hc5 hm => ?_) fun hc5 hm => ?_))))
  ·refine wak 2 hc5 (mv (.int .u8 (UInt8.toNat x0 : Int)) rfl (Lw.le rfl (Pb hc5 rfl (mb rfl (bs hm (fun hc6 hm => ?_) fun hc6 hm => ?_)))))
   ·exact psk 3 hc6 rfl (puk 2 rfl (psk 1 hc6 rfl (Pb hc6 rfl (Nb rfl ((ag) ⟨true, W0, rfl, Le.refl _ _, rfl, hm⟩)))))
   ·refine wak 3 hc6 (mv (.int .u8 (UInt8.toNat x0 : Int)) rfl (Lw.ge rfl (mb rfl (bs hm (fun hc7 hm => ?_) fun hc7 hm => ?_))))
    ·exact wak 2 hc7 (mv (.int .u8 (UInt8.toNat x0 : Int)) rfl (Lw.le rfl (wak 1 hc6 (Pb hc7 rfl (Pb hc6 rfl (Nb rfl ((ag) ⟨decide (((UInt8.toNat x0 : Int) : Int) ≤ (57 : Int)), W0, rfl, Le.refl _ _, rfl, hm⟩)))))))
    ·exact psk 2 hc7 rfl (wak 1 hc6 (Pb hc7 rfl (Pb hc6 rfl (Nb rfl ((ag) ⟨false, W0, rfl, Le.refl _ _, rfl, hm⟩)))))
  ·refine psk 2 hc5 rfl (Pb hc5 rfl (mb rfl (wak 3 rfl (mv (.int .u8 (UInt8.toNat x0 : Int)) rfl (Lw.ge rfl (mb rfl (bs hm (fun hc8 hm => ?_) fun hc8 hm => ?_)))))))
   ·exact wak 2 hc8 (mv (.int .u8 (UInt8.toNat x0 : Int)) rfl (Lw.le rfl (wak 1 rfl (Pb hc8 rfl (Pb rfl rfl (Nb rfl ((ag) ⟨decide (((UInt8.toNat x0 : Int) : Int) ≤ (57 : Int)), W0, rfl, Le.refl _ _, rfl, hm⟩)))))))
   ·exact psk 2 hc8 rfl (wak 1 rfl (Pb hc8 rfl (Pb rfl rfl (Nb rfl ((ag) ⟨false, W0, rfl, Le.refl _ _, rfl, hm⟩)))))
theorem p52 {x0 r} (hm : Vm.impl_wordByte x0 = some r) : Q1 52 [.int .u8 (UInt8.toNat x0 : Int)] W [] fun W' v => v = vB r :=
 (c52 (W0 := W.view [] [])  hm).ad (fk 0) fun _ _ e => e
theorem c26 {x0 r} (hm : Vm.impl_nameOk x0 = some r) : Q0 26 [vS x0] W0 fun Wf v => v = vB r := by
 unfold Vm.impl_nameOk at hm
 refine CallR.of Tryz.func26 rfl rfl rfl rfl (sr (Nb rfl (ssr (ms rfl (Lw.r rfl (R.lenS rfl) (ca hm (fun _ => p28) fun z1 W3 hm l3 => ?_))))))
 have a4 := l3.o
 refine Lw.r rfl (R.not rfl) (nl (cn hm (fun hm => ?_) fun hm => ?_))
 ·exact sr (Nb rfl (.ret (rt hm a4)))
 ·refine sk (ssr (Ni rfl (Cw.block ?_)))
  obtain ⟨K9, hK9, hm⟩ := jn_e hm
  refine Cw.loop 8 18 [2, 3] (fun m l w => ∃ y6 y7 W8, CW.w W8 = w ∧ Le [] W3 W8 ∧ l = [vB y6, vI y7] ∧ Vm.impl_nameOk_l1 x0 K9 m y6 y7 = some r) _ ⟨false, 0, W3, rfl, Le.refl _ _, rfl, hm⟩ ?_
  rintro (_ | m10) _ _ σ ⟨y6, y7, W8, rfl, l8, rfl, hm⟩
  ·cases hm
  unfold Vm.impl_nameOk_l1 at hm
  have a11 := a4.n l8
  refine ssr (mi rfl (ms rfl (Lw.r rfl (R.lenS rfl) (Lw.lt rfl (nl (cn hm (fun hm => ?_) fun hm => ?_))))))
  ·refine sk (Cw.seq (Cw.block (sr (ms rfl (mi rfl ?_)))))
   obtain ⟨u13, e14, hm⟩ := ob hm
   refine Lw.r rfl (R.chm e14 rfl rfl) (ca hm (fun _ => p52) fun z15 W17 hm l17 => ?_)
   have a18 := a11.n l17
   refine Lw.r rfl (R.not rfl) (nl (cn hm (fun hm => ?_) fun hm => ?_))
   ·exact sr (Nb rfl (.ret (rt hm a18)))
   ·exact sk (rg (mi rfl (Lw.add rfl (Ni rfl ((agm) ⟨y6, w64 (y7 + 1), W17, rfl, (l8.j l17).w, rfl, hm⟩)))))
  ·refine Cw.exit ?_
   rw [hK9] at hm
   exact sr (Nb rfl (.ret (rt hm a11)))
theorem p26 {x0 r} (hm : Vm.impl_nameOk x0 = some r) : Q1 26 [vS x0] W [] fun W' v => v = vB r :=
 (c26 (W0 := W.view [] [])  hm).ad (fk 0) fun _ _ e => e
theorem c63 {x0 r} (hm : Vm.impl_lineOk x0 = some r) : Q0 63 [vS x0] W0 fun Wf v => v = vB r := by
 unfold Vm.impl_lineOk at hm
 refine CallR.of Tryz.func63 rfl rfl rfl rfl (sr (Nb rfl (ssr (ms rfl (Lw.r rfl (R.lenS rfl) (Lw.gt rfl (nl (cn hm (fun hm => ?_) fun hm => ?_))))))))
 ·exact sr (Nb rfl (.ret (rt hm (Le.refl _ _))))
 ·refine sk (ssr (Ni rfl (Cw.block ?_)))
  obtain ⟨K5, hK5, hm⟩ := jn_e hm
  refine Cw.loop 7 22 [2, 3] (fun m l w => ∃ y2 y3 W4, CW.w W4 = w ∧ Le [] W0 W4 ∧ l = [vB y2, vI y3] ∧ Vm.impl_lineOk_l1 x0 K5 m y2 y3 = some r) _ ⟨false, 0, W0, rfl, Le.refl _ _, rfl, hm⟩ ?_
  rintro (_ | m6) _ _ σ ⟨y2, y3, W4, rfl, l4, rfl, hm⟩
  ·cases hm
  unfold Vm.impl_lineOk_l1 at hm
  have a7 := l4.o
  refine ssr (mi rfl (ms rfl (Lw.r rfl (R.lenS rfl) (Lw.lt rfl (nl (cn hm (fun hm => ?_) fun hm => ?_))))))
  ·refine sk (Cw.seq (Cw.block ?_))
   obtain ⟨K11, hK11, hm⟩ := jn_e hm
   refine Cw.join 13 22 [22] (fun l w => ∃ y9 W10, CW.w W10 = w ∧ Le [] W4 W10 ∧ l = [vB y9] ∧ K11 y9 = some r) ?_ ?_
   ·rintro _ _ σ ⟨y9, W10, rfl, l10, rfl, hm⟩
    rw [hK11] at hm
    have a12 := a7.n l10
    refine cn hm (fun hm => ?_) fun hm => ?_
    ·exact sr (Nb rfl (.ret (rt hm a12)))
    ·exact sk (rg (mi rfl (Lw.add rfl (Ni rfl ((agm) ⟨y2, w64 (y3 + 1), W10, rfl, (l4.j l10).w, rfl, hm⟩)))))
   ·refine rg (ms rfl (mi rfl ?_))
    obtain ⟨u14, e15, hm⟩ := ob hm
    refine Lw.r rfl (R.chm e15 rfl rfl) (Lw.lt rfl (mb rfl (bs hm (fun hc16 hm => ?_) fun hc16 hm => ?_)))
    ·exact psk 4 hc16 rfl (Pb hc16 rfl (nl ((ag) ⟨true, W4, rfl, Le.refl _ _, rfl, hm⟩)))
    ·refine wak 4 hc16 (ms rfl (mi rfl ?_))
     obtain ⟨u17, e18, hm⟩ := ob hm
     exact Lw.r rfl (R.chm e18 rfl rfl) (Lw.gt rfl (Pb hc16 rfl (nl ((ag) ⟨decide ((126 : Int) < ((UInt8.toNat u17 : Int) : Int)), W4, rfl, Le.refl _ _, rfl, hm⟩))))
  ·refine Cw.exit ?_
   rw [hK5] at hm
   exact sr (Nb rfl (.ret (rt hm a7)))
theorem p63 {x0 r} (hm : Vm.impl_lineOk x0 = some r) : Q1 63 [vS x0] W [] fun W' v => v = vB r :=
 (c63 (W0 := W.view [] [])  hm).ad (fk 0) fun _ _ e => e
theorem c53 {x0 v0_ r} (h0 : Rd W0 [0] [v0_] x0) (hm : Vm.impl_TextOk x0 = some r) : Q0 53 [v0_] W0 fun Wf v => v = vB r := by
 unfold Vm.impl_TextOk at hm
 refine CallR.of Tryz.func53 rfl rfl rfl rfl (sr (Nb rfl (ssr (mv v0_ rfl (Lw.ln x0 h0 rfl (Lw.gt rfl (nl (cn hm (fun hm => ?_) fun hm => ?_))))))))
 ·exact sr (Nb rfl (.ret (rt hm (Le.refl _ _))))
 ·refine sk (ssr (mv v0_ rfl (Lw.ln x0 h0 rfl (mi rfl (nl (Cw.block ?_))))))
  obtain ⟨K6, hK6, hm⟩ := jn_e hm
  refine Cw.loop 10 17 [2, 4, 10] (fun m l w => ∃ y2 y4 j3 W5, CW.w W5 = w ∧ Le [] W0 W5 ∧ l = [vB y2, j3, vI y4] ∧ Vm.impl_TextOk_l1 x0 K6 m y2 y4 = some r) _ ⟨false, 0, undef, W0, rfl, Le.refl _ _, rfl, hm⟩ ?_
  rintro (_ | m7) _ _ σ ⟨y2, y4, j3, W5, rfl, l5, rfl, hm⟩
  ·cases hm
  unfold Vm.impl_TextOk_l1 at hm
  have a8 := l5.o
  refine sr (Lw.lt rfl (nl (Cw.seq (cn hm (fun hm => ?_) fun hm => ?_))))
  ·refine sk (Cw.seq (Cw.block (sr ?_)))
   obtain ⟨u10, e11, hm⟩ := ob hm
   refine Lw.r rfl (R.ix (α := Str) (h0.ul a8) e11 rfl rfl rfl) (Lw.r rfl (R.ld rfl rfl ((h0.ul a8).at_ e11).str) (Ns rfl (sr (ms rfl (ca hm (fun _ => p63) fun z13 W15 hm l15 => ?_)))))
   have a16 := a8.n l15
   refine Lw.r rfl (R.not rfl) (nl (cn hm (fun hm => ?_) fun hm => ?_))
   ·exact sr (Nb rfl (.ret (rt hm a16)))
   ·exact sk (rg (Lw.add rfl (mi rfl (nl ((agm) ⟨y2, w64 (y4 + 1), vS u10, W15, rfl, (l5.j l15).w, rfl, hm⟩)))))
  ·refine Cw.exit ?_
   rw [hK6] at hm
   exact sr (Nb rfl (.ret (rt hm a8)))
theorem p53 {x0 v0_ r} (h0 : Rd W K [v0_] x0) (hm : Vm.impl_TextOk x0 = some r) : Q1 53 [v0_] W [] fun W' v => v = vB r :=
 (c53 (h0.view _) hm).ad (fk 0) fun _ _ e => e
theorem c54 {x0 r} (h99 : Gl 0 W0 [0]) (hm : Vm.impl_PathOk x0 = some r) : Q0 54 [vS x0] W0 fun Wf v => v = vB r := by
 unfold Vm.impl_PathOk at hm
 refine CallR.of Tryz.func54 rfl rfl rfl rfl (sr (Nb rfl (sr (ms rfl (cr hm (fun _ => p64 (k0 := 2) h99) ?_)))))
 rintro z1 v0_3 W3 hm l3 ⟨_, rfl, f3_0⟩
 have a4 := l3.o
 refine Nv v0_3 rfl (ssr (mv v0_3 rfl (Lw.ln z1 f3_0.rd rfl (Lw.gt rfl (nl (cn hm (fun hm => ?_) fun hm => ?_))))))
 ·exact sr (Nb rfl (.ret (rt hm a4)))
 ·refine sk (ssr (mv v0_3 rfl (Lw.ln z1 f3_0.rd rfl (mi rfl (nl (Cw.block ?_))))))
  obtain ⟨K10, hK10, hm⟩ := jn_e hm
  refine Cw.loop 13 20 [2, 5, 13] (fun m l w => ∃ y6 y8 j7 W9, CW.w W9 = w ∧ Le [] W3 W9 ∧ l = [vB y6, j7, vI y8] ∧ Vm.impl_PathOk_l1 z1 K10 m y6 y8 = some r) _ ⟨false, 0, undef, W3, rfl, Le.refl _ _, rfl, hm⟩ ?_
  rintro (_ | m11) _ _ σ ⟨y6, y8, j7, W9, rfl, l9, rfl, hm⟩
  ·cases hm
  unfold Vm.impl_PathOk_l1 at hm
  have a12 := a4.n l9
  refine sr (Lw.lt rfl (nl (Cw.seq (cn hm (fun hm => ?_) fun hm => ?_))))
  ·refine sk (Cw.seq (Cw.block (sr ?_)))
   obtain ⟨u15, e16, hm⟩ := ob hm
   refine Lw.r rfl (R.ix (α := Str) (f3_0.up l9).rd e16 rfl rfl rfl) (Lw.r rfl (R.ld rfl rfl ((f3_0.up l9).rd.at_ e16).str) (Ns rfl (sr (ms rfl (ca hm (fun _ => p26) fun z17 W19 hm l19 => ?_)))))
   have a20 := a12.n l19
   refine Lw.r rfl (R.not rfl) (nl (cn hm (fun hm => ?_) fun hm => ?_))
   ·exact sr (Nb rfl (.ret (rt hm a20)))
   ·exact sk (rg (Lw.add rfl (mi rfl (nl ((agm) ⟨y6, w64 (y8 + 1), vS u15, W19, rfl, (l9.j l19).w, rfl, hm⟩)))))
  ·refine Cw.exit ?_
   rw [hK10] at hm
   exact sr (Nb rfl (.ret (rt hm a12)))
theorem p54 {x0 r} (h99 : Gl 0 W K) (hm : Vm.impl_PathOk x0 = some r) : Q1 54 [vS x0] W [] fun W' v => v = vB r :=
 (c54 (h99.view _) hm).ad (fk 0) fun _ _ e => e
theorem c55 {x0 x1 r} (h99 : Gl 0 W0 [0]) (hm : Vm.impl_PathIn x0 x1 = some r) : Q0 55 [vS x0, vS x1] W0 fun Wf v => v = vB r := by
 unfold Vm.impl_PathIn at hm
 refine CallR.of Tryz.func55 rfl rfl rfl rfl (sr (Nb rfl ?_))
 obtain ⟨K3, hK3, hm⟩ := jn_e hm
 refine Cw.join 5 16 [4] (fun l w => ∃ y1 W2, CW.w W2 = w ∧ Le [] W0 W2 ∧ l = [vB y1] ∧ K3 y1 = some r) ?_ ?_
 ·rintro _ _ σ ⟨y1, W2, rfl, l2, rfl, hm⟩
  rw [hK3] at hm
  have a4 := l2.o
  exact .ret (rt hm a4)
 ·refine rg (ms rfl (ca hm (fun _ => p54 h99) fun z5 W7 hm l7 => ?_))
  have a8 := l7.o
  refine mb rfl (bs hm (fun hc9 hm => ?_) fun hc9 hm => ?_)
  ·refine wak 2 hc9 (ms rfl (ca hm (fun _ => p54 (h99.ul a8)) fun z11 W13 hm l13 => Pb hc9 rfl (mb rfl (bs hm (fun hc15 hm => ?_) fun hc15 hm => ?_))))
   ·refine wak 4 hc15 (ms rfl (ms rfl ?_))
    obtain ⟨q16, e17, hm⟩ := ob hm
    exact Lw.r rfl (R.sad e17 rfl rfl) (ca hm (fun _ => p65) fun z18 W20 hm l20 => Pb hc15 rfl (Nb rfl ((ag) ⟨z18, W20, rfl, ((l7.j l13).j l20).w, rfl, hm⟩)))
   ·exact psk 4 hc15 rfl (Pb hc15 rfl (Nb rfl ((ag) ⟨false, W13, rfl, (l7.j l13).w, rfl, hm⟩)))
  ·exact psk 2 hc9 rfl (Pb hc9 rfl (mb rfl (psk 4 rfl rfl (Pb rfl rfl (Nb rfl ((ag) ⟨false, W7, rfl, l7, rfl, hm⟩))))))
theorem p55 {x0 x1 r} (h99 : Gl 0 W K) (hm : Vm.impl_PathIn x0 x1 = some r) : Q1 55 [vS x0, vS x1] W [] fun W' v => v = vB r :=
 (c55 (h99.view _) hm).ad (fk 0) fun _ _ e => e
theorem c27 {x0 v0_ r} (h0 : Rd W0 [0] [v0_] x0) (h99 : Gl 0 W0 [0]) (hm : Vm.impl_TreeOk x0 = some r) : Q0 27 [v0_] W0 fun Wf v => v = vB r := by
 unfold Vm.impl_TreeOk at hm
 refine CallR.of Tryz.func27 rfl rfl rfl rfl (sr (Nb rfl (ssr (mv v0_ rfl (Lw.ln x0 h0 rfl (Lw.gt rfl (nl (cn hm (fun hm => ?_) fun hm => ?_))))))))
 ·exact sr (Nb rfl (.ret (rt hm (Le.refl _ _))))
 ·refine sk (ssr (mv v0_ rfl (Lw.ln x0 h0 rfl (mi rfl (nl (Cw.block ?_))))))
  obtain ⟨K8, hK8, hm⟩ := jn_e hm
  refine Cw.loop 12 56 [2, 3, 4, 6, 12] (fun m l w => ∃ y2 y6 j3 j4 j5 W7, CW.w W7 = w ∧ Le [2, 3] W0 W7 ∧ l = [vB y2, j3, j4, j5, vI y6] ∧ Vm.impl_TreeOk_l1 x0 K8 m y2 y6 = some r) _ ⟨false, 0, undef, undef, undef, W0, rfl, Le.refl _ _, rfl, hm⟩ ?_
  rintro (_ | m9) _ _ σ ⟨y2, y6, j3, j4, j5, W7, rfl, l7, rfl, hm⟩
  ·cases hm
  unfold Vm.impl_TreeOk_l1 at hm
  have a10 := l7.s
  refine sr (Lw.lt rfl (nl (Cw.seq (cn hm (fun hm => ?_) fun hm => ?_))))
  ·refine sk (Cw.seq (Cw.block (sr (mi rfl ?_))))
   obtain ⟨u12, e13, hm⟩ := ob hm
   refine Lw.r rfl (R.ix (α := File) (h0.ul a10) e13 rfl rfl rfl) ?_
   obtain ⟨x15, c16, _, r17⟩ := ((h0.ul a10).at_ e13).cells
   obtain ⟨v18, rfl, r19⟩ := File.split r17
   refine Lw.r rfl (R.lda c16 rfl rfl) (al 2 [vS ([] : Str), .slice none 0 0] fun g20 W20 l20 b20 => ?_)
   have a21 := l20.o
   refine Gi rfl (sta b20 (oc_cons rfl (oc_cons r19.oc oc_nil)) fun W22 l22 b22 => ?_)
   have a23 := l22.s
   refine nl (Cw.seq ?_)
   obtain ⟨K26, hK26, hm⟩ := jn_e hm
   refine Cw.join 17 41 [41] (fun l w => ∃ y24 W25, CW.w W25 = w ∧ Le [] W22 W25 ∧ l = [vB y24] ∧ K26 y24 = some r) ?_ ?_
   ·rintro _ _ σ ⟨y24, W25, rfl, l25, rfl, hm⟩
    rw [hK26] at hm
    have a27 := ((a10.trans a21).trans a23).n l25
    refine cn hm (fun hm => ?_) fun hm => ?_
    ·exact sr (Nb rfl (.ret (rt hm a27)))
    ·refine sk (sr (mv v0_ rfl (mi rfl ?_)))
     obtain ⟨q30, e31, hm⟩ := ob hm
     have r34 := (h0.ul a27).cutV e31
     refine Lw.r rfl (R.sl (h0.ul a27) e31 rfl (.inl ⟨rfl, rfl⟩) (.inr rfl)) (Lw.ln q30 r34 rfl (mi rfl (nl (Cw.block ?_))))
     obtain ⟨K39, hK39, hm⟩ := jn_e hm
     refine Cw.loop 46 55 [2, 6, 46] (fun m l w => ∃ y35 y37 j36 W38, CW.w W38 = w ∧ Le [3] W25 W38 ∧ l = [vB y35, j36, vI y37] ∧ Vm.impl_TreeOk_l2 u12 q30 K39 m y35 y37 = some r) _ ⟨y2, 0, j5, W25, rfl, Le.refl _ _, rfl, hm⟩ ?_
     rintro (_ | m40) _ _ σ ⟨y35, y37, j36, W38, rfl, l38, rfl, hm⟩
     ·cases hm
     unfold Vm.impl_TreeOk_l2 at hm
     have a41 := l38.s
     refine sr (Lw.lt rfl (nl (Cw.seq (cn hm (fun hm => ?_) fun hm => ?_))))
     ·refine sk (Cw.seq (Cw.block (sr ?_)))
      obtain ⟨u44, e45, hm⟩ := ob hm
      refine Lw.r rfl (R.ix (α := File) (r34.ul a41) e45 rfl rfl rfl) ?_
      obtain ⟨x47, c48, _, r49⟩ := ((r34.ul a41).at_ e45).cells
      obtain ⟨v50, rfl, r51⟩ := File.split r49
      refine Lw.r rfl (R.lda c48 rfl rfl) (al 3 [vS ([] : Str), .slice none 0 0] fun g52 W52 l52 b52 => ?_)
      have a53 := (a27.trans a41).n l52
      refine sta b52 (oc_cons rfl (oc_cons r51.oc oc_nil)) fun W55 l55 b55 => ?_
      have a56 := a53.t l55
      refine nl (sr (fl b55 rfl (fl ((((b22.up l25).up l38).up l52).up l55) rfl (ca hm (fun _ => p55 (h99.ul a56)) fun z59 W61 hm l61 => ?_))))
      have a62 := a56.n l61
      refine nl (cn hm (fun hm => ?_) fun hm => ?_)
      ·exact sr (Nb rfl (.ret (rt hm a62)))
      ·exact sk (rg (Lw.add rfl (mi rfl (nl ((agm) ⟨y35, w64 (y37 + 1), ptr (bx g52), W61, rfl, (((l38.j l52).j l55).j l61).w, rfl, hm⟩)))))
     ·refine Cw.exit ?_
      rw [hK39] at hm
      exact rg (Lw.add rfl (mi rfl (nl ((agm) ⟨y35, w64 (y6 + 1), vI y6, ptr (bx g20), j36, W38, rfl, ((((l7.j l20).j l22).j l25).j l38).w, rfl, hm⟩))))
   ·refine Cw.draw [] [(0, 0), (1, 1), (2, 2), (3, 0), (4, 0), (5, 0), (6, 1), (7, 2), (8, 0), (9, 0), (10, 0), (11, 0), (12, 0), (13, 0), (14, 0), (15, 0), (16, 0), (17, 0), (18, 0), (19, 1), (20, 0), (21, 1), (22, 0), (23, 0), (24, 0)] mixed (by kernel_rfl) fun W66 l66 => ?_
    have a67 := l66.o
    have b68 := b22.up l66
    refine Dfl b68 rfl rfl rfl ?_
    obtain ⟨z70, e71, hm⟩ := ob hm
    refine Mw.t rfl rfl (T.call rfl (p53  (r19.ul ((a21.trans a23).trans a67)) e71)) ?_
    rintro _ _ ⟨W72, rfl, l72, rfl⟩
    have a73 := (((a10.trans a21).trans a23).trans a67).n l72
    refine m0 l72 fun d72 => Mw.p rfl rfl (fun _ => R.not rfl) (Db rfl (bs hm (fun hc75 hm => ?_) fun hc75 hm => ?_))
    ·exact dps 4 hc75 rfl (Mw.p rfl rfl (fun _ => R.pk hc75 rfl (v := vB true) rfl) (Db rfl (dps 3 rfl rfl (dpu 9 rfl (dps 1 rfl rfl (Mw.p rfl rfl (fun _ => R.pk rfl rfl (v := vB true) rfl) (Mw.nil ((ag) ⟨true, W72, rfl, (l66.j l72).w, rfl, hm⟩))))))))
    ·refine Wp hc75 rfl (fun _ => R.fa rfl) (Wq hc75 rfl (fun _ c => R.ld (v := vS u12.Path) rfl rfl (b68.clc rfl rfl c)) ?_)
     obtain ⟨z77, e78, hm⟩ := ob hm
     refine Wt hc75 rfl (T.call rfl (p54  (h99.ul a73) e78)) ?_
     rintro _ _ ⟨W79, rfl, l79, rfl⟩
     refine mc d72 l79 fun d79 => Wp hc75 rfl (fun _ => R.not rfl) (Mw.p rfl rfl (fun _ => R.pk hc75 rfl (v := vB (!z77)) rfl) (Db rfl (bs hm (fun hc82 hm => ?_) fun hc82 hm => ?_)))
     ·exact dps 3 hc82 rfl (dpu 9 rfl (dps 1 hc82 rfl (Mw.p rfl rfl (fun _ => R.pk hc82 rfl (v := vB true) rfl) (Mw.nil ((ag) ⟨true, W79, rfl, ((l66.j l72).j l79).w, rfl, hm⟩)))))
     ·refine Wp hc82 rfl (fun _ => R.mv (v := vI y6) rfl) (Wp hc82 rfl (fun _ => R.gt rfl rfl) (Wp hc82 rfl (fun _ => R.mv (v := vB (decide ((0 : Int) < (y6 : Int)))) rfl) (bs hm (fun hc83 hm => ?_) fun hc83 hm => ?_)))
      ·refine Wp hc83 rfl (fun _ => R.mv (v := v0_) rfl) (Wp hc83 rfl (fun _ => R.mv (v := vI y6) rfl) (Wp hc83 rfl (fun _ => R.sub rfl rfl) ?_))
       obtain ⟨u84, e85, hm⟩ := ob hm
       have s86 := h0.ul (((a10.trans a21).trans a23).trans a67)
       exact Wp hc83 rfl (fun _ => R.ix (α := File) s86 e85 rfl rfl rfl) (Wp hc83 rfl (fun _ => R.fa rfl) (Wq hc83 rfl (fun _ c => R.ld rfl rfl (cl_cell (File.at0 (s86.at_ e85)).1 rfl (File.at0 (s86.at_ e85)).str c)) (Wp hc83 rfl (fun _ => R.fa rfl) (Wq hc83 rfl (fun _ c => R.ld (v := vS u12.Path) rfl rfl (b68.clc rfl rfl c)) (Wp hc83 rfl (fun _ => R.sge rfl rfl) (Wp hc82 rfl (fun _ => R.pk hc83 rfl (v := vB (!Op.bytesLess u84.Path u12.Path)) rfl) (Mw.p rfl rfl (fun _ => R.pk hc82 rfl (v := vB (!Op.bytesLess u84.Path u12.Path)) rfl) (Mw.nil ((ag) ⟨(!Op.bytesLess u84.Path u12.Path), W79, rfl, ((l66.j l72).j l79).w, rfl, hm⟩)))))))))
      ·exact dps 9 hc83 rfl (Wp hc82 rfl (fun _ => R.pk hc83 rfl (v := vB false) rfl) (Mw.p rfl rfl (fun _ => R.pk hc82 rfl (v := vB false) rfl) (Mw.nil ((ag) ⟨false, W79, rfl, ((l66.j l72).j l79).w, rfl, hm⟩))))
  ·refine Cw.exit ?_
   rw [hK8] at hm
   exact sr (Nb rfl (.ret (rt hm a10)))
theorem p27 {x0 v0_ r} (h0 : Rd W K [v0_] x0) (h99 : Gl 0 W K) (hm : Vm.impl_TreeOk x0 = some r) : Q1 27 [v0_] W [] fun W' v => v = vB r :=
 (c27 (h0.view _) (h99.view _) hm).ad (fk 0) fun _ _ e => e
theorem c37 {x0 v0_0_ v0_1_ x1 r} (h0 : Rd W0 [0] [v0_0_, v0_1_] x0) (hm : Vm.impl_Repo_exists x0 x1 = some r) : Q0 37 [.agg [v0_0_, v0_1_].toArray, vI x1] W0 fun Wf v => v = vB r := by
 unfold Vm.impl_Repo_exists at hm
 obtain ⟨w0_0, w0_1, he0, h0_0, h0_1⟩ := Repo.split h0
 simp only [List.cons.injEq, and_true, true_and] at he0
 obtain ⟨rfl, rfl⟩ := he0
 refine CallR.of Tryz.func37 rfl rfl rfl rfl (sr (bo 2 rfl fun g1 W1 l1 b1 => ?_))
 have a2 := l1.o
 refine Nb rfl (sr (mi rfl (fl b1 rfl (Lw.ln x0.Commits (h0_0.ul a2) rfl (Lw.sub rfl (ca hm (fun _ => p28) fun z4 W6 hm l6 => ?_))))))
 have a7 := a2.n l6
 exact Nb rfl (.ret (rt hm a7))
theorem p37 {x0 v0_0_ v0_1_ x1 r} (h0 : Rd W K [v0_0_, v0_1_] x0) (hm : Vm.impl_Repo_exists x0 x1 = some r) : Q1 37 [.agg [v0_0_, v0_1_].toArray, vI x1] W [] fun W' v => v = vB r :=
 (c37 (h0.view _) hm).ad (fk 0) fun _ _ e => e
theorem c29 {x0 v0_0_ v0_1_ x1 v1_ r} (h0 : Rd W0 [0] [v0_0_, v0_1_] x0) (h1 : Rd W0 [0] [v1_] x1) (hm : Vm.impl_headsOk x0 x1 = some r) : Q0 29 [.agg [v0_0_, v0_1_].toArray, v1_] W0 fun Wf v => v = vB r := by
 unfold Vm.impl_headsOk at hm
 obtain ⟨w0_0, w0_1, he0, h0_0, h0_1⟩ := Repo.split h0
 simp only [List.cons.injEq, and_true, true_and] at he0
 obtain ⟨rfl, rfl⟩ := he0
 refine CallR.of Tryz.func29 rfl rfl rfl rfl (sr (bo 2 rfl fun g1 W1 l1 b1 => ?_))
 have a2 := l1.o
 refine Nb rfl (ssr (mv v1_ rfl (Lw.ln x1 (h1.ul a2) rfl (Lw.gt rfl (nl (cn hm (fun hm => ?_) fun hm => ?_))))))
 ·exact sr (Nb rfl (.ret (rt hm a2)))
 ·refine sk (ssr (mv v1_ rfl (Lw.ln x1 (h1.ul a2) rfl (mi rfl (nl (Cw.block ?_))))))
  obtain ⟨K10, hK10, hm⟩ := jn_e hm
  refine Cw.loop 12 43 [4, 5, 6, 12] (fun m l w => ∃ y5 y8 j6 j7 W9, CW.w W9 = w ∧ Le [3] W1 W9 ∧ l = [vB y5, j6, j7, vI y8] ∧ Vm.impl_headsOk_l1 x0 x1 K10 m y5 y8 = some r) _ ⟨false, 0, undef, undef, W1, rfl, Le.refl _ _, rfl, hm⟩ ?_
  rintro (_ | m11) _ _ σ ⟨y5, y8, j6, j7, W9, rfl, l9, rfl, hm⟩
  ·cases hm
  unfold Vm.impl_headsOk_l1 at hm
  have a12 := a2.t l9
  refine sr (Lw.lt rfl (nl (Cw.seq (cn hm (fun hm => ?_) fun hm => ?_))))
  ·refine sk (Cw.seq (Cw.block (sr (mi rfl ?_))))
   obtain ⟨u15, e16, hm⟩ := ob hm
   refine Lw.r rfl (R.ix (α := Head) (h1.ul a12) e16 rfl rfl rfl) ?_
   obtain ⟨x18, c19, _, r20⟩ := ((h1.ul a12).at_ e16).cells
   obtain rfl := Head.split r20
   refine Lw.r rfl (R.lda c19 rfl rfl) (al 3 [vS ([] : Str), vI 0] fun g21 W21 l21 b21 => ?_)
   have a22 := a12.n l21
   refine Gi rfl (sta b21 (oc_cons rfl (oc_cons rfl oc_nil)) fun W24 l24 b24 => ?_)
   have a25 := a22.t l24
   refine nl ?_
   obtain ⟨K29, hK29, hm⟩ := jn_e hm
   refine Cw.join 17 42 [42] (fun l w => ∃ y27 W28, CW.w W28 = w ∧ Le [] W24 W28 ∧ l = [vB y27] ∧ K29 y27 = some r) ?_ ?_
   ·rintro _ _ σ ⟨y27, W28, rfl, l28, rfl, hm⟩
    rw [hK29] at hm
    have a30 := a25.n l28
    refine cn hm (fun hm => ?_) fun hm => ?_
    ·exact sr (Nb rfl (.ret (rt hm a30)))
    ·exact sk (rg (Lw.add rfl (mi rfl (nl ((agm) ⟨y5, w64 (y8 + 1), vI y8, ptr (bx g21), W28, rfl, (((l9.j l21).j l24).j l28).w, rfl, hm⟩)))))
   ·refine Cw.draw [] [(0, 0), (1, 1), (2, 2), (3, 0), (4, 0), (5, 1), (6, 0), (7, 1), (8, 2), (9, 0), (10, 0), (11, 0), (12, 0), (13, 0), (14, 0), (15, 0), (16, 0), (17, 0), (18, 0), (19, 0), (20, 1), (21, 0), (22, 1), (23, 0), (24, 0), (25, 0)] mixed (by kernel_rfl) fun W34 l34 => ?_
    have a35 := a25.n l34
    have b37 := b24.up l34
    refine Dfl b37 rfl rfl rfl ?_
    obtain ⟨z38, e39, hm⟩ := ob hm
    refine Mw.t rfl rfl (T.call rfl (p26   e39)) ?_
    rintro _ _ ⟨W40, rfl, l40, rfl⟩
    have a41 := a35.n l40
    refine m0 l40 fun d40 => Mw.p rfl rfl (fun _ => R.not rfl) (Db rfl (bs hm (fun hc44 hm => ?_) fun hc44 hm => ?_))
    ·exact dps 5 hc44 rfl (Mw.p rfl rfl (fun _ => R.pk hc44 rfl (v := vB true) rfl) (Db rfl (dps 3 rfl rfl (dpu 9 rfl (dps 1 rfl rfl (Mw.p rfl rfl (fun _ => R.pk rfl rfl (v := vB true) rfl) (Mw.nil ((ag) ⟨true, W40, rfl, (l34.j l40).w, rfl, hm⟩))))))))
    ·refine Wq hc44 rfl (fun _ c => R.lda (cs := [v0_0_, v0_1_]) (((((b1.up l9).up l21).up l24).up l34).clcs rfl c) rfl rfl) (Wp hc44 rfl (fun _ => R.fa rfl) (Wq hc44 rfl (fun _ c => R.ld (v := vI u15.At) rfl rfl (b37.clc rfl rfl c)) ?_))
     obtain ⟨z47, e48, hm⟩ := ob hm
     refine Wt hc44 rfl (T.call rfl (p37  (Repo.rd (K := [0]) x0.Commits x0.Heads (h0_0.ul a41) (h0_1.ul a41)) e48)) ?_
     rintro _ _ ⟨W49, rfl, l49, rfl⟩
     refine mc d40 l49 fun d49 => Wp hc44 rfl (fun _ => R.not rfl) (Mw.p rfl rfl (fun _ => R.pk hc44 rfl (v := vB (!z47)) rfl) (Db rfl (bs hm (fun hc53 hm => ?_) fun hc53 hm => ?_)))
     ·exact dps 3 hc53 rfl (dpu 9 rfl (dps 1 hc53 rfl (Mw.p rfl rfl (fun _ => R.pk hc53 rfl (v := vB true) rfl) (Mw.nil ((ag) ⟨true, W49, rfl, ((l34.j l40).j l49).w, rfl, hm⟩)))))
     ·refine Wp hc53 rfl (fun _ => R.mv (v := vI y8) rfl) (Wp hc53 rfl (fun _ => R.gt rfl rfl) (Wp hc53 rfl (fun _ => R.mv (v := vB (decide ((0 : Int) < (y8 : Int)))) rfl) (bs hm (fun hc54 hm => ?_) fun hc54 hm => ?_)))
      ·refine Wp hc54 rfl (fun _ => R.mv (v := v1_) rfl) (Wp hc54 rfl (fun _ => R.mv (v := vI y8) rfl) (Wp hc54 rfl (fun _ => R.sub rfl rfl) ?_))
       obtain ⟨u55, e56, hm⟩ := ob hm
       exact Wp hc54 rfl (fun _ => R.ix (α := Head) (h1.ul a35) e56 rfl rfl rfl) (Wp hc54 rfl (fun _ => R.fa rfl) (Wq hc54 rfl (fun _ c => R.ld rfl rfl (cl_cell (Head.at0 ((h1.ul a35).at_ e56)).1 rfl (Head.at0 ((h1.ul a35).at_ e56)).str c)) (Wp hc54 rfl (fun _ => R.fa rfl) (Wq hc54 rfl (fun _ c => R.ld (v := vS u15.Name) rfl rfl (b37.clc rfl rfl c)) (Wp hc54 rfl (fun _ => R.sge rfl rfl) (Wp hc53 rfl (fun _ => R.pk hc54 rfl (v := vB (!Op.bytesLess u55.Name u15.Name)) rfl) (Mw.p rfl rfl (fun _ => R.pk hc53 rfl (v := vB (!Op.bytesLess u55.Name u15.Name)) rfl) (Mw.nil ((ag) ⟨(!Op.bytesLess u55.Name u15.Name), W49, rfl, ((l34.j l40).j l49).w, rfl, hm⟩)))))))))
      ·exact dps 9 hc54 rfl (Wp hc53 rfl (fun _ => R.pk hc54 rfl (v := vB false) rfl) (Mw.p rfl rfl (fun _ => R.pk hc53 rfl (v := vB false) rfl) (Mw.nil ((ag) ⟨false, W49, rfl, ((l34.j l40).j l49).w, rfl, hm⟩))))
  ·refine Cw.exit ?_
   rw [hK10] at hm
   exact sr (Nb rfl (.ret (rt hm a12)))
theorem p29 {x0 v0_0_ v0_1_ x1 v1_ r} (h0 : Rd W K [v0_0_, v0_1_] x0) (h1 : Rd W K [v1_] x1) (hm : Vm.impl_headsOk x0 x1 = some r) : Q1 29 [.agg [v0_0_, v0_1_].toArray, v1_] W [] fun W' v => v = vB r :=
 (c29 (h0.view _) (h1.view _) hm).ad (fk 0) fun _ _ e => e
end Go.Sx
