/- Walks: each function answers as its model, printed by a program of ours. Conditions: the arguments read as they are given. -/
import Derived.Test.YtidkloialdageaaGreatDoorCTs
import Derived.Test.YtidkloialdageaaGreatDoorCM7
import Derived.Test.YtidkloialdageaaGreatDoorCW1
import Derived.Test.YtidkloialdageaaGreatDoorCW14
import Derived.Test.YtidkloialdageaaGreatDoorCW6
namespace Go.Sx
open Go Go.Proofs Go.Vm Rp
set_option linter.unusedVariables false
set_option linter.unusedSimpArgs false
variable {W W0 : CW} {K : List Nat}
theorem c132 {x0 v0_0_ v0_1_ x1 x2 x3 v3_ x4 v4_ r} (h0_0 : Ow W0 2 [] [v0_0_] x0.Commits) (h0_1 : Ow W0 3 [] [v0_1_] x0.Heads) (h3 : Rd W0 [0] [v3_] x3) (h4 : Ow W0 4 [] [v4_] x4) (hm : Vm.impl_Repo_commit x0 x1 x2 x3 x4 = some r) : Q0 132 [.agg [v0_0_, v0_1_].toArray, vS x1, vS x2, v3_, v4_] W0 fun Wf v => ∃ u0_0 u0_1, v = .agg [u0_0, u0_1].toArray ∧ OwS Wf [31] [] [u0_0] r.Commits ∧ OwS Wf [32] [] [u0_1] r.Heads := by
 unfold Vm.impl_Repo_commit at hm
 refine CallR.of Tryz.func132 rfl rfl rfl rfl (sr (bo 5 rfl fun g1 W1 l1 b1 => ?_))
 have a2 := l1.o
 refine al 6 [.slice none 0 0, .slice none 0 0] fun g6 W6 l6 b6 => ?_
 have a7 := a2.n l6
 refine nl (Cw.seq (Cw.draw [] [(0, 0), (1, 1), (2, 0), (3, 0), (4, 0), (5, 2), (6, 0), (7, 2), (8, 3), (9, 0), (10, 3)] mixed (by kernel_rfl) fun W12 l12 => ?_))
 have a13 := a7.n l12
 have b17 := (b1.up l6).up l12
 refine Dfl b17 rfl rfl rfl (Dv v4_ rfl (Ds rfl (Dv v3_ rfl ?_)))
 obtain ⟨z20, e21, hm⟩ := ob hm
 refine Mw.t rfl rfl (T.call rfl (p114 (k0 := 7) (h3.ul a13) e21)) ?_
 rintro v0_22 _ ⟨W22, rfl, l22, ⟨_, rfl, f22_0⟩⟩
 have a23 := a13.n l22
 have o26 := (((h4.up l1).up l6).up l12).up l22
 refine m0 l22 fun d22 => Mw.p rfl rfl (fun _ => R.bd (zs := [.slice none 0 0, vS ([] : Str), .slice none 0 0]) (cs := [v4_, vS x2, v0_22]) [(0, v4_), (1, vS x2), (2, v0_22)] rfl rfl rfl (bp_cons o26.oc rfl (bp_cons rfl rfl (bp_cons f22_0.oc rfl bp_nil)))) (Mw.t rfl rfl (T.bs 8 [.agg [v4_, vS x2, v0_22].toArray] (cs := [v4_, vS x2, v0_22]) rfl rfl (bsA rfl)) ?_)
 rintro _ _ ⟨g29, W29, rfl, rfl, l29, b29⟩
 have a30 := a23.n l29
 refine mc d22 l29 fun d29 => ?_
 obtain ⟨q37, e38, hm⟩ := ob hm
 refine Mw.l rfl rfl (T.app1 (α := Commit) (J := [4, 7]) (K' := []) (((((h0_0.up l1).up l6).up l12).up l22).up l29) b29 (Commit.own x4 x2 z20 (o26.up l29).s (f22_0.up l29).s) rfl rfl e38) ?_
 rintro v39 _ ⟨W39, rfl, l39, o39⟩
 have a40 := a30.t l39
 refine Df rfl (Mw.lu rfl (T.st (j := 0) (v := v39) (((b17.up l22).up l29).up l39) rfl rfl o39.oc rfl rfl) ?_)
 rintro _ _ ⟨W45, rfl, l45, b45⟩
 have a46 := a40.t l45
 refine Mw.nil (sr (la b45 (ms rfl (fl b45 rfl (Lw.ln q37 (o39.up l45).rd rfl (Lw.sub rfl (cr hm (fun _ => p128 (K := [0]) (k0 := 9) (k1 := 10) (c0 := 2) (c1 := 3) (x0 := (Vm.Repo.mk q37 x0.Heads)) (o39.up l45) (((((((h0_1.up l1).up l6).up l12).up l22).up l29).up l39).up l45) rfl) ?_)))))))
 rintro z51 _ W53 hm l53 ⟨v0_0_53, v0_1_53, rfl, f53_0, f53_1⟩
 have a54 := a46.t l53
 refine sta ((((((b6.up l12).up l22).up l29).up l39).up l45).up l53) (oc_cons f53_0.oc (oc_cons f53_1.oc oc_nil)) fun W58 l58 b58 => ?_
 have a59 := a54.t l58
 refine nl ?_
 obtain ⟨W64, ew64, l64, o64⟩ := (f53_0.up l58).dyeO 31
 have a65 := a59.t l64
 obtain ⟨W70, ew70, l70, o70⟩ := ((f53_1.up l58).up l64).dyeO 32
 have a71 := a65.t l70
 cases hm
 rw [← ew70.trans (ew64)]
 exact Cw.ret (retA1 rfl ((b58.up l64).up l70) (Res.mk a71 ⟨v0_0_53, v0_1_53, rfl, (o64.up l70).s, o70.s⟩))
theorem p132 {x0 v0_0_ v0_1_ x1 x2 x3 v3_ x4 v4_ k0 k1 c0 c1 c2 r} (h0_0 : Ow W c0 [] [v0_0_] x0.Commits) (h0_1 : Ow W c1 [] [v0_1_] x0.Heads) (h3 : Rd W K [v3_] x3) (h4 : Ow W c2 [] [v4_] x4) (hJ : okJ K [c0, c1, c2] = true) (hm : Vm.impl_Repo_commit x0 x1 x2 x3 x4 = some r) : Q1 132 [.agg [v0_0_, v0_1_].toArray, vS x1, vS x2, v3_, v4_] W [c0, c1, c2] fun W' v => ∃ u0_0 u0_1, v = .agg [u0_0, u0_1].toArray ∧ Ow W' k0 [] [u0_0] r.Commits ∧ Ow W' k1 [] [u0_1] r.Heads :=
 CallR.adJ (J := [c0, c1, c2]) (fun c => bif Nat.beq c 0 then 0 else bif Nat.beq c 2 then c0 else bif Nat.beq c 3 then c1 else bif Nat.beq c 4 then c2 else bif Nat.beq c 31 then k0 else bif Nat.beq c 32 then k1 else 0) (c132 (h0_0.viewJ 0 hJ) (h0_1.viewJ 1 hJ) (h3.view _) (h4.viewJ 2 hJ) hm) fun _ _ ⟨u0_0, u0_1, e, f0, f1⟩ => ⟨u0_0, u0_1, e, f0.one1.backN rfl, f1.one1.backN rfl⟩
theorem c127 {x0 v0_0_ v0_1_ x1 v1_0_ v1_1_ r} (h0 : Rd W0 [0] [v0_0_, v0_1_] x0) (h1_0 : Ow W0 2 [] [v1_0_] x1.Commits) (h1_1 : Ow W0 3 [] [v1_1_] x1.Heads) (h99 : Gl 0 W0 [0]) (hm : Vm.impl_Repo_tried x0 x1 = some r) : Q0 127 [.agg [v0_0_, v0_1_].toArray, .agg [v1_0_, v1_1_].toArray] W0 fun Wf v => ∃ u0_0 u0_1, v = .tuple [.agg [u0_0, u0_1].toArray, vB r.2].toArray ∧ OwS Wf [31] [] [u0_0] r.1.Commits ∧ OwS Wf [32] [] [u0_1] r.1.Heads := by
 unfold Vm.impl_Repo_tried at hm
 obtain ⟨w0_0, w0_1, he0, h0_0, h0_1⟩ := Repo.split h0
 simp only [List.cons.injEq, and_true, true_and] at he0
 obtain ⟨rfl, rfl⟩ := he0
 refine CallR.of Tryz.func127 rfl rfl rfl rfl (sr (bo 4 rfl fun g1 W1 l1 b1 => ?_))
 have a2 := l1.o
 refine bo 5 rfl fun g5 W5 l5 b5 => ?_
 have a6 := a2.n l5
 refine al 6 [.slice none 0 0, .slice none 0 0] fun g10 W10 l10 b10 => ?_
 have a11 := a6.n l10
 have o12 := ((h1_0.up l1).up l5).up l10
 have o13 := ((h1_1.up l1).up l5).up l10
 refine Nb rfl (ssr (la (b5.up l10) (ca hm (fun _ => p19 (K := [0, 2, 3]) (x0 := (Vm.Repo.mk x1.Commits x1.Heads)) ((Repo.rd (K := [2, 3]) x1.Commits x1.Heads (o12.rd.sub (M := [2, 3]) rfl) (o13.rd.sub (M := [2, 3]) rfl)).sub (M := [0, 2, 3]) rfl) ((h99.ul a11).sub (M := [0, 2, 3]) rfl)) fun z17 W19 hm l19 => ?_)))
 have a20 := a11.n l19
 refine Lw.r rfl (R.not rfl) (nl (cn hm (fun hm => ?_) fun hm => ?_))
 ·refine sr (la (((b1.up l5).up l10).up l19) (cr hm (fun _ => p71 (k0 := 7) (k1 := 8) (Repo.rd (K := [0]) x0.Commits x0.Heads (h0_0.ul a20) (h0_1.ul a20))) ?_))
  rintro z29 _ W31 hm l31 ⟨v0_0_31, v0_1_31, rfl, f31_0, f31_1⟩
  have a32 := a20.n l31
  refine sta ((b10.up l19).up l31) (oc_cons f31_0.oc (oc_cons f31_1.oc oc_nil)) fun W38 l38 b38 => ?_
  have a39 := a32.t l38
  refine Nb rfl ?_
  obtain ⟨W46, ew46, l46, o46⟩ := (f31_0.up l38).dyeO 31
  have a47 := a39.t l46
  obtain ⟨W54, ew54, l54, o54⟩ := ((f31_1.up l38).up l46).dyeO 32
  have a55 := a47.t l54
  cases hm
  rw [← ew54.trans (ew46)]
  exact Cw.ret (retA2 rfl ((b38.up l46).up l54) rfl (Res.mk a55 ⟨v0_0_31, v0_1_31, rfl, (o46.up l54).s, o54.s⟩))
 ·refine sk (sr (la ((b5.up l10).up l19) (sta (b10.up l19) (oc_cons (o12.up l19).oc (oc_cons (o13.up l19).oc oc_nil)) fun W62 l62 b62 => ?_)))
  have a63 := a20.t l62
  refine Nb rfl ?_
  obtain ⟨W68, ew68, l68, o68⟩ := ((o12.up l19).up l62).dyeO 31
  have a69 := a63.t l68
  obtain ⟨W74, ew74, l74, o74⟩ := (((o13.up l19).up l62).up l68).dyeO 32
  have a75 := a69.t l74
  cases hm
  rw [← ew74.trans (ew68)]
  exact Cw.ret (retA2 rfl ((b62.up l68).up l74) rfl (Res.mk a75 ⟨v1_0_, v1_1_, rfl, (o68.up l74).s, o74.s⟩))
theorem p127 {x0 v0_0_ v0_1_ x1 v1_0_ v1_1_ k0 k1 c0 c1 r} (h0 : Rd W K [v0_0_, v0_1_] x0) (h1_0 : Ow W c0 [] [v1_0_] x1.Commits) (h1_1 : Ow W c1 [] [v1_1_] x1.Heads) (h99 : Gl 0 W K) (hJ : okJ K [c0, c1] = true) (hm : Vm.impl_Repo_tried x0 x1 = some r) : Q1 127 [.agg [v0_0_, v0_1_].toArray, .agg [v1_0_, v1_1_].toArray] W [c0, c1] fun W' v => ∃ u0_0 u0_1, v = .tuple [.agg [u0_0, u0_1].toArray, vB r.2].toArray ∧ Ow W' k0 [] [u0_0] r.1.Commits ∧ Ow W' k1 [] [u0_1] r.1.Heads :=
 CallR.adJ (J := [c0, c1]) (fun c => bif Nat.beq c 0 then 0 else bif Nat.beq c 2 then c0 else bif Nat.beq c 3 then c1 else bif Nat.beq c 31 then k0 else bif Nat.beq c 32 then k1 else 0) (c127 (h0.view _) (h1_0.viewJ 0 hJ) (h1_1.viewJ 1 hJ) (h99.view _) hm) fun _ _ ⟨u0_0, u0_1, e, f0, f1⟩ => ⟨u0_0, u0_1, e, f0.one1.backN rfl, f1.one1.backN rfl⟩
theorem c62 {x0 v0_0_ v0_1_ x1 x2 x3 v3_ r} (h0 : Rd W0 [0] [v0_0_, v0_1_] x0) (h3 : Rd W0 [0] [v3_] x3) (h99 : Gl 0 W0 [0]) (hm : Vm.impl_RepoCommit x0 x1 x2 x3 = some r) : Q0 62 [.agg [v0_0_, v0_1_].toArray, vS x1, vS x2, v3_] W0 fun Wf v => ∃ u0_0 u0_1, v = .tuple [.agg [u0_0, u0_1].toArray, vB r.2].toArray ∧ OwS Wf [31] [] [u0_0] r.1.Commits ∧ OwS Wf [32] [] [u0_1] r.1.Heads := by
 unfold Vm.impl_RepoCommit at hm
 obtain ⟨w0_0, w0_1, he0, h0_0, h0_1⟩ := Repo.split h0
 simp only [List.cons.injEq, and_true, true_and] at he0
 obtain ⟨rfl, rfl⟩ := he0
 refine CallR.of Tryz.func62 rfl rfl rfl rfl (sr (bo 2 rfl fun g1 W1 l1 b1 => ?_))
 have a2 := l1.o
 refine al 3 [.slice none 0 0, .slice none 0 0] fun g3 W3 l3 b3 => ?_
 have a4 := a2.n l3
 refine Nb rfl (ssr (la (b1.up l3) (ca hm (fun _ => p19 (Repo.rd (K := [0]) x0.Commits x0.Heads (h0_0.ul a4) (h0_1.ul a4)) (h99.ul a4)) fun z9 W11 hm l11 => ?_)))
 have a12 := a4.n l11
 have b13 := (b1.up l3).up l11
 refine Lw.r rfl (R.not rfl) (nl (cn hm (fun hm => ?_) fun hm => ?_))
 ·refine sr (Lw.r rfl (R.bd (zs := [.slice none 0 0, .slice none 0 0]) (cs := [.slice none 0 0, .slice none 0 0]) [] rfl rfl rfl bp_nil) (sta (b3.up l11) (oc_cons rfl (oc_cons rfl oc_nil)) fun W16 l16 b16 => ?_))
  have a17 := a12.t l16
  refine Nb rfl ?_
  cases hm
  exact Cw.ret (retA2 rfl b16 rfl (Res.mk a17 ⟨.slice none 0 0, .slice none 0 0, rfl, (owsN []).sub rfl rfl, (owsN []).sub rfl rfl⟩))
 ·refine sk (sr (Nv (.slice none 0 0) rfl ?_))
  obtain ⟨K24, hK24, hm⟩ := jn_e hm
  refine Cw.join 16 24 [10, 11] (fun l w => ∃ y19 v20 j22 W23, CW.w W23 = w ∧ Le [12] W11 W23 ∧ l = [v20, j22] ∧ Ow W23 4 [] [v20] y19 ∧ K24 y19 = some r) ?_ ?_
  ·rintro _ _ σ ⟨y19, v20, j22, W23, rfl, l23, rfl, o21, hm⟩
   rw [hK24] at hm
   have a25 := a12.t l23
   refine Cw.seq (Cw.draw [4, 5, 6, 7, 8] [(0, 1), (1, 1), (3, 0), (4, 0), (5, 0), (6, 0), (2, 2), (7, 2), (8, 2), (9, 0), (10, 0), (11, 3), (12, 0)] mixed (by kernel_rfl) fun W28 l28 => ?_)
   have a29 := a25.n l28
   have b31 := (b13.up l23).up l28
   refine Mw.q rfl rfl (fun _ c => R.lda (cs := [v0_0_, v0_1_]) (b31.clcs rfl c) rfl rfl) (Mw.q rfl rfl (fun _ c => R.lda (cs := [v0_0_, v0_1_]) (b31.clcs rfl c) rfl rfl) (Ds rfl (Ds rfl (Dv v3_ rfl (Dv v20 rfl ?_)))))
   obtain ⟨z35, e36, hm⟩ := ob hm
   refine Mw.t rfl rfl (T.call rfl (p71 (k0 := 5) (k1 := 6) (Repo.rd (K := [0]) x0.Commits x0.Heads (h0_0.ul a29) (h0_1.ul a29)) e36)) ?_
   rintro _ _ ⟨W37, rfl, l37, ⟨v0_0_37, v0_1_37, rfl, f37_0, f37_1⟩⟩
   have a38 := a29.n l37
   refine m0 l37 fun d37 => ?_
   obtain ⟨z43, e44, hm⟩ := ob hm
   refine Mw.t rfl rfl (T.call rfl (p132 (k0 := 7) (k1 := 8) (c0 := 5) (c1 := 6) (c2 := 4) (x0 := (Vm.Repo.mk z35.Commits z35.Heads)) f37_0 f37_1 (h3.ul a38) ((o21.up l28).up l37) rfl e44)) ?_
   rintro _ _ ⟨W45, rfl, l45, ⟨v0_0_45, v0_1_45, rfl, f45_0, f45_1⟩⟩
   have a46 := a38.t l45
   refine mc d37 l45 fun d45 => ?_
   obtain ⟨z52, e53, hm⟩ := ob hm
   refine Mw.t rfl rfl (T.call rfl (p127 (k0 := 9) (k1 := 10) (c0 := 7) (c1 := 8) (x1 := (Vm.Repo.mk z43.Commits z43.Heads)) (Repo.rd (K := [0]) x0.Commits x0.Heads (h0_0.ul a46) (h0_1.ul a46)) f45_0 f45_1 (h99.ul a46) rfl e53)) ?_
   rintro _ _ ⟨W54, rfl, l54, ⟨v0_0_54, v0_1_54, rfl, f54_0, f54_1⟩⟩
   have a55 := a46.t l54
   refine mc d45 l54 fun d54 => Mw.p rfl rfl (fun _ => R.ext (vs := [.agg [v0_0_54, v0_1_54].toArray, vB z52.2]) (v := .agg [v0_0_54, v0_1_54].toArray) rfl rfl) (Mw.p rfl rfl (fun _ => R.ext (vs := [.agg [v0_0_54, v0_1_54].toArray, vB z52.2]) (v := vB z52.2) rfl rfl) (Mw.lu rfl (T.sta (vs := [v0_0_54, v0_1_54]) ((((((b3.up l11).up l23).up l28).up l37).up l45).up l54) rfl rfl (oc_cons f54_0.oc (oc_cons f54_1.oc oc_nil)) rfl rfl) ?_))
   rintro _ _ ⟨W58, rfl, l58, b58⟩
   have a59 := a55.t l58
   refine Hb rfl (Mw.nil ?_)
   obtain ⟨W63, ew63, l63, o63⟩ := (f54_0.up l58).dyeO 31
   have a64 := a59.t l63
   obtain ⟨W68, ew68, l68, o68⟩ := ((f54_1.up l58).up l63).dyeO 32
   have a69 := a64.t l68
   cases hm
   rw [← ew68.trans (ew63)]
   exact Cw.ret (retA2 rfl ((b58.up l63).up l68) rfl (Res.mk a69 ⟨v0_0_54, v0_1_54, rfl, (o63.up l68).s, o68.s⟩))
  ·refine sr (la b13 (ms rfl (ca hm (fun _ => p80 (Repo.rd (K := [0]) x0.Commits x0.Heads (h0_0.ul a12) (h0_1.ul a12))) fun z75 W77 hm l77 => Ni rfl (sr (mi rfl (Lw.ge rfl (nl (cn hm (fun hm => ?_) fun hm => ?_))))))))
   ·refine rg (mv (.slice none 0 0) rfl (mi rfl (Lw.t rfl (T.bs 11 [vI z75] (cs := [vI z75]) rfl rfl (bsv rfl)) ?_)))
    rintro _ _ ⟨g82, W82, rfl, rfl, l82, b82⟩
    obtain ⟨q86, e87, hm⟩ := ob hm
    refine Lw.t rfl (T.app1S (α := Int) (K' := []) (owN 12 []) b82 (rdI _) rfl rfl e87) ?_
    rintro v88 _ ⟨W88, rfl, l88, o88⟩
    refine Nv v88 rfl ?_
    obtain ⟨W93, ew93, l93, o93⟩ := o88.dyeO 4
    exact (ag) ⟨q86, v88, vI z75, W93, ew93, (((l77.j l82).j l88).j l93).w, rfl, o93, hm⟩
   ·exact sk ((ag) ⟨([] : List Int), .slice none 0 0, vI z75, W77, rfl, l77.w, rfl, owN 4 [], hm⟩)
theorem p62 {x0 v0_0_ v0_1_ x1 x2 x3 v3_ k0 k1 r} (h0 : Rd W K [v0_0_, v0_1_] x0) (h3 : Rd W K [v3_] x3) (h99 : Gl 0 W K) (hm : Vm.impl_RepoCommit x0 x1 x2 x3 = some r) : Q1 62 [.agg [v0_0_, v0_1_].toArray, vS x1, vS x2, v3_] W [] fun W' v => ∃ u0_0 u0_1, v = .tuple [.agg [u0_0, u0_1].toArray, vB r.2].toArray ∧ Ow W' k0 [] [u0_0] r.1.Commits ∧ Ow W' k1 [] [u0_1] r.1.Heads :=
 CallR.adJ (J := []) (fun c => bif Nat.beq c 0 then 0 else bif Nat.beq c 31 then k0 else bif Nat.beq c 32 then k1 else 0) (c62 (h0.view _) (h3.view _) (h99.view _) hm) fun _ _ ⟨u0_0, u0_1, e, f0, f1⟩ => ⟨u0_0, u0_1, e, f0.one1.backN rfl, f1.one1.backN rfl⟩
theorem c36 {x0 v0_ x1 v1_ r} (h0 : Rd W0 [0] [v0_] x0) (h1 : Rd W0 [0] [v1_] x1) (hm : Vm.laws_smTexts x0 x1 = some r) : Q0 36 [v0_, v1_] W0 fun Wf v => v = vB r := by
 unfold Vm.laws_smTexts at hm
 refine CallR.of Tryz.func36 rfl rfl rfl rfl (sr (Nb rfl (ssr (mv v0_ rfl (Lw.ln x0 h0 rfl (mv v1_ rfl (Lw.ln x1 h1 rfl (Lw.ne rfl (nl (cn hm (fun hm => ?_) fun hm => ?_))))))))))
 ·exact sr (Nb rfl (.ret (rt hm (Le.refl _ _))))
 ·refine sk (ssr (Ni rfl (Cw.block ?_)))
  obtain ⟨K5, hK5, hm⟩ := jn_e hm
  refine Cw.loop 11 25 [4, 5] (fun m l w => ∃ y2 y3 W4, CW.w W4 = w ∧ Le [] W0 W4 ∧ l = [vB y2, vI y3] ∧ Vm.laws_smTexts_l1 x0 x1 K5 m y2 y3 = some r) _ ⟨false, 0, W0, rfl, Le.refl _ _, rfl, hm⟩ ?_
  rintro (_ | m6) _ _ σ ⟨y2, y3, W4, rfl, l4, rfl, hm⟩
  ·cases hm
  unfold Vm.laws_smTexts_l1 at hm
  have a7 := l4.o
  refine ssr (mi rfl (mv v0_ rfl (Lw.ln x0 (h0.ul a7) rfl (Lw.lt rfl (nl (cn hm (fun hm => ?_) fun hm => ?_))))))
  ·refine sk (Cw.seq (Cw.block (Cw.seq (Cw.draw [] [(0, 0), (1, 0), (2, 0), (3, 1), (4, 0), (5, 0), (6, 0), (7, 1), (8, 0)] mixed (by kernel_rfl) fun W10 l10 => ?_))))
   have a11 := a7.n l10
   refine Dv v0_ rfl (Di rfl ?_)
   obtain ⟨u12, e13, hm⟩ := ob hm
   refine Mw.p rfl rfl (fun _ => R.ix (α := Str) (h0.ul a11) e13 rfl rfl rfl) (Mw.q rfl rfl (fun _ c => R.ld rfl rfl (cl_cell ((h0.ul a11).at_ e13).1 rfl ((h0.ul a11).at_ e13).str c)) (Dv v1_ rfl (Di rfl ?_)))
   obtain ⟨u15, e16, hm⟩ := ob hm
   refine Mw.p rfl rfl (fun _ => R.ix (α := Str) (h1.ul a11) e16 rfl rfl rfl) (Mw.q rfl rfl (fun _ c => R.ld rfl rfl (cl_cell ((h1.ul a11).at_ e16).1 rfl ((h1.ul a11).at_ e16).str c)) (Mw.p rfl rfl (fun _ => R.sne rfl rfl) (Mw.nil (cn hm (fun hm => ?_) fun hm => ?_))))
   ·exact sr (Nb rfl (.ret (rt hm a11)))
   ·exact sk (rg (mi rfl (Lw.add rfl (Ni rfl ((agm) ⟨y2, w64 (y3 + 1), W10, rfl, (l4.j l10).w, rfl, hm⟩)))))
  ·refine Cw.exit ?_
   rw [hK5] at hm
   exact sr (Nb rfl (.ret (rt hm a7)))
theorem p36 {x0 v0_ x1 v1_ r} (h0 : Rd W K [v0_] x0) (h1 : Rd W K [v1_] x1) (hm : Vm.laws_smTexts x0 x1 = some r) : Q1 36 [v0_, v1_] W [] fun W' v => v = vB r :=
 (c36 (h0.view _) (h1.view _) hm).ad (fk 0) fun _ _ e => e
theorem c42 {x0 v0_ x1 v1_ r} (h0 : Rd W0 [0] [v0_] x0) (h1 : Rd W0 [0] [v1_] x1) (hm : Vm.laws_smTree x0 x1 = some r) : Q0 42 [v0_, v1_] W0 fun Wf v => v = vB r := by
 unfold Vm.laws_smTree at hm
 refine CallR.of Tryz.func42 rfl rfl rfl rfl (sr (Nb rfl (ssr (mv v0_ rfl (Lw.ln x0 h0 rfl (mv v1_ rfl (Lw.ln x1 h1 rfl (Lw.ne rfl (nl (cn hm (fun hm => ?_) fun hm => ?_))))))))))
 ·exact sr (Nb rfl (.ret (rt hm (Le.refl _ _))))
 ·refine sk (ssr (Ni rfl (Cw.block ?_)))
  obtain ⟨K5, hK5, hm⟩ := jn_e hm
  refine Cw.loop 11 41 [4, 5] (fun m l w => ∃ y2 y3 W4, CW.w W4 = w ∧ Le [] W0 W4 ∧ l = [vB y2, vI y3] ∧ Vm.laws_smTree_l1 x0 x1 K5 m y2 y3 = some r) _ ⟨false, 0, W0, rfl, Le.refl _ _, rfl, hm⟩ ?_
  rintro (_ | m6) _ _ σ ⟨y2, y3, W4, rfl, l4, rfl, hm⟩
  ·cases hm
  unfold Vm.laws_smTree_l1 at hm
  have a7 := l4.o
  refine ssr (mi rfl (mv v0_ rfl (Lw.ln x0 (h0.ul a7) rfl (Lw.lt rfl (nl (cn hm (fun hm => ?_) fun hm => ?_))))))
  ·refine sk (Cw.seq (Cw.block ?_))
   obtain ⟨K12, hK12, hm⟩ := jn_e hm
   refine Cw.join 17 41 [41] (fun l w => ∃ y10 W11, CW.w W11 = w ∧ Le [] W4 W11 ∧ l = [vB y10] ∧ K12 y10 = some r) ?_ ?_
   ·rintro _ _ σ ⟨y10, W11, rfl, l11, rfl, hm⟩
    rw [hK12] at hm
    have a13 := a7.n l11
    refine cn hm (fun hm => ?_) fun hm => ?_
    ·exact sr (Nb rfl (.ret (rt hm a13)))
    ·exact sk (rg (mi rfl (Lw.add rfl (Ni rfl ((agm) ⟨y2, w64 (y3 + 1), W11, rfl, (l4.j l11).w, rfl, hm⟩)))))
   ·refine Cw.draw [] [(0, 0), (1, 0), (2, 0), (3, 0), (4, 1), (5, 0), (6, 0), (7, 0), (8, 0), (9, 1), (10, 0), (11, 0), (12, 0), (13, 0), (14, 0), (15, 0), (16, 1), (17, 0), (18, 0), (19, 0), (20, 0), (21, 1), (22, 2), (23, 0), (24, 0)] mixed (by kernel_rfl) fun W15 l15 => ?_
    have a16 := a7.n l15
    refine Dv v0_ rfl (Di rfl ?_)
    obtain ⟨u17, e18, hm⟩ := ob hm
    have s19 := h0.ul a16
    refine Mw.p rfl rfl (fun _ => R.ix (α := File) s19 e18 rfl rfl rfl) (Df rfl (Mw.q rfl rfl (fun _ c => R.ld rfl rfl (cl_cell (File.at0 (s19.at_ e18)).1 rfl (File.at0 (s19.at_ e18)).str c)) (Dv v1_ rfl (Di rfl ?_))))
    obtain ⟨u20, e21, hm⟩ := ob hm
    have s22 := h1.ul a16
    refine Mw.p rfl rfl (fun _ => R.ix (α := File) s22 e21 rfl rfl rfl) (Df rfl (Mw.q rfl rfl (fun _ c => R.ld rfl rfl (cl_cell (File.at0 (s22.at_ e21)).1 rfl (File.at0 (s22.at_ e21)).str c)) (Mw.p rfl rfl (fun _ => R.sne rfl rfl) (Db rfl (bs hm (fun hc23 hm => ?_) fun hc23 hm => ?_)))))
    ·exact dps 12 hc23 rfl (Mw.p rfl rfl (fun _ => R.pk hc23 rfl (v := vB true) rfl) (Mw.nil ((ag) ⟨true, W15, rfl, l15, rfl, hm⟩)))
    ·refine Wp hc23 rfl (fun _ => R.mv (v := v0_) rfl) (Wp hc23 rfl (fun _ => R.mv (v := vI y3) rfl) ?_)
     obtain ⟨u24, e25, hm⟩ := ob hm
     refine Wp hc23 rfl (fun _ => R.ix (α := File) s19 e25 rfl rfl rfl) (Wp hc23 rfl (fun _ => R.fa rfl) ?_)
     obtain ⟨v26, c27, r28⟩ := (File.at1 (s19.at_ e25)).cell rfl
     refine Wq hc23 rfl (fun _ c => R.ld rfl rfl (cl_cell (File.at1 (s19.at_ e25)).1 rfl c27 c)) (Wp hc23 rfl (fun _ => R.mv (v := v1_) rfl) (Wp hc23 rfl (fun _ => R.mv (v := vI y3) rfl) ?_))
     obtain ⟨u29, e30, hm⟩ := ob hm
     refine Wp hc23 rfl (fun _ => R.ix (α := File) s22 e30 rfl rfl rfl) (Wp hc23 rfl (fun _ => R.fa rfl) ?_)
     obtain ⟨v31, c32, r33⟩ := (File.at1 (s22.at_ e30)).cell rfl
     refine Wq hc23 rfl (fun _ c => R.ld rfl rfl (cl_cell (File.at1 (s22.at_ e30)).1 rfl c32 c)) ?_
     obtain ⟨z34, e35, hm⟩ := ob hm
     refine Wt hc23 rfl (T.call rfl (p36  r28 r33 e35)) ?_
     rintro _ _ ⟨W36, rfl, l36, rfl⟩
     exact m0 l36 fun d36 => Wp hc23 rfl (fun _ => R.not rfl) (Mw.p rfl rfl (fun _ => R.pk hc23 rfl (v := vB (!z34)) rfl) (Mw.nil ((ag) ⟨(!z34), W36, rfl, (l15.j l36).w, rfl, hm⟩)))
  ·refine Cw.exit ?_
   rw [hK5] at hm
   exact sr (Nb rfl (.ret (rt hm a7)))
theorem p42 {x0 v0_ x1 v1_ r} (h0 : Rd W K [v0_] x0) (h1 : Rd W K [v1_] x1) (hm : Vm.laws_smTree x0 x1 = some r) : Q1 42 [v0_, v1_] W [] fun W' v => v = vB r :=
 (c42 (h0.view _) (h1.view _) hm).ad (fk 0) fun _ _ e => e
theorem c49 {x0 v0_0_ v0_2_ x1 v1_0_ v1_2_ r} (h0 : Rd W0 [0] [v0_0_, vS x0.Who, v0_2_] x0) (h1 : Rd W0 [0] [v1_0_, vS x1.Who, v1_2_] x1) (hm : Vm.laws_smCommit x0 x1 = some r) : Q0 49 [.agg [v0_0_, vS x0.Who, v0_2_].toArray, .agg [v1_0_, vS x1.Who, v1_2_].toArray] W0 fun Wf v => v = vB r := by
 unfold Vm.laws_smCommit at hm
 obtain ⟨w0_0, w0_1, he0, h0_0, h0_2⟩ := Commit.split h0
 simp only [List.cons.injEq, and_true, true_and] at he0
 obtain ⟨rfl, rfl⟩ := he0
 obtain ⟨w1_0, w1_1, he1, h1_0, h1_2⟩ := Commit.split h1
 simp only [List.cons.injEq, and_true, true_and] at he1
 obtain ⟨rfl, rfl⟩ := he1
 refine CallR.of Tryz.func49 rfl rfl rfl rfl (sr (bo 2 rfl fun g1 W1 l1 b1 => ?_))
 have a2 := l1.o
 refine bo 3 rfl fun g3 W3 l3 b3 => ?_
 have a4 := a2.n l3
 have b5 := b1.up l3
 refine Nb rfl ?_
 obtain ⟨K8, hK8, hm⟩ := jn_e hm
 refine Cw.join 5 23 [4] (fun l w => ∃ y6 W7, CW.w W7 = w ∧ Le [] W3 W7 ∧ l = [vB y6] ∧ K8 y6 = some r) ?_ ?_
 ·rintro _ _ σ ⟨y6, W7, rfl, l7, rfl, hm⟩
  rw [hK8] at hm
  have a9 := a4.n l7
  exact .ret (rt hm a9)
 ·refine rg (fl b5 rfl (fl b3 rfl (Lw.seq rfl (mb rfl (bs hm (fun hc12 hm => ?_) fun hc12 hm => ?_)))))
  ·refine wak 5 hc12 (fl b5 rfl (fl b3 rfl (ca hm (fun _ => p24 (h0_0.ul a4) (h1_0.ul a4)) fun z15 W17 hm l17 => ?_)))
   have a18 := a4.n l17
   refine Pb hc12 rfl (mb rfl (bs hm (fun hc21 hm => ?_) fun hc21 hm => ?_))
   ·exact wak 5 hc21 (fl (b5.up l17) rfl (fl (b3.up l17) rfl (ca hm (fun _ => p42 (h0_2.ul a18) (h1_2.ul a18)) fun z24 W26 hm l26 => Pb hc21 rfl (Nb rfl ((ag) ⟨z24, W26, rfl, (l17.j l26).w, rfl, hm⟩)))))
   ·exact psk 5 hc21 rfl (Pb hc21 rfl (Nb rfl ((ag) ⟨false, W17, rfl, l17, rfl, hm⟩)))
  ·exact psk 5 hc12 rfl (Pb hc12 rfl (mb rfl (psk 5 rfl rfl (Pb rfl rfl (Nb rfl ((ag) ⟨false, W3, rfl, Le.refl _ _, rfl, hm⟩))))))
theorem p49 {x0 v0_0_ v0_2_ x1 v1_0_ v1_2_ r} (h0 : Rd W K [v0_0_, vS x0.Who, v0_2_] x0) (h1 : Rd W K [v1_0_, vS x1.Who, v1_2_] x1) (hm : Vm.laws_smCommit x0 x1 = some r) : Q1 49 [.agg [v0_0_, vS x0.Who, v0_2_].toArray, .agg [v1_0_, vS x1.Who, v1_2_].toArray] W [] fun W' v => v = vB r :=
 (c49 (h0.view _) (h1.view _) hm).ad (fk 0) fun _ _ e => e
theorem c18 {x0 v0_0_ v0_1_ x1 v1_0_ v1_1_ r} (h0 : Rd W0 [0] [v0_0_, v0_1_] x0) (h1 : Rd W0 [0] [v1_0_, v1_1_] x1) (hm : Vm.laws_smRepo x0 x1 = some r) : Q0 18 [.agg [v0_0_, v0_1_].toArray, .agg [v1_0_, v1_1_].toArray] W0 fun Wf v => v = vB r := by
 unfold Vm.laws_smRepo at hm
 obtain ⟨w0_0, w0_1, he0, h0_0, h0_1⟩ := Repo.split h0
 simp only [List.cons.injEq, and_true, true_and] at he0
 obtain ⟨rfl, rfl⟩ := he0
 obtain ⟨w1_0, w1_1, he1, h1_0, h1_1⟩ := Repo.split h1
 simp only [List.cons.injEq, and_true, true_and] at he1
 obtain ⟨rfl, rfl⟩ := he1
 refine CallR.of Tryz.func18 rfl rfl rfl rfl (sr (bo 2 rfl fun g1 W1 l1 b1 => ?_))
 have a2 := l1.o
 refine bo 3 rfl fun g3 W3 l3 b3 => ?_
 have a4 := a2.n l3
 have b5 := b1.up l3
 refine Nb rfl (Cw.seq ?_)
 obtain ⟨K8, hK8, hm⟩ := jn_e hm
 refine Cw.join 7 22 [22] (fun l w => ∃ y6 W7, CW.w W7 = w ∧ Le [] W3 W7 ∧ l = [vB y6] ∧ K8 y6 = some r) ?_ ?_
 ·rintro _ _ σ ⟨y6, W7, rfl, l7, rfl, hm⟩
  rw [hK8] at hm
  have a9 := a4.n l7
  refine cn hm (fun hm => ?_) fun hm => ?_
  ·exact sr (Nb rfl (.ret (rt hm a9)))
  ·refine sk (ssr (Ni rfl (Cw.block ?_)))
   obtain ⟨K16, hK16, hm⟩ := jn_e hm
   refine Cw.loop 23 41 [4, 5] (fun m l w => ∃ y13 y14 W15, CW.w W15 = w ∧ Le [] W7 W15 ∧ l = [vB y13, vI y14] ∧ Vm.laws_smRepo_l1 x0 x1 K16 m y13 y14 = some r) _ ⟨false, 0, W7, rfl, Le.refl _ _, rfl, hm⟩ ?_
   rintro (_ | m17) _ _ σ ⟨y13, y14, W15, rfl, l15, rfl, hm⟩
   ·cases hm
   unfold Vm.laws_smRepo_l1 at hm
   have a18 := a9.n l15
   have b19 := (b5.up l7).up l15
   have b20 := (b3.up l7).up l15
   refine ssr (mi rfl (fl b19 rfl (Lw.ln x0.Commits (h0_0.ul a18) rfl (Lw.lt rfl (nl (cn hm (fun hm => ?_) fun hm => ?_))))))
   ·refine sk (Cw.seq (Cw.block (Cw.seq (Cw.draw [] [(0, 0), (1, 1), (2, 0), (3, 0), (4, 1), (5, 0), (6, 1), (7, 0), (8, 0), (9, 1), (10, 2), (11, 0)] mixed (by kernel_rfl) fun W23 l23 => ?_))))
    have a24 := a18.n l23
    refine Dfl (b19.up l23) rfl rfl rfl (Di rfl ?_)
    obtain ⟨u27, e28, hm⟩ := ob hm
    have s29 := h0_0.ul a24
    refine Mw.p rfl rfl (fun _ => R.ix (α := Commit) s29 e28 rfl rfl rfl) ?_
    obtain ⟨x30, c31, _, r32⟩ := (s29.at_ e28).cells
    obtain ⟨v33, v35, rfl, r34, r36⟩ := Commit.split r32
    refine Mw.q rfl rfl (fun _ c => R.lda (cl_cells (s29.at_ e28).1 rfl c31 c) rfl rfl) (Dfl (b20.up l23) rfl rfl rfl (Di rfl ?_))
    obtain ⟨u37, e38, hm⟩ := ob hm
    have s39 := h1_0.ul a24
    refine Mw.p rfl rfl (fun _ => R.ix (α := Commit) s39 e38 rfl rfl rfl) ?_
    obtain ⟨x40, c41, _, r42⟩ := (s39.at_ e38).cells
    obtain ⟨v43, v45, rfl, r44, r46⟩ := Commit.split r42
    refine Mw.q rfl rfl (fun _ c => R.lda (cl_cells (s39.at_ e38).1 rfl c41 c) rfl rfl) ?_
    obtain ⟨z47, e48, hm⟩ := ob hm
    refine Mw.t rfl rfl (T.call rfl (p49  (Commit.rd (K := [0]) u27.Parents u27.Who u27.Tree r34 r36) (Commit.rd (K := [0]) u37.Parents u37.Who u37.Tree r44 r46) e48)) ?_
    rintro _ _ ⟨W49, rfl, l49, rfl⟩
    have a50 := a24.n l49
    refine m0 l49 fun d49 => Mw.p rfl rfl (fun _ => R.not rfl) (Mw.nil (cn hm (fun hm => ?_) fun hm => ?_))
    ·exact sr (Nb rfl (.ret (rt hm a50)))
    ·exact sk (rg (mi rfl (Lw.add rfl (Ni rfl ((agm) ⟨y13, w64 (y14 + 1), W49, rfl, ((l15.j l23).j l49).w, rfl, hm⟩)))))
   ·refine Cw.exit ?_
    rw [hK16] at hm
    refine ssr (Ni rfl (Cw.block ?_))
    obtain ⟨K57, hK57, hm⟩ := jn_e hm
    refine Cw.loop 42 59 [4, 6] (fun m l w => ∃ y54 y55 W56, CW.w W56 = w ∧ Le [] W15 W56 ∧ l = [vB y54, vI y55] ∧ Vm.laws_smRepo_l2 x0 x1 K57 m y54 y55 = some r) _ ⟨y13, 0, W15, rfl, Le.refl _ _, rfl, hm⟩ ?_
    rintro (_ | m58) _ _ σ ⟨y54, y55, W56, rfl, l56, rfl, hm⟩
    ·cases hm
    unfold Vm.laws_smRepo_l2 at hm
    have a59 := a18.n l56
    refine ssr (mi rfl (fl (b19.up l56) rfl (Lw.ln x0.Heads (h0_1.ul a59) rfl (Lw.lt rfl (nl (cn hm (fun hm => ?_) fun hm => ?_))))))
    ·refine sk (Cw.seq (Cw.block (Cw.seq (Cw.draw [] [(0, 0), (1, 1), (2, 0), (3, 0), (4, 1), (5, 0), (6, 1), (7, 0), (8, 0), (9, 1), (10, 0)] mixed (by kernel_rfl) fun W64 l64 => ?_))))
     have a65 := a59.n l64
     refine Dfl ((b19.up l56).up l64) rfl rfl rfl (Di rfl ?_)
     obtain ⟨u68, e69, hm⟩ := ob hm
     refine Mw.p rfl rfl (fun _ => R.ix (α := Head) (h0_1.ul a65) e69 rfl rfl rfl) ?_
     obtain ⟨x71, c72, _, r73⟩ := ((h0_1.ul a65).at_ e69).cells
     obtain rfl := Head.split r73
     refine Mw.q rfl rfl (fun _ c => R.lda (cl_cells ((h0_1.ul a65).at_ e69).1 rfl c72 c) rfl rfl) (Dfl ((b20.up l56).up l64) rfl rfl rfl (Di rfl ?_))
     obtain ⟨u74, e75, hm⟩ := ob hm
     refine Mw.p rfl rfl (fun _ => R.ix (α := Head) (h1_1.ul a65) e75 rfl rfl rfl) ?_
     obtain ⟨x77, c78, _, r79⟩ := ((h1_1.ul a65).at_ e75).cells
     obtain rfl := Head.split r79
     refine Mw.q rfl rfl (fun _ c => R.lda (cl_cells ((h1_1.ul a65).at_ e75).1 rfl c78 c) rfl rfl) (Mw.p rfl rfl (fun _ => R.hne rfl rfl) (Mw.nil (cn hm (fun hm => ?_) fun hm => ?_)))
     ·exact sr (Nb rfl (.ret (rt hm a65)))
     ·exact sk (rg (mi rfl (Lw.add rfl (Ni rfl ((agm) ⟨y54, w64 (y55 + 1), W64, rfl, (l56.j l64).w, rfl, hm⟩)))))
    ·refine Cw.exit ?_
     rw [hK57] at hm
     exact sr (Nb rfl (.ret (rt hm a59)))
 ·refine rg (fl b5 rfl (Lw.ln x0.Commits (h0_0.ul a4) rfl (fl b3 rfl (Lw.ln x1.Commits (h1_0.ul a4) rfl (Lw.ne rfl (mb rfl (bs hm (fun hc83 hm => ?_) fun hc83 hm => ?_)))))))
  ·exact psk 7 hc83 rfl (Pb hc83 rfl (nl ((ag) ⟨true, W3, rfl, Le.refl _ _, rfl, hm⟩)))
  ·exact wak 7 hc83 (fl b5 rfl (Lw.ln x0.Heads (h0_1.ul a4) rfl (fl b3 rfl (Lw.ln x1.Heads (h1_1.ul a4) rfl (Lw.ne rfl (Pb hc83 rfl (nl ((ag) ⟨(((x0.Heads.length : Int) : Int) != ((x1.Heads.length : Int) : Int)), W3, rfl, Le.refl _ _, rfl, hm⟩))))))))
theorem p18 {x0 v0_0_ v0_1_ x1 v1_0_ v1_1_ r} (h0 : Rd W K [v0_0_, v0_1_] x0) (h1 : Rd W K [v1_0_, v1_1_] x1) (hm : Vm.laws_smRepo x0 x1 = some r) : Q1 18 [.agg [v0_0_, v0_1_].toArray, .agg [v1_0_, v1_1_].toArray] W [] fun W' v => v = vB r :=
 (c18 (h0.view _) (h1.view _) hm).ad (fk 0) fun _ _ e => e
theorem c64 {x0 v0_0_ v0_1_ r} (h0 : Rd W0 [0] [v0_0_, v0_1_] x0) (hm : Vm.spec_RepoOk x0 = some r) : Q0 64 [.agg [v0_0_, v0_1_].toArray] W0 fun Wf v => v = vB r := by
 unfold Vm.spec_RepoOk at hm
 obtain ⟨w0_0, w0_1, he0, h0_0, h0_1⟩ := Repo.split h0
 simp only [List.cons.injEq, and_true, true_and] at he0
 obtain ⟨rfl, rfl⟩ := he0
 refine CallR.of Tryz.func64 rfl rfl rfl rfl (sr (bo 2 rfl fun g1 W1 l1 b1 => ?_))
 have a2 := l1.o
 refine Nb rfl (sr (la b1 (ca hm (fun _ => p74 (Repo.rd (K := [0]) x0.Commits x0.Heads (h0_0.ul a2) (h0_1.ul a2))) fun z5 W7 hm l7 => ?_)))
 have a8 := a2.n l7
 exact Nb rfl (.ret (rt hm a8))
theorem p64 {x0 v0_0_ v0_1_ r} (h0 : Rd W K [v0_0_, v0_1_] x0) (hm : Vm.spec_RepoOk x0 = some r) : Q1 64 [.agg [v0_0_, v0_1_].toArray] W [] fun W' v => v = vB r :=
 (c64 (h0.view _) hm).ad (fk 0) fun _ _ e => e
theorem c20 {x0 v0_0_ v0_1_ x1 r} (h0 : Rd W0 [0] [v0_0_, v0_1_] x0) (h99 : Gl 0 W0 [0]) (hm : Vm.impl_RepoAt x0 x1 = some r) : Q0 20 [.agg [v0_0_, v0_1_].toArray, vS x1] W0 fun Wf v => v = vI r := by
 unfold Vm.impl_RepoAt at hm
 obtain ⟨w0_0, w0_1, he0, h0_0, h0_1⟩ := Repo.split h0
 simp only [List.cons.injEq, and_true, true_and] at he0
 obtain ⟨rfl, rfl⟩ := he0
 refine CallR.of Tryz.func20 rfl rfl rfl rfl (sr (bo 2 rfl fun g1 W1 l1 b1 => ?_))
 have a2 := l1.o
 refine Ni rfl (ssr (la b1 (ca hm (fun _ => p19 (Repo.rd (K := [0]) x0.Commits x0.Heads (h0_0.ul a2) (h0_1.ul a2)) (h99.ul a2)) fun z6 W8 hm l8 => ?_)))
 have a9 := a2.n l8
 refine Lw.r rfl (R.not rfl) (nl (cn hm (fun hm => ?_) fun hm => ?_))
 ·exact sr (Ni rfl (.ret (rt hm a9)))
 ·refine sk (sr (la (b1.up l8) (ms rfl (ca hm (fun _ => p80 (Repo.rd (K := [0]) x0.Commits x0.Heads (h0_0.ul a9) (h0_1.ul a9))) fun z14 W16 hm l16 => ?_))))
  have a17 := a9.n l16
  exact Ni rfl (.ret (rt hm a17))
theorem p20 {x0 v0_0_ v0_1_ x1 r} (h0 : Rd W K [v0_0_, v0_1_] x0) (h99 : Gl 0 W K) (hm : Vm.impl_RepoAt x0 x1 = some r) : Q1 20 [.agg [v0_0_, v0_1_].toArray, vS x1] W [] fun W' v => v = vI r :=
 (c20 (h0.view _) (h99.view _) hm).ad (fk 0) fun _ _ e => e
theorem c56 {x0 v0_0_ v0_1_ x1 r} (h0 : Rd W0 [0] [v0_0_, v0_1_] x0) (h99 : Gl 0 W0 [0]) (hm : Vm.impl_RepoTree x0 x1 = some r) : Q0 56 [.agg [v0_0_, v0_1_].toArray, vI x1] W0 fun Wf v => ∃ u0, v = .tuple [u0, vB r.2].toArray ∧ OwS Wf LL [] [u0] r.1 := by
 unfold Vm.impl_RepoTree at hm
 obtain ⟨w0_0, w0_1, he0, h0_0, h0_1⟩ := Repo.split h0
 simp only [List.cons.injEq, and_true, true_and] at he0
 obtain ⟨rfl, rfl⟩ := he0
 refine CallR.of Tryz.func56 rfl rfl rfl rfl (sr (bo 2 rfl fun g1 W1 l1 b1 => ?_))
 have a2 := l1.o
 refine Gv (.slice none 0 0) rfl (Nb rfl (Cw.seq ?_))
 obtain ⟨K5, hK5, hm⟩ := jn_e hm
 refine Cw.join 6 14 [14] (fun l w => ∃ y3 W4, CW.w W4 = w ∧ Le [] W1 W4 ∧ l = [vB y3] ∧ K5 y3 = some r) ?_ ?_
 ·rintro _ _ σ ⟨y3, W4, rfl, l4, rfl, hm⟩
  rw [hK5] at hm
  have a6 := a2.n l4
  refine cn hm (fun hm => ?_) fun hm => ?_
  ·refine sr (Gv (.slice none 0 0) rfl (Nb rfl ?_))
   cases hm
   exact Cw.ret (ret2 rfl rfl (Res.mk a6 ⟨.slice none 0 0, rfl, (owsN []).sub rfl rfl⟩))
  ·refine sk (sr (la (b1.up l4) (mi rfl (cr hm (fun _ => p115 (Repo.rd (K := [0]) x0.Commits x0.Heads (h0_0.ul a6) (h0_1.ul a6))) ?_))))
   rintro z11 v0_13 W13 hm l13 ⟨_, rfl, f13_0⟩
   have s14 := f13_0.sub (M := [0]) rfl
   have a15 := a6.n l13
   refine cr hm (fun _ => p114 (k0 := 3) s14) ?_
   rintro z17 v0_19 W19 hm l19 ⟨_, rfl, f19_0⟩
   have a20 := a15.n l19
   refine Gv v0_19 rfl (Nb rfl ?_)
   cases hm
   exact Cw.ret (ret2 rfl rfl (Res.mk a20 ⟨v0_19, rfl, f19_0.s.sub rfl rfl⟩))
 ·refine rg (la b1 (ca hm (fun _ => p19 (Repo.rd (K := [0]) x0.Commits x0.Heads (h0_0.ul a2) (h0_1.ul a2)) (h99.ul a2)) fun z25 W27 hm l27 => ?_))
  have a28 := a2.n l27
  refine Lw.r rfl (R.not rfl) (mb rfl (bs hm (fun hc30 hm => ?_) fun hc30 hm => ?_))
  ·exact psk 4 hc30 rfl (Pb hc30 rfl (nl ((ag) ⟨true, W27, rfl, l27, rfl, hm⟩)))
  ·exact wak 4 hc30 (la (b1.up l27) (mi rfl (ca hm (fun _ => p126 (Repo.rd (K := [0]) x0.Commits x0.Heads (h0_0.ul a28) (h0_1.ul a28))) fun z33 W35 hm l35 => Lw.r rfl (R.not rfl) (Pb hc30 rfl (nl ((ag) ⟨(!z33), W35, rfl, (l27.j l35).w, rfl, hm⟩))))))
theorem p56 {x0 v0_0_ v0_1_ x1 k0 r} (h0 : Rd W K [v0_0_, v0_1_] x0) (h99 : Gl 0 W K) (hm : Vm.impl_RepoTree x0 x1 = some r) : Q1 56 [.agg [v0_0_, v0_1_].toArray, vI x1] W [] fun W' v => ∃ u0, v = .tuple [u0, vB r.2].toArray ∧ Ow W' k0 [] [u0] r.1 :=
 (c56 (h0.view _) (h99.view _) hm).ad (fk k0) fun _ _ ⟨u0, e, f0⟩ => ⟨u0, e, f0.back (fk_LL _)⟩
theorem c21 {x0 v0_0_ v0_1_ x1 v1_0_ v1_1_ r} (h0 : Rd W0 [0] [v0_0_, v0_1_] x0) (h1 : Rd W0 [0] [v1_0_, v1_1_] x1) (hm : Vm.laws_smKeeps x0 x1 = some r) : Q0 21 [.agg [v0_0_, v0_1_].toArray, .agg [v1_0_, v1_1_].toArray] W0 fun Wf v => v = vB r := by
 unfold Vm.laws_smKeeps at hm
 obtain ⟨w0_0, w0_1, he0, h0_0, h0_1⟩ := Repo.split h0
 simp only [List.cons.injEq, and_true, true_and] at he0
 obtain ⟨rfl, rfl⟩ := he0
 obtain ⟨w1_0, w1_1, he1, h1_0, h1_1⟩ := Repo.split h1
 simp only [List.cons.injEq, and_true, true_and] at he1
 obtain ⟨rfl, rfl⟩ := he1
 refine CallR.of Tryz.func21 rfl rfl rfl rfl (sr (bo 2 rfl fun g1 W1 l1 b1 => ?_))
 have a2 := l1.o
 refine bo 3 rfl fun g3 W3 l3 b3 => ?_
 have a4 := a2.n l3
 refine Nb rfl (ssr (fl (b1.up l3) rfl (Lw.ln x0.Commits (h0_0.ul a4) rfl (fl b3 rfl (Lw.ln x1.Commits (h1_0.ul a4) rfl (Lw.lt rfl (nl (cn hm (fun hm => ?_) fun hm => ?_))))))))
 ·exact sr (Nb rfl (.ret (rt hm a4)))
 ·refine sk (ssr (Ni rfl (Cw.block ?_)))
  obtain ⟨K12, hK12, hm⟩ := jn_e hm
  refine Cw.loop 13 31 [4, 5] (fun m l w => ∃ y9 y10 W11, CW.w W11 = w ∧ Le [] W3 W11 ∧ l = [vB y9, vI y10] ∧ Vm.laws_smKeeps_l1 x0 x1 K12 m y9 y10 = some r) _ ⟨false, 0, W3, rfl, Le.refl _ _, rfl, hm⟩ ?_
  rintro (_ | m13) _ _ σ ⟨y9, y10, W11, rfl, l11, rfl, hm⟩
  ·cases hm
  unfold Vm.laws_smKeeps_l1 at hm
  have a14 := a4.n l11
  refine ssr (mi rfl (fl (b3.up l11) rfl (Lw.ln x1.Commits (h1_0.ul a14) rfl (Lw.lt rfl (nl (cn hm (fun hm => ?_) fun hm => ?_))))))
  ·refine sk (Cw.seq (Cw.block (Cw.seq (Cw.draw [] [(0, 0), (1, 1), (2, 0), (3, 0), (4, 1), (5, 0), (6, 1), (7, 0), (8, 0), (9, 1), (10, 2), (11, 0)] mixed (by kernel_rfl) fun W19 l19 => ?_))))
   have a20 := a14.n l19
   refine Dfl (((b1.up l3).up l11).up l19) rfl rfl rfl (Di rfl ?_)
   obtain ⟨u23, e24, hm⟩ := ob hm
   have s25 := h0_0.ul a20
   refine Mw.p rfl rfl (fun _ => R.ix (α := Commit) s25 e24 rfl rfl rfl) ?_
   obtain ⟨x26, c27, _, r28⟩ := (s25.at_ e24).cells
   obtain ⟨v29, v31, rfl, r30, r32⟩ := Commit.split r28
   refine Mw.q rfl rfl (fun _ c => R.lda (cl_cells (s25.at_ e24).1 rfl c27 c) rfl rfl) (Dfl ((b3.up l11).up l19) rfl rfl rfl (Di rfl ?_))
   obtain ⟨u33, e34, hm⟩ := ob hm
   have s35 := h1_0.ul a20
   refine Mw.p rfl rfl (fun _ => R.ix (α := Commit) s35 e34 rfl rfl rfl) ?_
   obtain ⟨x36, c37, _, r38⟩ := (s35.at_ e34).cells
   obtain ⟨v39, v41, rfl, r40, r42⟩ := Commit.split r38
   refine Mw.q rfl rfl (fun _ c => R.lda (cl_cells (s35.at_ e34).1 rfl c37 c) rfl rfl) ?_
   obtain ⟨z43, e44, hm⟩ := ob hm
   refine Mw.t rfl rfl (T.call rfl (p49  (Commit.rd (K := [0]) u23.Parents u23.Who u23.Tree r30 r32) (Commit.rd (K := [0]) u33.Parents u33.Who u33.Tree r40 r42) e44)) ?_
   rintro _ _ ⟨W45, rfl, l45, rfl⟩
   have a46 := a20.n l45
   refine m0 l45 fun d45 => Mw.p rfl rfl (fun _ => R.not rfl) (Mw.nil (cn hm (fun hm => ?_) fun hm => ?_))
   ·exact sr (Nb rfl (.ret (rt hm a46)))
   ·exact sk (rg (mi rfl (Lw.add rfl (Ni rfl ((agm) ⟨y9, w64 (y10 + 1), W45, rfl, ((l11.j l19).j l45).w, rfl, hm⟩)))))
  ·refine Cw.exit ?_
   rw [hK12] at hm
   exact sr (Nb rfl (.ret (rt hm a14)))
theorem p21 {x0 v0_0_ v0_1_ x1 v1_0_ v1_1_ r} (h0 : Rd W K [v0_0_, v0_1_] x0) (h1 : Rd W K [v1_0_, v1_1_] x1) (hm : Vm.laws_smKeeps x0 x1 = some r) : Q1 21 [.agg [v0_0_, v0_1_].toArray, .agg [v1_0_, v1_1_].toArray] W [] fun W' v => v = vB r :=
 (c21 (h0.view _) (h1.view _) hm).ad (fk 0) fun _ _ e => e
end Go.Sx
