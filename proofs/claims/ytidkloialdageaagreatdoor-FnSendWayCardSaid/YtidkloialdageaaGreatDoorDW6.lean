/- Walks: each function answers as its model, printed by a program of ours. Conditions: the arguments read as they are given. -/
import Derived.Test.YtidkloialdageaaGreatDoorDTs
import Derived.Test.YtidkloialdageaaGreatDoorDM0
import Derived.Test.YtidkloialdageaaGreatDoorDW0
import Derived.Test.YtidkloialdageaaGreatDoorDW1
import Derived.Test.YtidkloialdageaaGreatDoorDW3
import Derived.Test.YtidkloialdageaaGreatDoorDW5
import Derived.Test.YtidkloialdageaaGreatDoorDE
namespace Go.Sx
open Go Go.Proofs Go.Vm Rp
set_option linter.unusedVariables false
set_option linter.unusedSimpArgs false
variable {W W0 : CW} {K : List Nat}
theorem c82 {x0 g0_ v0_0_ r} (hB0 : Bx W0 2 g0_ [v0_0_, vI x0.p]) (h0_0 : Rd W0 [0] [v0_0_] x0.b) (hm : Vm.spec_l30AnyRepo x0 = some r) : Q0 82 [ptr (bx g0_)] W0 fun Wf v => ∃ u0_0 u0_1, v = .agg [u0_0, u0_1].toArray ∧ OwS Wf [31] [] [u0_0] r.1.Commits ∧ OwS Wf [32] [] [u0_1] r.1.Heads ∧ Bx Wf 2 g0_ [v0_0_, vI r.2] := by
 unfold Vm.spec_l30AnyRepo at hm
 refine CallR.of Tryz.func82 rfl rfl rfl rfl (sr (al 3 [.slice none 0 0, .slice none 0 0] fun g1 W1 l1 b1 => ?_))
 have a2 := l1.o
 have b3 := hB0.up l1
 refine nl (sr (mp rfl (cr hm (fun _ => p135 (k0 := 4) (k1 := 5) (c0 := 2) (x0 := x0) b3 (h0_0.ul a2) rfl) ?_)))
 rintro z5 _ W7 hm l7 ⟨v0_0_7, v0_1_7, rfl, f7_0, f7_1, f7_2⟩
 have a8 := a2.t l7
 refine al 6 [.slice none 0 0, .slice none 0 0] fun g10 W10 l10 b10 => ?_
 have a11 := a8.n l10
 refine sta b10 (oc_cons (f7_0.up l10).oc (oc_cons (f7_1.up l10).oc oc_nil)) fun W16 l16 b16 => ?_
 have a17 := a11.t l16
 have o18 := (f7_0.up l10).up l16
 have o19 := (f7_1.up l10).up l16
 have b20 := (f7_2.up l10).up l16
 refine nl ?_
 obtain ⟨K33, hK33, hm⟩ := jn_e hm
 refine Cw.join 7 44 [4] (fun l w => ∃ y23 y25 y28 j22 v26 v29 W32, CW.w W32 = w ∧ Le [2, 4, 5, 6, 7] W16 W32 ∧ l = [j22] ∧ Bx W32 2 g0_ [v0_0_, vI y23] ∧ Ow W32 4 [] [v26] y25 ∧ Ow W32 5 [] [v29] y28 ∧ Bx W32 6 g10 [v26, v29] ∧ K33 y23 y25 y28 = some r) ?_ ?_
 ·rintro _ _ σ ⟨y23, y25, y28, j22, v26, v29, W32, rfl, l32, rfl, b24, o27, o30, b31, hm⟩
  rw [hK33] at hm
  have a34 := a17.t l32
  refine sr (la b31 (sta ((((b1.up l7).up l10).up l16).up l32) (oc_cons o27.oc (oc_cons o30.oc oc_nil)) fun W36 l36 b36 => ?_))
  have a37 := a34.t l36
  refine nl ?_
  obtain ⟨W42, ew42, l42, o42⟩ := (o27.up l36).dyeO 31
  have a43 := a37.t l42
  obtain ⟨W48, ew48, l48, o48⟩ := ((o30.up l36).up l42).dyeO 32
  have a49 := a43.t l48
  cases hm
  rw [← ew48.trans (ew42)]
  exact Cw.ret (retA1 rfl ((b36.up l42).up l48) (Res.mk a49 ⟨v26, v29, rfl, (o42.up l48).s, o48.s, (((b24.up l36).up l42).up l48)⟩))
 ·refine sr (fl b16 rfl (Lw.ln z5.1.Commits o18.rd rfl (Lw.gt rfl (nl (cn hm (fun hm => ?_) fun hm => ?_)))))
  ·refine sr (mp rfl (fl b16 rfl (Lw.ln z5.1.Commits o18.rd rfl (cr hm (fun _ => p85 (c0 := 2) (x0 := (Vm.l30Rd.mk x0.b z5.2)) b20 (h0_0.ul a17) rfl) ?_))))
   rintro z56 _ W58 hm l58 ⟨rfl, f58_0⟩
   have a59 := a17.t l58
   refine Ni rfl (sr (mp rfl (cr hm (fun _ => p85 (c0 := 2) (x0 := (Vm.l30Rd.mk x0.b z56.2)) f58_0 (h0_0.ul a59) rfl) ?_)))
   rintro z65 _ W67 hm l67 ⟨rfl, f67_0⟩
   have o69 := (o18.up l58).up l67
   have o70 := (o19.up l58).up l67
   have b72 := (b16.up l58).up l67
   refine nl (Cw.block (sr (Lw.eq rfl (Nb rfl (cn hm (fun hm => ?_) fun hm => ?_)))))
   ·refine rg (fl b72 rfl (mi rfl (mi rfl (Lw.t rfl (T.bsS (α := Int) (xs := [z56.1]) 7 [] (W := W67) [vI z56.1] (Each.cons ((rdI _)) Each.nil) rfl) ?_))))
    rintro v74 _ ⟨W74, rfl, l74, o74⟩
    obtain ⟨u81, e82, hm⟩ := ob hm
    refine Lw.r rfl (R.ix (α := Commit) (o69.up l74).rd e82 rfl rfl rfl) (Lw.fa rfl ?_)
    obtain ⟨q84, e85, hm⟩ := ob hm
    refine Lw.u (T.stH (α := Commit) (β := List Int) (J := [7]) (Ow.hole (α := Commit) (β := List Int) (jf := 0) (o69.up l74) e82) o74.s e85 rfl rfl rfl rfl) ?_
    rintro _ _ ⟨W83, rfl, l83, o83⟩
    exact nl ((ag) ⟨z65.2, q84, z5.1.Heads, vI z56.1, v0_0_7, v0_1_7, W83, rfl, (((l58.j l67).j l74).j l83).w, rfl, ((f67_0.up l74).up l83), o83, ((o70.up l74).up l83), ((b72.up l74).up l83), hm⟩)
   ·refine sr (Lw.eq rfl (Nb rfl (cn hm (fun hm => ?_) fun hm => ?_)))
    ·refine rg (fl b72 rfl (mi rfl ?_))
     obtain ⟨u92, e93, hm⟩ := ob hm
     refine Lw.r rfl (R.ix (α := Commit) o69.rd e93 rfl rfl rfl) (Lw.fa rfl ?_)
     obtain ⟨q95, e96, hm⟩ := ob hm
     refine Lw.u (T.stH (α := Commit) (β := Str) (J := []) (Ow.hole (α := Commit) (β := Str) (jf := 1) o69 e93) (OwS.atm (K := []) (rdS _)) e96 rfl rfl rfl rfl) ?_
     rintro _ _ ⟨W94, rfl, l94, o94⟩
     exact nl ((ag) ⟨z65.2, q95, z5.1.Heads, vI z56.1, v0_0_7, v0_1_7, W94, rfl, ((l58.j l67).j l94).w, rfl, (f67_0.up l94), o94, (o70.up l94), (b72.up l94), hm⟩)
    ·refine sr (Lw.eq rfl (Nb rfl (cn hm (fun hm => ?_) fun hm => ?_)))
     ·refine Cw.draw [5] [(0, 0), (1, 1), (2, 0), (3, 1), (4, 0), (5, 2), (6, 2), (7, 2), (8, 0), (9, 3)] mixed (by kernel_rfl) fun W103 l103 => ?_
      have o106 := o70.up l103
      have b109 := b72.up l103
      refine Dfl b109 rfl rfl rfl (Dfl b109 rfl rfl rfl ?_)
      obtain ⟨u110, e111, hm⟩ := ob hm
      refine Mw.p rfl rfl (fun _ => R.ix (α := Head) o106.rd e111 rfl rfl rfl) ?_
      obtain ⟨x112, c113, _, r114⟩ := (o106.rd.at_ e111).cells
      obtain rfl := Head.split r114
      refine Mw.t rfl rfl (Run.tr (R.lda c113 rfl rfl)) ?_
      rintro _ _ ⟨hu, rfl⟩
      obtain rfl := hu.symm
      refine ⟨⟨_, rfl, (Le.refl _ _)⟩, ?_⟩
      refine Mw.t rfl rfl (T.bs 8 [.agg [vS u110.Name, vI u110.At].toArray] (cs := [vS u110.Name, vI u110.At]) rfl rfl (bsA rfl)) ?_
      rintro _ _ ⟨g115, W115, rfl, rfl, l115, b115⟩
      refine m0 l115 fun d115 => ?_
      obtain ⟨q122, e123, hm⟩ := ob hm
      refine Mw.t rfl rfl (T.app1S (α := Head) (K' := []) (o106.up l115) b115 (Head.rd (K := []) u110.Name u110.At) rfl rfl e123) ?_
      rintro v124 _ ⟨W124, rfl, l124, o124⟩
      refine mc d115 l124 fun d124 => Df rfl (Mw.lu rfl (T.st (j := 1) (v := v124) ((b109.up l115).up l124) rfl rfl o124.oc rfl rfl) ?_)
      rintro _ _ ⟨W131, rfl, l131, b131⟩
      exact Mw.nil ((ag) ⟨z65.2, z5.1.Commits, q122, vI z56.1, v0_0_7, v124, W131, rfl, (((((l58.j l67).j l103).j l115).j l124).j l131).w, rfl, ((((f67_0.up l103).up l115).up l124).up l131), ((((o69.up l103).up l115).up l124).up l131), (o124.up l131), b131, hm⟩)
     ·exact sk ((ag) ⟨z65.2, z5.1.Commits, z5.1.Heads, vI z56.1, v0_0_7, v0_1_7, W67, rfl, (l58.j l67).w, rfl, f67_0, o69, o70, b72, hm⟩)
  ·exact sk ((ag) ⟨z5.2, z5.1.Commits, z5.1.Heads, undef, v0_0_7, v0_1_7, W16, rfl, Le.refl _ _, rfl, b20, o18, o19, b16, hm⟩)
theorem p82 {x0 g0_ v0_0_ k0 k1 c0 r} (hB0 : Bx W c0 g0_ [v0_0_, vI x0.p]) (h0_0 : Rd W K [v0_0_] x0.b) (hJ : okJ K [c0] = true) (hm : Vm.spec_l30AnyRepo x0 = some r) : Q1 82 [ptr (bx g0_)] W [c0] fun W' v => ∃ u0_0 u0_1, v = .agg [u0_0, u0_1].toArray ∧ Ow W' k0 [] [u0_0] r.1.Commits ∧ Ow W' k1 [] [u0_1] r.1.Heads ∧ Bx W' c0 g0_ [v0_0_, vI r.2] :=
 CallR.adJ (J := [c0]) (fun c => bif Nat.beq c 0 then 0 else bif Nat.beq c 2 then c0 else bif Nat.beq c 31 then k0 else bif Nat.beq c 32 then k1 else 0) (c82 (hB0.viewJ 0 hJ) (h0_0.view _) hm) fun _ _ ⟨u0_0, u0_1, e, f0, f1, f2⟩ => ⟨u0_0, u0_1, e, f0.one1.backN rfl, f1.one1.backN rfl, Bx.backJ 0 f2 rfl⟩
theorem c83 {x0 g0_ v0_0_ x1 v1_0_ v1_1_ r} (hB0 : Bx W0 2 g0_ [v0_0_, vI x0.p]) (h0_0 : Rd W0 [0] [v0_0_] x0.b) (h1 : Rd W0 [0] [v1_0_, v1_1_] x1) (hm : Vm.spec_l30At x0 x1 = some r) : Q0 83 [ptr (bx g0_), .agg [v1_0_, v1_1_].toArray] W0 fun Wf v => v = vI r.1 ∧ Bx Wf 2 g0_ [v0_0_, vI r.2] := by
 unfold Vm.spec_l30At at hm
 obtain ⟨w1_0, w1_1, he1, h1_0, h1_1⟩ := Repo.split h1
 simp only [List.cons.injEq, and_true, true_and] at he1
 obtain ⟨rfl, rfl⟩ := he1
 refine CallR.of Tryz.func83 rfl rfl rfl rfl (sr (bo 3 rfl fun g1 W1 l1 b1 => ?_))
 have a2 := l1.o
 have b3 := hB0.up l1
 refine Ni rfl (ssr (mp rfl (cr hm (fun _ => p85 (c0 := 2) (x0 := x0) b3 (h0_0.ul a2) rfl) ?_)))
 rintro z5 _ W7 hm l7 ⟨rfl, f7_0⟩
 have a8 := a2.t l7
 refine Lw.eq rfl (nl (cn hm (fun hm => ?_) fun hm => ?_))
 ·refine sr (mp rfl (fl (b1.up l7) rfl (Lw.ln x1.Commits (h1_0.ul a8) rfl (Lw.t rfl (T.bsS (α := Int) (xs := [(-1), (x1.Commits.length : Int)]) 4 [] (W := W7) [vI (-1), vI (x1.Commits.length : Int)] (Each.cons ((rdI _)) (Each.cons ((rdI _)) Each.nil)) rfl) ?_))))
  rintro v12 _ ⟨W12, rfl, l12, o12⟩
  have a13 := a8.n l12
  refine cr hm (fun _ => p136 (K := [0, 4]) (c0 := 2) (x0 := (Vm.l30Rd.mk x0.b z5.2)) (f7_0.up l12) ((h0_0.ul a13).sub (M := [0, 4]) rfl) (o12.rd.sub (M := [0, 4]) rfl) rfl) ?_
  rintro z17 _ W19 hm l19 ⟨rfl, f19_0⟩
  have a20 := a13.t l19
  refine Ni rfl ?_
  cases hm
  exact Cw.ret (ret1 rfl (Res.mk a20 ⟨rfl, f19_0⟩))
 ·refine sk (sr (mp rfl (fl (b1.up l7) rfl (Lw.ln x1.Commits (h1_0.ul a8) rfl (cr hm (fun _ => p85 (c0 := 2) (x0 := (Vm.l30Rd.mk x0.b z5.2)) f7_0 (h0_0.ul a8) rfl) ?_)))))
  rintro z25 _ W27 hm l27 ⟨rfl, f27_0⟩
  have a28 := a8.t l27
  refine Ni rfl ?_
  cases hm
  exact Cw.ret (ret1 rfl (Res.mk a28 ⟨rfl, f27_0⟩))
theorem p83 {x0 g0_ v0_0_ x1 v1_0_ v1_1_ c0 r} (hB0 : Bx W c0 g0_ [v0_0_, vI x0.p]) (h0_0 : Rd W K [v0_0_] x0.b) (h1 : Rd W K [v1_0_, v1_1_] x1) (hJ : okJ K [c0] = true) (hm : Vm.spec_l30At x0 x1 = some r) : Q1 83 [ptr (bx g0_), .agg [v1_0_, v1_1_].toArray] W [c0] fun W' v => v = vI r.1 ∧ Bx W' c0 g0_ [v0_0_, vI r.2] :=
 CallR.adJ (J := [c0]) (fun c => bif Nat.beq c 0 then 0 else bif Nat.beq c 2 then c0 else 0) (c83 (hB0.viewJ 0 hJ) (h0_0.view _) (h1.view _) hm) fun _ _ ⟨e, f0⟩ => ⟨e, Bx.backJ 0 f0 rfl⟩
theorem c68 {x0 v0_ r} (h0 : Rd W0 [0] [v0_] x0) (hm : Vm.spec_DrawAncIs x0 = some r) : Q0 68 [v0_] W0 fun Wf v => ∃ u0_0 u0_1, v = .tuple [.agg [u0_0, u0_1].toArray, vI r.2.1, vI r.2.2].toArray ∧ OwS Wf [31] [] [u0_0] r.1.Commits ∧ OwS Wf [32] [] [u0_1] r.1.Heads := by
 unfold Vm.spec_DrawAncIs at hm
 refine CallR.of Tryz.func68 rfl rfl rfl rfl (sr (al 2 [.slice none 0 0, .slice none 0 0] fun g1 W1 l1 b1 => ?_))
 have a2 := l1.o
 refine Gi rfl (Ni rfl (sr (mv v0_ rfl (cr hm (fun _ => p81 (k0 := 3) (h0.ul a2)) ?_))))
 rintro z4 _ W6 hm l6 ⟨g0_6, v0_0_6, rfl, f6_0, f6_1⟩
 have s7 := f6_1.sub (M := [0]) rfl
 have a8 := a2.n l6
 refine Np rfl (sr (mp rfl (cr hm (fun _ => p82 (k0 := 4) (k1 := 5) (c0 := 3) (x0 := z4) f6_0 s7 rfl) ?_)))
 rintro z10 _ W12 hm l12 ⟨v0_0_12, v0_1_12, rfl, f12_0, f12_1, f12_2⟩
 have a13 := l12.s
 refine al 6 [.slice none 0 0, .slice none 0 0] fun g15 W15 l15 b15 => ?_
 have a16 := l15.o
 refine sta b15 (oc_cons (f12_0.up l15).oc (oc_cons (f12_1.up l15).oc oc_nil)) fun W21 l21 b21 => ?_
 have a22 := l21.s
 have o23 := (f12_0.up l15).up l21
 have o24 := (f12_1.up l15).up l21
 refine nl (sr (mp rfl (la b21 (cr hm (fun _ => p83 (K := [0, 4, 5]) (c0 := 3) (x0 := (Vm.l30Rd.mk z4.b z10.2)) (x1 := (Vm.Repo.mk z10.1.Commits z10.1.Heads)) ((f12_2.up l15).up l21) ((s7.ul ((a13.trans a16).trans a22)).sub (M := [0, 4, 5]) rfl) ((Repo.rd (K := [4, 5]) z10.1.Commits z10.1.Heads (o23.rd.sub (M := [4, 5]) rfl) (o24.rd.sub (M := [4, 5]) rfl)).sub (M := [0, 4, 5]) rfl) rfl) ?_))))
 rintro z28 _ W30 hm l30 ⟨rfl, f30_0⟩
 have a31 := l30.s
 refine Ni rfl (Cw.seq (Cw.draw [2, 3] [(0, 1), (1, 0), (2, 0), (3, 1), (4, 2), (5, 2), (6, 0), (7, 0)] mixed (by kernel_rfl) fun W36 l36 => ?_))
 have a37 := l36.o
 have o38 := (o23.up l30).up l36
 have o39 := (o24.up l30).up l36
 have b42 := (b21.up l30).up l36
 refine Mw.q rfl rfl (fun _ c => R.lda (cs := [v0_0_12, v0_1_12]) (b42.clcs rfl c) rfl rfl) (Di rfl (Dp rfl (Mw.q rfl rfl (fun _ c => R.lda (cs := [v0_0_12, v0_1_12]) (b42.clcs rfl c) rfl rfl) ?_)))
 obtain ⟨z44, e45, hm⟩ := ob hm
 refine Mw.t rfl rfl (T.call rfl (p83 (K := [0, 4, 5])  (c0 := 3) (x0 := (Vm.l30Rd.mk z4.b z28.2)) (x1 := (Vm.Repo.mk z10.1.Commits z10.1.Heads)) (f30_0.up l36) ((s7.ul ((((a13.trans a16).trans a22).trans a31).trans a37)).sub (M := [0, 4, 5]) rfl) ((Repo.rd (K := [4, 5]) z10.1.Commits z10.1.Heads (o38.rd.sub (M := [4, 5]) rfl) (o39.rd.sub (M := [4, 5]) rfl)).sub (M := [0, 4, 5]) rfl) rfl e45)) ?_
 rintro _ _ ⟨W46, rfl, l46, ⟨rfl, f46_0⟩⟩
 have a47 := (((((a8.trans a13).trans a16).trans a22).trans a31).trans a37).t l46
 refine m0 l46 fun d46 => Mw.tu rfl (T.sta (vs := [v0_0_12, v0_1_12]) (((((((b1.up l6).up l12).up l15).up l21).up l30).up l36).up l46) rfl rfl (oc_cons (o38.up l46).oc (oc_cons (o39.up l46).oc oc_nil)) rfl rfl) ?_
 rintro _ _ ⟨W52, rfl, l52, b52⟩
 have a53 := a47.t l52
 refine mc d46 l52 fun d52 => Hi rfl (Hi rfl (Mw.nil ?_))
 obtain ⟨W58, ew58, l58, o58⟩ := ((o38.up l46).up l52).dyeO 31
 have a59 := a53.t l58
 obtain ⟨W64, ew64, l64, o64⟩ := (((o39.up l46).up l52).up l58).dyeO 32
 have a65 := a59.t l64
 cases hm
 rw [← ew64.trans (ew58)]
 exact Cw.ret (retG (ResOk.c rfl ((b52.up l58).up l64) (ResOk.t rfl (ResOk.t rfl ResOk.n))) (Res.mk a65 ⟨v0_0_12, v0_1_12, rfl, (o58.up l64).s, o64.s⟩))
theorem p68 {x0 v0_ k0 k1 r} (h0 : Rd W K [v0_] x0) (hm : Vm.spec_DrawAncIs x0 = some r) : Q1 68 [v0_] W [] fun W' v => ∃ u0_0 u0_1, v = .tuple [.agg [u0_0, u0_1].toArray, vI r.2.1, vI r.2.2].toArray ∧ Ow W' k0 [] [u0_0] r.1.Commits ∧ Ow W' k1 [] [u0_1] r.1.Heads :=
 CallR.adJ (J := []) (fun c => bif Nat.beq c 0 then 0 else bif Nat.beq c 31 then k0 else bif Nat.beq c 32 then k1 else 0) (c68 (h0.view _) hm) fun _ _ ⟨u0_0, u0_1, e, f0, f1⟩ => ⟨u0_0, u0_1, e, f0.one1.backN rfl, f1.one1.backN rfl⟩
theorem c78 {x0 x1 x2 r} (hm : Vm.impl_within x0 x1 x2 = some r) : Q0 78 [vI x0, vI x1, vI x2] W0 fun Wf v => v = vB r := by
 unfold Vm.impl_within at hm
 refine CallR.of Tryz.func78 rfl rfl rfl rfl (sr (Nb rfl ?_))
 obtain ⟨K3, hK3, hm⟩ := jn_e hm
 refine Cw.join 7 14 [6] (fun l w => ∃ y1 W2, CW.w W2 = w ∧ Le [] W0 W2 ∧ l = [vB y1] ∧ K3 y1 = some r) ?_ ?_
 ·rintro _ _ σ ⟨y1, W2, rfl, l2, rfl, hm⟩
  rw [hK3] at hm
  have a4 := l2.o
  exact .ret (rt hm a4)
 ·refine rg (mi rfl (mi rfl (Lw.le rfl (mb rfl (bs hm (fun hc5 hm => ?_) fun hc5 hm => ?_)))))
  ·exact wak 3 hc5 (mi rfl (mi rfl (Lw.le rfl (Pb hc5 rfl (Nb rfl ((ag) ⟨decide ((x0 : Int) ≤ (x2 : Int)), W0, rfl, Le.refl _ _, rfl, hm⟩))))))
  ·exact psk 3 hc5 rfl (Pb hc5 rfl (Nb rfl ((ag) ⟨false, W0, rfl, Le.refl _ _, rfl, hm⟩)))
theorem p78 {x0 x1 x2 r} (hm : Vm.impl_within x0 x1 x2 = some r) : Q1 78 [vI x0, vI x1, vI x2] W [] fun W' v => v = vB r :=
 (c78 (W0 := W.view [] [])  hm).ad (fk 0) fun _ _ e => e
theorem c140 {x0 r} (hm : Vm.impl_wordByte x0 = some r) : Q0 140 [.int .u8 (UInt8.toNat x0 : Int)] W0 fun Wf v => v = vB r := by
 unfold Vm.impl_wordByte at hm
 refine CallR.of Tryz.func140 rfl rfl rfl rfl (sr (Nb rfl ?_))
 obtain ⟨K3, hK3, hm⟩ := jn_e hm
 refine Cw.join 3 16 [2] (fun l w => ∃ y1 W2, CW.w W2 = w ∧ Le [] W0 W2 ∧ l = [vB y1] ∧ K3 y1 = some r) ?_ ?_
 ·rintro _ _ σ ⟨y1, W2, rfl, l2, rfl, hm⟩
  rw [hK3] at hm
  have a4 := l2.o
  exact .ret (rt hm a4)
 ·refine rg (mv (.int .u8 (UInt8.toNat x0 : Int)) rfl (Lw.ge rfl (mb rfl (bs hm (fun hc5 hm => ?_) fun hc5 hm => ?_))))
  ·refine wak 2 hc5 (mv (.int .u8 (UInt8.toNat x0 : Int)) rfl (Lw.le rfl (Pb hc5 rfl (mb rfl (bs hm (fun hc6 hm => ?_) fun hc6 hm => ?_)))))
   ·exact psk 3 hc6 rfl (puk 2 rfl (psk 1 hc6 rfl (Pb hc6 rfl (Nb rfl ((ag) ⟨true, W0, rfl, Le.refl _ _, rfl, hm⟩)))))
   ·refine wak 3 hc6 (mv (.int .u8 (UInt8.toNat x0 : Int)) rfl (Lw.ge rfl (mb rfl (bs hm (fun hc7 hm => ?_) fun hc7 hm => ?_))))
    ·exact wak 2 hc7 (mv (.int .u8 (UInt8.toNat x0 : Int)) rfl (Lw.le rfl (wak 1 hc6 (Pb hc7 rfl (Pb hc6 rfl (Nb rfl ((ag) ⟨decide (((UInt8.toNat x0 : Int) : Int) ≤ (57 : Int)), W0, rfl, Le.refl _ _, rfl, hm⟩)))))))
    ·exact psk 2 hc7 rfl (wak 1 hc6 (Pb hc7 rfl (Pb hc6 rfl (Nb rfl ((ag) ⟨false, W0, rfl, Le.refl _ _, rfl, hm⟩)))))
  ·refine psk 2 hc5 rfl (Pb hc5 rfl (mb rfl (wak 3 rfl (mv (.int .u8 (UInt8.toNat x0 : Int)) rfl (Lw.ge rfl (mb rfl (bs hm (fun hc8 hm => ?_) fun hc8 hm => ?_)))))))
   ·exact wak 2 hc8 (mv (.int .u8 (UInt8.toNat x0 : Int)) rfl (Lw.le rfl (wak 1 rfl (Pb hc8 rfl (Pb rfl rfl (Nb rfl ((ag) ⟨decide (((UInt8.toNat x0 : Int) : Int) ≤ (57 : Int)), W0, rfl, Le.refl _ _, rfl, hm⟩)))))))
   ·exact psk 2 hc8 rfl (wak 1 rfl (Pb hc8 rfl (Pb rfl rfl (Nb rfl ((ag) ⟨false, W0, rfl, Le.refl _ _, rfl, hm⟩)))))
theorem p140 {x0 r} (hm : Vm.impl_wordByte x0 = some r) : Q1 140 [.int .u8 (UInt8.toNat x0 : Int)] W [] fun W' v => v = vB r :=
 (c140 (W0 := W.view [] [])  hm).ad (fk 0) fun _ _ e => e
theorem c76 {x0 r} (hm : Vm.impl_nameOk x0 = some r) : Q0 76 [vS x0] W0 fun Wf v => v = vB r := by
 unfold Vm.impl_nameOk at hm
 refine CallR.of Tryz.func76 rfl rfl rfl rfl (sr (Nb rfl (ssr (ms rfl (Lw.r rfl (R.lenS rfl) (ca hm (fun _ => p78) fun z1 W3 hm l3 => ?_))))))
 have a4 := l3.o
 refine Lw.r rfl (R.not rfl) (nl (cn hm (fun hm => ?_) fun hm => ?_))
 ·exact sr (Nb rfl (.ret (rt hm a4)))
 ·refine sk (ssr (Ni rfl (Cw.block ?_)))
  obtain ⟨K9, hK9, hm⟩ := jn_e hm
  refine Cw.loop 8 18 [2, 3] (fun m l w => ∃ y6 y7 W8, CW.w W8 = w ∧ Le [] W3 W8 ∧ l = [vB y6, vI y7] ∧ Vm.impl_nameOk_l1 x0 K9 m y6 y7 = some r) _ ⟨false, 0, W3, rfl, Le.refl _ _, rfl, hm⟩ ?_
  rintro (_ | m10) _ _ σ ⟨y6, y7, W8, rfl, l8, rfl, hm⟩
  ·cases hm
  unfold Vm.impl_nameOk_l1 at hm
  have a11 := a4.n l8
  refine ssr (mi rfl (ms rfl (Lw.r rfl (R.lenS rfl) (Lw.lt rfl (nl (cn hm (fun hm => ?_) fun hm => ?_))))))
  ·refine sk (Cw.seq (Cw.block (sr (ms rfl (mi rfl ?_)))))
   obtain ⟨u13, e14, hm⟩ := ob hm
   refine Lw.r rfl (R.chm e14 rfl rfl) (ca hm (fun _ => p140) fun z15 W17 hm l17 => ?_)
   have a18 := a11.n l17
   refine Lw.r rfl (R.not rfl) (nl (cn hm (fun hm => ?_) fun hm => ?_))
   ·exact sr (Nb rfl (.ret (rt hm a18)))
   ·exact sk (rg (mi rfl (Lw.add rfl (Ni rfl ((agm) ⟨y6, w64 (y7 + 1), W17, rfl, (l8.j l17).w, rfl, hm⟩)))))
  ·refine Cw.exit ?_
   rw [hK9] at hm
   exact sr (Nb rfl (.ret (rt hm a11)))
theorem p76 {x0 r} (hm : Vm.impl_nameOk x0 = some r) : Q1 76 [vS x0] W [] fun W' v => v = vB r :=
 (c76 (W0 := W.view [] [])  hm).ad (fk 0) fun _ _ e => e
theorem c143 {x0 r} (hm : Vm.impl_lineOk x0 = some r) : Q0 143 [vS x0] W0 fun Wf v => v = vB r := by
 unfold Vm.impl_lineOk at hm
 refine CallR.of Tryz.func143 rfl rfl rfl rfl (sr (Nb rfl (ssr (ms rfl (Lw.r rfl (R.lenS rfl) (Lw.gt rfl (nl (cn hm (fun hm => ?_) fun hm => ?_))))))))
 ·exact sr (Nb rfl (.ret (rt hm (Le.refl _ _))))
 ·refine sk (ssr (Ni rfl (Cw.block ?_)))
  obtain ⟨K5, hK5, hm⟩ := jn_e hm
  refine Cw.loop 7 22 [2, 3] (fun m l w => ∃ y2 y3 W4, CW.w W4 = w ∧ Le [] W0 W4 ∧ l = [vB y2, vI y3] ∧ Vm.impl_lineOk_l1 x0 K5 m y2 y3 = some r) _ ⟨false, 0, W0, rfl, Le.refl _ _, rfl, hm⟩ ?_
  rintro (_ | m6) _ _ σ ⟨y2, y3, W4, rfl, l4, rfl, hm⟩
  ·cases hm
  unfold Vm.impl_lineOk_l1 at hm
  have a7 := l4.o
  refine ssr (mi rfl (ms rfl (Lw.r rfl (R.lenS rfl) (Lw.lt rfl (nl (cn hm (fun hm => ?_) fun hm => ?_))))))
  ·refine sk (Cw.seq (Cw.block ?_))
   obtain ⟨K11, hK11, hm⟩ := jn_e hm
   refine Cw.join 13 22 [22] (fun l w => ∃ y9 W10, CW.w W10 = w ∧ Le [] W4 W10 ∧ l = [vB y9] ∧ K11 y9 = some r) ?_ ?_
   ·rintro _ _ σ ⟨y9, W10, rfl, l10, rfl, hm⟩
    rw [hK11] at hm
    have a12 := a7.n l10
    refine cn hm (fun hm => ?_) fun hm => ?_
    ·exact sr (Nb rfl (.ret (rt hm a12)))
    ·exact sk (rg (mi rfl (Lw.add rfl (Ni rfl ((agm) ⟨y2, w64 (y3 + 1), W10, rfl, (l4.j l10).w, rfl, hm⟩)))))
   ·refine rg (ms rfl (mi rfl ?_))
    obtain ⟨u14, e15, hm⟩ := ob hm
    refine Lw.r rfl (R.chm e15 rfl rfl) (Lw.lt rfl (mb rfl (bs hm (fun hc16 hm => ?_) fun hc16 hm => ?_)))
    ·exact psk 4 hc16 rfl (Pb hc16 rfl (nl ((ag) ⟨true, W4, rfl, Le.refl _ _, rfl, hm⟩)))
    ·refine wak 4 hc16 (ms rfl (mi rfl ?_))
     obtain ⟨u17, e18, hm⟩ := ob hm
     exact Lw.r rfl (R.chm e18 rfl rfl) (Lw.gt rfl (Pb hc16 rfl (nl ((ag) ⟨decide ((126 : Int) < ((UInt8.toNat u17 : Int) : Int)), W4, rfl, Le.refl _ _, rfl, hm⟩))))
  ·refine Cw.exit ?_
   rw [hK5] at hm
   exact sr (Nb rfl (.ret (rt hm a7)))
theorem p143 {x0 r} (hm : Vm.impl_lineOk x0 = some r) : Q1 143 [vS x0] W [] fun W' v => v = vB r :=
 (c143 (W0 := W.view [] [])  hm).ad (fk 0) fun _ _ e => e
theorem c92 {x0 v0_ r} (h0 : Rd W0 [0] [v0_] x0) (hm : Vm.impl_TextOk x0 = some r) : Q0 92 [v0_] W0 fun Wf v => v = vB r := by
 unfold Vm.impl_TextOk at hm
 refine CallR.of Tryz.func92 rfl rfl rfl rfl (sr (Nb rfl (ssr (mv v0_ rfl (Lw.ln x0 h0 rfl (Lw.gt rfl (nl (cn hm (fun hm => ?_) fun hm => ?_))))))))
 ·exact sr (Nb rfl (.ret (rt hm (Le.refl _ _))))
 ·refine sk (ssr (mv v0_ rfl (Lw.ln x0 h0 rfl (mi rfl (nl (Cw.block ?_))))))
  obtain ⟨K6, hK6, hm⟩ := jn_e hm
  refine Cw.loop 10 17 [2, 4, 10] (fun m l w => ∃ y2 y4 j3 W5, CW.w W5 = w ∧ Le [] W0 W5 ∧ l = [vB y2, j3, vI y4] ∧ Vm.impl_TextOk_l1 x0 K6 m y2 y4 = some r) _ ⟨false, 0, undef, W0, rfl, Le.refl _ _, rfl, hm⟩ ?_
  rintro (_ | m7) _ _ σ ⟨y2, y4, j3, W5, rfl, l5, rfl, hm⟩
  ·cases hm
  unfold Vm.impl_TextOk_l1 at hm
  have a8 := l5.o
  refine sr (Lw.lt rfl (nl (Cw.seq (cn hm (fun hm => ?_) fun hm => ?_))))
  ·refine sk (Cw.seq (Cw.block (sr ?_)))
   obtain ⟨u10, e11, hm⟩ := ob hm
   refine Lw.r rfl (R.ix (α := Str) (h0.ul a8) e11 rfl rfl rfl) (Lw.r rfl (R.ld rfl rfl ((h0.ul a8).at_ e11).str) (Ns rfl (sr (ms rfl (ca hm (fun _ => p143) fun z13 W15 hm l15 => ?_)))))
   have a16 := a8.n l15
   refine Lw.r rfl (R.not rfl) (nl (cn hm (fun hm => ?_) fun hm => ?_))
   ·exact sr (Nb rfl (.ret (rt hm a16)))
   ·exact sk (rg (Lw.add rfl (mi rfl (nl ((agm) ⟨y2, w64 (y4 + 1), vS u10, W15, rfl, (l5.j l15).w, rfl, hm⟩)))))
  ·refine Cw.exit ?_
   rw [hK6] at hm
   exact sr (Nb rfl (.ret (rt hm a8)))
theorem p92 {x0 v0_ r} (h0 : Rd W K [v0_] x0) (hm : Vm.impl_TextOk x0 = some r) : Q1 92 [v0_] W [] fun W' v => v = vB r :=
 (c92 (h0.view _) hm).ad (fk 0) fun _ _ e => e
theorem c141 {x0 r} (h99 : Gl 0 W0 [0]) (hm : Vm.impl_PathOk x0 = some r) : Q0 141 [vS x0] W0 fun Wf v => v = vB r := by
 unfold Vm.impl_PathOk at hm
 refine CallR.of Tryz.func141 rfl rfl rfl rfl (sr (Nb rfl (sr (ms rfl (cr hm (fun _ => p166 (k0 := 2) h99) ?_)))))
 rintro z1 v0_3 W3 hm l3 ⟨_, rfl, f3_0⟩
 have a4 := l3.o
 refine Nv v0_3 rfl (ssr (mv v0_3 rfl (Lw.ln z1 f3_0.rd rfl (Lw.gt rfl (nl (cn hm (fun hm => ?_) fun hm => ?_))))))
 ·exact sr (Nb rfl (.ret (rt hm a4)))
 ·refine sk (ssr (mv v0_3 rfl (Lw.ln z1 f3_0.rd rfl (mi rfl (nl (Cw.block ?_))))))
  obtain ⟨K10, hK10, hm⟩ := jn_e hm
  refine Cw.loop 13 20 [2, 5, 13] (fun m l w => ∃ y6 y8 j7 W9, CW.w W9 = w ∧ Le [] W3 W9 ∧ l = [vB y6, j7, vI y8] ∧ Vm.impl_PathOk_l1 z1 K10 m y6 y8 = some r) _ ⟨false, 0, undef, W3, rfl, Le.refl _ _, rfl, hm⟩ ?_
  rintro (_ | m11) _ _ σ ⟨y6, y8, j7, W9, rfl, l9, rfl, hm⟩
  ·cases hm
  unfold Vm.impl_PathOk_l1 at hm
  have a12 := a4.n l9
  refine sr (Lw.lt rfl (nl (Cw.seq (cn hm (fun hm => ?_) fun hm => ?_))))
  ·refine sk (Cw.seq (Cw.block (sr ?_)))
   obtain ⟨u15, e16, hm⟩ := ob hm
   refine Lw.r rfl (R.ix (α := Str) (f3_0.up l9).rd e16 rfl rfl rfl) (Lw.r rfl (R.ld rfl rfl ((f3_0.up l9).rd.at_ e16).str) (Ns rfl (sr (ms rfl (ca hm (fun _ => p76) fun z17 W19 hm l19 => ?_)))))
   have a20 := a12.n l19
   refine Lw.r rfl (R.not rfl) (nl (cn hm (fun hm => ?_) fun hm => ?_))
   ·exact sr (Nb rfl (.ret (rt hm a20)))
   ·exact sk (rg (Lw.add rfl (mi rfl (nl ((agm) ⟨y6, w64 (y8 + 1), vS u15, W19, rfl, (l9.j l19).w, rfl, hm⟩)))))
  ·refine Cw.exit ?_
   rw [hK10] at hm
   exact sr (Nb rfl (.ret (rt hm a12)))
theorem p141 {x0 r} (h99 : Gl 0 W K) (hm : Vm.impl_PathOk x0 = some r) : Q1 141 [vS x0] W [] fun W' v => v = vB r :=
 (c141 (h99.view _) hm).ad (fk 0) fun _ _ e => e
theorem c110 {x0 x1 r} (h99 : Gl 0 W0 [0]) (hm : Vm.impl_PathIn x0 x1 = some r) : Q0 110 [vS x0, vS x1] W0 fun Wf v => v = vB r := by
 unfold Vm.impl_PathIn at hm
 refine CallR.of Tryz.func110 rfl rfl rfl rfl (sr (Nb rfl ?_))
 obtain ⟨K3, hK3, hm⟩ := jn_e hm
 refine Cw.join 5 16 [4] (fun l w => ∃ y1 W2, CW.w W2 = w ∧ Le [] W0 W2 ∧ l = [vB y1] ∧ K3 y1 = some r) ?_ ?_
 ·rintro _ _ σ ⟨y1, W2, rfl, l2, rfl, hm⟩
  rw [hK3] at hm
  have a4 := l2.o
  exact .ret (rt hm a4)
 ·refine rg (ms rfl (ca hm (fun _ => p141 h99) fun z5 W7 hm l7 => ?_))
  have a8 := l7.o
  refine mb rfl (bs hm (fun hc9 hm => ?_) fun hc9 hm => ?_)
  ·refine wak 2 hc9 (ms rfl (ca hm (fun _ => p141 (h99.ul a8)) fun z11 W13 hm l13 => Pb hc9 rfl (mb rfl (bs hm (fun hc15 hm => ?_) fun hc15 hm => ?_))))
   ·refine wak 4 hc15 (ms rfl (ms rfl ?_))
    obtain ⟨q16, e17, hm⟩ := ob hm
    exact Lw.r rfl (R.sad e17 rfl rfl) (ca hm (fun _ => p153) fun z18 W20 hm l20 => Pb hc15 rfl (Nb rfl ((ag) ⟨z18, W20, rfl, ((l7.j l13).j l20).w, rfl, hm⟩)))
   ·exact psk 4 hc15 rfl (Pb hc15 rfl (Nb rfl ((ag) ⟨false, W13, rfl, (l7.j l13).w, rfl, hm⟩)))
  ·exact psk 2 hc9 rfl (Pb hc9 rfl (mb rfl (psk 4 rfl rfl (Pb rfl rfl (Nb rfl ((ag) ⟨false, W7, rfl, l7, rfl, hm⟩))))))
theorem p110 {x0 x1 r} (h99 : Gl 0 W K) (hm : Vm.impl_PathIn x0 x1 = some r) : Q1 110 [vS x0, vS x1] W [] fun W' v => v = vB r :=
 (c110 (h99.view _) hm).ad (fk 0) fun _ _ e => e
theorem c77 {x0 v0_ r} (h0 : Rd W0 [0] [v0_] x0) (h99 : Gl 0 W0 [0]) (hm : Vm.impl_TreeOk x0 = some r) : Q0 77 [v0_] W0 fun Wf v => v = vB r := by
 unfold Vm.impl_TreeOk at hm
 refine CallR.of Tryz.func77 rfl rfl rfl rfl (sr (Nb rfl (ssr (mv v0_ rfl (Lw.ln x0 h0 rfl (Lw.gt rfl (nl (cn hm (fun hm => ?_) fun hm => ?_))))))))
 ·exact sr (Nb rfl (.ret (rt hm (Le.refl _ _))))
 ·refine sk (ssr (mv v0_ rfl (Lw.ln x0 h0 rfl (mi rfl (nl (Cw.block ?_))))))
  obtain ⟨K8, hK8, hm⟩ := jn_e hm
  refine Cw.loop 12 56 [2, 3, 4, 6, 12] (fun m l w => ∃ y2 y6 j3 j4 j5 W7, CW.w W7 = w ∧ Le [2, 3] W0 W7 ∧ l = [vB y2, j3, j4, j5, vI y6] ∧ Vm.impl_TreeOk_l1 x0 K8 m y2 y6 = some r) _ ⟨false, 0, undef, undef, undef, W0, rfl, Le.refl _ _, rfl, hm⟩ ?_
  rintro (_ | m9) _ _ σ ⟨y2, y6, j3, j4, j5, W7, rfl, l7, rfl, hm⟩
  ·cases hm
  unfold Vm.impl_TreeOk_l1 at hm
  have a10 := l7.s
  refine sr (Lw.lt rfl (nl (Cw.seq (cn hm (fun hm => ?_) fun hm => ?_))))
  ·refine sk (Cw.seq (Cw.block (sr (mi rfl ?_))))
   obtain ⟨u12, e13, hm⟩ := ob hm
   refine Lw.r rfl (R.ix (α := File) (h0.ul a10) e13 rfl rfl rfl) ?_
   obtain ⟨x15, c16, _, r17⟩ := ((h0.ul a10).at_ e13).cells
   obtain ⟨v18, rfl, r19⟩ := File.split r17
   refine Lw.r rfl (R.lda c16 rfl rfl) (al 2 [vS ([] : Str), .slice none 0 0] fun g20 W20 l20 b20 => ?_)
   have a21 := l20.o
   refine Gi rfl (sta b20 (oc_cons rfl (oc_cons r19.oc oc_nil)) fun W22 l22 b22 => ?_)
   have a23 := l22.s
   refine nl (Cw.seq ?_)
   obtain ⟨K26, hK26, hm⟩ := jn_e hm
   refine Cw.join 17 41 [41] (fun l w => ∃ y24 W25, CW.w W25 = w ∧ Le [] W22 W25 ∧ l = [vB y24] ∧ K26 y24 = some r) ?_ ?_
   ·rintro _ _ σ ⟨y24, W25, rfl, l25, rfl, hm⟩
    rw [hK26] at hm
    have a27 := ((a10.trans a21).trans a23).n l25
    refine cn hm (fun hm => ?_) fun hm => ?_
    ·exact sr (Nb rfl (.ret (rt hm a27)))
    ·refine sk (sr (mv v0_ rfl (mi rfl ?_)))
     obtain ⟨q30, e31, hm⟩ := ob hm
     have r34 := (h0.ul a27).cutV e31
     refine Lw.r rfl (R.sl (h0.ul a27) e31 rfl (.inl ⟨rfl, rfl⟩) (.inr rfl)) (Lw.ln q30 r34 rfl (mi rfl (nl (Cw.block ?_))))
     obtain ⟨K39, hK39, hm⟩ := jn_e hm
     refine Cw.loop 46 55 [2, 6, 46] (fun m l w => ∃ y35 y37 j36 W38, CW.w W38 = w ∧ Le [3] W25 W38 ∧ l = [vB y35, j36, vI y37] ∧ Vm.impl_TreeOk_l2 u12 q30 K39 m y35 y37 = some r) _ ⟨y2, 0, j5, W25, rfl, Le.refl _ _, rfl, hm⟩ ?_
     rintro (_ | m40) _ _ σ ⟨y35, y37, j36, W38, rfl, l38, rfl, hm⟩
     ·cases hm
     unfold Vm.impl_TreeOk_l2 at hm
     have a41 := l38.s
     refine sr (Lw.lt rfl (nl (Cw.seq (cn hm (fun hm => ?_) fun hm => ?_))))
     ·refine sk (Cw.seq (Cw.block (sr ?_)))
      obtain ⟨u44, e45, hm⟩ := ob hm
      refine Lw.r rfl (R.ix (α := File) (r34.ul a41) e45 rfl rfl rfl) ?_
      obtain ⟨x47, c48, _, r49⟩ := ((r34.ul a41).at_ e45).cells
      obtain ⟨v50, rfl, r51⟩ := File.split r49
      refine Lw.r rfl (R.lda c48 rfl rfl) (al 3 [vS ([] : Str), .slice none 0 0] fun g52 W52 l52 b52 => ?_)
      have a53 := (a27.trans a41).n l52
      refine sta b52 (oc_cons rfl (oc_cons r51.oc oc_nil)) fun W55 l55 b55 => ?_
      have a56 := a53.t l55
      refine nl (sr (fl b55 rfl (fl ((((b22.up l25).up l38).up l52).up l55) rfl (ca hm (fun _ => p110 (h99.ul a56)) fun z59 W61 hm l61 => ?_))))
      have a62 := a56.n l61
      refine nl (cn hm (fun hm => ?_) fun hm => ?_)
      ·exact sr (Nb rfl (.ret (rt hm a62)))
      ·exact sk (rg (Lw.add rfl (mi rfl (nl ((agm) ⟨y35, w64 (y37 + 1), ptr (bx g52), W61, rfl, (((l38.j l52).j l55).j l61).w, rfl, hm⟩)))))
     ·refine Cw.exit ?_
      rw [hK39] at hm
      exact rg (Lw.add rfl (mi rfl (nl ((agm) ⟨y35, w64 (y6 + 1), vI y6, ptr (bx g20), j36, W38, rfl, ((((l7.j l20).j l22).j l25).j l38).w, rfl, hm⟩))))
   ·refine Cw.draw [] [(0, 0), (1, 1), (2, 2), (3, 0), (4, 0), (5, 0), (6, 1), (7, 2), (8, 0), (9, 0), (10, 0), (11, 0), (12, 0), (13, 0), (14, 0), (15, 0), (16, 0), (17, 0), (18, 0), (19, 1), (20, 0), (21, 1), (22, 0), (23, 0), (24, 0)] mixed (by kernel_rfl) fun W66 l66 => ?_
    have a67 := l66.o
    have b68 := b22.up l66
    refine Dfl b68 rfl rfl rfl ?_
    obtain ⟨z70, e71, hm⟩ := ob hm
    refine Mw.t rfl rfl (T.call rfl (p92  (r19.ul ((a21.trans a23).trans a67)) e71)) ?_
    rintro _ _ ⟨W72, rfl, l72, rfl⟩
    have a73 := (((a10.trans a21).trans a23).trans a67).n l72
    refine m0 l72 fun d72 => Mw.p rfl rfl (fun _ => R.not rfl) (Db rfl (bs hm (fun hc75 hm => ?_) fun hc75 hm => ?_))
    ·exact dps 4 hc75 rfl (Mw.p rfl rfl (fun _ => R.pk hc75 rfl (v := vB true) rfl) (Db rfl (dps 3 rfl rfl (dpu 9 rfl (dps 1 rfl rfl (Mw.p rfl rfl (fun _ => R.pk rfl rfl (v := vB true) rfl) (Mw.nil ((ag) ⟨true, W72, rfl, (l66.j l72).w, rfl, hm⟩))))))))
    ·refine Wp hc75 rfl (fun _ => R.fa rfl) (Wq hc75 rfl (fun _ c => R.ld (v := vS u12.Path) rfl rfl (b68.clc rfl rfl c)) ?_)
     obtain ⟨z77, e78, hm⟩ := ob hm
     refine Wt hc75 rfl (T.call rfl (p141  (h99.ul a73) e78)) ?_
     rintro _ _ ⟨W79, rfl, l79, rfl⟩
     refine mc d72 l79 fun d79 => Wp hc75 rfl (fun _ => R.not rfl) (Mw.p rfl rfl (fun _ => R.pk hc75 rfl (v := vB (!z77)) rfl) (Db rfl (bs hm (fun hc82 hm => ?_) fun hc82 hm => ?_)))
     ·exact dps 3 hc82 rfl (dpu 9 rfl (dps 1 hc82 rfl (Mw.p rfl rfl (fun _ => R.pk hc82 rfl (v := vB true) rfl) (Mw.nil ((ag) ⟨true, W79, rfl, ((l66.j l72).j l79).w, rfl, hm⟩)))))
     ·refine Wp hc82 rfl (fun _ => R.mv (v := vI y6) rfl) (Wp hc82 rfl (fun _ => R.gt rfl rfl) (Wp hc82 rfl (fun _ => R.mv (v := vB (decide ((0 : Int) < (y6 : Int)))) rfl) (bs hm (fun hc83 hm => ?_) fun hc83 hm => ?_)))
      ·refine Wp hc83 rfl (fun _ => R.mv (v := v0_) rfl) (Wp hc83 rfl (fun _ => R.mv (v := vI y6) rfl) (Wp hc83 rfl (fun _ => R.sub rfl rfl) ?_))
       obtain ⟨u84, e85, hm⟩ := ob hm
       have s86 := h0.ul (((a10.trans a21).trans a23).trans a67)
       exact Wp hc83 rfl (fun _ => R.ix (α := File) s86 e85 rfl rfl rfl) (Wp hc83 rfl (fun _ => R.fa rfl) (Wq hc83 rfl (fun _ c => R.ld rfl rfl (cl_cell (File.at0 (s86.at_ e85)).1 rfl (File.at0 (s86.at_ e85)).str c)) (Wp hc83 rfl (fun _ => R.fa rfl) (Wq hc83 rfl (fun _ c => R.ld (v := vS u12.Path) rfl rfl (b68.clc rfl rfl c)) (Wp hc83 rfl (fun _ => R.sge rfl rfl) (Wp hc82 rfl (fun _ => R.pk hc83 rfl (v := vB (!Op.bytesLess u84.Path u12.Path)) rfl) (Mw.p rfl rfl (fun _ => R.pk hc82 rfl (v := vB (!Op.bytesLess u84.Path u12.Path)) rfl) (Mw.nil ((ag) ⟨(!Op.bytesLess u84.Path u12.Path), W79, rfl, ((l66.j l72).j l79).w, rfl, hm⟩)))))))))
      ·exact dps 9 hc83 rfl (Wp hc82 rfl (fun _ => R.pk hc83 rfl (v := vB false) rfl) (Mw.p rfl rfl (fun _ => R.pk hc82 rfl (v := vB false) rfl) (Mw.nil ((ag) ⟨false, W79, rfl, ((l66.j l72).j l79).w, rfl, hm⟩))))
  ·refine Cw.exit ?_
   rw [hK8] at hm
   exact sr (Nb rfl (.ret (rt hm a10)))
theorem p77 {x0 v0_ r} (h0 : Rd W K [v0_] x0) (h99 : Gl 0 W K) (hm : Vm.impl_TreeOk x0 = some r) : Q1 77 [v0_] W [] fun W' v => v = vB r :=
 (c77 (h0.view _) (h99.view _) hm).ad (fk 0) fun _ _ e => e
theorem c126 {x0 v0_0_ v0_1_ x1 r} (h0 : Rd W0 [0] [v0_0_, v0_1_] x0) (hm : Vm.impl_Repo_exists x0 x1 = some r) : Q0 126 [.agg [v0_0_, v0_1_].toArray, vI x1] W0 fun Wf v => v = vB r := by
 unfold Vm.impl_Repo_exists at hm
 obtain ⟨w0_0, w0_1, he0, h0_0, h0_1⟩ := Repo.split h0
 simp only [List.cons.injEq, and_true, true_and] at he0
 obtain ⟨rfl, rfl⟩ := he0
 refine CallR.of Tryz.func126 rfl rfl rfl rfl (sr (bo 2 rfl fun g1 W1 l1 b1 => ?_))
 have a2 := l1.o
 refine Nb rfl (sr (mi rfl (fl b1 rfl (Lw.ln x0.Commits (h0_0.ul a2) rfl (Lw.sub rfl (ca hm (fun _ => p78) fun z4 W6 hm l6 => ?_))))))
 have a7 := a2.n l6
 exact Nb rfl (.ret (rt hm a7))
theorem p126 {x0 v0_0_ v0_1_ x1 r} (h0 : Rd W K [v0_0_, v0_1_] x0) (hm : Vm.impl_Repo_exists x0 x1 = some r) : Q1 126 [.agg [v0_0_, v0_1_].toArray, vI x1] W [] fun W' v => v = vB r :=
 (c126 (h0.view _) hm).ad (fk 0) fun _ _ e => e
theorem c79 {x0 v0_0_ v0_1_ x1 v1_ r} (h0 : Rd W0 [0] [v0_0_, v0_1_] x0) (h1 : Rd W0 [0] [v1_] x1) (hm : Vm.impl_headsOk x0 x1 = some r) : Q0 79 [.agg [v0_0_, v0_1_].toArray, v1_] W0 fun Wf v => v = vB r := by
 unfold Vm.impl_headsOk at hm
 obtain ⟨w0_0, w0_1, he0, h0_0, h0_1⟩ := Repo.split h0
 simp only [List.cons.injEq, and_true, true_and] at he0
 obtain ⟨rfl, rfl⟩ := he0
 refine CallR.of Tryz.func79 rfl rfl rfl rfl (sr (bo 2 rfl fun g1 W1 l1 b1 => ?_))
 have a2 := l1.o
 refine Nb rfl (ssr (mv v1_ rfl (Lw.ln x1 (h1.ul a2) rfl (Lw.gt rfl (nl (cn hm (fun hm => ?_) fun hm => ?_))))))
 ·exact sr (Nb rfl (.ret (rt hm a2)))
 ·refine sk (ssr (mv v1_ rfl (Lw.ln x1 (h1.ul a2) rfl (mi rfl (nl (Cw.block ?_))))))
  obtain ⟨K10, hK10, hm⟩ := jn_e hm
  refine Cw.loop 12 43 [4, 5, 6, 12] (fun m l w => ∃ y5 y8 j6 j7 W9, CW.w W9 = w ∧ Le [3] W1 W9 ∧ l = [vB y5, j6, j7, vI y8] ∧ Vm.impl_headsOk_l1 x0 x1 K10 m y5 y8 = some r) _ ⟨false, 0, undef, undef, W1, rfl, Le.refl _ _, rfl, hm⟩ ?_
  rintro (_ | m11) _ _ σ ⟨y5, y8, j6, j7, W9, rfl, l9, rfl, hm⟩
  ·cases hm
  unfold Vm.impl_headsOk_l1 at hm
  have a12 := a2.t l9
  refine sr (Lw.lt rfl (nl (Cw.seq (cn hm (fun hm => ?_) fun hm => ?_))))
  ·refine sk (Cw.seq (Cw.block (sr (mi rfl ?_))))
   obtain ⟨u15, e16, hm⟩ := ob hm
   refine Lw.r rfl (R.ix (α := Head) (h1.ul a12) e16 rfl rfl rfl) ?_
   obtain ⟨x18, c19, _, r20⟩ := ((h1.ul a12).at_ e16).cells
   obtain rfl := Head.split r20
   refine Lw.r rfl (R.lda c19 rfl rfl) (al 3 [vS ([] : Str), vI 0] fun g21 W21 l21 b21 => ?_)
   have a22 := a12.n l21
   refine Gi rfl (sta b21 (oc_cons rfl (oc_cons rfl oc_nil)) fun W24 l24 b24 => ?_)
   have a25 := a22.t l24
   refine nl ?_
   obtain ⟨K29, hK29, hm⟩ := jn_e hm
   refine Cw.join 17 42 [42] (fun l w => ∃ y27 W28, CW.w W28 = w ∧ Le [] W24 W28 ∧ l = [vB y27] ∧ K29 y27 = some r) ?_ ?_
   ·rintro _ _ σ ⟨y27, W28, rfl, l28, rfl, hm⟩
    rw [hK29] at hm
    have a30 := a25.n l28
    refine cn hm (fun hm => ?_) fun hm => ?_
    ·exact sr (Nb rfl (.ret (rt hm a30)))
    ·exact sk (rg (Lw.add rfl (mi rfl (nl ((agm) ⟨y5, w64 (y8 + 1), vI y8, ptr (bx g21), W28, rfl, (((l9.j l21).j l24).j l28).w, rfl, hm⟩)))))
   ·refine Cw.draw [] [(0, 0), (1, 1), (2, 2), (3, 0), (4, 0), (5, 1), (6, 0), (7, 1), (8, 2), (9, 0), (10, 0), (11, 0), (12, 0), (13, 0), (14, 0), (15, 0), (16, 0), (17, 0), (18, 0), (19, 0), (20, 1), (21, 0), (22, 1), (23, 0), (24, 0), (25, 0)] mixed (by kernel_rfl) fun W34 l34 => ?_
    have a35 := a25.n l34
    have b37 := b24.up l34
    refine Dfl b37 rfl rfl rfl ?_
    obtain ⟨z38, e39, hm⟩ := ob hm
    refine Mw.t rfl rfl (T.call rfl (p76   e39)) ?_
    rintro _ _ ⟨W40, rfl, l40, rfl⟩
    have a41 := a35.n l40
    refine m0 l40 fun d40 => Mw.p rfl rfl (fun _ => R.not rfl) (Db rfl (bs hm (fun hc44 hm => ?_) fun hc44 hm => ?_))
    ·exact dps 5 hc44 rfl (Mw.p rfl rfl (fun _ => R.pk hc44 rfl (v := vB true) rfl) (Db rfl (dps 3 rfl rfl (dpu 9 rfl (dps 1 rfl rfl (Mw.p rfl rfl (fun _ => R.pk rfl rfl (v := vB true) rfl) (Mw.nil ((ag) ⟨true, W40, rfl, (l34.j l40).w, rfl, hm⟩))))))))
    ·refine Wq hc44 rfl (fun _ c => R.lda (cs := [v0_0_, v0_1_]) (((((b1.up l9).up l21).up l24).up l34).clcs rfl c) rfl rfl) (Wp hc44 rfl (fun _ => R.fa rfl) (Wq hc44 rfl (fun _ c => R.ld (v := vI u15.At) rfl rfl (b37.clc rfl rfl c)) ?_))
     obtain ⟨z47, e48, hm⟩ := ob hm
     refine Wt hc44 rfl (T.call rfl (p126  (Repo.rd (K := [0]) x0.Commits x0.Heads (h0_0.ul a41) (h0_1.ul a41)) e48)) ?_
     rintro _ _ ⟨W49, rfl, l49, rfl⟩
     refine mc d40 l49 fun d49 => Wp hc44 rfl (fun _ => R.not rfl) (Mw.p rfl rfl (fun _ => R.pk hc44 rfl (v := vB (!z47)) rfl) (Db rfl (bs hm (fun hc53 hm => ?_) fun hc53 hm => ?_)))
     ·exact dps 3 hc53 rfl (dpu 9 rfl (dps 1 hc53 rfl (Mw.p rfl rfl (fun _ => R.pk hc53 rfl (v := vB true) rfl) (Mw.nil ((ag) ⟨true, W49, rfl, ((l34.j l40).j l49).w, rfl, hm⟩)))))
     ·refine Wp hc53 rfl (fun _ => R.mv (v := vI y8) rfl) (Wp hc53 rfl (fun _ => R.gt rfl rfl) (Wp hc53 rfl (fun _ => R.mv (v := vB (decide ((0 : Int) < (y8 : Int)))) rfl) (bs hm (fun hc54 hm => ?_) fun hc54 hm => ?_)))
      ·refine Wp hc54 rfl (fun _ => R.mv (v := v1_) rfl) (Wp hc54 rfl (fun _ => R.mv (v := vI y8) rfl) (Wp hc54 rfl (fun _ => R.sub rfl rfl) ?_))
       obtain ⟨u55, e56, hm⟩ := ob hm
       exact Wp hc54 rfl (fun _ => R.ix (α := Head) (h1.ul a35) e56 rfl rfl rfl) (Wp hc54 rfl (fun _ => R.fa rfl) (Wq hc54 rfl (fun _ c => R.ld rfl rfl (cl_cell (Head.at0 ((h1.ul a35).at_ e56)).1 rfl (Head.at0 ((h1.ul a35).at_ e56)).str c)) (Wp hc54 rfl (fun _ => R.fa rfl) (Wq hc54 rfl (fun _ c => R.ld (v := vS u15.Name) rfl rfl (b37.clc rfl rfl c)) (Wp hc54 rfl (fun _ => R.sge rfl rfl) (Wp hc53 rfl (fun _ => R.pk hc54 rfl (v := vB (!Op.bytesLess u55.Name u15.Name)) rfl) (Mw.p rfl rfl (fun _ => R.pk hc53 rfl (v := vB (!Op.bytesLess u55.Name u15.Name)) rfl) (Mw.nil ((ag) ⟨(!Op.bytesLess u55.Name u15.Name), W49, rfl, ((l34.j l40).j l49).w, rfl, hm⟩)))))))))
      ·exact dps 9 hc54 rfl (Wp hc53 rfl (fun _ => R.pk hc54 rfl (v := vB false) rfl) (Mw.p rfl rfl (fun _ => R.pk hc53 rfl (v := vB false) rfl) (Mw.nil ((ag) ⟨false, W49, rfl, ((l34.j l40).j l49).w, rfl, hm⟩))))
  ·refine Cw.exit ?_
   rw [hK10] at hm
   exact sr (Nb rfl (.ret (rt hm a12)))
theorem p79 {x0 v0_0_ v0_1_ x1 v1_ r} (h0 : Rd W K [v0_0_, v0_1_] x0) (h1 : Rd W K [v1_] x1) (hm : Vm.impl_headsOk x0 x1 = some r) : Q1 79 [.agg [v0_0_, v0_1_].toArray, v1_] W [] fun W' v => v = vB r :=
 (c79 (h0.view _) (h1.view _) hm).ad (fk 0) fun _ _ e => e
theorem c19 {x0 v0_0_ v0_1_ r} (h0 : Rd W0 [0] [v0_0_, v0_1_] x0) (h99 : Gl 0 W0 [0]) (hm : Vm.impl_RepoOk x0 = some r) : Q0 19 [.agg [v0_0_, v0_1_].toArray] W0 fun Wf v => v = vB r := by
 unfold Vm.impl_RepoOk at hm
 obtain ⟨w0_0, w0_1, he0, h0_0, h0_1⟩ := Repo.split h0
 simp only [List.cons.injEq, and_true, true_and] at he0
 obtain ⟨rfl, rfl⟩ := he0
 refine CallR.of Tryz.func19 rfl rfl rfl rfl (sr (bo 2 rfl fun g1 W1 l1 b1 => ?_))
 have a2 := l1.o
 refine Nb rfl (ssr (fl b1 rfl (Lw.ln x0.Commits (h0_0.ul a2) rfl (Lw.gt rfl (nl (cn hm (fun hm => ?_) fun hm => ?_))))))
 ·exact sr (Nb rfl (.ret (rt hm a2)))
 ·refine sk (ssr (fl b1 rfl (Lw.ln x0.Commits (h0_0.ul a2) rfl (mi rfl (nl (Cw.block ?_))))))
  obtain ⟨K11, hK11, hm⟩ := jn_e hm
  refine Cw.loop 14 65 [2, 3, 4, 6, 14] (fun m l w => ∃ y5 y9 j6 j7 j8 W10, CW.w W10 = w ∧ Le [3] W1 W10 ∧ l = [vB y5, j6, j7, j8, vI y9] ∧ Vm.impl_RepoOk_l1 x0 K11 m y5 y9 = some r) _ ⟨false, 0, undef, undef, undef, W1, rfl, Le.refl _ _, rfl, hm⟩ ?_
  rintro (_ | m12) _ _ σ ⟨y5, y9, j6, j7, j8, W10, rfl, l10, rfl, hm⟩
  ·cases hm
  unfold Vm.impl_RepoOk_l1 at hm
  have a13 := a2.t l10
  refine sr (Lw.lt rfl (nl (Cw.seq (cn hm (fun hm => ?_) fun hm => ?_))))
  ·refine sk (Cw.seq (Cw.block (sr (mi rfl ?_))))
   obtain ⟨u16, e17, hm⟩ := ob hm
   refine Lw.r rfl (R.ix (α := Commit) (h0_0.ul a13) e17 rfl rfl rfl) ?_
   obtain ⟨x19, c20, _, r21⟩ := ((h0_0.ul a13).at_ e17).cells
   obtain ⟨v22, v24, rfl, r23, r25⟩ := Commit.split r21
   refine Lw.r rfl (R.lda c20 rfl rfl) (al 3 [.slice none 0 0, vS ([] : Str), .slice none 0 0] fun g26 W26 l26 b26 => ?_)
   have a27 := l26.o
   refine Gi rfl (sta b26 (oc_cons r23.oc (oc_cons rfl (oc_cons r25.oc oc_nil))) fun W29 l29 b29 => ?_)
   have a30 := l29.s
   refine nl (Cw.seq ?_)
   obtain ⟨K34, hK34, hm⟩ := jn_e hm
   refine Cw.join 19 51 [51] (fun l w => ∃ y32 W33, CW.w W33 = w ∧ Le [] W29 W33 ∧ l = [vB y32] ∧ K34 y32 = some r) ?_ ?_
   ·rintro _ _ σ ⟨y32, W33, rfl, l33, rfl, hm⟩
    rw [hK34] at hm
    have a35 := l33.o
    refine cn hm (fun hm => ?_) fun hm => ?_
    ·exact sr (Nb rfl (.ret (rt hm (((a13.trans a27).trans a30).trans a35))))
    ·refine sk (sr (fl (b29.up l33) rfl (Lw.ln u16.Parents (r23.ul ((a27.trans a30).trans a35)) rfl (mi rfl (nl (Cw.block ?_))))))
     obtain ⟨K44, hK44, hm⟩ := jn_e hm
     refine Cw.loop 55 64 [2, 6, 55] (fun m l w => ∃ y40 y42 j41 W43, CW.w W43 = w ∧ Le [] W33 W43 ∧ l = [vB y40, j41, vI y42] ∧ Vm.impl_RepoOk_l2 y9 u16 K44 m y40 y42 = some r) _ ⟨y5, 0, j8, W33, rfl, Le.refl _ _, rfl, hm⟩ ?_
     rintro (_ | m45) _ _ σ ⟨y40, y42, j41, W43, rfl, l43, rfl, hm⟩
     ·cases hm
     unfold Vm.impl_RepoOk_l2 at hm
     have a46 := l43.o
     refine sr (Lw.lt rfl (nl (Cw.seq (cn hm (fun hm => ?_) fun hm => ?_))))
     ·refine sk (Cw.seq (Cw.block (sr ?_)))
      obtain ⟨u50, e51, hm⟩ := ob hm
      have s52 := r23.ul (((a27.trans a30).trans a35).trans a46)
      refine Lw.r rfl (R.ix (α := Int) s52 e51 rfl rfl rfl) (Lw.r rfl (R.ld rfl rfl (s52.at_ e51).int) (Ni rfl (sr (mi rfl (mi rfl (Lw.sub rfl (ca hm (fun _ => p78) fun z53 W55 hm l55 => ?_)))))))
      have a56 := ((((a13.trans a27).trans a30).trans a35).trans a46).n l55
      refine Lw.r rfl (R.not rfl) (nl (cn hm (fun hm => ?_) fun hm => ?_))
      ·exact sr (Nb rfl (.ret (rt hm a56)))
      ·exact sk (rg (Lw.add rfl (mi rfl (nl ((agm) ⟨y40, w64 (y42 + 1), vI u50, W55, rfl, (l43.j l55).w, rfl, hm⟩)))))
     ·refine Cw.exit ?_
      rw [hK44] at hm
      exact rg (Lw.add rfl (mi rfl (nl ((agm) ⟨y40, w64 (y9 + 1), vI y9, ptr (bx g26), j41, W43, rfl, ((((l10.j l26).j l29).j l33).j l43).w, rfl, hm⟩))))
   ·refine Cw.draw [] [(0, 0), (1, 1), (2, 0), (3, 0), (4, 0), (5, 0), (6, 1), (7, 0), (8, 0), (9, 0), (10, 0), (11, 1), (12, 0), (13, 1), (14, 0), (15, 1), (16, 0), (17, 1), (18, 0), (19, 0), (20, 0), (21, 0), (22, 0), (23, 1), (24, 2), (25, 0), (26, 0), (27, 0), (28, 0), (29, 1), (30, 2), (31, 0), (32, 0)] mixed (by kernel_rfl) fun W60 l60 => ?_
    have a61 := l60.o
    have b63 := b29.up l60
    have s64 := r23.ul ((a27.trans a30).trans a61)
    refine Dfl b63 rfl rfl rfl (Mw.p rfl rfl (fun _ => lenR (xs := u16.Parents) s64 rfl) (Mw.p rfl rfl (fun _ => R.gt rfl rfl) (Db rfl (bs hm (fun hc65 hm => ?_) fun hc65 hm => ?_))))
    ·exact dps 5 hc65 rfl (dpu 9 rfl (dps 1 hc65 rfl (Mw.p rfl rfl (fun _ => R.pk hc65 rfl (v := vB true) rfl) (Db rfl (dps 4 rfl rfl (Mw.p rfl rfl (fun _ => R.pk rfl rfl (v := vB true) rfl) (Db rfl (dps 4 rfl rfl (Mw.p rfl rfl (fun _ => R.pk rfl rfl (v := vB true) rfl) (Mw.nil ((ag) ⟨true, W60, rfl, l60, rfl, hm⟩)))))))))))
    ·refine Wp hc65 rfl (fun _ => R.fa rfl) (Wq hc65 rfl (fun _ c => R.ld (v := v22) rfl rfl (b63.clc rfl rfl c)) (Wp hc65 rfl (fun _ => lenR (xs := u16.Parents) s64 rfl) (Wp hc65 rfl (fun _ => R.eq rfl rfl) (Wp hc65 rfl (fun _ => R.mv (v := vB (((u16.Parents.length : Int) : Int) == (2 : Int))) rfl) (bs hm (fun hc66 hm => ?_) fun hc66 hm => ?_)))))
     ·refine Wp hc66 rfl (fun _ => R.fa rfl) (Wq hc66 rfl (fun _ c => R.ld (v := v22) rfl rfl (b63.clc rfl rfl c)) ?_)
      obtain ⟨u67, e68, hm⟩ := ob hm
      refine Wp hc66 rfl (fun _ => R.ix (α := Int) s64 e68 rfl rfl rfl) (Wq hc66 rfl (fun _ c => R.ld rfl rfl (cl_cell (s64.at_ e68).1 rfl (s64.at_ e68).int c)) (Wp hc66 rfl (fun _ => R.fa rfl) (Wq hc66 rfl (fun _ c => R.ld (v := v22) rfl rfl (b63.clc rfl rfl c)) ?_)))
      obtain ⟨u69, e70, hm⟩ := ob hm
      refine Wp hc66 rfl (fun _ => R.ix (α := Int) s64 e70 rfl rfl rfl) (Wq hc66 rfl (fun _ c => R.ld rfl rfl (cl_cell (s64.at_ e70).1 rfl (s64.at_ e70).int c)) (Wp hc66 rfl (fun _ => R.eq rfl rfl) (Wp hc65 rfl (fun _ => R.pk hc66 rfl (v := vB ((u67 : Int) == (u69 : Int))) rfl) (Mw.p rfl rfl (fun _ => R.pk hc65 rfl (v := vB ((u67 : Int) == (u69 : Int))) rfl) (Db rfl (bs hm (fun hc71 hm => ?_) fun hc71 hm => ?_))))))
      ·exact dps 4 hc71 rfl (Mw.p rfl rfl (fun _ => R.pk hc71 rfl (v := vB true) rfl) (Db rfl (dps 4 rfl rfl (Mw.p rfl rfl (fun _ => R.pk rfl rfl (v := vB true) rfl) (Mw.nil ((ag) ⟨true, W60, rfl, l60, rfl, hm⟩))))))
      ·refine Wp hc71 rfl (fun _ => R.fa rfl) (Wq hc71 rfl (fun _ c => R.ld (v := vS u16.Who) rfl rfl (b63.clc rfl rfl c)) ?_)
       obtain ⟨z72, e73, hm⟩ := ob hm
       refine Wt hc71 rfl (T.call rfl (p76   e73)) ?_
       rintro _ _ ⟨W74, rfl, l74, rfl⟩
       have a75 := l74.o
       refine m0 l74 fun d74 => Wp hc71 rfl (fun _ => R.not rfl) (Mw.p rfl rfl (fun _ => R.pk hc71 rfl (v := vB (!z72)) rfl) (Db rfl (bs hm (fun hc78 hm => ?_) fun hc78 hm => ?_)))
       ·exact dps 4 hc78 rfl (Mw.p rfl rfl (fun _ => R.pk hc78 rfl (v := vB true) rfl) (Mw.nil ((ag) ⟨true, W74, rfl, (l60.j l74).w, rfl, hm⟩)))
       ·refine Wp hc78 rfl (fun _ => R.fa rfl) (Wq hc78 rfl (fun _ c => R.ld (v := v24) rfl rfl (b63.clc rfl rfl c)) ?_)
        obtain ⟨z81, e82, hm⟩ := ob hm
        refine Wt hc78 rfl (T.call rfl (p77  (r25.ul (((a27.trans a30).trans a61).trans a75)) (h99.ul ((((a13.trans a27).trans a30).trans a61).trans a75)) e82)) ?_
        rintro _ _ ⟨W83, rfl, l83, rfl⟩
        exact mc d74 l83 fun d83 => Wp hc78 rfl (fun _ => R.not rfl) (Mw.p rfl rfl (fun _ => R.pk hc78 rfl (v := vB (!z81)) rfl) (Mw.nil ((ag) ⟨(!z81), W83, rfl, ((l60.j l74).j l83).w, rfl, hm⟩)))
     ·refine dps 9 hc66 rfl (Wp hc65 rfl (fun _ => R.pk hc66 rfl (v := vB false) rfl) (Mw.p rfl rfl (fun _ => R.pk hc65 rfl (v := vB false) rfl) (Db rfl (Wp rfl rfl (fun _ => R.fa rfl) (Wq rfl rfl (fun _ c => R.ld (v := vS u16.Who) rfl rfl (b63.clc rfl rfl c)) ?_)))))
      obtain ⟨z87, e88, hm⟩ := ob hm
      refine Wt rfl rfl (T.call rfl (p76   e88)) ?_
      rintro _ _ ⟨W89, rfl, l89, rfl⟩
      have a90 := l89.o
      refine m0 l89 fun d89 => Wp rfl rfl (fun _ => R.not rfl) (Mw.p rfl rfl (fun _ => R.pk rfl rfl (v := vB (!z87)) rfl) (Db rfl (bs hm (fun hc93 hm => ?_) fun hc93 hm => ?_)))
      ·exact dps 4 hc93 rfl (Mw.p rfl rfl (fun _ => R.pk hc93 rfl (v := vB true) rfl) (Mw.nil ((ag) ⟨true, W89, rfl, (l60.j l89).w, rfl, hm⟩)))
      ·refine Wp hc93 rfl (fun _ => R.fa rfl) (Wq hc93 rfl (fun _ c => R.ld (v := v24) rfl rfl (b63.clc rfl rfl c)) ?_)
       obtain ⟨z96, e97, hm⟩ := ob hm
       refine Wt hc93 rfl (T.call rfl (p77  (r25.ul (((a27.trans a30).trans a61).trans a90)) (h99.ul ((((a13.trans a27).trans a30).trans a61).trans a90)) e97)) ?_
       rintro _ _ ⟨W98, rfl, l98, rfl⟩
       exact mc d89 l98 fun d98 => Wp hc93 rfl (fun _ => R.not rfl) (Mw.p rfl rfl (fun _ => R.pk hc93 rfl (v := vB (!z96)) rfl) (Mw.nil ((ag) ⟨(!z96), W98, rfl, ((l60.j l89).j l98).w, rfl, hm⟩)))
  ·refine Cw.exit ?_
   rw [hK11] at hm
   refine sr (la (b1.up l10) (fl (b1.up l10) rfl (ca hm (fun _ => p79 (Repo.rd (K := [0]) x0.Commits x0.Heads (h0_0.ul a13) (h0_1.ul a13)) (h0_1.ul a13)) fun z104 W106 hm l106 => ?_)))
   have a107 := a13.n l106
   exact Nb rfl (.ret (rt hm a107))
theorem p19 {x0 v0_0_ v0_1_ r} (h0 : Rd W K [v0_0_, v0_1_] x0) (h99 : Gl 0 W K) (hm : Vm.impl_RepoOk x0 = some r) : Q1 19 [.agg [v0_0_, v0_1_].toArray] W [] fun W' v => v = vB r :=
 (c19 (h0.view _) (h99.view _) hm).ad (fk 0) fun _ _ e => e
theorem c87 {x0 v0_0_ v0_1_ x1 v1_ r} (h0 : Rd W0 [0] [v0_0_, v0_1_] x0) (h1 : Rd W0 [0] [v1_] x1) (h99 : Gl 0 W0 [0]) (hm : Vm.impl_Repo_are x0 x1 = some r) : Q0 87 [.agg [v0_0_, v0_1_].toArray, v1_] W0 fun Wf v => v = vB r := by
 unfold Vm.impl_Repo_are at hm
 obtain ⟨w0_0, w0_1, he0, h0_0, h0_1⟩ := Repo.split h0
 simp only [List.cons.injEq, and_true, true_and] at he0
 obtain ⟨rfl, rfl⟩ := he0
 refine CallR.of Tryz.func87 rfl rfl rfl rfl (sr (bo 2 rfl fun g1 W1 l1 b1 => ?_))
 have a2 := l1.o
 refine Nb rfl (ssr (la b1 (ca hm (fun _ => p19 (Repo.rd (K := [0]) x0.Commits x0.Heads (h0_0.ul a2) (h0_1.ul a2)) (h99.ul a2)) fun z6 W8 hm l8 => ?_)))
 have a9 := a2.n l8
 refine Lw.r rfl (R.not rfl) (nl (cn hm (fun hm => ?_) fun hm => ?_))
 ·exact sr (Nb rfl (.ret (rt hm a9)))
 ·refine sk (ssr (mv v1_ rfl (Lw.ln x1 (h1.ul a9) rfl (mi rfl (nl (Cw.block ?_))))))
  obtain ⟨K17, hK17, hm⟩ := jn_e hm
  refine Cw.loop 12 20 [4, 6, 12] (fun m l w => ∃ y13 y15 j14 W16, CW.w W16 = w ∧ Le [] W8 W16 ∧ l = [vB y13, j14, vI y15] ∧ Vm.impl_Repo_are_l1 x0 x1 K17 m y13 y15 = some r) _ ⟨false, 0, undef, W8, rfl, Le.refl _ _, rfl, hm⟩ ?_
  rintro (_ | m18) _ _ σ ⟨y13, y15, j14, W16, rfl, l16, rfl, hm⟩
  ·cases hm
  unfold Vm.impl_Repo_are_l1 at hm
  have a19 := a9.n l16
  refine sr (Lw.lt rfl (nl (Cw.seq (cn hm (fun hm => ?_) fun hm => ?_))))
  ·refine sk (Cw.seq (Cw.block (sr ?_)))
   obtain ⟨u22, e23, hm⟩ := ob hm
   refine Lw.r rfl (R.ix (α := Int) (h1.ul a19) e23 rfl rfl rfl) (Lw.r rfl (R.ld rfl rfl ((h1.ul a19).at_ e23).int) (Ni rfl (sr (la ((b1.up l8).up l16) (mi rfl (ca hm (fun _ => p126 (Repo.rd (K := [0]) x0.Commits x0.Heads (h0_0.ul a19) (h0_1.ul a19))) fun z27 W29 hm l29 => ?_))))))
   have a30 := a19.n l29
   refine Lw.r rfl (R.not rfl) (nl (cn hm (fun hm => ?_) fun hm => ?_))
   ·exact sr (Nb rfl (.ret (rt hm a30)))
   ·exact sk (rg (Lw.add rfl (mi rfl (nl ((agm) ⟨y13, w64 (y15 + 1), vI u22, W29, rfl, (l16.j l29).w, rfl, hm⟩)))))
  ·refine Cw.exit ?_
   rw [hK17] at hm
   exact sr (Nb rfl (.ret (rt hm a19)))
theorem p87 {x0 v0_0_ v0_1_ x1 v1_ r} (h0 : Rd W K [v0_0_, v0_1_] x0) (h1 : Rd W K [v1_] x1) (h99 : Gl 0 W K) (hm : Vm.impl_Repo_are x0 x1 = some r) : Q1 87 [.agg [v0_0_, v0_1_].toArray, v1_] W [] fun W' v => v = vB r :=
 (c87 (h0.view _) (h1.view _) (h99.view _) hm).ad (fk 0) fun _ _ e => e
theorem c109 {x0 v0_0_ v0_1_ x1 r} (h0 : Rd W0 [0] [v0_0_, v0_1_] x0) (hm : Vm.impl_Repo_ancestors x0 x1 = some r) : Q0 109 [.agg [v0_0_, v0_1_].toArray, vI x1] W0 fun Wf v => ∃ u0, v = u0 ∧ OwS Wf LL [] [u0] r := by
 unfold Vm.impl_Repo_ancestors at hm
 obtain ⟨w0_0, w0_1, he0, h0_0, h0_1⟩ := Repo.split h0
 simp only [List.cons.injEq, and_true, true_and] at he0
 obtain ⟨rfl, rfl⟩ := he0
 refine CallR.of Tryz.func109 rfl rfl rfl rfl (sr (bo 2 rfl fun g1 W1 l1 b1 => ?_))
 have a2 := l1.o
 refine Nv (.slice none 0 0) rfl (sr (fl b1 rfl (Lw.ln x0.Commits (h0_0.ul a2) rfl ?_)))
 obtain ⟨q4, e5, hm⟩ := ob hm
 refine Lw.t rfl (T.mk (α := Bool) 3 [] (n := (x0.Commits.length : Int)) rfl rfl e5) ?_
 rintro v6 _ ⟨W6, rfl, l6, o6⟩
 have a7 := a2.n l6
 refine Nv v6 rfl (sr (mv v6 rfl (mi rfl ?_)))
 obtain ⟨u9, e10, hm⟩ := ob hm
 refine Lw.r rfl (R.ix (α := Bool) o6.rd e10 rfl rfl rfl) ?_
 obtain ⟨q12, e13, hm⟩ := ob hm
 refine Lw.u (T.stS (K' := []) o6 (rdB _) e13 rfl rfl rfl) ?_
 rintro _ _ ⟨W11, rfl, l11, o11⟩
 have a14 := a7.t l11
 refine nl (ssr (mi rfl (Ni rfl (Cw.block ?_))))
 obtain ⟨K21, hK21, hm⟩ := jn_e hm
 refine Cw.loop 17 39 [6, 8] (fun m l w => ∃ y16 y18 j17 W20, CW.w W20 = w ∧ Le [3] W11 W20 ∧ l = [vI y16, j17] ∧ Ow W20 3 [] [v6] y18 ∧ Vm.impl_Repo_ancestors_l1 x0 K21 m y16 y18 = some r) _ ⟨x1, q12, undef, W11, rfl, Le.refl _ _, rfl, o11, hm⟩ ?_
 rintro (_ | m22) _ _ σ ⟨y16, y18, j17, W20, rfl, l20, rfl, o19, hm⟩
 ·cases hm
 unfold Vm.impl_Repo_ancestors_l1 at hm
 have a23 := a14.t l20
 refine ssr (mi rfl (Lw.ge rfl (nl (cn hm (fun hm => ?_) fun hm => ?_))))
 ·refine sk ?_
  obtain ⟨K30, hK30, hm⟩ := jn_e hm
  refine Cw.join 21 39 [8] (fun l w => ∃ y27 j26 W29, CW.w W29 = w ∧ Le [3] W20 W29 ∧ l = [j26] ∧ Ow W29 3 [] [v6] y27 ∧ K30 y27 = some r) ?_ ?_
  ·rintro _ _ σ ⟨y27, j26, W29, rfl, l29, rfl, o28, hm⟩
   rw [hK30] at hm
   exact rg (mi rfl (Lw.sub rfl (Ni rfl ((agm) ⟨w64 (y16 - 1), y27, j26, W29, rfl, (l20.j l29).w, rfl, o28, hm⟩))))
  ·refine Cw.block (sr (mv v6 rfl (mi rfl ?_)))
   obtain ⟨u33, e34, hm⟩ := ob hm
   refine Lw.r rfl (R.ix (α := Bool) o19.rd e34 rfl rfl rfl) (Lw.r rfl (R.ld rfl rfl (o19.rd.at_ e34).bool) (nl (cn hm (fun hm => ?_) fun hm => ?_)))
   ·refine sr (fl (((b1.up l6).up l11).up l20) rfl (mi rfl ?_))
    obtain ⟨u36, e37, hm⟩ := ob hm
    refine Lw.r rfl (R.ix (α := Commit) (h0_0.ul a23) e37 rfl rfl rfl) (Lw.fa rfl ?_)
    obtain ⟨v39, c40, r41⟩ := (Commit.at0 ((h0_0.ul a23).at_ e37)).cell rfl
    refine Lw.r rfl (R.ld rfl rfl c40) (Lw.ln u36.Parents r41 rfl (mi rfl (nl (Cw.block (Cw.loop 32 39 [8, 32] (fun m l w => ∃ y43 y44 j42 W46, CW.w W46 = w ∧ Le [3] W20 W46 ∧ l = [j42, vI y43] ∧ Ow W46 3 [] [v6] y44 ∧ Vm.impl_Repo_ancestors_l2 K30 u36 m y43 y44 = some r) _ ⟨0, y18, j17, W20, rfl, Le.refl _ _, rfl, o19, hm⟩ ?_)))))
    rintro (_ | m48) _ _ σ ⟨y43, y44, j42, W46, rfl, l46, rfl, o45, hm⟩
    ·cases hm
    unfold Vm.impl_Repo_ancestors_l2 at hm
    have a49 := l46.s
    refine sr (Lw.lt rfl (nl (Cw.seq (cn hm (fun hm => ?_) fun hm => ?_))))
    ·refine sk (Cw.seq (Cw.block (sr ?_)))
     obtain ⟨u52, e53, hm⟩ := ob hm
     refine Lw.r rfl (R.ix (α := Int) (r41.ul a49) e53 rfl rfl rfl) (Lw.r rfl (R.ld rfl rfl ((r41.ul a49).at_ e53).int) (Ni rfl (rg (mv v6 rfl (mi rfl ?_)))))
     obtain ⟨u55, e56, hm⟩ := ob hm
     refine Lw.r rfl (R.ix (α := Bool) o45.rd e56 rfl rfl rfl) ?_
     obtain ⟨q58, e59, hm⟩ := ob hm
     refine Lw.u (T.stS (K' := []) o45 (rdB _) e59 rfl rfl rfl) ?_
     rintro _ _ ⟨W57, rfl, l57, o57⟩
     exact nl (rg (Lw.add rfl (mi rfl (nl ((agm) ⟨w64 (y43 + 1), q58, vI u52, W57, rfl, (l46.j l57).w, rfl, o57, hm⟩)))))
    ·exact Cw.exit ((ag) ⟨y44, j42, W46, rfl, l46, rfl, o45, hm⟩)
   ·exact sk ((ag) ⟨y18, j17, W20, rfl, Le.refl _ _, rfl, o19, hm⟩)
 ·refine Cw.exit ?_
  rw [hK21] at hm
  refine sr (mv v6 rfl (Nv v6 rfl ?_))
  cases hm
  exact Cw.ret (ret1 rfl (Res.mk a23 ⟨v6, rfl, o19.s.sub rfl rfl⟩))
theorem p109 {x0 v0_0_ v0_1_ x1 k0 r} (h0 : Rd W K [v0_0_, v0_1_] x0) (hm : Vm.impl_Repo_ancestors x0 x1 = some r) : Q1 109 [.agg [v0_0_, v0_1_].toArray, vI x1] W [] fun W' v => ∃ u0, v = u0 ∧ Ow W' k0 [] [u0] r :=
 (c109 (h0.view _) hm).ad (fk k0) fun _ _ ⟨u0, e, f0⟩ => ⟨u0, e, f0.back (fk_LL _)⟩
theorem c108 {x0 v0_ r} (h0 : Rd W0 [0] [v0_] x0) (hm : Vm.impl_listOf x0 = some r) : Q0 108 [v0_] W0 fun Wf v => ∃ u0, v = u0 ∧ OwS Wf LL [] [u0] r := by
 unfold Vm.impl_listOf at hm
 refine CallR.of Tryz.func108 rfl rfl rfl rfl (sr (Nv (.slice none 0 0) rfl (sr (Nv (.slice none 0 0) rfl (ssr (mv v0_ rfl (Lw.ln x0 h0 rfl (mi rfl (nl (Cw.block ?_))))))))))
 obtain ⟨K8, hK8, hm⟩ := jn_e hm
 refine Cw.loop 8 18 [3, 4, 5, 8] (fun m l w => ∃ y1 y6 v2 j4 j5 W7, CW.w W7 = w ∧ Le [2] W0 W7 ∧ l = [v2, j4, j5, vI y6] ∧ Ow W7 2 [] [v2] y1 ∧ Vm.impl_listOf_l1 x0 K8 m y1 y6 = some r) _ ⟨([] : List Int), 0, .slice none 0 0, undef, undef, W0, rfl, Le.refl _ _, rfl, owN 2 [], hm⟩ ?_
 rintro (_ | m9) _ _ σ ⟨y1, y6, v2, j4, j5, W7, rfl, l7, rfl, o3, hm⟩
 ·cases hm
 unfold Vm.impl_listOf_l1 at hm
 have a10 := l7.s
 refine sr (Lw.lt rfl (nl (Cw.seq (cn hm (fun hm => ?_) fun hm => ?_))))
 ·refine sk ?_
  obtain ⟨K18, hK18, hm⟩ := jn_e hm
  refine Cw.join 10 17 [3, 4, 5] (fun l w => ∃ y12 v13 j15 j16 W17, CW.w W17 = w ∧ Le [2] W7 W17 ∧ l = [v13, j15, j16] ∧ Ow W17 2 [] [v13] y12 ∧ K18 y12 = some r) ?_ ?_
  ·rintro _ _ σ ⟨y12, v13, j15, j16, W17, rfl, l17, rfl, o14, hm⟩
   rw [hK18] at hm
   exact rg (Lw.add rfl (mi rfl (nl ((agm) ⟨y12, w64 (y6 + 1), v13, j15, j16, W17, rfl, (l7.j l17).w, rfl, o14, hm⟩))))
  ·refine Cw.block (sr (mi rfl ?_))
   obtain ⟨u20, e21, hm⟩ := ob hm
   refine Lw.r rfl (R.ix (α := Bool) (h0.ul a10) e21 rfl rfl rfl) (Lw.r rfl (R.ld rfl rfl ((h0.ul a10).at_ e21).bool) (Gi rfl (Nb rfl (sr (mb rfl (nl (cn hm (fun hm => ?_) fun hm => ?_)))))))
   ·refine rg (mv v2 rfl (mi rfl (Lw.t rfl (T.bs 3 [vI y6] (cs := [vI y6]) rfl rfl (bsv rfl)) ?_)))
    rintro _ _ ⟨g24, W24, rfl, rfl, l24, b24⟩
    obtain ⟨q27, e28, hm⟩ := ob hm
    refine Lw.t rfl (T.app1S (α := Int) (K' := []) (o3.up l24) b24 (rdI _) rfl rfl e28) ?_
    rintro v29 _ ⟨W29, rfl, l29, o29⟩
    exact Nv v29 rfl ((ag) ⟨q27, v29, vI y6, vB u20, W29, rfl, (l24.j l29).w, rfl, o29, hm⟩)
   ·exact sk ((ag) ⟨y1, v2, vI y6, vB u20, W7, rfl, Le.refl _ _, rfl, o3, hm⟩)
 ·refine Cw.exit ?_
  rw [hK8] at hm
  refine sr (mv v2 rfl (Nv v2 rfl ?_))
  cases hm
  exact Cw.ret (ret1 rfl (Res.mk a10 ⟨v2, rfl, o3.s.sub rfl rfl⟩))
theorem p108 {x0 v0_ k0 r} (h0 : Rd W K [v0_] x0) (hm : Vm.impl_listOf x0 = some r) : Q1 108 [v0_] W [] fun W' v => ∃ u0, v = u0 ∧ Ow W' k0 [] [u0] r :=
 (c108 (h0.view _) hm).ad (fk k0) fun _ _ ⟨u0, e, f0⟩ => ⟨u0, e, f0.back (fk_LL _)⟩
theorem c40 {x0 v0_0_ v0_1_ x1 r} (h0 : Rd W0 [0] [v0_0_, v0_1_] x0) (h99 : Gl 0 W0 [0]) (hm : Vm.impl_AncAll x0 x1 = some r) : Q0 40 [.agg [v0_0_, v0_1_].toArray, vI x1] W0 fun Wf v => ∃ u0, v = u0 ∧ OwS Wf LL [] [u0] r := by
 unfold Vm.impl_AncAll at hm
 obtain ⟨w0_0, w0_1, he0, h0_0, h0_1⟩ := Repo.split h0
 simp only [List.cons.injEq, and_true, true_and] at he0
 obtain ⟨rfl, rfl⟩ := he0
 refine CallR.of Tryz.func40 rfl rfl rfl rfl (sr (bo 2 rfl fun g1 W1 l1 b1 => ?_))
 have a2 := l1.o
 refine Nv (.slice none 0 0) rfl (ssr (la b1 (mi rfl (Lw.t rfl (T.bsS (α := Int) (xs := [x1]) 3 [] (W := W1) [vI x1] (Each.cons ((rdI _)) Each.nil) rfl) ?_))))
 rintro v3 _ ⟨W3, rfl, l3, o3⟩
 have a4 := a2.n l3
 refine ca hm (fun _ => p87 (K := [0, 3]) ((Repo.rd (K := [0]) x0.Commits x0.Heads (h0_0.ul a4) (h0_1.ul a4)).sub (M := [0, 3]) rfl) (o3.rd.sub (M := [0, 3]) rfl) ((h99.ul a4).sub (M := [0, 3]) rfl)) fun z9 W11 hm l11 => ?_
 have a12 := a4.n l11
 refine Lw.r rfl (R.not rfl) (nl (cn hm (fun hm => ?_) fun hm => ?_))
 ·refine sr (Nv (.slice none 0 0) rfl ?_)
  cases hm
  exact Cw.ret (ret1 rfl (Res.mk a12 ⟨.slice none 0 0, rfl, (owsN []).sub rfl rfl⟩))
 ·refine sk (sr (la ((b1.up l3).up l11) (mi rfl (cr hm (fun _ => p109 (k0 := 4) (Repo.rd (K := [0]) x0.Commits x0.Heads (h0_0.ul a12) (h0_1.ul a12))) ?_))))
  rintro z18 v0_20 W20 hm l20 ⟨_, rfl, f20_0⟩
  have a21 := a12.n l20
  refine cr hm (fun _ => p108 (K := [4]) (k0 := 5) f20_0.rd) ?_
  rintro z24 v0_26 W26 hm l26 ⟨_, rfl, f26_0⟩
  have a27 := a21.n l26
  refine Nv v0_26 rfl ?_
  cases hm
  exact Cw.ret (ret1 rfl (Res.mk a27 ⟨v0_26, rfl, f26_0.s.sub rfl rfl⟩))
theorem p40 {x0 v0_0_ v0_1_ x1 k0 r} (h0 : Rd W K [v0_0_, v0_1_] x0) (h99 : Gl 0 W K) (hm : Vm.impl_AncAll x0 x1 = some r) : Q1 40 [.agg [v0_0_, v0_1_].toArray, vI x1] W [] fun W' v => ∃ u0, v = u0 ∧ Ow W' k0 [] [u0] r :=
 (c40 (h0.view _) (h99.view _) hm).ad (fk k0) fun _ _ ⟨u0, e, f0⟩ => ⟨u0, e, f0.back (fk_LL _)⟩
theorem c69 {x0 v0_0_ v0_1_ x1 r} (h0 : Rd W0 [0] [v0_0_, v0_1_] x0) (hm : Vm.spec_AncAll x0 x1 = some r) : Q0 69 [.agg [v0_0_, v0_1_].toArray, vI x1] W0 fun Wf v => ∃ u0, v = u0 ∧ OwS Wf LL [] [u0] r := by
 unfold Vm.spec_AncAll at hm
 obtain ⟨w0_0, w0_1, he0, h0_0, h0_1⟩ := Repo.split h0
 simp only [List.cons.injEq, and_true, true_and] at he0
 obtain ⟨rfl, rfl⟩ := he0
 refine CallR.of Tryz.func69 rfl rfl rfl rfl (sr (bo 2 rfl fun g1 W1 l1 b1 => ?_))
 have a2 := l1.o
 refine Nv (.slice none 0 0) rfl (Cw.seq ?_)
 obtain ⟨K5, hK5, hm⟩ := jn_e hm
 refine Cw.join 5 16 [16] (fun l w => ∃ y3 W4, CW.w W4 = w ∧ Le [] W1 W4 ∧ l = [vB y3] ∧ K5 y3 = some r) ?_ ?_
 ·rintro _ _ σ ⟨y3, W4, rfl, l4, rfl, hm⟩
  rw [hK5] at hm
  have a6 := a2.n l4
  refine cn hm (fun hm => ?_) fun hm => ?_
  ·refine sr (Nv (.slice none 0 0) rfl ?_)
   cases hm
   exact Cw.ret (ret1 rfl (Res.mk a6 ⟨.slice none 0 0, rfl, (owsN []).sub rfl rfl⟩))
  ·refine sk (sr (la (b1.up l4) (mi rfl (cr hm (fun _ => p106 (k0 := 3) (Repo.rd (K := [0]) x0.Commits x0.Heads (h0_0.ul a6) (h0_1.ul a6))) ?_))))
   rintro z11 v0_13 W13 hm l13 ⟨_, rfl, f13_0⟩
   have a14 := a6.n l13
   refine Nv v0_13 rfl ?_
   cases hm
   exact Cw.ret (ret1 rfl (Res.mk a14 ⟨v0_13, rfl, f13_0.s.sub rfl rfl⟩))
 ·refine rg (la b1 (ca hm (fun _ => p74 (Repo.rd (K := [0]) x0.Commits x0.Heads (h0_0.ul a2) (h0_1.ul a2))) fun z18 W20 hm l20 => ?_))
  have a21 := a2.n l20
  refine Lw.r rfl (R.not rfl) (mb rfl (bs hm (fun hc23 hm => ?_) fun hc23 hm => ?_))
  ·exact psk 7 hc23 rfl (Pb hc23 rfl (nl ((ag) ⟨true, W20, rfl, l20, rfl, hm⟩)))
  ·exact wak 7 hc23 (mi rfl (fl (b1.up l20) rfl (Lw.ln x0.Commits (h0_0.ul a21) rfl (Lw.sub rfl (ca hm (fun _ => p84) fun z25 W27 hm l27 => Lw.r rfl (R.not rfl) (Pb hc23 rfl (nl ((ag) ⟨(!z25), W27, rfl, (l20.j l27).w, rfl, hm⟩))))))))
theorem p69 {x0 v0_0_ v0_1_ x1 k0 r} (h0 : Rd W K [v0_0_, v0_1_] x0) (hm : Vm.spec_AncAll x0 x1 = some r) : Q1 69 [.agg [v0_0_, v0_1_].toArray, vI x1] W [] fun W' v => ∃ u0, v = u0 ∧ Ow W' k0 [] [u0] r :=
 (c69 (h0.view _) hm).ad (fk k0) fun _ _ ⟨u0, e, f0⟩ => ⟨u0, e, f0.back (fk_LL _)⟩
end Go.Sx
