/- Walks: each function answers as its model, printed by a program of ours. Conditions: the arguments read as they are given. -/
import Derived.Test.YtidkloialdageaaGreatDoorBTs
import Derived.Test.YtidkloialdageaaGreatDoorBM2
import Derived.Test.YtidkloialdageaaGreatDoorBW0
import Derived.Test.YtidkloialdageaaGreatDoorBW5
import Derived.Test.YtidkloialdageaaGreatDoorBW6
namespace Go.Sx
open Go Go.Proofs Go.Vm Rp
set_option linter.unusedVariables false
set_option linter.unusedSimpArgs false

variable {W W0 : CW} {K : List Nat}
theorem c82 {x0 g0_ v0_0_ r} (hB0 : Bx W0 2 g0_ [v0_0_, vI x0.p]) (h0_0 : Rd W0 [0] [v0_0_] x0.b) (hm : Vm.spec_l30AnyRepo x0 = some r) : Q0 82 [ptr (bx g0_)] W0 fun Wf v => ∃ u0_0 u0_1, v = .agg [u0_0, u0_1].toArray ∧ OwS Wf [31] [] [u0_0] r.1.Commits ∧ OwS Wf [32] [] [u0_1] r.1.Heads ∧ Bx Wf 2 g0_ [v0_0_, vI r.2] := by
 unfold Vm.spec_l30AnyRepo at hm
 refine CallR.of Tryz.func82 rfl rfl rfl rfl (sr (al 3 [.slice none 0 0, .slice none 0 0] fun g1 W1 l1 b1 => ?_))
 have a2 := l1.o
 have b3 := hB0.up l1
 refine nl (sr (mp rfl (cr hm (fun _ => p135 (k0 := 4) (k1 := 5) (c0 := 2) (x0 := x0) b3 (h0_0.ul a2) rfl) ?_)))
 rintro z5 _ W7 hm l7 ⟨v0_0_7, v0_1_7, rfl, f7_0, f7_1, f7_2⟩
 have a8 := a2.t l7
 refine al 6 [.slice none 0 0, .slice none 0 0] fun g10 W10 l10 b10 => ?_
 have a11 := a8.n l10
 refine sta b10 (oc_cons (f7_0.up l10).oc (oc_cons (f7_1.up l10).oc oc_nil)) fun W16 l16 b16 => ?_
 have a17 := a11.t l16
 have o18 := (f7_0.up l10).up l16
 have o19 := (f7_1.up l10).up l16
 have b20 := (f7_2.up l10).up l16
 refine nl ?_
 obtain ⟨K33, hK33, hm⟩ := jn_e hm
 refine Cw.join 7 44 [4] (fun l w => ∃ y23 y25 y28 j22 v26 v29 W32, CW.w W32 = w ∧ Le [2, 4, 5, 6, 7] W16 W32 ∧ l = [j22] ∧ Bx W32 2 g0_ [v0_0_, vI y23] ∧ Ow W32 4 [] [v26] y25 ∧ Ow W32 5 [] [v29] y28 ∧ Bx W32 6 g10 [v26, v29] ∧ K33 y23 y25 y28 = some r) ?_ ?_
 ·rintro _ _ σ ⟨y23, y25, y28, j22, v26, v29, W32, rfl, l32, rfl, b24, o27, o30, b31, hm⟩
  rw [hK33] at hm
  have a34 := a17.t l32
  refine sr (la b31 (sta ((((b1.up l7).up l10).up l16).up l32) (oc_cons o27.oc (oc_cons o30.oc oc_nil)) fun W36 l36 b36 => ?_))
  have a37 := a34.t l36
  refine nl ?_
  obtain ⟨W42, ew42, l42, o42⟩ := (o27.up l36).dyeO 31
  have a43 := a37.t l42
  obtain ⟨W48, ew48, l48, o48⟩ := ((o30.up l36).up l42).dyeO 32
  have a49 := a43.t l48
  cases hm
  rw [← ew48.trans (ew42)]
  exact Cw.ret (retA1 rfl ((b36.up l42).up l48) (Res.mk a49 ⟨v26, v29, rfl, (o42.up l48).s, o48.s, (((b24.up l36).up l42).up l48)⟩))
 ·refine sr (fl b16 rfl (Lw.ln z5.1.Commits o18.rd rfl (Lw.gt rfl (nl (cn hm (fun hm => ?_) fun hm => ?_)))))
  ·refine sr (mp rfl (fl b16 rfl (Lw.ln z5.1.Commits o18.rd rfl (cr hm (fun _ => p85 (c0 := 2) (x0 := (Vm.l30Rd.mk x0.b z5.2)) b20 (h0_0.ul a17) rfl) ?_))))
   rintro z56 _ W58 hm l58 ⟨rfl, f58_0⟩
   have a59 := a17.t l58
   refine Ni rfl (sr (mp rfl (cr hm (fun _ => p85 (c0 := 2) (x0 := (Vm.l30Rd.mk x0.b z56.2)) f58_0 (h0_0.ul a59) rfl) ?_)))
   rintro z65 _ W67 hm l67 ⟨rfl, f67_0⟩
   have o69 := (o18.up l58).up l67
   have o70 := (o19.up l58).up l67
   have b72 := (b16.up l58).up l67
   refine nl (Cw.block (sr (Lw.eq rfl (Nb rfl (cn hm (fun hm => ?_) fun hm => ?_)))))
   ·refine rg (fl b72 rfl (mi rfl (mi rfl (Lw.t rfl (T.bsS (α := Int) (xs := [z56.1]) 7 [] (W := W67) [vI z56.1] (Each.cons ((rdI _)) Each.nil) rfl) ?_))))
    rintro v74 _ ⟨W74, rfl, l74, o74⟩
    obtain ⟨u81, e82, hm⟩ := ob hm
    refine Lw.r rfl (R.ix (α := Commit) (o69.up l74).rd e82 rfl rfl rfl) (Lw.fa rfl ?_)
    obtain ⟨q84, e85, hm⟩ := ob hm
    refine Lw.u (T.stH (α := Commit) (β := List Int) (J := [7]) (Ow.hole (α := Commit) (β := List Int) (jf := 0) (o69.up l74) e82) o74.s e85 rfl rfl rfl rfl) ?_
    rintro _ _ ⟨W83, rfl, l83, o83⟩
    exact nl ((ag) ⟨z65.2, q84, z5.1.Heads, vI z56.1, v0_0_7, v0_1_7, W83, rfl, (((l58.j l67).j l74).j l83).w, rfl, ((f67_0.up l74).up l83), o83, ((o70.up l74).up l83), ((b72.up l74).up l83), hm⟩)
   ·refine sr (Lw.eq rfl (Nb rfl (cn hm (fun hm => ?_) fun hm => ?_)))
    ·refine rg (fl b72 rfl (mi rfl ?_))
     obtain ⟨u92, e93, hm⟩ := ob hm
     refine Lw.r rfl (R.ix (α := Commit) o69.rd e93 rfl rfl rfl) (Lw.fa rfl ?_)
     obtain ⟨q95, e96, hm⟩ := ob hm
     refine Lw.u (T.stH (α := Commit) (β := Str) (J := []) (Ow.hole (α := Commit) (β := Str) (jf := 1) o69 e93) (OwS.atm (K := []) (rdS _)) e96 rfl rfl rfl rfl) ?_
     rintro _ _ ⟨W94, rfl, l94, o94⟩
     exact nl ((ag) ⟨z65.2, q95, z5.1.Heads, vI z56.1, v0_0_7, v0_1_7, W94, rfl, ((l58.j l67).j l94).w, rfl, (f67_0.up l94), o94, (o70.up l94), (b72.up l94), hm⟩)
    ·refine sr (Lw.eq rfl (Nb rfl (cn hm (fun hm => ?_) fun hm => ?_)))
     ·refine Cw.draw [5] [(0, 0), (1, 1), (2, 0), (3, 1), (4, 0), (5, 2), (6, 2), (7, 2), (8, 0), (9, 3)] mixed (by kernel_rfl) fun W103 l103 => ?_
      have o106 := o70.up l103
      have b109 := b72.up l103
      refine Dfl b109 rfl rfl rfl (Dfl b109 rfl rfl rfl ?_)
      obtain ⟨u110, e111, hm⟩ := ob hm
      refine Mw.p rfl rfl (fun _ => R.ix (α := Head) o106.rd e111 rfl rfl rfl) ?_
      obtain ⟨x112, c113, _, r114⟩ := (o106.rd.at_ e111).cells
      obtain rfl := Head.split r114
      refine Mw.t rfl rfl (Run.tr (R.lda c113 rfl rfl)) ?_
      rintro _ _ ⟨hu, rfl⟩
      obtain rfl := hu.symm
      refine ⟨⟨_, rfl, (Le.refl _ _)⟩, ?_⟩
      refine Mw.t rfl rfl (T.bs 8 [.agg [vS u110.Name, vI u110.At].toArray] (cs := [vS u110.Name, vI u110.At]) rfl rfl (bsA rfl)) ?_
      rintro _ _ ⟨g115, W115, rfl, rfl, l115, b115⟩
      refine m0 l115 fun d115 => ?_
      obtain ⟨q122, e123, hm⟩ := ob hm
      refine Mw.t rfl rfl (T.app1S (α := Head) (K' := []) (o106.up l115) b115 (Head.rd (K := []) u110.Name u110.At) rfl rfl e123) ?_
      rintro v124 _ ⟨W124, rfl, l124, o124⟩
      refine mc d115 l124 fun d124 => Df rfl (Mw.lu rfl (T.st (j := 1) (v := v124) ((b109.up l115).up l124) rfl rfl o124.oc rfl rfl) ?_)
      rintro _ _ ⟨W131, rfl, l131, b131⟩
      exact Mw.nil ((ag) ⟨z65.2, z5.1.Commits, q122, vI z56.1, v0_0_7, v124, W131, rfl, (((((l58.j l67).j l103).j l115).j l124).j l131).w, rfl, ((((f67_0.up l103).up l115).up l124).up l131), ((((o69.up l103).up l115).up l124).up l131), (o124.up l131), b131, hm⟩)
     ·exact sk ((ag) ⟨z65.2, z5.1.Commits, z5.1.Heads, vI z56.1, v0_0_7, v0_1_7, W67, rfl, (l58.j l67).w, rfl, f67_0, o69, o70, b72, hm⟩)
  ·exact sk ((ag) ⟨z5.2, z5.1.Commits, z5.1.Heads, undef, v0_0_7, v0_1_7, W16, rfl, Le.refl _ _, rfl, b20, o18, o19, b16, hm⟩)

theorem p82 {x0 g0_ v0_0_ k0 k1 c0 r} (hB0 : Bx W c0 g0_ [v0_0_, vI x0.p]) (h0_0 : Rd W K [v0_0_] x0.b) (hJ : okJ K [c0] = true) (hm : Vm.spec_l30AnyRepo x0 = some r) : Q1 82 [ptr (bx g0_)] W [c0] fun W' v => ∃ u0_0 u0_1, v = .agg [u0_0, u0_1].toArray ∧ Ow W' k0 [] [u0_0] r.1.Commits ∧ Ow W' k1 [] [u0_1] r.1.Heads ∧ Bx W' c0 g0_ [v0_0_, vI r.2] :=
 CallR.adJ (J := [c0]) (fun c => bif Nat.beq c 0 then 0 else bif Nat.beq c 2 then c0 else bif Nat.beq c 31 then k0 else bif Nat.beq c 32 then k1 else 0) (c82 (hB0.viewJ 0 hJ) (h0_0.view _) hm) fun _ _ ⟨u0_0, u0_1, e, f0, f1, f2⟩ => ⟨u0_0, u0_1, e, f0.one1.backN rfl, f1.one1.backN rfl, Bx.backJ 0 f2 rfl⟩

theorem c112 {x0 v0_0_ v0_1_ x1 v1_ x2 r} (h0 : Rd W0 [0] [v0_0_, v0_1_] x0) (h1 : Rd W0 [0] [v1_] x1) (h99 : Gl 0 W0 [0]) (hm : Vm.impl_Repo_areSuspect x0 x1 x2 = some r) : Q0 112 [.agg [v0_0_, v0_1_].toArray, v1_, vI x2] W0 fun Wf v => v = vB r := by
 unfold Vm.impl_Repo_areSuspect at hm
 obtain ⟨w0_0, w0_1, he0, h0_0, h0_1⟩ := Repo.split h0
 simp only [List.cons.injEq, and_true, true_and] at he0
 obtain ⟨rfl, rfl⟩ := he0
 refine CallR.of Tryz.func112 rfl rfl rfl rfl (sr (bo 2 rfl fun g1 W1 l1 b1 => ?_))
 have a2 := l1.o
 refine Nb rfl ?_
 obtain ⟨K5, hK5, hm⟩ := jn_e hm
 refine Cw.join 7 19 [6] (fun l w => ∃ y3 W4, CW.w W4 = w ∧ Le [] W1 W4 ∧ l = [vB y3] ∧ K5 y3 = some r) ?_ ?_
 ·rintro _ _ σ ⟨y3, W4, rfl, l4, rfl, hm⟩
  rw [hK5] at hm
  have a6 := a2.n l4
  exact .ret (rt hm a6)
 ·refine rg (la b1 (mv v1_ rfl (ca hm (fun _ => p87 (Repo.rd (K := [0]) x0.Commits x0.Heads (h0_0.ul a2) (h0_1.ul a2)) (h1.ul a2) (h99.ul a2)) fun z12 W14 hm l14 => ?_)))
  have a15 := a2.n l14
  refine mb rfl (bs hm (fun hc17 hm => ?_) fun hc17 hm => ?_)
  ·refine wak 3 hc17 (mv v1_ rfl (Lw.ln x1 (h1.ul a15) rfl (Lw.le rfl (Pb hc17 rfl (mb rfl (bs hm (fun hc19 hm => ?_) fun hc19 hm => ?_))))))
   ·exact wak 3 hc19 (la (b1.up l14) (mi rfl (ca hm (fun _ => p126 (Repo.rd (K := [0]) x0.Commits x0.Heads (h0_0.ul a15) (h0_1.ul a15))) fun z22 W24 hm l24 => Pb hc19 rfl (Nb rfl ((ag) ⟨z22, W24, rfl, (l14.j l24).w, rfl, hm⟩)))))
   ·exact psk 3 hc19 rfl (Pb hc19 rfl (Nb rfl ((ag) ⟨false, W14, rfl, l14, rfl, hm⟩)))
  ·exact psk 3 hc17 rfl (Pb hc17 rfl (mb rfl (psk 3 rfl rfl (Pb rfl rfl (Nb rfl ((ag) ⟨false, W14, rfl, l14, rfl, hm⟩))))))

theorem p112 {x0 v0_0_ v0_1_ x1 v1_ x2 r} (h0 : Rd W K [v0_0_, v0_1_] x0) (h1 : Rd W K [v1_] x1) (h99 : Gl 0 W K) (hm : Vm.impl_Repo_areSuspect x0 x1 x2 = some r) : Q1 112 [.agg [v0_0_, v0_1_].toArray, v1_, vI x2] W [] fun W' v => v = vB r :=
 (c112 (h0.view _) (h1.view _) (h99.view _) hm).ad (fk 0) fun _ _ e => e

theorem c109 {x0 v0_0_ v0_1_ x1 r} (h0 : Rd W0 [0] [v0_0_, v0_1_] x0) (hm : Vm.impl_Repo_ancestors x0 x1 = some r) : Q0 109 [.agg [v0_0_, v0_1_].toArray, vI x1] W0 fun Wf v => ∃ u0, v = u0 ∧ OwS Wf LL [] [u0] r := by
 unfold Vm.impl_Repo_ancestors at hm
 obtain ⟨w0_0, w0_1, he0, h0_0, h0_1⟩ := Repo.split h0
 simp only [List.cons.injEq, and_true, true_and] at he0
 obtain ⟨rfl, rfl⟩ := he0
 refine CallR.of Tryz.func109 rfl rfl rfl rfl (sr (bo 2 rfl fun g1 W1 l1 b1 => ?_))
 have a2 := l1.o
 refine Nv (.slice none 0 0) rfl (sr (fl b1 rfl (Lw.ln x0.Commits (h0_0.ul a2) rfl ?_)))
 obtain ⟨q4, e5, hm⟩ := ob hm
 refine Lw.t rfl (T.mk (α := Bool) 3 [] (n := (x0.Commits.length : Int)) rfl rfl e5) ?_
 rintro v6 _ ⟨W6, rfl, l6, o6⟩
 have a7 := a2.n l6
 refine Nv v6 rfl (sr (mv v6 rfl (mi rfl ?_)))
 obtain ⟨u9, e10, hm⟩ := ob hm
 refine Lw.r rfl (R.ix (α := Bool) o6.rd e10 rfl rfl rfl) ?_
 obtain ⟨q12, e13, hm⟩ := ob hm
 refine Lw.u (T.stS (K' := []) o6 (rdB _) e13 rfl rfl rfl) ?_
 rintro _ _ ⟨W11, rfl, l11, o11⟩
 have a14 := a7.t l11
 refine nl (ssr (mi rfl (Ni rfl (Cw.block ?_))))
 obtain ⟨K21, hK21, hm⟩ := jn_e hm
 refine Cw.loop 17 39 [6, 8] (fun m l w => ∃ y16 y18 j17 W20, CW.w W20 = w ∧ Le [3] W11 W20 ∧ l = [vI y16, j17] ∧ Ow W20 3 [] [v6] y18 ∧ Vm.impl_Repo_ancestors_l1 x0 K21 m y16 y18 = some r) _ ⟨x1, q12, undef, W11, rfl, Le.refl _ _, rfl, o11, hm⟩ ?_
 rintro (_ | m22) _ _ σ ⟨y16, y18, j17, W20, rfl, l20, rfl, o19, hm⟩
 ·cases hm
 unfold Vm.impl_Repo_ancestors_l1 at hm
 have a23 := a14.t l20
 refine ssr (mi rfl (Lw.ge rfl (nl (cn hm (fun hm => ?_) fun hm => ?_))))
 ·refine sk ?_
  obtain ⟨K30, hK30, hm⟩ := jn_e hm
  refine Cw.join 21 39 [8] (fun l w => ∃ y27 j26 W29, CW.w W29 = w ∧ Le [3] W20 W29 ∧ l = [j26] ∧ Ow W29 3 [] [v6] y27 ∧ K30 y27 = some r) ?_ ?_
  ·rintro _ _ σ ⟨y27, j26, W29, rfl, l29, rfl, o28, hm⟩
   rw [hK30] at hm
   exact rg (mi rfl (Lw.sub rfl (Ni rfl ((agm) ⟨w64 (y16 - 1), y27, j26, W29, rfl, (l20.j l29).w, rfl, o28, hm⟩))))
  ·refine Cw.block (sr (mv v6 rfl (mi rfl ?_)))
   obtain ⟨u33, e34, hm⟩ := ob hm
   refine Lw.r rfl (R.ix (α := Bool) o19.rd e34 rfl rfl rfl) (Lw.r rfl (R.ld rfl rfl (o19.rd.at_ e34).bool) (nl (cn hm (fun hm => ?_) fun hm => ?_)))
   ·refine sr (fl (((b1.up l6).up l11).up l20) rfl (mi rfl ?_))
    obtain ⟨u36, e37, hm⟩ := ob hm
    refine Lw.r rfl (R.ix (α := Commit) (h0_0.ul a23) e37 rfl rfl rfl) (Lw.fa rfl ?_)
    obtain ⟨v39, c40, r41⟩ := (Commit.at0 ((h0_0.ul a23).at_ e37)).cell rfl
    refine Lw.r rfl (R.ld rfl rfl c40) (Lw.ln u36.Parents r41 rfl (mi rfl (nl (Cw.block (Cw.loop 32 39 [8, 32] (fun m l w => ∃ y43 y44 j42 W46, CW.w W46 = w ∧ Le [3] W20 W46 ∧ l = [j42, vI y43] ∧ Ow W46 3 [] [v6] y44 ∧ Vm.impl_Repo_ancestors_l2 K30 u36 m y43 y44 = some r) _ ⟨0, y18, j17, W20, rfl, Le.refl _ _, rfl, o19, hm⟩ ?_)))))
    rintro (_ | m48) _ _ σ ⟨y43, y44, j42, W46, rfl, l46, rfl, o45, hm⟩
    ·cases hm
    unfold Vm.impl_Repo_ancestors_l2 at hm
    have a49 := l46.s
    refine sr (Lw.lt rfl (nl (Cw.seq (cn hm (fun hm => ?_) fun hm => ?_))))
    ·refine sk (Cw.seq (Cw.block (sr ?_)))
     obtain ⟨u52, e53, hm⟩ := ob hm
     refine Lw.r rfl (R.ix (α := Int) (r41.ul a49) e53 rfl rfl rfl) (Lw.r rfl (R.ld rfl rfl ((r41.ul a49).at_ e53).int) (Ni rfl (rg (mv v6 rfl (mi rfl ?_)))))
     obtain ⟨u55, e56, hm⟩ := ob hm
     refine Lw.r rfl (R.ix (α := Bool) o45.rd e56 rfl rfl rfl) ?_
     obtain ⟨q58, e59, hm⟩ := ob hm
     refine Lw.u (T.stS (K' := []) o45 (rdB _) e59 rfl rfl rfl) ?_
     rintro _ _ ⟨W57, rfl, l57, o57⟩
     exact nl (rg (Lw.add rfl (mi rfl (nl ((agm) ⟨w64 (y43 + 1), q58, vI u52, W57, rfl, (l46.j l57).w, rfl, o57, hm⟩)))))
    ·exact Cw.exit ((ag) ⟨y44, j42, W46, rfl, l46, rfl, o45, hm⟩)
   ·exact sk ((ag) ⟨y18, j17, W20, rfl, Le.refl _ _, rfl, o19, hm⟩)
 ·refine Cw.exit ?_
  rw [hK21] at hm
  refine sr (mv v6 rfl (Nv v6 rfl ?_))
  cases hm
  exact Cw.ret (ret1 rfl (Res.mk a23 ⟨v6, rfl, o19.s.sub rfl rfl⟩))

theorem p109 {x0 v0_0_ v0_1_ x1 k0 r} (h0 : Rd W K [v0_0_, v0_1_] x0) (hm : Vm.impl_Repo_ancestors x0 x1 = some r) : Q1 109 [.agg [v0_0_, v0_1_].toArray, vI x1] W [] fun W' v => ∃ u0, v = u0 ∧ Ow W' k0 [] [u0] r :=
 (c109 (h0.view _) hm).ad (fk k0) fun _ _ ⟨u0, e, f0⟩ => ⟨u0, e, f0.back (fk_LL _)⟩

theorem c108 {x0 v0_ r} (h0 : Rd W0 [0] [v0_] x0) (hm : Vm.impl_listOf x0 = some r) : Q0 108 [v0_] W0 fun Wf v => ∃ u0, v = u0 ∧ OwS Wf LL [] [u0] r := by
 unfold Vm.impl_listOf at hm
 refine CallR.of Tryz.func108 rfl rfl rfl rfl (sr (Nv (.slice none 0 0) rfl (sr (Nv (.slice none 0 0) rfl (ssr (mv v0_ rfl (Lw.ln x0 h0 rfl (mi rfl (nl (Cw.block ?_))))))))))
 obtain ⟨K8, hK8, hm⟩ := jn_e hm
 refine Cw.loop 8 18 [3, 4, 5, 8] (fun m l w => ∃ y1 y6 v2 j4 j5 W7, CW.w W7 = w ∧ Le [2] W0 W7 ∧ l = [v2, j4, j5, vI y6] ∧ Ow W7 2 [] [v2] y1 ∧ Vm.impl_listOf_l1 x0 K8 m y1 y6 = some r) _ ⟨([] : List Int), 0, .slice none 0 0, undef, undef, W0, rfl, Le.refl _ _, rfl, owN 2 [], hm⟩ ?_
 rintro (_ | m9) _ _ σ ⟨y1, y6, v2, j4, j5, W7, rfl, l7, rfl, o3, hm⟩
 ·cases hm
 unfold Vm.impl_listOf_l1 at hm
 have a10 := l7.s
 refine sr (Lw.lt rfl (nl (Cw.seq (cn hm (fun hm => ?_) fun hm => ?_))))
 ·refine sk ?_
  obtain ⟨K18, hK18, hm⟩ := jn_e hm
  refine Cw.join 10 17 [3, 4, 5] (fun l w => ∃ y12 v13 j15 j16 W17, CW.w W17 = w ∧ Le [2] W7 W17 ∧ l = [v13, j15, j16] ∧ Ow W17 2 [] [v13] y12 ∧ K18 y12 = some r) ?_ ?_
  ·rintro _ _ σ ⟨y12, v13, j15, j16, W17, rfl, l17, rfl, o14, hm⟩
   rw [hK18] at hm
   exact rg (Lw.add rfl (mi rfl (nl ((agm) ⟨y12, w64 (y6 + 1), v13, j15, j16, W17, rfl, (l7.j l17).w, rfl, o14, hm⟩))))
  ·refine Cw.block (sr (mi rfl ?_))
   obtain ⟨u20, e21, hm⟩ := ob hm
   refine Lw.r rfl (R.ix (α := Bool) (h0.ul a10) e21 rfl rfl rfl) (Lw.r rfl (R.ld rfl rfl ((h0.ul a10).at_ e21).bool) (Gi rfl (Nb rfl (sr (mb rfl (nl (cn hm (fun hm => ?_) fun hm => ?_)))))))
   ·refine rg (mv v2 rfl (mi rfl (Lw.t rfl (T.bs 3 [vI y6] (cs := [vI y6]) rfl rfl (bsv rfl)) ?_)))
    rintro _ _ ⟨g24, W24, rfl, rfl, l24, b24⟩
    obtain ⟨q27, e28, hm⟩ := ob hm
    refine Lw.t rfl (T.app1S (α := Int) (K' := []) (o3.up l24) b24 (rdI _) rfl rfl e28) ?_
    rintro v29 _ ⟨W29, rfl, l29, o29⟩
    exact Nv v29 rfl ((ag) ⟨q27, v29, vI y6, vB u20, W29, rfl, (l24.j l29).w, rfl, o29, hm⟩)
   ·exact sk ((ag) ⟨y1, v2, vI y6, vB u20, W7, rfl, Le.refl _ _, rfl, o3, hm⟩)
 ·refine Cw.exit ?_
  rw [hK8] at hm
  refine sr (mv v2 rfl (Nv v2 rfl ?_))
  cases hm
  exact Cw.ret (ret1 rfl (Res.mk a10 ⟨v2, rfl, o3.s.sub rfl rfl⟩))

theorem p108 {x0 v0_ k0 r} (h0 : Rd W K [v0_] x0) (hm : Vm.impl_listOf x0 = some r) : Q1 108 [v0_] W [] fun W' v => ∃ u0, v = u0 ∧ Ow W' k0 [] [u0] r :=
 (c108 (h0.view _) hm).ad (fk k0) fun _ _ ⟨u0, e, f0⟩ => ⟨u0, e, f0.back (fk_LL _)⟩

theorem c113 {x0 v0_0_ v0_1_ x1 x2 v2_ r} (h0 : Rd W0 [0] [v0_0_, v0_1_] x0) (h2 : Rd W0 [0] [v2_] x2) (hm : Vm.impl_Repo_since x0 x1 x2 = some r) : Q0 113 [.agg [v0_0_, v0_1_].toArray, vI x1, v2_] W0 fun Wf v => ∃ u0, v = u0 ∧ OwS Wf LL [] [u0] r := by
 unfold Vm.impl_Repo_since at hm
 obtain ⟨w0_0, w0_1, he0, h0_0, h0_1⟩ := Repo.split h0
 simp only [List.cons.injEq, and_true, true_and] at he0
 obtain ⟨rfl, rfl⟩ := he0
 refine CallR.of Tryz.func113 rfl rfl rfl rfl (sr (bo 2 rfl fun g1 W1 l1 b1 => ?_))
 have a2 := l1.o
 refine Nv (.slice none 0 0) rfl (sr (la b1 (mi rfl (cr hm (fun _ => p109 (k0 := 3) (Repo.rd (K := [0]) x0.Commits x0.Heads (h0_0.ul a2) (h0_1.ul a2))) ?_))))
 rintro z5 v0_7 W7 hm l7 ⟨_, rfl, f7_0⟩
 have a8 := a2.n l7
 refine Nv v0_7 rfl (ssr (mv v2_ rfl (Lw.ln x2 (h2.ul a8) rfl (mi rfl (nl (Cw.block ?_))))))
 obtain ⟨K17, hK17, hm⟩ := jn_e hm
 refine Cw.loop 17 34 [9, 11, 17] (fun m l w => ∃ y13 y14 j11 j12 W16, CW.w W16 = w ∧ Le [3] W7 W16 ∧ l = [j11, j12, vI y13] ∧ Ow W16 3 [] [v0_7] y14 ∧ Vm.impl_Repo_since_l1 x0 x2 K17 m y13 y14 = some r) _ ⟨0, z5, undef, undef, W7, rfl, Le.refl _ _, rfl, f7_0, hm⟩ ?_
 rintro (_ | m18) _ _ σ ⟨y13, y14, j11, j12, W16, rfl, l16, rfl, o15, hm⟩
 ·cases hm
 unfold Vm.impl_Repo_since_l1 at hm
 have a19 := a8.t l16
 refine sr (Lw.lt rfl (nl (Cw.seq (cn hm (fun hm => ?_) fun hm => ?_))))
 ·refine sk (Cw.seq (Cw.block (sr ?_)))
  obtain ⟨u22, e23, hm⟩ := ob hm
  refine Lw.r rfl (R.ix (α := Int) (h2.ul a19) e23 rfl rfl rfl) (Lw.r rfl (R.ld rfl rfl ((h2.ul a19).at_ e23).int) (Ni rfl (sr (la ((b1.up l7).up l16) (mi rfl (cr hm (fun _ => p109 (k0 := 4) (Repo.rd (K := [0]) x0.Commits x0.Heads (h0_0.ul a19) (h0_1.ul a19))) ?_))))))
  rintro z27 v0_29 W29 hm l29 ⟨_, rfl, f29_0⟩
  refine cr hm (fun _ => p108 (K := [4]) (k0 := 5) f29_0.rd) ?_
  rintro z33 v0_35 W35 hm l35 ⟨_, rfl, f35_0⟩
  refine Lw.ln z33 f35_0.rd rfl (mi rfl (nl (Cw.block ?_)))
  obtain ⟨K45, hK45, hm⟩ := jn_e hm
  refine Cw.loop 26 33 [11, 26] (fun m l w => ∃ y41 y42 j40 W44, CW.w W44 = w ∧ Le [3] W35 W44 ∧ l = [j40, vI y41] ∧ Ow W44 3 [] [v0_7] y42 ∧ Vm.impl_Repo_since_l2 z33 K45 m y41 y42 = some r) _ ⟨0, y14, j12, W35, rfl, Le.refl _ _, rfl, ((o15.up l29).up l35), hm⟩ ?_
  rintro (_ | m46) _ _ σ ⟨y41, y42, j40, W44, rfl, l44, rfl, o43, hm⟩
  ·cases hm
  unfold Vm.impl_Repo_since_l2 at hm
  refine sr (Lw.lt rfl (nl (Cw.seq (cn hm (fun hm => ?_) fun hm => ?_))))
  ·refine sk (Cw.seq (Cw.block (sr ?_)))
   obtain ⟨u52, e53, hm⟩ := ob hm
   refine Lw.r rfl (R.ix (α := Int) (f35_0.up l44).rd e53 rfl rfl rfl) (Lw.r rfl (R.ld rfl rfl ((f35_0.up l44).rd.at_ e53).int) (Ni rfl (rg (mv v0_7 rfl (mi rfl ?_)))))
   obtain ⟨u54, e55, hm⟩ := ob hm
   refine Lw.r rfl (R.ix (α := Bool) o43.rd e55 rfl rfl rfl) ?_
   obtain ⟨q57, e58, hm⟩ := ob hm
   refine Lw.u (T.stS (K' := []) o43 (rdB _) e58 rfl rfl rfl) ?_
   rintro _ _ ⟨W56, rfl, l56, o56⟩
   exact nl (rg (Lw.add rfl (mi rfl (nl ((agm) ⟨w64 (y41 + 1), q57, vI u52, W56, rfl, (l44.j l56).w, rfl, o56, hm⟩)))))
  ·refine Cw.exit ?_
   rw [hK45] at hm
   exact rg (Lw.add rfl (mi rfl (nl ((agm) ⟨w64 (y13 + 1), y42, vI u22, j40, W44, rfl, (((l16.j l29).j l35).j l44).w, rfl, o43, hm⟩))))
 ·refine Cw.exit ?_
  rw [hK17] at hm
  refine sr (mv v0_7 rfl (cr hm (fun _ => p108 (K := [3]) (k0 := 6) o15.rd) ?_))
  rintro z63 v0_65 W65 hm l65 ⟨_, rfl, f65_0⟩
  have a66 := a19.n l65
  refine Nv v0_65 rfl ?_
  cases hm
  exact Cw.ret (ret1 rfl (Res.mk a66 ⟨v0_65, rfl, f65_0.s.sub rfl rfl⟩))

theorem p113 {x0 v0_0_ v0_1_ x1 x2 v2_ k0 r} (h0 : Rd W K [v0_0_, v0_1_] x0) (h2 : Rd W K [v2_] x2) (hm : Vm.impl_Repo_since x0 x1 x2 = some r) : Q1 113 [.agg [v0_0_, v0_1_].toArray, vI x1, v2_] W [] fun W' v => ∃ u0, v = u0 ∧ Ow W' k0 [] [u0] r :=
 (c113 (h0.view _) (h2.view _) hm).ad (fk k0) fun _ _ ⟨u0, e, f0⟩ => ⟨u0, e, f0.back (fk_LL _)⟩

theorem c115 {x0 v0_0_ v0_1_ x1 r} (h0 : Rd W0 [0] [v0_0_, v0_1_] x0) (hm : Vm.impl_Repo_tree x0 x1 = some r) : Q0 115 [.agg [v0_0_, v0_1_].toArray, vI x1] W0 fun Wf v => ∃ u0, v = u0 ∧ Rd Wf [0] [u0] r := by
 unfold Vm.impl_Repo_tree at hm
 obtain ⟨w0_0, w0_1, he0, h0_0, h0_1⟩ := Repo.split h0
 simp only [List.cons.injEq, and_true, true_and] at he0
 obtain ⟨rfl, rfl⟩ := he0
 refine CallR.of Tryz.func115 rfl rfl rfl rfl (sr (bo 2 rfl fun g1 W1 l1 b1 => ?_))
 have a2 := l1.o
 refine Nv (.slice none 0 0) rfl (ssr (mi rfl (Lw.lt rfl (nl (cn hm (fun hm => ?_) fun hm => ?_)))))
 ·refine sr (Nv (.slice none 0 0) rfl ?_)
  cases hm
  exact Cw.ret (ret1 rfl (Res.mk a2 ⟨.slice none 0 0, rfl, (rdN (K := [0]))⟩))
 ·refine sk (sr (fl b1 rfl (mi rfl ?_)))
  obtain ⟨u4, e5, hm⟩ := ob hm
  refine Lw.r rfl (R.ix (α := Commit) (h0_0.ul a2) e5 rfl rfl rfl) (Lw.fa rfl ?_)
  obtain ⟨v7, c8, r9⟩ := (Commit.at2 ((h0_0.ul a2).at_ e5)).cell rfl
  refine Lw.r rfl (R.ld rfl rfl c8) (Nv v7 rfl ?_)
  cases hm
  exact Cw.ret (ret1 rfl (Res.mk a2 ⟨v7, rfl, r9⟩))

theorem p115 {x0 v0_0_ v0_1_ x1 r} (h0 : Rd W K [v0_0_, v0_1_] x0) (hm : Vm.impl_Repo_tree x0 x1 = some r) : Q1 115 [.agg [v0_0_, v0_1_].toArray, vI x1] W [] fun W' v => ∃ u0, v = u0 ∧ Rd W' (0 :: K) [u0] r :=
 (c115 (h0.view _) hm).ad (fk 0) fun _ _ ⟨u0, e, f0⟩ => ⟨u0, e, f0.back rfl⟩

theorem c116 {x0 v0_ x1 r} (h0 : Rd W0 [0] [v0_] x0) (hm : Vm.slices_Index_int_int x0 x1 = some r) : Q0 116 [v0_, vI x1] W0 fun Wf v => v = vI r := by
 unfold Vm.slices_Index_int_int at hm
 refine CallR.of Tryz.func116 rfl rfl rfl rfl (sr (Ni rfl (ssr (mv v0_ rfl (Lw.ln x0 h0 rfl (mi rfl (nl (Cw.block ?_))))))))
 obtain ⟨K5, hK5, hm⟩ := jn_e hm
 refine Cw.loop 8 18 [4, 5, 8] (fun m l w => ∃ y1 y3 j2 W4, CW.w W4 = w ∧ Le [] W0 W4 ∧ l = [vI y1, j2, vI y3] ∧ Vm.slices_Index_int_int_l1 x0 x1 K5 m y1 y3 = some r) _ ⟨0, 0, undef, W0, rfl, Le.refl _ _, rfl, hm⟩ ?_
 rintro (_ | m6) _ _ σ ⟨y1, y3, j2, W4, rfl, l4, rfl, hm⟩
 ·cases hm
 unfold Vm.slices_Index_int_int_l1 at hm
 have a7 := l4.o
 refine sr (Lw.lt rfl (nl (Cw.seq (cn hm (fun hm => ?_) fun hm => ?_))))
 ·refine sk (Cw.seq (Cw.block (sr (mi rfl (Ni rfl (sr (mi rfl (mv v0_ rfl (mi rfl ?_)))))))))
  obtain ⟨u9, e10, hm⟩ := ob hm
  refine Lw.r rfl (R.ix (α := Int) (h0.ul a7) e10 rfl rfl rfl) (Lw.r rfl (R.ld rfl rfl ((h0.ul a7).at_ e10).int) (Lw.eq rfl (nl (cn hm (fun hm => ?_) fun hm => ?_))))
  ·exact sr (mi rfl (Ni rfl (.ret (rt hm a7))))
  ·exact sk (rg (Lw.add rfl (mi rfl (nl ((agm) ⟨y1, w64 (y3 + 1), vI y3, W4, rfl, l4, rfl, hm⟩)))))
 ·refine Cw.exit ?_
  rw [hK5] at hm
  exact sr (Ni rfl (.ret (rt hm a7)))

theorem p116 {x0 v0_ x1 r} (h0 : Rd W K [v0_] x0) (hm : Vm.slices_Index_int_int x0 x1 = some r) : Q1 116 [v0_, vI x1] W [] fun W' v => v = vI r :=
 (c116 (h0.view _) hm).ad (fk 0) fun _ _ e => e

theorem c44 {x0 v0_0_ v0_1_ x1 v1_ x2 r} (h0 : Rd W0 [0] [v0_0_, v0_1_] x0) (h1 : Rd W0 [0] [v1_] x1) (h99 : Gl 0 W0 [0]) (hm : Vm.impl_SendOf x0 x1 x2 = some r) : Q0 44 [.agg [v0_0_, v0_1_].toArray, v1_, vI x2] W0 fun Wf v => ∃ u0, v = .tuple [u0, vB r.2].toArray ∧ OwS Wf LL [] [u0] r.1 := by
 unfold Vm.impl_SendOf at hm
 obtain ⟨w0_0, w0_1, he0, h0_0, h0_1⟩ := Repo.split h0
 simp only [List.cons.injEq, and_true, true_and] at he0
 obtain ⟨rfl, rfl⟩ := he0
 refine CallR.of Tryz.func44 rfl rfl rfl rfl (sr (bo 2 rfl fun g1 W1 l1 b1 => ?_))
 have a2 := l1.o
 refine Gv (.slice none 0 0) rfl (Nb rfl (ssr (la b1 (mv v1_ rfl (mi rfl (ca hm (fun _ => p112 (Repo.rd (K := [0]) x0.Commits x0.Heads (h0_0.ul a2) (h0_1.ul a2)) (h1.ul a2) (h99.ul a2)) fun z7 W9 hm l9 => ?_))))))
 have a10 := a2.n l9
 refine Lw.r rfl (R.not rfl) (nl (cn hm (fun hm => ?_) fun hm => ?_))
 ·refine sr (Gv (.slice none 0 0) rfl (Nb rfl ?_))
  cases hm
  exact Cw.ret (ret2 rfl rfl (Res.mk a10 ⟨.slice none 0 0, rfl, (owsN []).sub rfl rfl⟩))
 ·refine sk (sr (la (b1.up l9) (mi rfl (mv v1_ rfl (cr hm (fun _ => p113 (k0 := 3) (Repo.rd (K := [0]) x0.Commits x0.Heads (h0_0.ul a10) (h0_1.ul a10)) (h1.ul a10)) ?_)))))
  rintro z16 v0_18 W18 hm l18 ⟨_, rfl, f18_0⟩
  have a19 := a10.n l18
  refine Nv v0_18 rfl (sr (Nv (.slice none 0 0) rfl (ssr (mv v0_18 rfl (Lw.ln z16 f18_0.rd rfl (mi rfl (nl (Cw.block ?_))))))))
  obtain ⟨K35, hK35, hm⟩ := jn_e hm
  refine Cw.loop 28 84 [6, 7, 9, 11, 12, 14, 15, 16, 28] (fun m l w => ∃ y21 y24 y25 y33 v22 v26 j28 j29 j30 j31 j32 W34, CW.w W34 = w ∧ Le [5, 6, 7, 8] W18 W34 ∧ l = [v22, vB y24, v26, j28, j29, j30, j31, j32, vI y33] ∧ Ow W34 4 [] [v22] y21 ∧ Ow W34 5 [] [v26] y25 ∧ Vm.impl_SendOf_l1 x0 x1 z16 K35 m y21 y24 y25 y33 = some r) _ ⟨([] : List Commit), false, ([] : List Commit), 0, .slice none 0 0, .slice none 0 0, undef, undef, undef, undef, undef, W18, rfl, Le.refl _ _, rfl, owN 4 [], owN 5 [], hm⟩ ?_
  rintro (_ | m36) _ _ σ ⟨y21, y24, y25, y33, v22, v26, j28, j29, j30, j31, j32, W34, rfl, l34, rfl, o23, o27, hm⟩
  ·cases hm
  unfold Vm.impl_SendOf_l1 at hm
  have a37 := a19.t l34
  have o38 := f18_0.up l34
  refine sr (Lw.lt rfl (nl (Cw.seq (cn hm (fun hm => ?_) fun hm => ?_))))
  ·refine sk (Cw.seq (Cw.block (sr ?_)))
   obtain ⟨u41, e42, hm⟩ := ob hm
   refine Lw.r rfl (R.ix (α := Int) o38.rd e42 rfl rfl rfl) (Lw.r rfl (R.ld rfl rfl (o38.rd.at_ e42).int) (Ni rfl (Cw.seq ?_)))
   obtain ⟨u49, e50, hm⟩ := ob hm
   obtain ⟨z53, e54, hm⟩ := ob hm
   obtain ⟨z62, e63, hm⟩ := ob hm
   refine Cw.par [[], [0], [], [0, 1, 2], [0, 1, 2, 3], [0, 1, 2, 3, 4], [], [], [6, 7], [6, 7, 8], [0, 1, 2, 3, 4, 5, 6, 7, 8, 9], [], [0, 1, 2, 3, 4, 5, 6, 7, 8, 9, 10, 11]] [[], [0], [], [1, 2], [3], [4], [], [], [6, 7], [8], [5, 9], [], [9, 10, 11]] [[], [], [], [], [], [], [], [], [], [], [], [], [7]] [[0], [1], [2], [3], [4], [5], [6], [7], [8], [9], [9, 10], [11], [9, 11]] [[], [], [], [], [], [], [], [], [0], [6], [], [7], [7]] [0, 1, 2, 3, 4, 5, 6, 7, 8, 9, 10, 12] [7] [fun vs W => (vs 0) = ptr ((bx g1).add 0), fun vs W => (vs 1) = v0_0_, fun vs W => (vs 2) = vI u41, fun vs W => (vs 3) = ptr ((slA v0_0_).add ((u41).toNat * Rp.sz (Commit))), fun vs W => (vs 4) = ptr (((slA v0_0_).add ((u41).toNat * Rp.sz (Commit))).add 1), fun vs W => (vs 5) = vS u49.Who, fun vs W => (vs 6) = .agg [v0_0_, v0_1_].toArray, fun vs W => (vs 7) = vI u41, fun vs W => Rd W [0] [(vs 8)] z53, fun vs W => Ow W 6 [] [(vs 9)] z62, fun vs W => (vs 10) = .agg [.slice none 0 0, vS u49.Who, (vs 9)].toArray, fun vs W => (vs 11) = ptr (bx (pg (vs 11))) ∧ Bx W 7 (pg (vs 11)) [.slice none 0 0, vS ([] : Str), .slice none 0 0], fun vs W => (vs 11) = ptr (bx (pg (vs 11))) ∧ Bx W 7 (pg (vs 11)) [.slice none 0 0, vS u49.Who, (vs 9)]] [] mixed (by kernel_rfl) rfl AllF.nil ?_
   intro W84 l84
   have a85 := a37.n l84
   have b89 := (((b1.up l9).up l18).up l34).up l84
   refine ⟨(Steps.cons ?_ (Steps.cons ?_ (Steps.cons ?_ (Steps.cons ?_ (Steps.cons ?_ (Steps.cons ?_ (Steps.cons ?_ (Steps.cons ?_ (Steps.cons ?_ (Steps.cons ?_ (Steps.cons ?_ (Steps.cons ?_ (Steps.cons ?_ Steps.nil))))))))))))), (Sups.cons (fun vs vs' W W' _ hv l hd h => by (show (vs' 0) = ptr ((bx g1).add 0)); rw [hv 0 (anyb rfl)]; exact h) (Sups.cons (fun vs vs' W W' _ hv l hd h => by (show (vs' 1) = v0_0_); rw [hv 1 (anyb rfl)]; exact h) (Sups.cons (fun vs vs' W W' _ hv l hd h => by (show (vs' 2) = vI u41); rw [hv 2 (anyb rfl)]; exact h) (Sups.cons (fun vs vs' W W' _ hv l hd h => by (show (vs' 3) = ptr ((slA v0_0_).add ((u41).toNat * Rp.sz (Commit)))); rw [hv 3 (anyb rfl)]; exact h) (Sups.cons (fun vs vs' W W' _ hv l hd h => by (show (vs' 4) = ptr (((slA v0_0_).add ((u41).toNat * Rp.sz (Commit))).add 1)); rw [hv 4 (anyb rfl)]; exact h) (Sups.cons (fun vs vs' W W' _ hv l hd h => by (show (vs' 5) = vS u49.Who); rw [hv 5 (anyb rfl)]; exact h) (Sups.cons (fun vs vs' W W' _ hv l hd h => by (show (vs' 6) = .agg [v0_0_, v0_1_].toArray); rw [hv 6 (anyb rfl)]; exact h) (Sups.cons (fun vs vs' W W' _ hv l hd h => by (show (vs' 7) = vI u41); rw [hv 7 (anyb rfl)]; exact h) (Sups.cons (fun vs vs' W W' _ hv l hd h => by (show Rd W' [0] [(vs' 8)] z53); rw [hv 8 (anyb rfl)]; exact h.up l (disj_sub hd (K := [0]) rfl)) (Sups.cons (fun vs vs' W W' _ hv l hd h => by (show Ow W' 6 [] [(vs' 9)] z62); rw [hv 9 (anyb rfl)]; exact h.upv l (disj_mem hd (c := 6) rfl)) (Sups.cons (fun vs vs' W W' _ hv l hd h => by (show (vs' 10) = .agg [.slice none 0 0, vS u49.Who, (vs' 9)].toArray); rw [hv 9 (anyb rfl), hv 10 (anyb rfl)]; exact h) (Sups.cons (fun vs vs' W W' _ hv l hd h => by (show (vs' 11) = ptr (bx (pg (vs' 11))) ∧ Bx W' 7 (pg (vs' 11)) [.slice none 0 0, vS ([] : Str), .slice none 0 0]); rw [hv 11 (anyb rfl)]; exact ⟨h.1, h.2.up l (disj_mem hd (c := 7) rfl)⟩) (Sups.cons (fun vs vs' W W' _ hv l hd h => by (show (vs' 11) = ptr (bx (pg (vs' 11))) ∧ Bx W' 7 (pg (vs' 11)) [.slice none 0 0, vS u49.Who, (vs' 9)]); rw [hv 9 (anyb rfl), hv 11 (anyb rfl)]; exact ⟨h.1, h.2.up l (disj_mem hd (c := 7) rfl)⟩) Sups.nil))))))))))))), ?_⟩
   ·intro vs W lW hN
    obtain ⟨W90, hW90⟩ : ∃ X, X = W := ⟨W, rfl⟩
    subst hW90
    refine Tr.mono (Run.tr (R.fa rfl)) ?_
    rintro _ _ ⟨hu, rfl⟩
    obtain rfl := hu.symm
    exact ⟨W90, rfl, Le.refl _ _, (show (ptr ((bx g1).add 0) : Value) = ptr ((bx g1).add 0) from rfl)⟩
   ·intro vs W lW hN
    obtain ⟨W96, hW96⟩ : ∃ X, X = W := ⟨W, rfl⟩
    subst hW96
    have e0_ : vs 0 = ptr ((bx g1).add 0) := (hN 0 (anyb rfl))
    obtain ⟨vs, rfl⟩ := up_eq e0_
    refine Tr.mono (Run.tr (R.ld (v := v0_0_) rfl rfl ((b89.up lW rfl).cell rfl))) ?_
    rintro _ _ ⟨hu, rfl⟩
    obtain rfl := hu.symm
    exact ⟨W96, rfl, Le.refl _ _, (show (v0_0_ : Value) = v0_0_ from rfl)⟩
   ·intro vs W lW hN
    obtain ⟨W102, hW102⟩ : ∃ X, X = W := ⟨W, rfl⟩
    subst hW102
    refine Tr.mono (Run.tr (R.mv (v := vI u41) rfl)) ?_
    rintro _ _ ⟨hu, rfl⟩
    obtain rfl := hu.symm
    exact ⟨W102, rfl, Le.refl _ _, (show (vI u41 : Value) = vI u41 from rfl)⟩
   ·intro vs W lW hN
    obtain ⟨W108, hW108⟩ : ∃ X, X = W := ⟨W, rfl⟩
    subst hW108
    have a109 := a85.t lW rfl
    have e1_ : vs 1 = v0_0_ := (hN 1 (anyb rfl))
    obtain ⟨vs, rfl⟩ := up_eq e1_
    have e2_ : vs 2 = vI u41 := (hN 2 (anyb rfl))
    obtain ⟨vs, rfl⟩ := up_eq e2_
    refine Tr.mono (Run.tr (R.ix (α := Commit) (h0_0.ul a109) e50 rfl rfl rfl)) ?_
    rintro _ _ ⟨hu, rfl⟩
    obtain rfl := hu.symm
    exact ⟨W108, rfl, Le.refl _ _, (show (ptr ((slA v0_0_).add ((u41).toNat * Rp.sz (Commit))) : Value) = ptr ((slA v0_0_).add ((u41).toNat * Rp.sz (Commit))) from rfl)⟩
   ·intro vs W lW hN
    obtain ⟨W115, hW115⟩ : ∃ X, X = W := ⟨W, rfl⟩
    subst hW115
    have e3_ : vs 3 = ptr ((slA v0_0_).add ((u41).toNat * Rp.sz (Commit))) := (hN 3 (anyb rfl))
    obtain ⟨vs, rfl⟩ := up_eq e3_
    refine Tr.mono (Run.tr (R.fa rfl)) ?_
    rintro _ _ ⟨hu, rfl⟩
    obtain rfl := hu.symm
    exact ⟨W115, rfl, Le.refl _ _, (show (ptr (((slA v0_0_).add ((u41).toNat * Rp.sz (Commit))).add 1) : Value) = ptr (((slA v0_0_).add ((u41).toNat * Rp.sz (Commit))).add 1) from rfl)⟩
   ·intro vs W lW hN
    obtain ⟨W121, hW121⟩ : ∃ X, X = W := ⟨W, rfl⟩
    subst hW121
    have a122 := a85.t lW rfl
    have e4_ : vs 4 = ptr (((slA v0_0_).add ((u41).toNat * Rp.sz (Commit))).add 1) := (hN 4 (anyb rfl))
    obtain ⟨vs, rfl⟩ := up_eq e4_
    refine Tr.mono (Run.tr (R.ld rfl rfl (Commit.at1 ((h0_0.ul a122).at_ e50)).str)) ?_
    rintro _ _ ⟨hu, rfl⟩
    obtain rfl := hu.symm
    exact ⟨W121, rfl, Le.refl _ _, (show (vS u49.Who : Value) = vS u49.Who from rfl)⟩
   ·intro vs W lW hN
    obtain ⟨W128, hW128⟩ : ∃ X, X = W := ⟨W, rfl⟩
    subst hW128
    refine Tr.mono (Run.tr (R.lda (cs := [v0_0_, v0_1_]) (b89.up lW rfl).cells rfl rfl)) ?_
    rintro _ _ ⟨hu, rfl⟩
    obtain rfl := hu.symm
    exact ⟨W128, rfl, Le.refl _ _, (show (.agg [v0_0_, v0_1_].toArray : Value) = .agg [v0_0_, v0_1_].toArray from rfl)⟩
   ·intro vs W lW hN
    obtain ⟨W134, hW134⟩ : ∃ X, X = W := ⟨W, rfl⟩
    subst hW134
    refine Tr.mono (Run.tr (R.mv (v := vI u41) rfl)) ?_
    rintro _ _ ⟨hu, rfl⟩
    obtain rfl := hu.symm
    exact ⟨W134, rfl, Le.refl _ _, (show (vI u41 : Value) = vI u41 from rfl)⟩
   ·intro vs W lW hN
    obtain ⟨W140, hW140⟩ : ∃ X, X = W := ⟨W, rfl⟩
    subst hW140
    have a141 := a85.t lW rfl
    have e6_ : vs 6 = .agg [v0_0_, v0_1_].toArray := (hN 6 (anyb rfl))
    obtain ⟨vs, rfl⟩ := up_eq e6_
    have e7_ : vs 7 = vI u41 := (hN 7 (anyb rfl))
    obtain ⟨vs, rfl⟩ := up_eq e7_
    refine Tr.mono (T.call rfl (p115  (Repo.rd (K := [0]) x0.Commits x0.Heads (h0_0.ul a141) (h0_1.ul a141)) e54)) ?_
    rintro v0_148 _ ⟨W148, rfl, l148, ⟨_, rfl, f148_0⟩⟩
    have s149 := f148_0.sub (M := [0]) rfl
    exact ⟨W148, rfl, l148, (show Rd W148 [0] [v0_148] z53 from s149)⟩
   ·intro vs W lW hN
    obtain ⟨W155, hW155⟩ : ∃ X, X = W := ⟨W, rfl⟩
    subst hW155
    obtain ⟨pv8, e8_⟩ : ∃ v, vs 8 = v := ⟨_, rfl⟩
    obtain ⟨vs, rfl⟩ := up_eq e8_
    have o161 : Rd W155 [0] [pv8] z53 := (hN 8 (anyb rfl))
    refine Tr.mono (T.call rfl (p114 (k0 := 6) o161 e63)) ?_
    rintro v0_162 _ ⟨W162, rfl, l162, ⟨_, rfl, f162_0⟩⟩
    exact ⟨W162, rfl, l162, (show Ow W162 6 [] [v0_162] z62 from f162_0)⟩
   ·intro vs W lW hN
    obtain ⟨W168, hW168⟩ : ∃ X, X = W := ⟨W, rfl⟩
    subst hW168
    have e5_ : vs 5 = vS u49.Who := (hN 5 (anyb rfl))
    obtain ⟨vs, rfl⟩ := up_eq e5_
    obtain ⟨pv9, e9_⟩ : ∃ v, vs 9 = v := ⟨_, rfl⟩
    obtain ⟨vs, rfl⟩ := up_eq e9_
    have o174 : Ow W168 6 [] [pv9] z62 := (hN 9 (anyb rfl))
    refine Tr.mono (Run.tr (R.bd (zs := [.slice none 0 0, vS ([] : Str), .slice none 0 0]) (cs := [.slice none 0 0, vS u49.Who, pv9]) [(1, vS u49.Who), (2, pv9)] rfl rfl rfl (bp_cons rfl rfl (bp_cons o174.oc rfl bp_nil)))) ?_
    rintro _ _ ⟨hu, rfl⟩
    obtain rfl := hu.symm
    exact ⟨W168, rfl, Le.refl _ _, (show (.agg [.slice none 0 0, vS u49.Who, pv9].toArray : Value) = .agg [.slice none 0 0, vS u49.Who, pv9].toArray from rfl)⟩
   ·intro vs W lW hN
    obtain ⟨W175, hW175⟩ : ∃ X, X = W := ⟨W, rfl⟩
    subst hW175
    refine Tr.mono (T.alloc 7 (cs := [.slice none 0 0, vS ([] : Str), .slice none 0 0]) rfl) ?_
    rintro _ _ ⟨g181, W181, rfl, rfl, l181, b181⟩
    exact ⟨W181, rfl, l181, (show (ptr (bx g181) : Value) = ptr (bx g181) ∧ Bx W181 7 g181 [.slice none 0 0, vS ([] : Str), .slice none 0 0] from ⟨rfl, b181⟩)⟩
   ·intro vs W lW hN
    obtain ⟨W187, hW187⟩ : ∃ X, X = W := ⟨W, rfl⟩
    subst hW187
    obtain ⟨pv9, e9_⟩ : ∃ v, vs 9 = v := ⟨_, rfl⟩
    obtain ⟨vs, rfl⟩ := up_eq e9_
    have o193 : Ow W187 6 [] [pv9] z62 := (hN 9 (anyb rfl))
    have e10_ : vs 10 = .agg [.slice none 0 0, vS u49.Who, pv9].toArray := (hN 10 (anyb rfl))
    obtain ⟨vs, rfl⟩ := up_eq e10_
    obtain ⟨pg11, e11_⟩ : ∃ pg11, vs 11 = ptr (bx pg11) := ⟨_, ((hN 11 (anyb rfl))).1⟩
    obtain ⟨vs, rfl⟩ := up_eq e11_
    have o194 : Bx W187 7 pg11 [.slice none 0 0, vS ([] : Str), .slice none 0 0] := (hN 11 (anyb rfl)).2
    refine Tr.mono (T.sta (vs := [.slice none 0 0, vS u49.Who, pv9]) o194 rfl rfl (oc_cons rfl (oc_cons rfl (oc_cons o193.oc oc_nil))) rfl rfl) ?_
    rintro _ _ ⟨W195, rfl, l195, b195⟩
    exact ⟨W195, rfl, l195, (show (ptr (bx pg11)) = ptr (bx pg11) ∧ Bx W195 7 pg11 [.slice none 0 0, vS u49.Who, pv9] from ⟨rfl, b195⟩)⟩
   ·intro vs W lW hN
    obtain ⟨W202, hW202⟩ : ∃ X, X = W := ⟨W, rfl⟩
    subst hW202
    have a203 := a85.t lW rfl
    obtain ⟨l202, hl202⟩ : ∃ x, x = lW := ⟨lW, rfl⟩
    have e0_ : vs 0 = ptr ((bx g1).add 0) := (hN 0 (anyb rfl))
    obtain ⟨vs, rfl⟩ := up_eq e0_
    have e1_ : vs 1 = v0_0_ := (hN 1 (anyb rfl))
    obtain ⟨vs, rfl⟩ := up_eq e1_
    have e2_ : vs 2 = vI u41 := (hN 2 (anyb rfl))
    obtain ⟨vs, rfl⟩ := up_eq e2_
    have e3_ : vs 3 = ptr ((slA v0_0_).add ((u41).toNat * Rp.sz (Commit))) := (hN 3 (anyb rfl))
    obtain ⟨vs, rfl⟩ := up_eq e3_
    have e4_ : vs 4 = ptr (((slA v0_0_).add ((u41).toNat * Rp.sz (Commit))).add 1) := (hN 4 (anyb rfl))
    obtain ⟨vs, rfl⟩ := up_eq e4_
    have e5_ : vs 5 = vS u49.Who := (hN 5 (anyb rfl))
    obtain ⟨vs, rfl⟩ := up_eq e5_
    have e6_ : vs 6 = .agg [v0_0_, v0_1_].toArray := (hN 6 (anyb rfl))
    obtain ⟨vs, rfl⟩ := up_eq e6_
    have e7_ : vs 7 = vI u41 := (hN 7 (anyb rfl))
    obtain ⟨vs, rfl⟩ := up_eq e7_
    obtain ⟨pv8, e8_⟩ : ∃ v, vs 8 = v := ⟨_, rfl⟩
    obtain ⟨vs, rfl⟩ := up_eq e8_
    have o208 : Rd W202 [0] [pv8] z53 := (hN 8 (anyb rfl))
    obtain ⟨pv9, e9_⟩ : ∃ v, vs 9 = v := ⟨_, rfl⟩
    obtain ⟨vs, rfl⟩ := up_eq e9_
    have o209 : Ow W202 6 [] [pv9] z62 := (hN 9 (anyb rfl))
    have e10_ : vs 10 = .agg [.slice none 0 0, vS u49.Who, pv9].toArray := (hN 10 (anyb rfl))
    obtain ⟨vs, rfl⟩ := up_eq e10_
    obtain ⟨pg11, e11_⟩ : ∃ pg11, vs 11 = ptr (bx pg11) := ⟨_, (hN 12 (anyb rfl)).1⟩
    obtain ⟨vs, rfl⟩ := up_eq e11_
    have o210 : Bx W202 7 pg11 [.slice none 0 0, vS u49.Who, pv9] := (hN 12 (anyb rfl)).2
    refine ssr (fl (b89.up lW rfl) rfl (mi rfl ?_))
    obtain ⟨u211, e212, hm⟩ := ob hm
    refine Lw.r rfl (R.ix (α := Commit) (h0_0.ul a203) e212 rfl rfl rfl) (Lw.fa rfl ?_)
    obtain ⟨v214, c215, r216⟩ := (Commit.at0 ((h0_0.ul a203).at_ e212)).cell rfl
    refine Lw.r rfl (R.ld rfl rfl c215) (Lw.ln u211.Parents r216 rfl (mi rfl (nl (Cw.block ?_))))
    obtain ⟨K234, hK234, hm⟩ := jn_e hm
    refine Cw.loop 50 79 [6, 7, 14, 15, 16, 50] (fun m l w => ∃ y217 y220 y224 y225 y228 y229 v218 j221 j222 j223 v226 v230 W233, CW.w W233 = w ∧ Le [7, 8] W202 W233 ∧ l = [v218, vB y220, j221, j222, j223, vI y224] ∧ Ow W233 4 [] [v218] y217 ∧ Ow W233 8 [] [v226] y225 ∧ Ow W233 6 [] [v230] y229 ∧ Bx W233 7 pg11 [v226, vS y228, v230] ∧ Vm.impl_SendOf_l2 x1 z16 u211 K234 m y217 y220 y224 y225 y228 y229 = some r) _ ⟨y21, y24, 0, ([] : List Int), u49.Who, z62, v22, j30, j31, j32, .slice none 0 0, pv9, W202, rfl, Le.refl _ _, rfl, ((o23.up l84).up lW rfl), owN 8 [], o209, o210, hm⟩ ?_
    rintro (_ | m235) _ _ σ ⟨y217, y220, y224, y225, y228, y229, v218, j221, j222, j223, v226, v230, W233, rfl, l233, rfl, o219, o227, o231, b232, hm⟩
    ·cases hm
    unfold Vm.impl_SendOf_l2 at hm
    have a236 := l233.s
    refine sr (Lw.lt rfl (nl (Cw.seq (cn hm (fun hm => ?_) fun hm => ?_))))
    ·refine sk ?_
     obtain ⟨K257, hK257, hm⟩ := jn_e hm
     refine Cw.join 52 78 [6, 7, 14, 15, 16] (fun l w => ∃ y241 y244 y248 y251 y252 v242 j245 j246 j247 v249 v253 W256, CW.w W256 = w ∧ Le [7, 8] W233 W256 ∧ l = [v242, vB y244, j245, j246, j247] ∧ Ow W256 4 [] [v242] y241 ∧ Ow W256 8 [] [v249] y248 ∧ Ow W256 6 [] [v253] y252 ∧ Bx W256 7 pg11 [v249, vS y251, v253] ∧ K257 y241 y244 y248 y251 y252 = some r) ?_ ?_
     ·rintro _ _ σ ⟨y241, y244, y248, y251, y252, v242, j245, j246, j247, v249, v253, W256, rfl, l256, rfl, o243, o250, o254, b255, hm⟩
      rw [hK257] at hm
      exact rg (Lw.add rfl (mi rfl (nl ((agm) ⟨y241, y244, w64 (y224 + 1), y248, y251, y252, v242, j245, j246, j247, v249, v253, W256, rfl, (l233.j l256).w, rfl, o243, o250, o254, b255, hm⟩))))
     ·refine Cw.block (sr ?_)
      obtain ⟨u262, e263, hm⟩ := ob hm
      refine Lw.r rfl (R.ix (α := Int) (r216.ul a236) e263 rfl rfl rfl) (Lw.r rfl (R.ld rfl rfl ((r216.ul a236).at_ e263).int) (Ni rfl (sr (mv v0_18 rfl (mi rfl (ca hm (fun _ => p116 (K := [3]) (((o38.up l84).up lW rfl).up l233).rd) fun z265 W267 hm l267 => ?_))))))
      have a268 := (a203.trans a236).n l267
      refine mv v1_ rfl (mi rfl (ca hm (fun _ => p116 (h1.ul a268)) fun z277 W279 hm l279 => ?_))
      have a280 := a268.n l279
      have o282 := (o219.up l267).up l279
      have o284 := (o231.up l267).up l279
      have o285 := (o227.up l267).up l279
      have b287 := (b232.up l267).up l279
      refine Gi rfl (Ni rfl (Cw.block (sr (mi rfl (Lw.ge rfl (Nb rfl (cn hm (fun hm => ?_) fun hm => ?_)))))))
      ·refine rg (fl b287 rfl (mi rfl (Lw.t rfl (T.bs 9 [vI z265] (cs := [vI z265]) rfl rfl (bsv rfl)) ?_)))
       rintro _ _ ⟨g289, W289, rfl, rfl, l289, b289⟩
       obtain ⟨q298, e299, hm⟩ := ob hm
       refine Lw.t rfl (T.app1S (α := Int) (K' := []) (o285.up l289) b289 (rdI _) rfl rfl e299) ?_
       rintro v300 _ ⟨W300, rfl, l300, o300⟩
       refine Lw.fa rfl (Lw.u (T.st (j := 0) (v := v300) ((b287.up l289).up l300) rfl rfl o300.oc rfl rfl) ?_)
       rintro _ _ ⟨W309, rfl, l309, b309⟩
       exact nl ((ag) ⟨y217, y220, q298, y228, y229, v218, vI u262, vI z265, vI z277, v300, v230, W309, rfl, ((((l267.j l279).j l289).j l300).j l309).w, rfl, (((o282.up l289).up l300).up l309), (o300.up l309), (((o284.up l289).up l300).up l309), b309, hm⟩)
      ·refine sr (mi rfl (Lw.ge rfl (Nb rfl (cn hm (fun hm => ?_) fun hm => ?_))))
       ·refine rg (fl b287 rfl (mi rfl (Lw.sub rfl (Lw.t rfl (T.bs 10 [vI (w64 ((-1) - z277))] (cs := [vI (w64 ((-1) - z277))]) rfl rfl (bsv rfl)) ?_))))
        rintro _ _ ⟨g319, W319, rfl, rfl, l319, b319⟩
        obtain ⟨q328, e329, hm⟩ := ob hm
        refine Lw.t rfl (T.app1S (α := Int) (K' := []) (o285.up l319) b319 (rdI _) rfl rfl e329) ?_
        rintro v330 _ ⟨W330, rfl, l330, o330⟩
        refine Lw.fa rfl (Lw.u (T.st (j := 0) (v := v330) ((b287.up l319).up l330) rfl rfl o330.oc rfl rfl) ?_)
        rintro _ _ ⟨W339, rfl, l339, b339⟩
        exact nl ((ag) ⟨y217, y220, q328, y228, y229, v218, vI u262, vI z265, vI z277, v330, v230, W339, rfl, ((((l267.j l279).j l319).j l330).j l339).w, rfl, (((o282.up l319).up l330).up l339), (o330.up l339), (((o284.up l319).up l330).up l339), b339, hm⟩)
       ·refine sr (Gv (.slice none 0 0) rfl (Nb rfl ?_))
        cases hm
        exact Cw.ret (ret2 rfl rfl (Res.mk a280 ⟨.slice none 0 0, rfl, (owsN []).sub rfl rfl⟩))
    ·refine Cw.exit ?_
     rw [hK234] at hm
     refine rg (mv v26 rfl (la b232 (Lw.t rfl (T.bs 11 [.agg [v226, vS y228, v230].toArray] (cs := [v226, vS y228, v230]) rfl rfl (bsA rfl)) ?_)))
     rintro _ _ ⟨g348, W348, rfl, rfl, l348, b348⟩
     obtain ⟨q357, e358, hm⟩ := ob hm
     refine Lw.t rfl (T.app1 (α := Commit) (J := [8, 6]) (K' := []) ((((o27.up l84).up lW rfl).up l233).up l348) b348 (Commit.own y225 y228 y229 (o227.up l348).s (o231.up l348).s) rfl rfl e358) ?_
     rintro v359 _ ⟨W359, rfl, l359, o359⟩
     exact Nv v359 rfl (rg (Lw.add rfl (mi rfl (nl ((agm) ⟨y217, y220, q357, w64 (y33 + 1), v218, v359, vI u41, ptr (bx pg11), j221, j222, j223, W359, rfl, (((((l34.j l84).j l202).j l233).j l348).j l359).w, rfl, ((o219.up l348).up l359), o359, hm⟩)))))
  ·refine Cw.exit ?_
   rw [hK35] at hm
   refine sr (mv v26 rfl (Gv v26 rfl (Nb rfl ?_)))
   cases hm
   exact Cw.ret (ret2 rfl rfl (Res.mk a37 ⟨v26, rfl, o27.s.sub rfl rfl⟩))

theorem p44 {x0 v0_0_ v0_1_ x1 v1_ x2 k0 r} (h0 : Rd W K [v0_0_, v0_1_] x0) (h1 : Rd W K [v1_] x1) (h99 : Gl 0 W K) (hm : Vm.impl_SendOf x0 x1 x2 = some r) : Q1 44 [.agg [v0_0_, v0_1_].toArray, v1_, vI x2] W [] fun W' v => ∃ u0, v = .tuple [u0, vB r.2].toArray ∧ Ow W' k0 [] [u0] r.1 :=
 (c44 (h0.view _) (h1.view _) (h99.view _) hm).ad (fk k0) fun _ _ ⟨u0, e, f0⟩ => ⟨u0, e, f0.back (fk_LL _)⟩

end Go.Sx
