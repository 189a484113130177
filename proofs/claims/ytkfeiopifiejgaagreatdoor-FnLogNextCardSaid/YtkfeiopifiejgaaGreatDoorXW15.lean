/- Walks: each function answers as its model, printed by a program of ours. Conditions: the arguments read as they are given. -/
import Derived.Test.YtkfeiopifiejgaaGreatDoorXTs
import Derived.Test.YtkfeiopifiejgaaGreatDoorXM9
import Derived.Test.YtkfeiopifiejgaaGreatDoorXW0
import Derived.Test.YtkfeiopifiejgaaGreatDoorXW1
import Derived.Test.YtkfeiopifiejgaaGreatDoorXW12
import Derived.Test.YtkfeiopifiejgaaGreatDoorXW3
import Derived.Test.YtkfeiopifiejgaaGreatDoorXW6
import Derived.Test.YtkfeiopifiejgaaGreatDoorXW8
namespace Go.Sx
open Go Go.Proofs Go.Vm Rp
set_option linter.unusedVariables false
set_option linter.unusedSimpArgs false

variable {W W0 : CW} {K : List Nat}
theorem c61 {x0 g0_ v0_0_ x1 v1_0_ v1_1_ r} (hB0 : Bx W0 2 g0_ [v0_0_, vI x0.p]) (h0_0 : Rd W0 [0] [v0_0_] x0.b) (h1 : Rd W0 [0] [v1_0_, v1_1_] x1) (hm : Vm.spec_l30Some x0 x1 = some r) : Q0 61 [ptr (bx g0_), .agg [v1_0_, v1_1_].toArray] W0 fun Wf v => ∃ u0, v = u0 ∧ OwS Wf [31] [] [u0] r.1 ∧ Bx Wf 2 g0_ [v0_0_, vI r.2] := by
 unfold Vm.spec_l30Some at hm
 obtain ⟨w1_0, w1_1, he1, h1_0, h1_1⟩ := Repo.split h1
 simp only [List.cons.injEq, and_true, true_and] at he1
 obtain ⟨rfl, rfl⟩ := he1
 refine CallR.of Tryz.func61 rfl rfl rfl rfl (sr (bo 3 rfl fun g1 W1 l1 b1 => ?_))
 have a2 := l1.o
 have b3 := hB0.up l1
 refine Nv (.slice none 0 0) rfl (sr (Lw.t rfl (T.lit0 (α := Int) 4 []) ?_))
 rintro v4 _ ⟨W4, rfl, l4, o4⟩
 have a5 := a2.n l4
 refine Nv v4 rfl (ssr (mp rfl (cr hm (fun _ => p69 (c0 := 2) (x0 := x0) (b3.up l4) (h0_0.ul a5) rfl) ?_)))
 rintro z9 _ W11 hm l11 ⟨rfl, f11_0⟩
 have a12 := a5.t l11
 refine Ni rfl (Cw.block ?_)
 obtain ⟨K22, hK22, hm⟩ := jn_e hm
 refine Cw.loop 10 21 [5, 6] (fun m l w => ∃ y15 y18 y19 v16 W21, CW.w W21 = w ∧ Le [2, 4] W11 W21 ∧ l = [v16, vI y18] ∧ Ow W21 4 [] [v16] y15 ∧ Bx W21 2 g0_ [v0_0_, vI y19] ∧ Vm.spec_l30Some_l1 x0 x1 K22 m y15 y18 y19 = some r) _ ⟨([] : List Int), z9.1, z9.2, v4, W11, rfl, Le.refl _ _, rfl, (o4.up l11), f11_0, hm⟩ ?_
 rintro (_ | m23) _ _ σ ⟨y15, y18, y19, v16, W21, rfl, l21, rfl, o17, b20, hm⟩
 ·cases hm
 unfold Vm.spec_l30Some_l1 at hm
 have a24 := a12.t l21
 refine ssr (mi rfl (Lw.gt rfl (nl (cn hm (fun hm => ?_) fun hm => ?_))))
 ·refine sk (Cw.seq (Cw.block (rg (mv v16 rfl (mp rfl (fl (((b1.up l4).up l11).up l21) rfl (Lw.ln x1.Commits (h1_0.ul a24) rfl (cr hm (fun _ => p69 (c0 := 2) (x0 := (Vm.l30Rd.mk x0.b y19)) b20 (h0_0.ul a24) rfl) ?_))))))))
  rintro z29 _ W31 hm l31 ⟨rfl, f31_0⟩
  refine Lw.t rfl (T.bs 5 [vI z29.1] (cs := [vI z29.1]) rfl rfl (bsv rfl)) ?_
  rintro _ _ ⟨g35, W35, rfl, rfl, l35, b35⟩
  obtain ⟨q40, e41, hm⟩ := ob hm
  refine Lw.t rfl (T.app1S (α := Int) (K' := []) ((o17.up l31).up l35) b35 (rdI _) rfl rfl e41) ?_
  rintro v42 _ ⟨W42, rfl, l42, o42⟩
  exact Nv v42 rfl (rg (mi rfl (Lw.sub rfl (Ni rfl ((agm) ⟨q40, w64 (y18 - 1), z29.2, v42, W42, rfl, (((l21.j l31).j l35).j l42).w, rfl, o42, ((f31_0.up l35).up l42), hm⟩)))))
 ·refine Cw.exit ?_
  rw [hK22] at hm
  refine ssr (mp rfl (cr hm (fun _ => p69 (c0 := 2) (x0 := (Vm.l30Rd.mk x0.b y19)) b20 (h0_0.ul a24) rfl) ?_))
  rintro z48 _ W50 hm l50 ⟨rfl, f50_0⟩
  have a51 := a24.t l50
  refine Lw.eq rfl (nl (cn hm (fun hm => ?_) fun hm => ?_))
  ·refine sr (mv v16 rfl (Lw.t rfl (T.bs 6 [vI (-1)] (cs := [vI (-1)]) rfl rfl (bsv rfl)) ?_))
   rintro _ _ ⟨g55, W55, rfl, rfl, l55, b55⟩
   have a56 := a51.n l55
   obtain ⟨q60, e61, hm⟩ := ob hm
   refine Lw.t rfl (T.app1S (α := Int) (K' := []) ((o17.up l50).up l55) b55 (rdI _) rfl rfl e61) ?_
   rintro v62 _ ⟨W62, rfl, l62, o62⟩
   have a63 := a56.t l62
   refine Nv v62 rfl ?_
   obtain ⟨W67, ew67, l67, o67⟩ := o62.dyeO 31
   have a68 := a63.t l67
   cases hm
   rw [← ew67]
   exact Cw.ret (ret1 rfl (Res.mk a68 ⟨v62, rfl, o67.s, (((f50_0.up l55).up l62).up l67)⟩))
  ·refine sk (sr (mv v16 rfl (Nv v16 rfl ?_)))
   obtain ⟨W72, ew72, l72, o72⟩ := (o17.up l50).dyeO 31
   have a73 := a51.t l72
   cases hm
   rw [← ew72]
   exact Cw.ret (ret1 rfl (Res.mk a73 ⟨v16, rfl, o72.s, (f50_0.up l72)⟩))

theorem p61 {x0 g0_ v0_0_ x1 v1_0_ v1_1_ k0 c0 r} (hB0 : Bx W c0 g0_ [v0_0_, vI x0.p]) (h0_0 : Rd W K [v0_0_] x0.b) (h1 : Rd W K [v1_0_, v1_1_] x1) (hJ : okJ K [c0] = true) (hm : Vm.spec_l30Some x0 x1 = some r) : Q1 61 [ptr (bx g0_), .agg [v1_0_, v1_1_].toArray] W [c0] fun W' v => ∃ u0, v = u0 ∧ Ow W' k0 [] [u0] r.1 ∧ Bx W' c0 g0_ [v0_0_, vI r.2] :=
 CallR.adJ (J := [c0]) (fun c => bif Nat.beq c 0 then 0 else bif Nat.beq c 2 then c0 else bif Nat.beq c 31 then k0 else 0) (c61 (hB0.viewJ 0 hJ) (h0_0.view _) (h1.view _) hm) fun _ _ ⟨u0, e, f0, f1⟩ => ⟨u0, e, f0.one1.backN rfl, Bx.backJ 0 f1 rfl⟩

theorem c30 {x0 v0_ r} (h0 : Rd W0 [0] [v0_] x0) (hm : Vm.spec_DrawLogLeft x0 = some r) : Q0 30 [v0_] W0 fun Wf v => ∃ u0_0 u0_1 u1, v = .tuple [.agg [u0_0, u0_1].toArray, u1, vI r.2.2].toArray ∧ OwS Wf [31] [] [u0_0] r.1.Commits ∧ OwS Wf [32] [] [u0_1] r.1.Heads ∧ OwS Wf [33] [] [u1] r.2.1 := by
 unfold Vm.spec_DrawLogLeft at hm
 refine CallR.of Tryz.func30 rfl rfl rfl rfl (sr (al 2 [.slice none 0 0, .slice none 0 0] fun g1 W1 l1 b1 => ?_))
 have a2 := l1.o
 refine Gv (.slice none 0 0) rfl (Ni rfl (sr (mv v0_ rfl (cr hm (fun _ => p41 (k0 := 3) (h0.ul a2)) ?_))))
 rintro z4 _ W6 hm l6 ⟨g0_6, v0_0_6, rfl, f6_0, f6_1⟩
 have s7 := f6_1.sub (M := [0]) rfl
 have a8 := a2.n l6
 refine Np rfl (sr (mp rfl (cr hm (fun _ => p42 (k0 := 4) (k1 := 5) (c0 := 3) (x0 := z4) f6_0 s7 rfl) ?_)))
 rintro z10 _ W12 hm l12 ⟨v0_0_12, v0_1_12, rfl, f12_0, f12_1, f12_2⟩
 have a13 := l12.s
 refine al 6 [.slice none 0 0, .slice none 0 0] fun g15 W15 l15 b15 => ?_
 have a16 := l15.o
 refine sta b15 (oc_cons (f12_0.up l15).oc (oc_cons (f12_1.up l15).oc oc_nil)) fun W21 l21 b21 => ?_
 have a22 := l21.s
 have o23 := (f12_0.up l15).up l21
 have o24 := (f12_1.up l15).up l21
 refine nl (sr (mp rfl (la b21 (cr hm (fun _ => p61 (K := [0, 4, 5]) (k0 := 7) (c0 := 3) (x0 := (Vm.l30Rd.mk z4.b z10.2)) (x1 := (Vm.Repo.mk z10.1.Commits z10.1.Heads)) ((f12_2.up l15).up l21) ((s7.ul ((a13.trans a16).trans a22)).sub (M := [0, 4, 5]) rfl) ((Repo.rd (K := [4, 5]) z10.1.Commits z10.1.Heads (o23.rd.sub (M := [4, 5]) rfl) (o24.rd.sub (M := [4, 5]) rfl)).sub (M := [0, 4, 5]) rfl) rfl) ?_))))
 rintro z28 v0_30 W30 hm l30 ⟨_, rfl, f30_0, f30_1⟩
 have a31 := l30.s
 refine Nv v0_30 rfl (Cw.seq (Cw.draw [2, 3] [(0, 1), (1, 0), (2, 0), (3, 1), (4, 2), (5, 2), (6, 0), (7, 0)] mixed (by kernel_rfl) fun W36 l36 => ?_))
 have a37 := l36.o
 have o38 := (o23.up l30).up l36
 have o39 := (o24.up l30).up l36
 have b43 := (b21.up l30).up l36
 refine Mw.q rfl rfl (fun _ c => R.lda (cs := [v0_0_12, v0_1_12]) (b43.clcs rfl c) rfl rfl) (Dv v0_30 rfl (Dp rfl (Mw.q rfl rfl (fun _ c => R.lda (cs := [v0_0_12, v0_1_12]) (b43.clcs rfl c) rfl rfl) ?_)))
 obtain ⟨z45, e46, hm⟩ := ob hm
 refine Mw.t rfl rfl (T.call rfl (p43 (K := [0, 4, 5])  (c0 := 3) (x0 := (Vm.l30Rd.mk z4.b z28.2)) (x1 := (Vm.Repo.mk z10.1.Commits z10.1.Heads)) (f30_1.up l36) ((s7.ul ((((a13.trans a16).trans a22).trans a31).trans a37)).sub (M := [0, 4, 5]) rfl) ((Repo.rd (K := [4, 5]) z10.1.Commits z10.1.Heads (o38.rd.sub (M := [4, 5]) rfl) (o39.rd.sub (M := [4, 5]) rfl)).sub (M := [0, 4, 5]) rfl) rfl e46)) ?_
 rintro _ _ ⟨W47, rfl, l47, ⟨rfl, f47_0⟩⟩
 have a48 := (((((a8.trans a13).trans a16).trans a22).trans a31).trans a37).t l47
 refine m0 l47 fun d47 => Mw.tu rfl (T.sta (vs := [v0_0_12, v0_1_12]) (((((((b1.up l6).up l12).up l15).up l21).up l30).up l36).up l47) rfl rfl (oc_cons (o38.up l47).oc (oc_cons (o39.up l47).oc oc_nil)) rfl rfl) ?_
 rintro _ _ ⟨W54, rfl, l54, b54⟩
 have a55 := a48.t l54
 refine mc d47 l54 fun d54 => Hv v0_30 rfl (Hi rfl (Mw.nil ?_))
 obtain ⟨W61, ew61, l61, o61⟩ := ((o38.up l47).up l54).dyeO 31
 have a62 := a55.t l61
 obtain ⟨W68, ew68, l68, o68⟩ := (((o39.up l47).up l54).up l61).dyeO 32
 have a69 := a62.t l68
 obtain ⟨W75, ew75, l75, o75⟩ := (((((f30_0.up l36).up l47).up l54).up l61).up l68).dyeO 33
 have a76 := a69.t l75
 cases hm
 rw [← ew75.trans (ew68.trans (ew61))]
 exact Cw.ret (retG (ResOk.c rfl (((b54.up l61).up l68).up l75) (ResOk.t rfl (ResOk.t rfl ResOk.n))) (Res.mk a76 ⟨v0_0_12, v0_1_12, v0_30, rfl, ((o61.up l68).up l75).s, (o68.up l75).s, o75.s⟩))

theorem p30 {x0 v0_ k0 k1 k2 r} (h0 : Rd W K [v0_] x0) (hm : Vm.spec_DrawLogLeft x0 = some r) : Q1 30 [v0_] W [] fun W' v => ∃ u0_0 u0_1 u1, v = .tuple [.agg [u0_0, u0_1].toArray, u1, vI r.2.2].toArray ∧ Ow W' k0 [] [u0_0] r.1.Commits ∧ Ow W' k1 [] [u0_1] r.1.Heads ∧ Ow W' k2 [] [u1] r.2.1 :=
 CallR.adJ (J := []) (fun c => bif Nat.beq c 0 then 0 else bif Nat.beq c 31 then k0 else bif Nat.beq c 32 then k1 else bif Nat.beq c 33 then k2 else 0) (c30 (h0.view _) hm) fun _ _ ⟨u0_0, u0_1, u1, e, f0, f1, f2⟩ => ⟨u0_0, u0_1, u1, e, f0.one1.backN rfl, f1.one1.backN rfl, f2.one1.backN rfl⟩

theorem c62 {x0 v0_0_ v0_1_ x1 v1_ x2 r} (h0 : Rd W0 [0] [v0_0_, v0_1_] x0) (h1 : Rd W0 [0] [v1_] x1) (h99 : Gl 0 W0 [0]) (hm : Vm.impl_Repo_areSuspect x0 x1 x2 = some r) : Q0 62 [.agg [v0_0_, v0_1_].toArray, v1_, vI x2] W0 fun Wf v => v = vB r := by
 unfold Vm.impl_Repo_areSuspect at hm
 obtain ⟨w0_0, w0_1, he0, h0_0, h0_1⟩ := Repo.split h0
 simp only [List.cons.injEq, and_true, true_and] at he0
 obtain ⟨rfl, rfl⟩ := he0
 refine CallR.of Tryz.func62 rfl rfl rfl rfl (sr (bo 2 rfl fun g1 W1 l1 b1 => ?_))
 have a2 := l1.o
 refine Nb rfl ?_
 obtain ⟨K5, hK5, hm⟩ := jn_e hm
 refine Cw.join 7 19 [6] (fun l w => ∃ y3 W4, CW.w W4 = w ∧ Le [] W1 W4 ∧ l = [vB y3] ∧ K5 y3 = some r) ?_ ?_
 ·rintro _ _ σ ⟨y3, W4, rfl, l4, rfl, hm⟩
  rw [hK5] at hm
  have a6 := a2.n l4
  exact .ret (rt hm a6)
 ·refine rg (la b1 (mv v1_ rfl (ca hm (fun _ => p37 (Repo.rd (K := [0]) x0.Commits x0.Heads (h0_0.ul a2) (h0_1.ul a2)) (h1.ul a2) (h99.ul a2)) fun z12 W14 hm l14 => ?_)))
  have a15 := a2.n l14
  refine mb rfl (bs hm (fun hc17 hm => ?_) fun hc17 hm => ?_)
  ·refine wak 3 hc17 (mv v1_ rfl (Lw.ln x1 (h1.ul a15) rfl (Lw.le rfl (Pb hc17 rfl (mb rfl (bs hm (fun hc19 hm => ?_) fun hc19 hm => ?_))))))
   ·exact wak 3 hc19 (la (b1.up l14) (mi rfl (ca hm (fun _ => p65 (Repo.rd (K := [0]) x0.Commits x0.Heads (h0_0.ul a15) (h0_1.ul a15))) fun z22 W24 hm l24 => Pb hc19 rfl (Nb rfl ((ag) ⟨z22, W24, rfl, (l14.j l24).w, rfl, hm⟩)))))
   ·exact psk 3 hc19 rfl (Pb hc19 rfl (Nb rfl ((ag) ⟨false, W14, rfl, l14, rfl, hm⟩)))
  ·exact psk 3 hc17 rfl (Pb hc17 rfl (mb rfl (psk 3 rfl rfl (Pb rfl rfl (Nb rfl ((ag) ⟨false, W14, rfl, l14, rfl, hm⟩))))))

theorem p62 {x0 v0_0_ v0_1_ x1 v1_ x2 r} (h0 : Rd W K [v0_0_, v0_1_] x0) (h1 : Rd W K [v1_] x1) (h99 : Gl 0 W K) (hm : Vm.impl_Repo_areSuspect x0 x1 x2 = some r) : Q1 62 [.agg [v0_0_, v0_1_].toArray, v1_, vI x2] W [] fun W' v => v = vB r :=
 (c62 (h0.view _) (h1.view _) (h99.view _) hm).ad (fk 0) fun _ _ e => e

theorem c31 {x0 v0_0_ v0_1_ x1 v1_ x2 r} (h0 : Rd W0 [0] [v0_0_, v0_1_] x0) (h1 : Rd W0 [0] [v1_] x1) (h99 : Gl 0 W0 [0]) (hm : Vm.impl_LogLeft x0 x1 x2 = some r) : Q0 31 [.agg [v0_0_, v0_1_].toArray, v1_, vI x2] W0 fun Wf v => ∃ u0, v = u0 ∧ OwS Wf LL [] [u0] r := by
 unfold Vm.impl_LogLeft at hm
 obtain ⟨w0_0, w0_1, he0, h0_0, h0_1⟩ := Repo.split h0
 simp only [List.cons.injEq, and_true, true_and] at he0
 obtain ⟨rfl, rfl⟩ := he0
 refine CallR.of Tryz.func31 rfl rfl rfl rfl (sr (bo 2 rfl fun g1 W1 l1 b1 => ?_))
 have a2 := l1.o
 refine Nv (.slice none 0 0) rfl (ssr (la b1 (mv v1_ rfl (mi rfl (ca hm (fun _ => p62 (Repo.rd (K := [0]) x0.Commits x0.Heads (h0_0.ul a2) (h0_1.ul a2)) (h1.ul a2) (h99.ul a2)) fun z7 W9 hm l9 => ?_)))))
 have a10 := a2.n l9
 refine Lw.r rfl (R.not rfl) (nl (cn hm (fun hm => ?_) fun hm => ?_))
 ·refine sr (Nv (.slice none 0 0) rfl ?_)
  cases hm
  exact Cw.ret (ret1 rfl (Res.mk a10 ⟨.slice none 0 0, rfl, (owsN []).sub rfl rfl⟩))
 ·refine sk (sr (la (b1.up l9) (mi rfl (mv v1_ rfl (cr hm (fun _ => p56 (k0 := 3) (Repo.rd (K := [0]) x0.Commits x0.Heads (h0_0.ul a10) (h0_1.ul a10)) (h1.ul a10)) ?_)))))
  rintro z16 v0_18 W18 hm l18 ⟨_, rfl, f18_0⟩
  have a19 := a10.n l18
  refine Nv v0_18 rfl ?_
  cases hm
  exact Cw.ret (ret1 rfl (Res.mk a19 ⟨v0_18, rfl, f18_0.s.sub rfl rfl⟩))

theorem p31 {x0 v0_0_ v0_1_ x1 v1_ x2 k0 r} (h0 : Rd W K [v0_0_, v0_1_] x0) (h1 : Rd W K [v1_] x1) (h99 : Gl 0 W K) (hm : Vm.impl_LogLeft x0 x1 x2 = some r) : Q1 31 [.agg [v0_0_, v0_1_].toArray, v1_, vI x2] W [] fun W' v => ∃ u0, v = u0 ∧ Ow W' k0 [] [u0] r :=
 (c31 (h0.view _) (h1.view _) (h99.view _) hm).ad (fk k0) fun _ _ ⟨u0, e, f0⟩ => ⟨u0, e, f0.back (fk_LL _)⟩

theorem c63 {x0 v0_0_ v0_1_ x1 v1_ r} (h0 : Rd W0 [0] [v0_0_, v0_1_] x0) (h1 : Rd W0 [0] [v1_] x1) (hm : Vm.spec_l12Any x0 x1 = some r) : Q0 63 [.agg [v0_0_, v0_1_].toArray, v1_] W0 fun Wf v => v = vB r := by
 unfold Vm.spec_l12Any at hm
 obtain ⟨w0_0, w0_1, he0, h0_0, h0_1⟩ := Repo.split h0
 simp only [List.cons.injEq, and_true, true_and] at he0
 obtain ⟨rfl, rfl⟩ := he0
 refine CallR.of Tryz.func63 rfl rfl rfl rfl (sr (bo 2 rfl fun g1 W1 l1 b1 => ?_))
 have a2 := l1.o
 refine Nb rfl (ssr (Ni rfl (Cw.block ?_)))
 obtain ⟨K6, hK6, hm⟩ := jn_e hm
 refine Cw.loop 6 21 [4, 5] (fun m l w => ∃ y3 y4 W5, CW.w W5 = w ∧ Le [] W1 W5 ∧ l = [vB y3, vI y4] ∧ Vm.spec_l12Any_l1 x0 x1 K6 m y3 y4 = some r) _ ⟨false, 0, W1, rfl, Le.refl _ _, rfl, hm⟩ ?_
 rintro (_ | m7) _ _ σ ⟨y3, y4, W5, rfl, l5, rfl, hm⟩
 ·cases hm
 unfold Vm.spec_l12Any_l1 at hm
 have a8 := a2.n l5
 refine ssr (mi rfl (mv v1_ rfl (Lw.ln x1 (h1.ul a8) rfl (Lw.lt rfl (nl (cn hm (fun hm => ?_) fun hm => ?_))))))
 ·refine sk (Cw.seq (Cw.block (Cw.seq (Cw.draw [] [(0, 0), (1, 0), (2, 0), (3, 1), (4, 0), (5, 1), (6, 0), (7, 0), (8, 2), (9, 0)] mixed (by kernel_rfl) fun W12 l12 => ?_))))
  have a13 := a8.n l12
  refine Dv v1_ rfl (Di rfl ?_)
  obtain ⟨u15, e16, hm⟩ := ob hm
  refine Mw.p rfl rfl (fun _ => R.ix (α := Int) (h1.ul a13) e16 rfl rfl rfl) (Mw.q rfl rfl (fun _ c => R.ld rfl rfl (cl_cell ((h1.ul a13).at_ e16).1 rfl ((h1.ul a13).at_ e16).int c)) (Dfl ((b1.up l5).up l12) rfl rfl rfl (Mw.p rfl rfl (fun _ => lenR (xs := x0.Commits) (h0_0.ul a13) rfl) (Mw.p rfl rfl (fun _ => R.sub rfl rfl) ?_))))
  obtain ⟨z19, e20, hm⟩ := ob hm
  refine Mw.t rfl rfl (T.call rfl (p39   e20)) ?_
  rintro _ _ ⟨W21, rfl, l21, rfl⟩
  have a22 := a13.n l21
  refine m0 l21 fun d21 => Mw.p rfl rfl (fun _ => R.not rfl) (Mw.nil (cn hm (fun hm => ?_) fun hm => ?_))
  ·exact sr (Nb rfl (.ret (rt hm a22)))
  ·exact sk (rg (mi rfl (Lw.add rfl (Ni rfl ((agm) ⟨y3, w64 (y4 + 1), W21, rfl, ((l5.j l12).j l21).w, rfl, hm⟩)))))
 ·refine Cw.exit ?_
  rw [hK6] at hm
  exact sr (mv v1_ rfl (Lw.ln x1 (h1.ul a8) rfl (Lw.le rfl (Nb rfl (.ret (rt hm a8))))))

theorem p63 {x0 v0_0_ v0_1_ x1 v1_ r} (h0 : Rd W K [v0_0_, v0_1_] x0) (h1 : Rd W K [v1_] x1) (hm : Vm.spec_l12Any x0 x1 = some r) : Q1 63 [.agg [v0_0_, v0_1_].toArray, v1_] W [] fun W' v => v = vB r :=
 (c63 (h0.view _) (h1.view _) hm).ad (fk 0) fun _ _ e => e

theorem c64 {x0 v0_0_ v0_1_ x1 v1_ x2 r} (h0 : Rd W0 [0] [v0_0_, v0_1_] x0) (h1 : Rd W0 [0] [v1_] x1) (hm : Vm.spec_l12Left x0 x1 x2 = some r) : Q0 64 [.agg [v0_0_, v0_1_].toArray, v1_, vI x2] W0 fun Wf v => ∃ u0, v = u0 ∧ OwS Wf LL [] [u0] r := by
 unfold Vm.spec_l12Left at hm
 obtain ⟨w0_0, w0_1, he0, h0_0, h0_1⟩ := Repo.split h0
 simp only [List.cons.injEq, and_true, true_and] at he0
 obtain ⟨rfl, rfl⟩ := he0
 refine CallR.of Tryz.func64 rfl rfl rfl rfl (sr (bo 2 rfl fun g1 W1 l1 b1 => ?_))
 have a2 := l1.o
 refine Nv (.slice none 0 0) rfl (sr (la b1 (mi rfl (cr hm (fun _ => p47 (k0 := 3) (Repo.rd (K := [0]) x0.Commits x0.Heads (h0_0.ul a2) (h0_1.ul a2))) ?_))))
 rintro z5 v0_7 W7 hm l7 ⟨_, rfl, f7_0⟩
 have a8 := a2.n l7
 refine Nv v0_7 rfl (sr (Lw.t rfl (T.lit0 (α := Int) 4 []) ?_))
 rintro v10 _ ⟨W10, rfl, l10, o10⟩
 have a11 := a8.n l10
 refine Nv v10 rfl (ssr (Ni rfl (Cw.block ?_)))
 obtain ⟨K21, hK21, hm⟩ := jn_e hm
 refine Cw.loop 16 50 [8, 9, 10, 11] (fun m l w => ∃ y14 y17 v15 j18 j19 W20, CW.w W20 = w ∧ Le [4] W10 W20 ∧ l = [v15, vI y17, j18, j19] ∧ Ow W20 4 [] [v15] y14 ∧ Vm.spec_l12Left_l1 x0 x1 z5 K21 m y14 y17 = some r) _ ⟨([] : List Int), 0, v10, undef, undef, W10, rfl, Le.refl _ _, rfl, o10, hm⟩ ?_
 rintro (_ | m22) _ _ σ ⟨y14, y17, v15, j18, j19, W20, rfl, l20, rfl, o16, hm⟩
 ·cases hm
 unfold Vm.spec_l12Left_l1 at hm
 have a23 := a11.t l20
 have o24 := (f7_0.up l10).up l20
 refine ssr (mi rfl (mv v0_7 rfl (Lw.ln z5 o24.rd rfl (Lw.lt rfl (nl (cn hm (fun hm => ?_) fun hm => ?_))))))
 ·refine sk ?_
  obtain ⟨K33, hK33, hm⟩ := jn_e hm
  refine Cw.join 22 50 [8, 10, 11] (fun l w => ∃ y27 v28 j30 j31 W32, CW.w W32 = w ∧ Le [4] W20 W32 ∧ l = [v28, j30, j31] ∧ Ow W32 4 [] [v28] y27 ∧ K33 y27 = some r) ?_ ?_
  ·rintro _ _ σ ⟨y27, v28, j30, j31, W32, rfl, l32, rfl, o29, hm⟩
   rw [hK33] at hm
   exact rg (mi rfl (Lw.add rfl (Ni rfl ((agm) ⟨y27, w64 (y17 + 1), v28, j30, j31, W32, rfl, (l20.j l32).w, rfl, o29, hm⟩))))
  ·refine Cw.block (sr (Nb rfl (ssr (Ni rfl (Cw.block ?_)))))
   obtain ⟨K40, hK40, hm⟩ := jn_e hm
   refine Cw.loop 22 42 [10, 11] (fun m l w => ∃ y37 y38 W39, CW.w W39 = w ∧ Le [] W20 W39 ∧ l = [vB y37, vI y38] ∧ Vm.spec_l12Left_l2 x0 x1 z5 y17 K40 m y37 y38 = some r) _ ⟨true, 0, W20, rfl, Le.refl _ _, rfl, hm⟩ ?_
   rintro (_ | m41) _ _ σ ⟨y37, y38, W39, rfl, l39, rfl, hm⟩
   ·cases hm
   unfold Vm.spec_l12Left_l2 at hm
   have a42 := a23.n l39
   have o43 := o24.up l39
   refine ssr (mi rfl (mv v1_ rfl (Lw.ln x1 (h1.ul a42) rfl (Lw.lt rfl (nl (cn hm (fun hm => ?_) fun hm => ?_))))))
   ·refine sk (Cw.seq (Cw.block (Cw.draw [] [(0, 0), (1, 0), (2, 1), (3, 0), (4, 0), (5, 0), (6, 1), (8, 0), (9, 0), (10, 0), (11, 1), (7, 2), (12, 2), (13, 0), (14, 0), (15, 0)] mixed (by kernel_rfl) fun W48 l48 => ?_)))
    have a49 := a42.n l48
    have o50 := o43.up l48
    refine Db rfl (Db rfl (bs hm (fun hc53 hm => ?_) fun hc53 hm => ?_))
    ·refine Wq hc53 rfl (fun _ c => R.lda (cs := [v0_0_, v0_1_]) ((((((b1.up l7).up l10).up l20).up l39).up l48).clcs rfl c) rfl rfl) (Wp hc53 rfl (fun _ => R.mv (v := v1_) rfl) (Wp hc53 rfl (fun _ => R.mv (v := vI y38) rfl) ?_))
     obtain ⟨u54, e55, hm⟩ := ob hm
     refine Wp hc53 rfl (fun _ => R.ix (α := Int) (h1.ul a49) e55 rfl rfl rfl) (Wq hc53 rfl (fun _ c => R.ld rfl rfl (cl_cell ((h1.ul a49).at_ e55).1 rfl ((h1.ul a49).at_ e55).int c)) (Wp hc53 rfl (fun _ => R.mv (v := v0_7) rfl) (Wp hc53 rfl (fun _ => R.mv (v := vI y17) rfl) ?_)))
     obtain ⟨u57, e58, hm⟩ := ob hm
     refine Wp hc53 rfl (fun _ => R.ix (α := Int) o50.rd e58 rfl rfl rfl) (Wq hc53 rfl (fun _ c => R.ld rfl rfl (cl_cell (o50.rd.at_ e58).1 rfl (o50.rd.at_ e58).int c)) ?_)
     obtain ⟨z61, e62, hm⟩ := ob hm
     refine Wt hc53 rfl (T.call rfl (p47 (k0 := 5) (Repo.rd (K := [0]) x0.Commits x0.Heads (h0_0.ul a49) (h0_1.ul a49)) e62)) ?_
     rintro v0_63 _ ⟨W63, rfl, l63, ⟨_, rfl, f63_0⟩⟩
     refine m0 l63 fun d63 => ?_
     obtain ⟨z68, e69, hm⟩ := ob hm
     refine Wt hc53 rfl (T.call rfl (p57 (K := [5])  f63_0.rd e69)) ?_
     rintro _ _ ⟨W70, rfl, l70, rfl⟩
     exact mc d63 l70 fun d70 => Wp hc53 rfl (fun _ => R.not rfl) (Mw.p rfl rfl (fun _ => R.pk hc53 rfl (v := vB (!z68)) rfl) (Hb rfl (Mw.nil (rg (mi rfl (Lw.add rfl (Ni rfl ((agm) ⟨(!z68), w64 (y38 + 1), W70, rfl, (((l39.j l48).j l63).j l70).w, rfl, hm⟩))))))))
    ·exact dps 12 hc53 rfl (Mw.p rfl rfl (fun _ => R.pk hc53 rfl (v := vB false) rfl) (Hb rfl (Mw.nil (rg (mi rfl (Lw.add rfl (Ni rfl ((agm) ⟨false, w64 (y38 + 1), W48, rfl, (l39.j l48).w, rfl, hm⟩))))))))
   ·refine Cw.exit ?_
    rw [hK40] at hm
    refine sr (mb rfl (nl (cn hm (fun hm => ?_) fun hm => ?_)))
    ·refine rg (mv v15 rfl (mv v0_7 rfl (mi rfl ?_)))
     obtain ⟨u77, e78, hm⟩ := ob hm
     refine Lw.r rfl (R.ix (α := Int) o43.rd e78 rfl rfl rfl) (Lw.r rfl (R.ld rfl rfl (o43.rd.at_ e78).int) (Lw.t rfl (T.bs 6 [vI u77] (cs := [vI u77]) rfl rfl (bsv rfl)) ?_))
     rintro _ _ ⟨g79, W79, rfl, rfl, l79, b79⟩
     obtain ⟨q84, e85, hm⟩ := ob hm
     refine Lw.t rfl (T.app1S (α := Int) (K' := []) ((o16.up l39).up l79) b79 (rdI _) rfl rfl e85) ?_
     rintro v86 _ ⟨W86, rfl, l86, o86⟩
     exact Nv v86 rfl ((ag) ⟨q84, v86, vB y37, vI y38, W86, rfl, ((l39.j l79).j l86).w, rfl, o86, hm⟩)
    ·exact sk ((ag) ⟨y14, v15, vB y37, vI y38, W39, rfl, l39.w, rfl, (o16.up l39), hm⟩)
 ·refine Cw.exit ?_
  rw [hK21] at hm
  refine sr (mv v15 rfl (Nv v15 rfl ?_))
  cases hm
  exact Cw.ret (ret1 rfl (Res.mk a23 ⟨v15, rfl, o16.s.sub rfl rfl⟩))

theorem p64 {x0 v0_0_ v0_1_ x1 v1_ x2 k0 r} (h0 : Rd W K [v0_0_, v0_1_] x0) (h1 : Rd W K [v1_] x1) (hm : Vm.spec_l12Left x0 x1 x2 = some r) : Q1 64 [.agg [v0_0_, v0_1_].toArray, v1_, vI x2] W [] fun W' v => ∃ u0, v = u0 ∧ Ow W' k0 [] [u0] r :=
 (c64 (h0.view _) (h1.view _) hm).ad (fk k0) fun _ _ ⟨u0, e, f0⟩ => ⟨u0, e, f0.back (fk_LL _)⟩

theorem c32 {x0 v0_0_ v0_1_ x1 v1_ x2 r} (h0 : Rd W0 [0] [v0_0_, v0_1_] x0) (h1 : Rd W0 [0] [v1_] x1) (hm : Vm.spec_LogLeft x0 x1 x2 = some r) : Q0 32 [.agg [v0_0_, v0_1_].toArray, v1_, vI x2] W0 fun Wf v => ∃ u0, v = u0 ∧ OwS Wf LL [] [u0] r := by
 unfold Vm.spec_LogLeft at hm
 obtain ⟨w0_0, w0_1, he0, h0_0, h0_1⟩ := Repo.split h0
 simp only [List.cons.injEq, and_true, true_and] at he0
 obtain ⟨rfl, rfl⟩ := he0
 refine CallR.of Tryz.func32 rfl rfl rfl rfl (sr (bo 2 rfl fun g1 W1 l1 b1 => ?_))
 have a2 := l1.o
 refine Nv (.slice none 0 0) rfl (Cw.seq ?_)
 obtain ⟨K5, hK5, hm⟩ := jn_e hm
 refine Cw.join 7 24 [24] (fun l w => ∃ y3 W4, CW.w W4 = w ∧ Le [] W1 W4 ∧ l = [vB y3] ∧ K5 y3 = some r) ?_ ?_
 ·rintro _ _ σ ⟨y3, W4, rfl, l4, rfl, hm⟩
  rw [hK5] at hm
  have a6 := a2.n l4
  refine cn hm (fun hm => ?_) fun hm => ?_
  ·refine sr (Nv (.slice none 0 0) rfl ?_)
   cases hm
   exact Cw.ret (ret1 rfl (Res.mk a6 ⟨.slice none 0 0, rfl, (owsN []).sub rfl rfl⟩))
  ·refine sk (sr (la (b1.up l4) (mv v1_ rfl (mi rfl (cr hm (fun _ => p64 (k0 := 3) (Repo.rd (K := [0]) x0.Commits x0.Heads (h0_0.ul a6) (h0_1.ul a6)) (h1.ul a6)) ?_)))))
   rintro z12 v0_14 W14 hm l14 ⟨_, rfl, f14_0⟩
   have a15 := a6.n l14
   refine Nv v0_14 rfl ?_
   cases hm
   exact Cw.ret (ret1 rfl (Res.mk a15 ⟨v0_14, rfl, f14_0.s.sub rfl rfl⟩))
 ·refine rg (la b1 (ca hm (fun _ => p38 (Repo.rd (K := [0]) x0.Commits x0.Heads (h0_0.ul a2) (h0_1.ul a2))) fun z19 W21 hm l21 => ?_))
  have a22 := a2.n l21
  refine Lw.r rfl (R.not rfl) (mb rfl (bs hm (fun hc24 hm => ?_) fun hc24 hm => ?_))
  ·exact psk 7 hc24 rfl (Pb hc24 rfl (mb rfl (psk 4 rfl rfl (Pb rfl rfl (nl ((ag) ⟨true, W21, rfl, l21, rfl, hm⟩))))))
  ·refine wak 7 hc24 (mi rfl (fl (b1.up l21) rfl (Lw.ln x0.Commits (h0_0.ul a22) rfl (Lw.sub rfl (ca hm (fun _ => p39) fun z26 W28 hm l28 => ?_)))))
   have a29 := a22.n l28
   refine Lw.r rfl (R.not rfl) (Pb hc24 rfl (mb rfl (bs hm (fun hc31 hm => ?_) fun hc31 hm => ?_)))
   ·exact psk 4 hc31 rfl (Pb hc31 rfl (nl ((ag) ⟨true, W28, rfl, (l21.j l28).w, rfl, hm⟩)))
   ·exact wak 4 hc31 (la ((b1.up l21).up l28) (mv v1_ rfl (ca hm (fun _ => p63 (Repo.rd (K := [0]) x0.Commits x0.Heads (h0_0.ul a29) (h0_1.ul a29)) (h1.ul a29)) fun z35 W37 hm l37 => Lw.r rfl (R.not rfl) (Pb hc31 rfl (nl ((ag) ⟨(!z35), W37, rfl, ((l21.j l28).j l37).w, rfl, hm⟩))))))

theorem p32 {x0 v0_0_ v0_1_ x1 v1_ x2 k0 r} (h0 : Rd W K [v0_0_, v0_1_] x0) (h1 : Rd W K [v1_] x1) (hm : Vm.spec_LogLeft x0 x1 x2 = some r) : Q1 32 [.agg [v0_0_, v0_1_].toArray, v1_, vI x2] W [] fun W' v => ∃ u0, v = u0 ∧ Ow W' k0 [] [u0] r :=
 (c32 (h0.view _) (h1.view _) hm).ad (fk k0) fun _ _ ⟨u0, e, f0⟩ => ⟨u0, e, f0.back (fk_LL _)⟩

end Go.Sx
