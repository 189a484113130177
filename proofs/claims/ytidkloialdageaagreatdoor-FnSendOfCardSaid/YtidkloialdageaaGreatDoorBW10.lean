/- Walks: each function answers as its model, printed by a program of ours. Conditions: the arguments read as they are given. -/
import Derived.Test.YtidkloialdageaaGreatDoorBTs
import Derived.Test.YtidkloialdageaaGreatDoorBM4
import Derived.Test.YtidkloialdageaaGreatDoorBW0
import Derived.Test.YtidkloialdageaaGreatDoorBW1
import Derived.Test.YtidkloialdageaaGreatDoorBW3
import Derived.Test.YtidkloialdageaaGreatDoorBW6
import Derived.Test.YtidkloialdageaaGreatDoorBW7
import Derived.Test.YtidkloialdageaaGreatDoorBW8
namespace Go.Sx
open Go Go.Proofs Go.Vm Rp
set_option linter.unusedVariables false
set_option linter.unusedSimpArgs false

variable {W W0 : CW} {K : List Nat}
theorem c111 {x0 g0_ v0_0_ x1 v1_0_ v1_1_ r} (hB0 : Bx W0 2 g0_ [v0_0_, vI x0.p]) (h0_0 : Rd W0 [0] [v0_0_] x0.b) (h1 : Rd W0 [0] [v1_0_, v1_1_] x1) (hm : Vm.spec_l30Some x0 x1 = some r) : Q0 111 [ptr (bx g0_), .agg [v1_0_, v1_1_].toArray] W0 fun Wf v => ∃ u0, v = u0 ∧ OwS Wf [31] [] [u0] r.1 ∧ Bx Wf 2 g0_ [v0_0_, vI r.2] := by
 unfold Vm.spec_l30Some at hm
 obtain ⟨w1_0, w1_1, he1, h1_0, h1_1⟩ := Repo.split h1
 simp only [List.cons.injEq, and_true, true_and] at he1
 obtain ⟨rfl, rfl⟩ := he1
 refine CallR.of Tryz.func111 rfl rfl rfl rfl (sr (bo 3 rfl fun g1 W1 l1 b1 => ?_))
 have a2 := l1.o
 have b3 := hB0.up l1
 refine Nv (.slice none 0 0) rfl (sr (Lw.t rfl (T.lit0 (α := Int) 4 []) ?_))
 rintro v4 _ ⟨W4, rfl, l4, o4⟩
 have a5 := a2.n l4
 refine Nv v4 rfl (ssr (mp rfl (cr hm (fun _ => p85 (c0 := 2) (x0 := x0) (b3.up l4) (h0_0.ul a5) rfl) ?_)))
 rintro z9 _ W11 hm l11 ⟨rfl, f11_0⟩
 have a12 := a5.t l11
 refine Ni rfl (Cw.block ?_)
 obtain ⟨K22, hK22, hm⟩ := jn_e hm
 refine Cw.loop 10 21 [5, 6] (fun m l w => ∃ y15 y18 y19 v16 W21, CW.w W21 = w ∧ Le [2, 4] W11 W21 ∧ l = [v16, vI y18] ∧ Ow W21 4 [] [v16] y15 ∧ Bx W21 2 g0_ [v0_0_, vI y19] ∧ Vm.spec_l30Some_l1 x0 x1 K22 m y15 y18 y19 = some r) _ ⟨([] : List Int), z9.1, z9.2, v4, W11, rfl, Le.refl _ _, rfl, (o4.up l11), f11_0, hm⟩ ?_
 rintro (_ | m23) _ _ σ ⟨y15, y18, y19, v16, W21, rfl, l21, rfl, o17, b20, hm⟩
 ·cases hm
 unfold Vm.spec_l30Some_l1 at hm
 have a24 := a12.t l21
 refine ssr (mi rfl (Lw.gt rfl (nl (cn hm (fun hm => ?_) fun hm => ?_))))
 ·refine sk (Cw.seq (Cw.block (rg (mv v16 rfl (mp rfl (fl (((b1.up l4).up l11).up l21) rfl (Lw.ln x1.Commits (h1_0.ul a24) rfl (cr hm (fun _ => p85 (c0 := 2) (x0 := (Vm.l30Rd.mk x0.b y19)) b20 (h0_0.ul a24) rfl) ?_))))))))
  rintro z29 _ W31 hm l31 ⟨rfl, f31_0⟩
  refine Lw.t rfl (T.bs 5 [vI z29.1] (cs := [vI z29.1]) rfl rfl (bsv rfl)) ?_
  rintro _ _ ⟨g35, W35, rfl, rfl, l35, b35⟩
  obtain ⟨q40, e41, hm⟩ := ob hm
  refine Lw.t rfl (T.app1S (α := Int) (K' := []) ((o17.up l31).up l35) b35 (rdI _) rfl rfl e41) ?_
  rintro v42 _ ⟨W42, rfl, l42, o42⟩
  exact Nv v42 rfl (rg (mi rfl (Lw.sub rfl (Ni rfl ((agm) ⟨q40, w64 (y18 - 1), z29.2, v42, W42, rfl, (((l21.j l31).j l35).j l42).w, rfl, o42, ((f31_0.up l35).up l42), hm⟩)))))
 ·refine Cw.exit ?_
  rw [hK22] at hm
  refine ssr (mp rfl (cr hm (fun _ => p85 (c0 := 2) (x0 := (Vm.l30Rd.mk x0.b y19)) b20 (h0_0.ul a24) rfl) ?_))
  rintro z48 _ W50 hm l50 ⟨rfl, f50_0⟩
  have a51 := a24.t l50
  refine Lw.eq rfl (nl (cn hm (fun hm => ?_) fun hm => ?_))
  ·refine sr (mv v16 rfl (Lw.t rfl (T.bs 6 [vI (-1)] (cs := [vI (-1)]) rfl rfl (bsv rfl)) ?_))
   rintro _ _ ⟨g55, W55, rfl, rfl, l55, b55⟩
   have a56 := a51.n l55
   obtain ⟨q60, e61, hm⟩ := ob hm
   refine Lw.t rfl (T.app1S (α := Int) (K' := []) ((o17.up l50).up l55) b55 (rdI _) rfl rfl e61) ?_
   rintro v62 _ ⟨W62, rfl, l62, o62⟩
   have a63 := a56.t l62
   refine Nv v62 rfl ?_
   obtain ⟨W67, ew67, l67, o67⟩ := o62.dyeO 31
   have a68 := a63.t l67
   cases hm
   rw [← ew67]
   exact Cw.ret (ret1 rfl (Res.mk a68 ⟨v62, rfl, o67.s, (((f50_0.up l55).up l62).up l67)⟩))
  ·refine sk (sr (mv v16 rfl (Nv v16 rfl ?_)))
   obtain ⟨W72, ew72, l72, o72⟩ := (o17.up l50).dyeO 31
   have a73 := a51.t l72
   cases hm
   rw [← ew72]
   exact Cw.ret (ret1 rfl (Res.mk a73 ⟨v16, rfl, o72.s, (f50_0.up l72)⟩))

theorem p111 {x0 g0_ v0_0_ x1 v1_0_ v1_1_ k0 c0 r} (hB0 : Bx W c0 g0_ [v0_0_, vI x0.p]) (h0_0 : Rd W K [v0_0_] x0.b) (h1 : Rd W K [v1_0_, v1_1_] x1) (hJ : okJ K [c0] = true) (hm : Vm.spec_l30Some x0 x1 = some r) : Q1 111 [ptr (bx g0_), .agg [v1_0_, v1_1_].toArray] W [c0] fun W' v => ∃ u0, v = u0 ∧ Ow W' k0 [] [u0] r.1 ∧ Bx W' c0 g0_ [v0_0_, vI r.2] :=
 CallR.adJ (J := [c0]) (fun c => bif Nat.beq c 0 then 0 else bif Nat.beq c 2 then c0 else bif Nat.beq c 31 then k0 else 0) (c111 (hB0.viewJ 0 hJ) (h0_0.view _) (h1.view _) hm) fun _ _ ⟨u0, e, f0, f1⟩ => ⟨u0, e, f0.one1.backN rfl, Bx.backJ 0 f1 rfl⟩

theorem c43 {x0 v0_ r} (h0 : Rd W0 [0] [v0_] x0) (hm : Vm.spec_DrawSendOf x0 = some r) : Q0 43 [v0_] W0 fun Wf v => ∃ u0_0 u0_1 u1, v = .tuple [.agg [u0_0, u0_1].toArray, u1, vI r.2.2].toArray ∧ OwS Wf [31] [] [u0_0] r.1.Commits ∧ OwS Wf [32] [] [u0_1] r.1.Heads ∧ OwS Wf [33] [] [u1] r.2.1 := by
 unfold Vm.spec_DrawSendOf at hm
 refine CallR.of Tryz.func43 rfl rfl rfl rfl (sr (al 2 [.slice none 0 0, .slice none 0 0] fun g1 W1 l1 b1 => ?_))
 have a2 := l1.o
 refine Gv (.slice none 0 0) rfl (Ni rfl (sr (mv v0_ rfl (cr hm (fun _ => p81 (k0 := 3) (h0.ul a2)) ?_))))
 rintro z4 _ W6 hm l6 ⟨g0_6, v0_0_6, rfl, f6_0, f6_1⟩
 have s7 := f6_1.sub (M := [0]) rfl
 have a8 := a2.n l6
 refine Np rfl (sr (mp rfl (cr hm (fun _ => p82 (k0 := 4) (k1 := 5) (c0 := 3) (x0 := z4) f6_0 s7 rfl) ?_)))
 rintro z10 _ W12 hm l12 ⟨v0_0_12, v0_1_12, rfl, f12_0, f12_1, f12_2⟩
 have a13 := l12.s
 refine al 6 [.slice none 0 0, .slice none 0 0] fun g15 W15 l15 b15 => ?_
 have a16 := l15.o
 refine sta b15 (oc_cons (f12_0.up l15).oc (oc_cons (f12_1.up l15).oc oc_nil)) fun W21 l21 b21 => ?_
 have a22 := l21.s
 have o23 := (f12_0.up l15).up l21
 have o24 := (f12_1.up l15).up l21
 refine nl (sr (mp rfl (la b21 (cr hm (fun _ => p83 (K := [0, 4, 5]) (c0 := 3) (x0 := (Vm.l30Rd.mk z4.b z10.2)) (x1 := (Vm.Repo.mk z10.1.Commits z10.1.Heads)) ((f12_2.up l15).up l21) ((s7.ul ((a13.trans a16).trans a22)).sub (M := [0, 4, 5]) rfl) ((Repo.rd (K := [4, 5]) z10.1.Commits z10.1.Heads (o23.rd.sub (M := [4, 5]) rfl) (o24.rd.sub (M := [4, 5]) rfl)).sub (M := [0, 4, 5]) rfl) rfl) ?_))))
 rintro z28 _ W30 hm l30 ⟨rfl, f30_0⟩
 have a31 := l30.s
 have o32 := o23.up l30
 have b35 := b21.up l30
 refine Ni rfl (Cw.seq ?_)
 obtain ⟨K43, hK43, hm⟩ := jn_e hm
 refine Cw.join 15 29 [29] (fun l w => ∃ y36 y37 y40 v38 W42, CW.w W42 = w ∧ Le [3] W30 W42 ∧ l = [vB y36] ∧ Rd W42 [0] [v38] y37 ∧ Bx W42 3 g0_6 [v38, vI y40] ∧ K43 y36 y37 y40 = some r) ?_ ?_
 ·rintro _ _ σ ⟨y36, y37, y40, v38, W42, rfl, l42, rfl, r39, b41, hm⟩
  rw [hK43] at hm
  have a44 := ((((a8.trans a13).trans a16).trans a22).trans a31).t l42
  have o46 := (o24.up l30).up l42
  have b47 := (((((b1.up l6).up l12).up l15).up l21).up l30).up l42
  refine cn hm (fun hm => ?_) fun hm => ?_
  ·refine Cw.seq (Cw.draw [2, 3] [(0, 1), (1, 1), (2, 0), (3, 0), (4, 1), (5, 0), (8, 0), (6, 2), (7, 2), (9, 2), (10, 0), (11, 0)] mixed (by kernel_rfl) fun W50 l50 => ?_)
   have a51 := l50.o
   have o52 := (o32.up l42).up l50
   have b56 := (b35.up l42).up l50
   refine Mw.q rfl rfl (fun _ c => R.lda (cs := [v0_0_12, v0_1_12]) (b56.clcs rfl c) rfl rfl) (Mw.q rfl rfl (fun _ c => R.lda (cs := [v0_0_12, v0_1_12]) (b56.clcs rfl c) rfl rfl) (Dp rfl (Dfl b56 rfl rfl rfl (Mw.p rfl rfl (fun _ => lenR (xs := z10.1.Commits) o52.rd rfl) (Di rfl ?_)))))
   obtain ⟨z58, e59, hm⟩ := ob hm
   refine Mw.t rfl rfl (T.call rfl (p85  (c0 := 3) (x0 := (Vm.l30Rd.mk y37 y40)) (b41.up l50) (r39.ul a51) rfl e59)) ?_
   rintro _ _ ⟨W60, rfl, l60, ⟨rfl, f60_0⟩⟩
   have a61 := (a44.trans a51).t l60
   have o63 := (o46.up l50).up l60
   refine m0 l60 fun d60 => ?_
   obtain ⟨z66, e67, hm⟩ := ob hm
   refine Mw.t rfl rfl (T.call rfl (p106 (K := [4, 5]) (k0 := 7) (x0 := (Vm.Repo.mk z10.1.Commits z10.1.Heads)) (Repo.rd (K := [4, 5]) z10.1.Commits z10.1.Heads ((o52.up l60).rd.sub (M := [4, 5]) rfl) (o63.rd.sub (M := [4, 5]) rfl)) e67)) ?_
   rintro v0_68 _ ⟨W68, rfl, l68, ⟨_, rfl, f68_0⟩⟩
   have a69 := a61.n l68
   have o70 := (o52.up l60).up l68
   refine mc d60 l68 fun d68 => Mw.tu rfl (T.sta (vs := [v0_0_12, v0_1_12]) (((b47.up l50).up l60).up l68) rfl rfl (oc_cons o70.oc (oc_cons (o63.up l68).oc oc_nil)) rfl rfl) ?_
   rintro _ _ ⟨W75, rfl, l75, b75⟩
   have a76 := a69.t l75
   refine mc d68 l75 fun d75 => Hv v0_68 rfl (Hi rfl (Mw.nil ?_))
   obtain ⟨W82, ew82, l82, o82⟩ := (o70.up l75).dyeO 31
   have a83 := a76.t l82
   obtain ⟨W89, ew89, l89, o89⟩ := (((o63.up l68).up l75).up l82).dyeO 32
   have a90 := a83.t l89
   obtain ⟨W96, ew96, l96, o96⟩ := (((f68_0.up l75).up l82).up l89).dyeO 33
   have a97 := a90.t l96
   cases hm
   rw [← ew96.trans (ew89.trans (ew82))]
   exact Cw.ret (retG (ResOk.c rfl (((b75.up l82).up l89).up l96) (ResOk.t rfl (ResOk.t rfl ResOk.n))) (Res.mk a97 ⟨v0_0_12, v0_1_12, v0_68, rfl, ((o82.up l89).up l96).s, (o89.up l96).s, o96.s⟩))
  ·refine sk (Cw.seq (Cw.draw [2, 3] [(0, 1), (1, 0), (2, 1), (4, 0), (3, 2), (5, 2), (6, 0), (7, 0)] mixed (by kernel_rfl) fun W103 l103 => ?_))
   have a104 := l103.o
   have o105 := (o32.up l42).up l103
   have b109 := (b35.up l42).up l103
   refine Mw.q rfl rfl (fun _ c => R.lda (cs := [v0_0_12, v0_1_12]) (b109.clcs rfl c) rfl rfl) (Dp rfl (Mw.q rfl rfl (fun _ c => R.lda (cs := [v0_0_12, v0_1_12]) (b109.clcs rfl c) rfl rfl) (Di rfl ?_)))
   obtain ⟨z111, e112, hm⟩ := ob hm
   refine Mw.t rfl rfl (T.call rfl (p111 (K := [0, 4, 5]) (k0 := 8) (c0 := 3) (x0 := (Vm.l30Rd.mk y37 y40)) (x1 := (Vm.Repo.mk z10.1.Commits z10.1.Heads)) (b41.up l103) ((r39.ul a104).sub (M := [0, 4, 5]) rfl) ((Repo.rd (K := [4, 5]) z10.1.Commits z10.1.Heads (o105.rd.sub (M := [4, 5]) rfl) ((o46.up l103).rd.sub (M := [4, 5]) rfl)).sub (M := [0, 4, 5]) rfl) rfl e112)) ?_
   rintro v0_113 _ ⟨W113, rfl, l113, ⟨_, rfl, f113_0, f113_1⟩⟩
   have a114 := (a44.trans a104).t l113
   have o116 := (o46.up l103).up l113
   refine m0 l113 fun d113 => Mw.tu rfl (T.sta (vs := [v0_0_12, v0_1_12]) ((b47.up l103).up l113) rfl rfl (oc_cons (o105.up l113).oc (oc_cons o116.oc oc_nil)) rfl rfl) ?_
   rintro _ _ ⟨W119, rfl, l119, b119⟩
   have a120 := a114.t l119
   refine mc d113 l119 fun d119 => Hv v0_113 rfl (Hi rfl (Mw.nil ?_))
   obtain ⟨W126, ew126, l126, o126⟩ := ((o105.up l113).up l119).dyeO 31
   have a127 := a120.t l126
   obtain ⟨W133, ew133, l133, o133⟩ := ((o116.up l119).up l126).dyeO 32
   have a134 := a127.t l133
   obtain ⟨W140, ew140, l140, o140⟩ := (((f113_0.up l119).up l126).up l133).dyeO 33
   have a141 := a134.t l140
   cases hm
   rw [← ew140.trans (ew133.trans (ew126))]
   exact Cw.ret (retG (ResOk.c rfl (((b119.up l126).up l133).up l140) (ResOk.t rfl (ResOk.t rfl ResOk.n))) (Res.mk a141 ⟨v0_0_12, v0_1_12, v0_113, rfl, ((o126.up l133).up l140).s, (o133.up l140).s, o140.s⟩))
 ·refine rg (mi rfl (fl b35 rfl (Lw.ln z10.1.Commits o32.rd rfl (Lw.sub rfl (ca hm (fun _ => p84) fun z147 W149 hm l149 => ?_)))))
  have a150 := (((a13.trans a16).trans a22).trans a31).n l149
  refine mb rfl (bs hm (fun hc156 hm => ?_) fun hc156 hm => ?_)
  ·refine wak 2 hc156 (la (b35.up l149) (ca hm (fun _ => p74 (K := [4, 5]) (x0 := (Vm.Repo.mk z10.1.Commits z10.1.Heads)) (Repo.rd (K := [4, 5]) z10.1.Commits z10.1.Heads ((o32.up l149).rd.sub (M := [4, 5]) rfl) (((o24.up l30).up l149).rd.sub (M := [4, 5]) rfl))) fun z157 W159 hm l159 => ?_))
   have a160 := a150.n l159
   have b164 := (f30_0.up l149).up l159
   refine Pb hc156 rfl (mb rfl (bs hm (fun hc166 hm => ?_) fun hc166 hm => ?_))
   ·refine wak 3 hc166 (mp rfl (cr hm (fun _ => p85 (c0 := 3) (x0 := (Vm.l30Rd.mk z4.b z28.2)) b164 (s7.ul a160) rfl) ?_))
    rintro z168 _ W170 hm l170 ⟨rfl, f170_0⟩
    have a171 := a160.t l170
    exact Lw.gt rfl (Pb hc166 rfl (nl ((ag) ⟨decide ((0 : Int) < (z168.1 : Int)), z4.b, z168.2, v0_0_6, W170, rfl, ((l149.j l159).j l170).w, rfl, (s7.ul a171), f170_0, hm⟩)))
   ·exact psk 3 hc166 rfl (Pb hc166 rfl (nl ((ag) ⟨false, z4.b, z28.2, v0_0_6, W159, rfl, (l149.j l159).w, rfl, (s7.ul a160), b164, hm⟩)))
  ·exact psk 2 hc156 rfl (Pb hc156 rfl (mb rfl (psk 3 rfl rfl (Pb rfl rfl (nl ((ag) ⟨false, z4.b, z28.2, v0_0_6, W149, rfl, l149.w, rfl, (s7.ul a150), (f30_0.up l149), hm⟩))))))

theorem p43 {x0 v0_ k0 k1 k2 r} (h0 : Rd W K [v0_] x0) (hm : Vm.spec_DrawSendOf x0 = some r) : Q1 43 [v0_] W [] fun W' v => ∃ u0_0 u0_1 u1, v = .tuple [.agg [u0_0, u0_1].toArray, u1, vI r.2.2].toArray ∧ Ow W' k0 [] [u0_0] r.1.Commits ∧ Ow W' k1 [] [u0_1] r.1.Heads ∧ Ow W' k2 [] [u1] r.2.1 :=
 CallR.adJ (J := []) (fun c => bif Nat.beq c 0 then 0 else bif Nat.beq c 31 then k0 else bif Nat.beq c 32 then k1 else bif Nat.beq c 33 then k2 else 0) (c43 (h0.view _) hm) fun _ _ ⟨u0_0, u0_1, u1, e, f0, f1, f2⟩ => ⟨u0_0, u0_1, u1, e, f0.one1.backN rfl, f1.one1.backN rfl, f2.one1.backN rfl⟩

theorem c46 {x0 v0_0_ v0_1_ x1 v1_ x2 r} (h0 : Rd W0 [0] [v0_0_, v0_1_] x0) (h1 : Rd W0 [0] [v1_] x1) (h99 : Gl 0 W0 [0]) (hm : Vm.impl_SendMany x0 x1 x2 = some r) : Q0 46 [.agg [v0_0_, v0_1_].toArray, v1_, vI x2] W0 fun Wf v => v = vI r := by
 unfold Vm.impl_SendMany at hm
 obtain ⟨w0_0, w0_1, he0, h0_0, h0_1⟩ := Repo.split h0
 simp only [List.cons.injEq, and_true, true_and] at he0
 obtain ⟨rfl, rfl⟩ := he0
 refine CallR.of Tryz.func46 rfl rfl rfl rfl (sr (bo 2 rfl fun g1 W1 l1 b1 => ?_))
 have a2 := l1.o
 refine Ni rfl (ssr (la b1 (mv v1_ rfl (mi rfl (ca hm (fun _ => p112 (Repo.rd (K := [0]) x0.Commits x0.Heads (h0_0.ul a2) (h0_1.ul a2)) (h1.ul a2) (h99.ul a2)) fun z7 W9 hm l9 => ?_)))))
 have a10 := a2.n l9
 refine Lw.r rfl (R.not rfl) (nl (cn hm (fun hm => ?_) fun hm => ?_))
 ·exact sr (Ni rfl (.ret (rt hm a10)))
 ·refine sk (sr (la (b1.up l9) (mi rfl (mv v1_ rfl (cr hm (fun _ => p113 (k0 := 3) (Repo.rd (K := [0]) x0.Commits x0.Heads (h0_0.ul a10) (h0_1.ul a10)) (h1.ul a10)) ?_)))))
  rintro z16 v0_18 W18 hm l18 ⟨_, rfl, f18_0⟩
  have a19 := a10.n l18
  exact Lw.ln z16 f18_0.rd rfl (Ni rfl (.ret (rt hm a19)))

theorem p46 {x0 v0_0_ v0_1_ x1 v1_ x2 r} (h0 : Rd W K [v0_0_, v0_1_] x0) (h1 : Rd W K [v1_] x1) (h99 : Gl 0 W K) (hm : Vm.impl_SendMany x0 x1 x2 = some r) : Q1 46 [.agg [v0_0_, v0_1_].toArray, v1_, vI x2] W [] fun W' v => v = vI r :=
 (c46 (h0.view _) (h1.view _) (h99.view _) hm).ad (fk 0) fun _ _ e => e

theorem c47 {x0 v0_0_ v0_1_ x1 v1_ x2 r} (h0 : Rd W0 [0] [v0_0_, v0_1_] x0) (h1 : Rd W0 [0] [v1_] x1) (hm : Vm.spec_SendMany x0 x1 x2 = some r) : Q0 47 [.agg [v0_0_, v0_1_].toArray, v1_, vI x2] W0 fun Wf v => v = vI r := by
 unfold Vm.spec_SendMany at hm
 obtain ⟨w0_0, w0_1, he0, h0_0, h0_1⟩ := Repo.split h0
 simp only [List.cons.injEq, and_true, true_and] at he0
 obtain ⟨rfl, rfl⟩ := he0
 refine CallR.of Tryz.func47 rfl rfl rfl rfl (sr (bo 2 rfl fun g1 W1 l1 b1 => ?_))
 have a2 := l1.o
 refine Ni rfl (Cw.seq ?_)
 obtain ⟨K5, hK5, hm⟩ := jn_e hm
 refine Cw.join 7 24 [24] (fun l w => ∃ y3 W4, CW.w W4 = w ∧ Le [] W1 W4 ∧ l = [vB y3] ∧ K5 y3 = some r) ?_ ?_
 ·rintro _ _ σ ⟨y3, W4, rfl, l4, rfl, hm⟩
  rw [hK5] at hm
  have a6 := a2.n l4
  refine cn hm (fun hm => ?_) fun hm => ?_
  ·exact sr (Ni rfl (.ret (rt hm a6)))
  ·refine sk (sr (la (b1.up l4) (mv v1_ rfl (mi rfl (cr hm (fun _ => p118 (k0 := 3) (Repo.rd (K := [0]) x0.Commits x0.Heads (h0_0.ul a6) (h0_1.ul a6)) (h1.ul a6)) ?_)))))
   rintro z12 v0_14 W14 hm l14 ⟨_, rfl, f14_0⟩
   have a15 := a6.n l14
   exact Lw.ln z12 f14_0.rd rfl (Ni rfl (.ret (rt hm a15)))
 ·refine rg (la b1 (ca hm (fun _ => p74 (Repo.rd (K := [0]) x0.Commits x0.Heads (h0_0.ul a2) (h0_1.ul a2))) fun z19 W21 hm l21 => ?_))
  have a22 := a2.n l21
  refine Lw.r rfl (R.not rfl) (mb rfl (bs hm (fun hc24 hm => ?_) fun hc24 hm => ?_))
  ·exact psk 4 hc24 rfl (Pb hc24 rfl (mb rfl (psk 7 rfl rfl (Pb rfl rfl (nl ((ag) ⟨true, W21, rfl, l21, rfl, hm⟩))))))
  ·refine wak 4 hc24 (la (b1.up l21) (mv v1_ rfl (ca hm (fun _ => p117 (Repo.rd (K := [0]) x0.Commits x0.Heads (h0_0.ul a22) (h0_1.ul a22)) (h1.ul a22)) fun z28 W30 hm l30 => ?_)))
   have a31 := a22.n l30
   refine Lw.r rfl (R.not rfl) (Pb hc24 rfl (mb rfl (bs hm (fun hc33 hm => ?_) fun hc33 hm => ?_)))
   ·exact psk 7 hc33 rfl (Pb hc33 rfl (nl ((ag) ⟨true, W30, rfl, (l21.j l30).w, rfl, hm⟩)))
   ·exact wak 7 hc33 (mi rfl (fl ((b1.up l21).up l30) rfl (Lw.ln x0.Commits (h0_0.ul a31) rfl (Lw.sub rfl (ca hm (fun _ => p84) fun z35 W37 hm l37 => Lw.r rfl (R.not rfl) (Pb hc33 rfl (nl ((ag) ⟨(!z35), W37, rfl, ((l21.j l30).j l37).w, rfl, hm⟩))))))))

theorem p47 {x0 v0_0_ v0_1_ x1 v1_ x2 r} (h0 : Rd W K [v0_0_, v0_1_] x0) (h1 : Rd W K [v1_] x1) (hm : Vm.spec_SendMany x0 x1 x2 = some r) : Q1 47 [.agg [v0_0_, v0_1_].toArray, v1_, vI x2] W [] fun W' v => v = vI r :=
 (c47 (h0.view _) (h1.view _) hm).ad (fk 0) fun _ _ e => e

theorem c48 {x0 v0_0_ v0_1_ x1 v1_ x2 r} (h0 : Rd W0 [0] [v0_0_, v0_1_] x0) (h1 : Rd W0 [0] [v1_] x1) (h99 : Gl 0 W0 [0]) (hm : Vm.impl_LogLeft x0 x1 x2 = some r) : Q0 48 [.agg [v0_0_, v0_1_].toArray, v1_, vI x2] W0 fun Wf v => ∃ u0, v = u0 ∧ OwS Wf LL [] [u0] r := by
 unfold Vm.impl_LogLeft at hm
 obtain ⟨w0_0, w0_1, he0, h0_0, h0_1⟩ := Repo.split h0
 simp only [List.cons.injEq, and_true, true_and] at he0
 obtain ⟨rfl, rfl⟩ := he0
 refine CallR.of Tryz.func48 rfl rfl rfl rfl (sr (bo 2 rfl fun g1 W1 l1 b1 => ?_))
 have a2 := l1.o
 refine Nv (.slice none 0 0) rfl (ssr (la b1 (mv v1_ rfl (mi rfl (ca hm (fun _ => p112 (Repo.rd (K := [0]) x0.Commits x0.Heads (h0_0.ul a2) (h0_1.ul a2)) (h1.ul a2) (h99.ul a2)) fun z7 W9 hm l9 => ?_)))))
 have a10 := a2.n l9
 refine Lw.r rfl (R.not rfl) (nl (cn hm (fun hm => ?_) fun hm => ?_))
 ·refine sr (Nv (.slice none 0 0) rfl ?_)
  cases hm
  exact Cw.ret (ret1 rfl (Res.mk a10 ⟨.slice none 0 0, rfl, (owsN []).sub rfl rfl⟩))
 ·refine sk (sr (la (b1.up l9) (mi rfl (mv v1_ rfl (cr hm (fun _ => p113 (k0 := 3) (Repo.rd (K := [0]) x0.Commits x0.Heads (h0_0.ul a10) (h0_1.ul a10)) (h1.ul a10)) ?_)))))
  rintro z16 v0_18 W18 hm l18 ⟨_, rfl, f18_0⟩
  have a19 := a10.n l18
  refine Nv v0_18 rfl ?_
  cases hm
  exact Cw.ret (ret1 rfl (Res.mk a19 ⟨v0_18, rfl, f18_0.s.sub rfl rfl⟩))

theorem p48 {x0 v0_0_ v0_1_ x1 v1_ x2 k0 r} (h0 : Rd W K [v0_0_, v0_1_] x0) (h1 : Rd W K [v1_] x1) (h99 : Gl 0 W K) (hm : Vm.impl_LogLeft x0 x1 x2 = some r) : Q1 48 [.agg [v0_0_, v0_1_].toArray, v1_, vI x2] W [] fun W' v => ∃ u0, v = u0 ∧ Ow W' k0 [] [u0] r :=
 (c48 (h0.view _) (h1.view _) (h99.view _) hm).ad (fk k0) fun _ _ ⟨u0, e, f0⟩ => ⟨u0, e, f0.back (fk_LL _)⟩

theorem c7 {x0 v0_ r} (h0 : Rd W0 [0] [v0_] x0) (h99 : Gl 0 W0 [0]) (hm : Vm.laws_FnSendOf x0 = some r) : Q0 7 [v0_] W0 fun Wf v => v = vB r := by
 unfold Vm.laws_FnSendOf at hm
 refine CallR.of Tryz.func7 rfl rfl rfl rfl (sr (Nb rfl (ssr (mv v0_ rfl (Lw.ln x0 h0 rfl (Lw.gt rfl (nl (cn hm (fun hm => ?_) fun hm => ?_))))))))
 ·exact sr (Nb rfl (.ret (rt hm (Le.refl _ _))))
 ·refine sk (sr (mv v0_ rfl (cr hm (fun _ => p43 (k0 := 2) (k1 := 3) (k2 := 4) h0) ?_)))
  rintro z2 _ W4 hm l4 ⟨v0_0_4, v0_1_4, v1_4, rfl, f4_0, f4_1, f4_2⟩
  have a5 := l4.o
  refine mv (.tuple [.agg [v0_0_4, v0_1_4].toArray, v1_4, vI z2.2.2].toArray) rfl (Lw.r rfl (R.ext (vs := [.agg [v0_0_4, v0_1_4].toArray, v1_4, vI z2.2.2]) (v := .agg [v0_0_4, v0_1_4].toArray) rfl rfl) (Lw.r rfl (R.ext (vs := [.agg [v0_0_4, v0_1_4].toArray, v1_4, vI z2.2.2]) (v := v1_4) rfl rfl) (Lw.r rfl (R.ext (vs := [.agg [v0_0_4, v0_1_4].toArray, v1_4, vI z2.2.2]) (v := vI z2.2.2) rfl rfl) (al 5 [.slice none 0 0, .slice none 0 0] fun g6 W6 l6 b6 => ?_))))
  have a7 := a5.n l6
  refine sta b6 (oc_cons (f4_0.up l6).oc (oc_cons (f4_1.up l6).oc oc_nil)) fun W11 l11 b11 => ?_
  have a12 := a7.t l11
  have o13 := (f4_0.up l6).up l11
  have o14 := (f4_1.up l6).up l11
  have o15 := (f4_2.up l6).up l11
  refine Gv v1_4 rfl (Ni rfl (sr (la b11 (mv v1_4 rfl (mi rfl (cr hm (fun _ => p44 (K := [0, 2, 3, 4]) (k0 := 6) (x0 := (Vm.Repo.mk z2.1.Commits z2.1.Heads)) ((Repo.rd (K := [2, 3]) z2.1.Commits z2.1.Heads (o13.rd.sub (M := [2, 3]) rfl) (o14.rd.sub (M := [2, 3]) rfl)).sub (M := [0, 2, 3, 4]) rfl) (o15.rd.sub (M := [0, 2, 3, 4]) rfl) ((h99.ul a12).sub (M := [0, 2, 3, 4]) rfl)) ?_))))))
  rintro z17 _ W19 hm l19 ⟨v0_19, rfl, f19_0⟩
  have a20 := a12.n l19
  refine mv (.tuple [v0_19, vB z17.2].toArray) rfl (Lw.r rfl (R.ext (vs := [v0_19, vB z17.2]) (v := v0_19) rfl rfl) (Lw.r rfl (R.ext (vs := [v0_19, vB z17.2]) (v := vB z17.2) rfl rfl) (Gv v0_19 rfl (Nb rfl (sr (la (b11.up l19) (mv v1_4 rfl (mi rfl (cr hm (fun _ => p45 (K := [2, 3, 4]) (k0 := 7) (x0 := (Vm.Repo.mk z2.1.Commits z2.1.Heads)) ((Repo.rd (K := [2, 3]) z2.1.Commits z2.1.Heads ((o13.up l19).rd.sub (M := [2, 3]) rfl) ((o14.up l19).rd.sub (M := [2, 3]) rfl)).sub (M := [2, 3, 4]) rfl) ((o15.up l19).rd.sub (M := [2, 3, 4]) rfl)) ?_)))))))))
  rintro z25 _ W27 hm l27 ⟨v0_27, rfl, f27_0⟩
  have a28 := a20.n l27
  have o29 := (o13.up l19).up l27
  have o30 := (o14.up l19).up l27
  have o31 := (o15.up l19).up l27
  have b33 := (b11.up l19).up l27
  refine mv (.tuple [v0_27, vB z25.2].toArray) rfl (Lw.r rfl (R.ext (vs := [v0_27, vB z25.2]) (v := v0_27) rfl rfl) (Lw.r rfl (R.ext (vs := [v0_27, vB z25.2]) (v := vB z25.2) rfl rfl) (Gv v0_27 rfl (Nb rfl (Cw.seq ?_)))))
  obtain ⟨K36, hK36, hm⟩ := jn_e hm
  refine Cw.join 38 62 [62] (fun l w => ∃ y34 W35, CW.w W35 = w ∧ Le [] W27 W35 ∧ l = [vB y34] ∧ K36 y34 = some r) ?_ ?_
  ·rintro _ _ σ ⟨y34, W35, rfl, l35, rfl, hm⟩
   rw [hK36] at hm
   have a37 := a28.n l35
   have o38 := o29.up l35
   have o39 := o30.up l35
   have o40 := o31.up l35
   have o41 := (f19_0.up l27).up l35
   have b43 := b33.up l35
   refine cn hm (fun hm => ?_) fun hm => ?_
   ·obtain ⟨K47, hK47, hm⟩ := jn_e hm
    refine Cw.join 63 83 [2] (fun l w => ∃ y45 W46, CW.w W46 = w ∧ Le [] W35 W46 ∧ l = [vB y45] ∧ K47 y45 = some r) ?_ ?_
    ·rintro _ _ σ ⟨y45, W46, rfl, l46, rfl, hm⟩
     rw [hK47] at hm
     have a48 := a37.n l46
     exact .ret (rt hm a48)
    ·refine Cw.draw [] [(0, 0), (1, 0), (2, 0), (3, 0), (4, 0), (5, 0), (6, 0), (7, 0), (8, 0), (9, 0), (10, 0), (11, 1), (12, 0), (13, 0), (15, 1), (16, 0), (17, 0), (14, 2), (18, 2), (19, 0), (20, 0), (21, 0)] mixed (by kernel_rfl) fun W55 l55 => ?_
     have a56 := a37.n l55
     refine Db rfl (Db rfl (Mw.p rfl rfl (fun _ => R.beq rfl rfl) (Db rfl (bs hm (fun hc63 hm => ?_) fun hc63 hm => ?_))))
     ·refine Wp hc63 rfl (fun _ => R.mv (v := v0_19) rfl) (Wp hc63 rfl (fun _ => lenR (xs := z17.1) (o41.up l55).rd rfl) (Wp hc63 rfl (fun _ => R.mv (v := v0_27) rfl) (Wp hc63 rfl (fun _ => lenR (xs := z25.1) ((f27_0.up l35).up l55).rd rfl) (Wp hc63 rfl (fun _ => R.eq rfl rfl) (Mw.p rfl rfl (fun _ => R.pk hc63 rfl (v := vB (((z17.1.length : Int) : Int) == ((z25.1.length : Int) : Int))) rfl) (Db rfl (bs hm (fun hc64 hm => ?_) fun hc64 hm => ?_)))))))
      ·refine Wq hc64 rfl (fun _ c => R.lda (cs := [v0_0_4, v0_1_4]) ((b43.up l55).clcs rfl c) rfl rfl) (Wp hc64 rfl (fun _ => R.mv (v := v1_4) rfl) (Wp hc64 rfl (fun _ => R.mv (v := vI z2.2.2) rfl) (Wq hc64 rfl (fun _ c => R.lda (cs := [v0_0_4, v0_1_4]) ((b43.up l55).clcs rfl c) rfl rfl) (Wp hc64 rfl (fun _ => R.mv (v := v1_4) rfl) (Wp hc64 rfl (fun _ => R.mv (v := vI z2.2.2) rfl) ?_)))))
       obtain ⟨z66, e67, hm⟩ := ob hm
       refine Wt hc64 rfl (T.call rfl (p46 (K := [0, 2, 3, 4])  (x0 := (Vm.Repo.mk z2.1.Commits z2.1.Heads)) ((Repo.rd (K := [2, 3]) z2.1.Commits z2.1.Heads ((o38.up l55).rd.sub (M := [2, 3]) rfl) ((o39.up l55).rd.sub (M := [2, 3]) rfl)).sub (M := [0, 2, 3, 4]) rfl) ((o40.up l55).rd.sub (M := [0, 2, 3, 4]) rfl) ((h99.ul a56).sub (M := [0, 2, 3, 4]) rfl) e67)) ?_
       rintro _ _ ⟨W68, rfl, l68, rfl⟩
       refine m0 l68 fun d68 => ?_
       obtain ⟨z76, e77, hm⟩ := ob hm
       refine Wt hc64 rfl (T.call rfl (p47 (K := [2, 3, 4])  (x0 := (Vm.Repo.mk z2.1.Commits z2.1.Heads)) ((Repo.rd (K := [2, 3]) z2.1.Commits z2.1.Heads (((o38.up l55).up l68).rd.sub (M := [2, 3]) rfl) (((o39.up l55).up l68).rd.sub (M := [2, 3]) rfl)).sub (M := [2, 3, 4]) rfl) (((o40.up l55).up l68).rd.sub (M := [2, 3, 4]) rfl) e77)) ?_
       rintro _ _ ⟨W78, rfl, l78, rfl⟩
       exact mc d68 l78 fun d78 => Wp hc64 rfl (fun _ => R.eq rfl rfl) (Mw.p rfl rfl (fun _ => R.pk hc64 rfl (v := vB ((z66 : Int) == (z76 : Int))) rfl) (Hb rfl (Mw.nil ((ag) ⟨((z66 : Int) == (z76 : Int)), W78, rfl, ((l55.j l68).j l78).w, rfl, hm⟩))))
      ·exact dps 9 hc64 rfl (Mw.p rfl rfl (fun _ => R.pk hc64 rfl (v := vB false) rfl) (Hb rfl (Mw.nil ((ag) ⟨false, W55, rfl, l55, rfl, hm⟩))))
     ·exact dps 5 hc63 rfl (Mw.p rfl rfl (fun _ => R.pk hc63 rfl (v := vB false) rfl) (Db rfl (dps 9 rfl rfl (Mw.p rfl rfl (fun _ => R.pk rfl rfl (v := vB false) rfl) (Hb rfl (Mw.nil ((ag) ⟨false, W55, rfl, l55, rfl, hm⟩)))))))
   ·refine sk (sr (la b43 (mv v1_4 rfl (mi rfl (cr hm (fun _ => p48 (K := [0, 2, 3, 4]) (k0 := 8) (x0 := (Vm.Repo.mk z2.1.Commits z2.1.Heads)) ((Repo.rd (K := [2, 3]) z2.1.Commits z2.1.Heads (o38.rd.sub (M := [2, 3]) rfl) (o39.rd.sub (M := [2, 3]) rfl)).sub (M := [0, 2, 3, 4]) rfl) (o40.rd.sub (M := [0, 2, 3, 4]) rfl) ((h99.ul a37).sub (M := [0, 2, 3, 4]) rfl)) ?_)))))
    rintro z87 v0_89 W89 hm l89 ⟨_, rfl, f89_0⟩
    have a90 := a37.n l89
    refine Nv v0_89 rfl (ssr (Ni rfl (Cw.block ?_)))
    obtain ⟨K103, hK103, hm⟩ := jn_e hm
    refine Cw.loop 88 195 [2, 11, 12, 13, 14] (fun m l w => ∃ y97 y98 j99 j100 j101 W102, CW.w W102 = w ∧ Le [9] W89 W102 ∧ l = [vB y97, vI y98, j99, j100, j101] ∧ Vm.laws_FnSendOf_l1 z2 z17 z25 z87 K103 m y97 y98 = some r) _ ⟨false, 0, undef, undef, undef, W89, rfl, Le.refl _ _, rfl, hm⟩ ?_
    rintro (_ | m104) _ _ σ ⟨y97, y98, j99, j100, j101, W102, rfl, l102, rfl, hm⟩
    ·cases hm
    unfold Vm.laws_FnSendOf_l1 at hm
    have a105 := a90.t l102
    have o106 := (o38.up l89).up l102
    have o108 := (o40.up l89).up l102
    have o109 := (o41.up l89).up l102
    have b112 := (b43.up l89).up l102
    refine ssr (mi rfl (mv v0_19 rfl (Lw.ln z17.1 o109.rd rfl (Lw.lt rfl (nl (cn hm (fun hm => ?_) fun hm => ?_))))))
    ·refine sk (Cw.seq (Cw.block (Cw.seq (Cw.draw [] [(0, 0), (1, 1), (2, 0), (3, 0), (4, 0), (5, 1), (6, 0), (7, 1), (8, 2), (9, 3)] mixed (by kernel_rfl) fun W114 l114 => ?_))))
     have a115 := a105.n l114
     have o116 := o106.up l114
     have o121 := (f89_0.up l102).up l114
     refine Dfl (b112.up l114) rfl rfl rfl (Dv v0_89 rfl (Di rfl ?_))
     obtain ⟨u123, e124, hm⟩ := ob hm
     refine Mw.p rfl rfl (fun _ => R.ix (α := Int) o121.rd e124 rfl rfl rfl) (Mw.q rfl rfl (fun _ c => R.ld rfl rfl (cl_cell (o121.rd.at_ e124).1 rfl (o121.rd.at_ e124).int c)) ?_)
     obtain ⟨u125, e126, hm⟩ := ob hm
     refine Mw.p rfl rfl (fun _ => R.ix (α := Commit) o116.rd e126 rfl rfl rfl) ?_
     obtain ⟨x127, c128, _, r129⟩ := (o116.rd.at_ e126).cells
     obtain ⟨v130, v132, rfl, r131, r133⟩ := Commit.split r129
     refine Mw.q rfl rfl (fun _ c => R.lda (cl_cells (o116.rd.at_ e126).1 rfl c128 c) rfl rfl) (Mw.t rfl rfl (T.alloc 9 (cs := [.slice none 0 0, vS ([] : Str), .slice none 0 0]) rfl) ?_)
     rintro _ _ ⟨g134, W134, rfl, rfl, l134, b134⟩
     have a135 := a115.n l134
     refine m0 l134 fun d134 => Mw.lu rfl (T.sta (vs := [v130, vS u125.Who, v132]) b134 rfl rfl (oc_cons r131.oc (oc_cons rfl (oc_cons r133.oc oc_nil))) rfl rfl) ?_
     rintro _ _ ⟨W143, rfl, l143, b143⟩
     have a144 := a135.t l143
     have o148 := ((o109.up l114).up l134).up l143
     refine Mw.nil (Cw.seq ?_)
     obtain ⟨K154, hK154, hm⟩ := jn_e hm
     refine Cw.join 102 144 [144] (fun l w => ∃ y152 W153, CW.w W153 = w ∧ Le [] W143 W153 ∧ l = [vB y152] ∧ K154 y152 = some r) ?_ ?_
     ·rintro _ _ σ ⟨y152, W153, rfl, l153, rfl, hm⟩
      rw [hK154] at hm
      have a155 := a144.n l153
      refine cn hm (fun hm => ?_) fun hm => ?_
      ·exact sr (Nb rfl (.ret (rt hm a155)))
      ·refine sk (sr (Ni rfl (Cw.block ?_)))
       obtain ⟨K169, hK169, hm⟩ := jn_e hm
       refine Cw.loop 145 195 [2, 13, 14] (fun m l w => ∃ y165 y166 j167 W168, CW.w W168 = w ∧ Le [] W153 W168 ∧ l = [vB y165, vI y166, j167] ∧ Vm.laws_FnSendOf_l2 z2 z17 z87 y98 u125 K169 m y165 y166 = some r) _ ⟨y97, 0, j101, W153, rfl, Le.refl _ _, rfl, hm⟩ ?_
       rintro (_ | m170) _ _ σ ⟨y165, y166, j167, W168, rfl, l168, rfl, hm⟩
       ·cases hm
       unfold Vm.laws_FnSendOf_l2 at hm
       have a171 := a155.n l168
       have o175 := (o148.up l153).up l168
       have b179 := (b143.up l153).up l168
       refine ssr ?_
       have s180 := r131.up ((l134.sub (M := [9]) rfl).trans ((l143.sub (M := [9]) rfl).trans ((l153.sub (M := [9]) rfl).trans (l168.sub (M := [9]) rfl)))) rfl
       refine mi rfl (fl b179 rfl (Lw.ln u125.Parents s180 rfl (Lw.lt rfl (nl (cn hm (fun hm => ?_) fun hm => ?_)))))
       ·refine sk (Cw.seq (Cw.block (sr (mv v0_19 rfl (mi rfl ?_)))))
        obtain ⟨u182, e183, hm⟩ := ob hm
        refine Lw.r rfl (R.ix (α := Commit) o175.rd e183 rfl rfl rfl) (Lw.fa rfl ?_)
        obtain ⟨v184, c185, r186⟩ := (Commit.at0 (o175.rd.at_ e183)).cell rfl
        refine Lw.r rfl (R.ld rfl rfl c185) (mi rfl ?_)
        obtain ⟨u187, e188, hm⟩ := ob hm
        refine Lw.r rfl (R.ix (α := Int) r186 e188 rfl rfl rfl) (Lw.r rfl (R.ld rfl rfl (r186.at_ e188).int) (Ni rfl ?_))
        obtain ⟨K191, hK191, hm⟩ := jn_e hm
        refine Cw.join 160 195 [195] (fun l w => ∃ y189 W190, CW.w W190 = w ∧ Le [] W168 W190 ∧ l = [vB y189] ∧ K191 y189 = some r) ?_ ?_
        ·rintro _ _ σ ⟨y189, W190, rfl, l190, rfl, hm⟩
         rw [hK191] at hm
         have a192 := a171.n l190
         refine cn hm (fun hm => ?_) fun hm => ?_
         ·exact sr (Nb rfl (.ret (rt hm a192)))
         ·exact sk (rg (mi rfl (Lw.add rfl (Ni rfl ((agm) ⟨y165, w64 (y166 + 1), vI u187, W190, rfl, (l168.j l190).w, rfl, hm⟩)))))
        ·refine Cw.draw [] [(0, 0), (1, 0), (2, 0), (3, 0), (4, 0), (5, 0), (6, 0), (7, 0), (8, 0), (9, 0), (10, 1), (11, 0), (12, 1), (13, 0), (14, 0), (15, 1), (16, 0), (17, 0), (18, 0), (19, 0), (20, 0), (21, 0), (22, 0), (23, 0), (24, 0), (25, 0), (26, 0), (27, 1), (28, 0), (29, 1), (30, 0), (31, 0), (32, 1), (33, 0), (34, 0), (35, 0)] mixed (by kernel_rfl) fun W202 l202 => ?_
         have o206 := (((((o108.up l114).up l134).up l143).up l153).up l168).up l202
         have o209 := ((((o121.up l134).up l143).up l153).up l168).up l202
         have b211 := b179.up l202
         refine Di rfl (Di rfl (Mw.p rfl rfl (fun _ => R.ge rfl rfl) (Db rfl (bs hm (fun hc212 hm => ?_) fun hc212 hm => ?_))))
         ·exact dps 3 hc212 rfl (dpu 10 rfl (dps 1 hc212 rfl (Mw.p rfl rfl (fun _ => R.pk hc212 rfl (v := vB true) rfl) (Db rfl (dps 3 rfl rfl (dpu 11 rfl (dps 1 rfl rfl (Mw.p rfl rfl (fun _ => R.pk rfl rfl (v := vB true) rfl) (Mw.nil ((ag) ⟨true, W202, rfl, l202, rfl, hm⟩))))))))))
         ·refine Wp hc212 rfl (fun _ => R.mv (v := vI u187) rfl) (Wp hc212 rfl (fun _ => R.ge rfl rfl) (Wp hc212 rfl (fun _ => R.mv (v := vB (decide ((0 : Int) ≤ (u187 : Int)))) rfl) (bs hm (fun hc213 hm => ?_) fun hc213 hm => ?_)))
          ·refine Wp hc213 rfl (fun _ => R.mv (v := v0_89) rfl) (Wp hc213 rfl (fun _ => R.mv (v := vI u187) rfl) ?_)
           obtain ⟨u214, e215, hm⟩ := ob hm
           refine Wp hc213 rfl (fun _ => R.ix (α := Int) o209.rd e215 rfl rfl rfl) (Wq hc213 rfl (fun _ c => R.ld rfl rfl (cl_cell (o209.rd.at_ e215).1 rfl (o209.rd.at_ e215).int c)) (Wp hc213 rfl (fun _ => R.fa rfl) (Wq hc213 rfl (fun _ c => R.ld (v := v130) rfl rfl (b211.clc rfl rfl c)) (Wp hc213 rfl (fun _ => R.mv (v := vI y166) rfl) ?_))))
           obtain ⟨u216, e217, hm⟩ := ob hm
           have s218 := r131.up ((l134.sub (M := [9]) rfl).trans ((l143.sub (M := [9]) rfl).trans ((l153.sub (M := [9]) rfl).trans ((l168.sub (M := [9]) rfl).trans (l202.sub (M := [9]) rfl))))) rfl
           refine Wp hc213 rfl (fun _ => R.ix (α := Int) s218 e217 rfl rfl rfl) (Wq hc213 rfl (fun _ c => R.ld rfl rfl (cl_cell (s218.at_ e217).1 rfl (s218.at_ e217).int c)) (Wp hc213 rfl (fun _ => R.ne rfl rfl) (Wp hc212 rfl (fun _ => R.pk hc213 rfl (v := vB ((u214 : Int) != (u216 : Int))) rfl) (Mw.p rfl rfl (fun _ => R.pk hc212 rfl (v := vB ((u214 : Int) != (u216 : Int))) rfl) (Db rfl (bs hm (fun hc219 hm => ?_) fun hc219 hm => ?_))))))
           ·exact dps 3 hc219 rfl (dpu 11 rfl (dps 1 hc219 rfl (Mw.p rfl rfl (fun _ => R.pk hc219 rfl (v := vB true) rfl) (Mw.nil ((ag) ⟨true, W202, rfl, l202, rfl, hm⟩)))))
           ·refine Wp hc219 rfl (fun _ => R.mv (v := vI u187) rfl) (Wp hc219 rfl (fun _ => R.lt rfl rfl) (Wp hc219 rfl (fun _ => R.mv (v := vB (decide ((u187 : Int) < (0 : Int)))) rfl) (bs hm (fun hc220 hm => ?_) fun hc220 hm => ?_)))
            ·refine Wp hc220 rfl (fun _ => R.mv (v := v1_4) rfl) (Wp hc220 rfl (fun _ => R.mv (v := vI u187) rfl) (Wp hc220 rfl (fun _ => R.sub rfl rfl) ?_))
             obtain ⟨u221, e222, hm⟩ := ob hm
             refine Wp hc220 rfl (fun _ => R.ix (α := Int) o206.rd e222 rfl rfl rfl) (Wq hc220 rfl (fun _ c => R.ld rfl rfl (cl_cell (o206.rd.at_ e222).1 rfl (o206.rd.at_ e222).int c)) (Wp hc220 rfl (fun _ => R.fa rfl) (Wq hc220 rfl (fun _ c => R.ld (v := v130) rfl rfl (b211.clc rfl rfl c)) (Wp hc220 rfl (fun _ => R.mv (v := vI y166) rfl) ?_))))
             obtain ⟨u223, e224, hm⟩ := ob hm
             exact Wp hc220 rfl (fun _ => R.ix (α := Int) s218 e224 rfl rfl rfl) (Wq hc220 rfl (fun _ c => R.ld rfl rfl (cl_cell (s218.at_ e224).1 rfl (s218.at_ e224).int c)) (Wp hc220 rfl (fun _ => R.ne rfl rfl) (Wp hc219 rfl (fun _ => R.pk hc220 rfl (v := vB ((u221 : Int) != (u223 : Int))) rfl) (Mw.p rfl rfl (fun _ => R.pk hc219 rfl (v := vB ((u221 : Int) != (u223 : Int))) rfl) (Mw.nil ((ag) ⟨((u221 : Int) != (u223 : Int)), W202, rfl, l202, rfl, hm⟩))))))
            ·exact dps 11 hc220 rfl (Wp hc219 rfl (fun _ => R.pk hc220 rfl (v := vB false) rfl) (Mw.p rfl rfl (fun _ => R.pk hc219 rfl (v := vB false) rfl) (Mw.nil ((ag) ⟨false, W202, rfl, l202, rfl, hm⟩))))
          ·refine dps 10 hc213 rfl (Wp hc212 rfl (fun _ => R.pk hc213 rfl (v := vB false) rfl) (Mw.p rfl rfl (fun _ => R.pk hc212 rfl (v := vB false) rfl) (Db rfl (Wp rfl rfl (fun _ => R.mv (v := vI u187) rfl) (Wp rfl rfl (fun _ => R.lt rfl rfl) (Wp rfl rfl (fun _ => R.mv (v := vB (decide ((u187 : Int) < (0 : Int)))) rfl) (bs hm (fun hc225 hm => ?_) fun hc225 hm => ?_)))))))
           ·refine Wp hc225 rfl (fun _ => R.mv (v := v1_4) rfl) (Wp hc225 rfl (fun _ => R.mv (v := vI u187) rfl) (Wp hc225 rfl (fun _ => R.sub rfl rfl) ?_))
            obtain ⟨u226, e227, hm⟩ := ob hm
            refine Wp hc225 rfl (fun _ => R.ix (α := Int) o206.rd e227 rfl rfl rfl) (Wq hc225 rfl (fun _ c => R.ld rfl rfl (cl_cell (o206.rd.at_ e227).1 rfl (o206.rd.at_ e227).int c)) (Wp hc225 rfl (fun _ => R.fa rfl) (Wq hc225 rfl (fun _ c => R.ld (v := v130) rfl rfl (b211.clc rfl rfl c)) (Wp hc225 rfl (fun _ => R.mv (v := vI y166) rfl) ?_))))
            obtain ⟨u228, e229, hm⟩ := ob hm
            have s230 := r131.up ((l134.sub (M := [9]) rfl).trans ((l143.sub (M := [9]) rfl).trans ((l153.sub (M := [9]) rfl).trans ((l168.sub (M := [9]) rfl).trans (l202.sub (M := [9]) rfl))))) rfl
            exact Wp hc225 rfl (fun _ => R.ix (α := Int) s230 e229 rfl rfl rfl) (Wq hc225 rfl (fun _ c => R.ld rfl rfl (cl_cell (s230.at_ e229).1 rfl (s230.at_ e229).int c)) (Wp hc225 rfl (fun _ => R.ne rfl rfl) (Wp rfl rfl (fun _ => R.pk hc225 rfl (v := vB ((u226 : Int) != (u228 : Int))) rfl) (Mw.p rfl rfl (fun _ => R.pk rfl rfl (v := vB ((u226 : Int) != (u228 : Int))) rfl) (Mw.nil ((ag) ⟨((u226 : Int) != (u228 : Int)), W202, rfl, l202, rfl, hm⟩))))))
           ·exact dps 11 hc225 rfl (Wp rfl rfl (fun _ => R.pk hc225 rfl (v := vB false) rfl) (Mw.p rfl rfl (fun _ => R.pk rfl rfl (v := vB false) rfl) (Mw.nil ((ag) ⟨false, W202, rfl, l202, rfl, hm⟩))))
       ·refine Cw.exit ?_
        rw [hK169] at hm
        exact rg (mi rfl (Lw.add rfl (Ni rfl ((agm) ⟨y165, w64 (y98 + 1), ptr (bx g134), vI y166, j167, W168, rfl, (((((l102.j l114).j l134).j l143).j l153).j l168).w, rfl, hm⟩))))
     ·refine Cw.draw [] [(0, 0), (1, 0), (2, 0), (3, 1), (4, 0), (5, 0), (6, 0), (7, 1), (8, 2), (9, 0), (10, 0), (11, 0), (12, 0), (13, 0), (14, 0), (15, 1), (16, 0), (17, 1), (18, 0), (19, 0), (20, 0), (21, 0), (22, 0), (23, 0), (24, 0), (25, 1), (26, 0), (27, 1), (28, 2), (29, 0), (30, 0), (31, 0), (32, 0), (33, 0), (34, 0), (35, 0), (36, 1), (37, 0), (38, 0), (39, 1), (40, 0), (41, 0), (42, 0)] mixed (by kernel_rfl) fun W231 l231 => ?_
      have o236 := o148.up l231
      have o237 := ((((((f27_0.up l35).up l89).up l102).up l114).up l134).up l143).up l231
      have b240 := b143.up l231
      refine Dv v0_19 rfl (Di rfl ?_)
      obtain ⟨u241, e242, hm⟩ := ob hm
      refine Mw.p rfl rfl (fun _ => R.ix (α := Commit) o236.rd e242 rfl rfl rfl) ?_
      obtain ⟨x243, c244, _, r245⟩ := (o236.rd.at_ e242).cells
      obtain ⟨v246, v248, rfl, r247, r249⟩ := Commit.split r245
      refine Mw.q rfl rfl (fun _ c => R.lda (cl_cells (o236.rd.at_ e242).1 rfl c244 c) rfl rfl) (Dv v0_27 rfl (Di rfl ?_))
      obtain ⟨u250, e251, hm⟩ := ob hm
      refine Mw.p rfl rfl (fun _ => R.ix (α := Commit) o237.rd e251 rfl rfl rfl) ?_
      obtain ⟨x252, c253, _, r254⟩ := (o237.rd.at_ e251).cells
      obtain ⟨v255, v257, rfl, r256, r258⟩ := Commit.split r254
      refine Mw.q rfl rfl (fun _ c => R.lda (cl_cells (o237.rd.at_ e251).1 rfl c253 c) rfl rfl) (Dc hm (Le.refl _ _) (fun _ => p49 (K := [6, 7]) ((Commit.rd (K := [6]) u241.Parents u241.Who u241.Tree r247 r249).sub (M := [6, 7]) rfl) ((Commit.rd (K := [7]) u250.Parents u250.Who u250.Tree r256 r258).sub (M := [6, 7]) rfl)) rfl ?_)
      rintro z259 _ W261 hm l261 rfl d261
      refine Mw.p rfl rfl (fun _ => R.not rfl) (Db rfl (bs hm (fun hc271 hm => ?_) fun hc271 hm => ?_))
      ·exact dps 8 hc271 rfl (Mw.p rfl rfl (fun _ => R.pk hc271 rfl (v := vB true) rfl) (Db rfl (dps 9 rfl rfl (Mw.p rfl rfl (fun _ => R.pk rfl rfl (v := vB true) rfl) (Db rfl (dps 10 rfl rfl (Mw.p rfl rfl (fun _ => R.pk rfl rfl (v := vB true) rfl) (Mw.nil ((ag) ⟨true, W261, rfl, (l231.j l261).w, rfl, hm⟩)))))))))
      ·refine Wp hc271 rfl (fun _ => R.mv (v := v0_19) rfl) (Wp hc271 rfl (fun _ => R.mv (v := vI y98) rfl) ?_)
       obtain ⟨u272, e273, hm⟩ := ob hm
       refine Wp hc271 rfl (fun _ => R.ix (α := Commit) o236.rd e273 rfl rfl rfl) (Wp hc271 rfl (fun _ => R.fa rfl) (Wq hc271 rfl (fun _ c => R.ld rfl rfl (cl_cell (Commit.at1 (o236.rd.at_ e273)).1 rfl (Commit.at1 (o236.rd.at_ e273)).str c)) (Wp hc271 rfl (fun _ => R.fa rfl) (Wq hc271 rfl (fun _ c => R.ld (v := vS u125.Who) rfl rfl (b240.clc rfl rfl c)) (Wp hc271 rfl (fun _ => R.sne rfl rfl) (Mw.p rfl rfl (fun _ => R.pk hc271 rfl (v := vB (u272.Who != u125.Who)) rfl) (Db rfl (bs hm (fun hc274 hm => ?_) fun hc274 hm => ?_))))))))
       ·exact dps 9 hc274 rfl (Mw.p rfl rfl (fun _ => R.pk hc274 rfl (v := vB true) rfl) (Db rfl (dps 10 rfl rfl (Mw.p rfl rfl (fun _ => R.pk rfl rfl (v := vB true) rfl) (Mw.nil ((ag) ⟨true, W261, rfl, (l231.j l261).w, rfl, hm⟩))))))
       ·refine Wp hc274 rfl (fun _ => R.mv (v := v0_19) rfl) (Wp hc274 rfl (fun _ => R.mv (v := vI y98) rfl) ?_)
        obtain ⟨u275, e276, hm⟩ := ob hm
        refine Wp hc274 rfl (fun _ => R.ix (α := Commit) o236.rd e276 rfl rfl rfl) (Wp hc274 rfl (fun _ => R.fa rfl) ?_)
        obtain ⟨v277, c278, r279⟩ := (Commit.at2 (o236.rd.at_ e276)).cell rfl
        refine Wq hc274 rfl (fun _ c => R.ld rfl rfl (cl_cell (Commit.at2 (o236.rd.at_ e276)).1 rfl c278 c)) (Wp hc274 rfl (fun _ => R.fa rfl) (Wq hc274 rfl (fun _ c => R.ld (v := v132) rfl rfl (b240.clc rfl rfl c)) ?_))
        have s280 := r279.up (l261.sub (M := []) rfl) rfl
        have s281 := r133.up ((l134.sub (M := [9]) rfl).trans ((l143.sub (M := [9]) rfl).trans ((l231.sub (M := [9]) rfl).trans (l261.sub (M := [9]) rfl)))) rfl
        obtain ⟨z282, e283, hm⟩ := ob hm
        refine Wt hc274 rfl (T.call rfl (p42 (K := [2, 6])  (s280.sub (M := [2, 6]) rfl) (s281.sub (M := [2, 6]) rfl) e283)) ?_
        rintro _ _ ⟨W284, rfl, l284, rfl⟩
        refine mc d261 l284 fun d284 => Wp hc274 rfl (fun _ => R.not rfl) (Mw.p rfl rfl (fun _ => R.pk hc274 rfl (v := vB (!z282)) rfl) (Db rfl (bs hm (fun hc294 hm => ?_) fun hc294 hm => ?_)))
        ·exact dps 10 hc294 rfl (Mw.p rfl rfl (fun _ => R.pk hc294 rfl (v := vB true) rfl) (Mw.nil ((ag) ⟨true, W284, rfl, ((l231.j l261).j l284).w, rfl, hm⟩)))
        ·refine Wp hc294 rfl (fun _ => R.mv (v := v0_19) rfl) (Wp hc294 rfl (fun _ => R.mv (v := vI y98) rfl) ?_)
         obtain ⟨u295, e296, hm⟩ := ob hm
         refine Wp hc294 rfl (fun _ => R.ix (α := Commit) o236.rd e296 rfl rfl rfl) (Wp hc294 rfl (fun _ => R.fa rfl) ?_)
         obtain ⟨v297, c298, r299⟩ := (Commit.at0 (o236.rd.at_ e296)).cell rfl
         have s300 := r299.up ((l261.sub (M := []) rfl).trans (l284.sub (M := []) rfl)) rfl
         have s301 := r131.up ((l134.sub (M := [9]) rfl).trans ((l143.sub (M := [9]) rfl).trans ((l231.sub (M := [9]) rfl).trans ((l261.sub (M := [9]) rfl).trans (l284.sub (M := [9]) rfl))))) rfl
         exact Wq hc294 rfl (fun _ c => R.ld rfl rfl (cl_cell (Commit.at0 (o236.rd.at_ e296)).1 rfl c298 c)) (Wp hc294 rfl (fun _ => lenR (xs := u295.Parents) s300 rfl) (Wp hc294 rfl (fun _ => R.fa rfl) (Wq hc294 rfl (fun _ c => R.ld (v := v130) rfl rfl (b240.clc rfl rfl c)) (Wp hc294 rfl (fun _ => lenR (xs := u125.Parents) s301 rfl) (Wp hc294 rfl (fun _ => R.ne rfl rfl) (Mw.p rfl rfl (fun _ => R.pk hc294 rfl (v := vB (((u295.Parents.length : Int) : Int) != ((u125.Parents.length : Int) : Int))) rfl) (Mw.nil ((ag) ⟨(((u295.Parents.length : Int) : Int) != ((u125.Parents.length : Int) : Int)), W284, rfl, ((l231.j l261).j l284).w, rfl, hm⟩))))))))
    ·refine Cw.exit ?_
     rw [hK103] at hm
     obtain ⟨K304, hK304, hm⟩ := jn_e hm
     refine Cw.join 196 209 [2] (fun l w => ∃ y302 W303, CW.w W303 = w ∧ Le [] W102 W303 ∧ l = [vB y302] ∧ K304 y302 = some r) ?_ ?_
     ·rintro _ _ σ ⟨y302, W303, rfl, l303, rfl, hm⟩
      rw [hK304] at hm
      have a305 := a105.n l303
      exact .ret (rt hm a305)
     ·refine rg (mv v0_19 rfl (Lw.ln z17.1 o109.rd rfl (mv v0_89 rfl (Lw.ln z87 (f89_0.up l102).rd rfl (Lw.eq rfl (mb rfl (bs hm (fun hc313 hm => ?_) fun hc313 hm => ?_)))))))
      ·exact wak 7 hc313 (mv v0_19 rfl (Lw.ln z17.1 o109.rd rfl (la b112 (mv v1_4 rfl (mi rfl (ca hm (fun _ => p46 (K := [0, 2, 3, 4]) (x0 := (Vm.Repo.mk z2.1.Commits z2.1.Heads)) ((Repo.rd (K := [2, 3]) z2.1.Commits z2.1.Heads (o106.rd.sub (M := [2, 3]) rfl) (((o39.up l89).up l102).rd.sub (M := [2, 3]) rfl)).sub (M := [0, 2, 3, 4]) rfl) (o108.rd.sub (M := [0, 2, 3, 4]) rfl) ((h99.ul a105).sub (M := [0, 2, 3, 4]) rfl)) fun z315 W317 hm l317 => Lw.eq rfl (Pb hc313 rfl (Nb rfl ((ag) ⟨(((z17.1.length : Int) : Int) == (z315 : Int)), W317, rfl, l317, rfl, hm⟩)))))))))
      ·exact psk 7 hc313 rfl (Pb hc313 rfl (Nb rfl ((ag) ⟨false, W102, rfl, Le.refl _ _, rfl, hm⟩)))
  ·refine Cw.draw [] [(0, 0), (1, 0), (2, 0), (3, 0), (4, 0), (5, 0), (6, 0), (7, 0), (8, 0), (9, 0), (10, 0), (11, 1), (12, 0), (13, 0), (15, 1), (16, 0), (17, 0), (14, 2), (18, 2), (19, 0), (20, 0), (21, 0), (22, 0), (23, 0), (24, 0)] mixed (by kernel_rfl) fun W326 l326 => ?_
   have a327 := a28.n l326
   refine Db rfl (Db rfl (Mw.p rfl rfl (fun _ => R.bne rfl rfl) (Db rfl (bs hm (fun hc334 hm => ?_) fun hc334 hm => ?_))))
   ·exact dps 5 hc334 rfl (Mw.p rfl rfl (fun _ => R.pk hc334 rfl (v := vB true) rfl) (Db rfl (dps 9 rfl rfl (Mw.p rfl rfl (fun _ => R.pk rfl rfl (v := vB true) rfl) (Db rfl (dps 2 rfl rfl (Mw.p rfl rfl (fun _ => R.pk rfl rfl (v := vB true) rfl) (Mw.nil ((ag) ⟨true, W326, rfl, l326, rfl, hm⟩)))))))))
   ·refine Wp hc334 rfl (fun _ => R.mv (v := v0_19) rfl) (Wp hc334 rfl (fun _ => lenR (xs := z17.1) ((f19_0.up l27).up l326).rd rfl) (Wp hc334 rfl (fun _ => R.mv (v := v0_27) rfl) (Wp hc334 rfl (fun _ => lenR (xs := z25.1) (f27_0.up l326).rd rfl) (Wp hc334 rfl (fun _ => R.ne rfl rfl) (Mw.p rfl rfl (fun _ => R.pk hc334 rfl (v := vB (((z17.1.length : Int) : Int) != ((z25.1.length : Int) : Int))) rfl) (Db rfl (bs hm (fun hc335 hm => ?_) fun hc335 hm => ?_)))))))
    ·exact dps 9 hc335 rfl (Mw.p rfl rfl (fun _ => R.pk hc335 rfl (v := vB true) rfl) (Db rfl (dps 2 rfl rfl (Mw.p rfl rfl (fun _ => R.pk rfl rfl (v := vB true) rfl) (Mw.nil ((ag) ⟨true, W326, rfl, l326, rfl, hm⟩))))))
    ·refine Wq hc335 rfl (fun _ c => R.lda (cs := [v0_0_4, v0_1_4]) ((b33.up l326).clcs rfl c) rfl rfl) (Wp hc335 rfl (fun _ => R.mv (v := v1_4) rfl) (Wp hc335 rfl (fun _ => R.mv (v := vI z2.2.2) rfl) (Wq hc335 rfl (fun _ c => R.lda (cs := [v0_0_4, v0_1_4]) ((b33.up l326).clcs rfl c) rfl rfl) (Wp hc335 rfl (fun _ => R.mv (v := v1_4) rfl) (Wp hc335 rfl (fun _ => R.mv (v := vI z2.2.2) rfl) ?_)))))
     obtain ⟨z337, e338, hm⟩ := ob hm
     refine Wt hc335 rfl (T.call rfl (p46 (K := [0, 2, 3, 4])  (x0 := (Vm.Repo.mk z2.1.Commits z2.1.Heads)) ((Repo.rd (K := [2, 3]) z2.1.Commits z2.1.Heads ((o29.up l326).rd.sub (M := [2, 3]) rfl) ((o30.up l326).rd.sub (M := [2, 3]) rfl)).sub (M := [0, 2, 3, 4]) rfl) ((o31.up l326).rd.sub (M := [0, 2, 3, 4]) rfl) ((h99.ul a327).sub (M := [0, 2, 3, 4]) rfl) e338)) ?_
     rintro _ _ ⟨W339, rfl, l339, rfl⟩
     refine m0 l339 fun d339 => ?_
     obtain ⟨z347, e348, hm⟩ := ob hm
     refine Wt hc335 rfl (T.call rfl (p47 (K := [2, 3, 4])  (x0 := (Vm.Repo.mk z2.1.Commits z2.1.Heads)) ((Repo.rd (K := [2, 3]) z2.1.Commits z2.1.Heads (((o29.up l326).up l339).rd.sub (M := [2, 3]) rfl) (((o30.up l326).up l339).rd.sub (M := [2, 3]) rfl)).sub (M := [2, 3, 4]) rfl) (((o31.up l326).up l339).rd.sub (M := [2, 3, 4]) rfl) e348)) ?_
     rintro _ _ ⟨W349, rfl, l349, rfl⟩
     refine mc d339 l349 fun d349 => Wp hc335 rfl (fun _ => R.ne rfl rfl) (Mw.p rfl rfl (fun _ => R.pk hc335 rfl (v := vB ((z337 : Int) != (z347 : Int))) rfl) (Db rfl (bs hm (fun hc357 hm => ?_) fun hc357 hm => ?_)))
     ·exact dps 2 hc357 rfl (Mw.p rfl rfl (fun _ => R.pk hc357 rfl (v := vB true) rfl) (Mw.nil ((ag) ⟨true, W349, rfl, ((l326.j l339).j l349).w, rfl, hm⟩)))
     ·exact Wp hc357 rfl (fun _ => R.mv (v := vB z17.2) rfl) (Wp hc357 rfl (fun _ => R.not rfl) (Mw.p rfl rfl (fun _ => R.pk hc357 rfl (v := vB (!z17.2)) rfl) (Mw.nil ((ag) ⟨(!z17.2), W349, rfl, ((l326.j l339).j l349).w, rfl, hm⟩))))

theorem p7 {x0 v0_ r} (h0 : Rd W K [v0_] x0) (h99 : Gl 0 W K) (hm : Vm.laws_FnSendOf x0 = some r) : Q1 7 [v0_] W [] fun W' v => v = vB r :=
 (c7 (h0.view _) (h99.view _) hm).ad (fk 0) fun _ _ e => e

end Go.Sx
