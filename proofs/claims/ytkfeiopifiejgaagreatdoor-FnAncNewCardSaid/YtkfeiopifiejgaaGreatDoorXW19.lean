/- Walks: each function answers as its model, printed by a program of ours. Conditions: the arguments read as they are given. -/
import Derived.Test.YtkfeiopifiejgaaGreatDoorXTs
import Derived.Test.YtkfeiopifiejgaaGreatDoorXM13
import Derived.Test.YtkfeiopifiejgaaGreatDoorXW0
import Derived.Test.YtkfeiopifiejgaaGreatDoorXW1
import Derived.Test.YtkfeiopifiejgaaGreatDoorXW10
import Derived.Test.YtkfeiopifiejgaaGreatDoorXW11
import Derived.Test.YtkfeiopifiejgaaGreatDoorXW12
import Derived.Test.YtkfeiopifiejgaaGreatDoorXW14
import Derived.Test.YtkfeiopifiejgaaGreatDoorXW3
import Derived.Test.YtkfeiopifiejgaaGreatDoorXW6
import Derived.Test.YtkfeiopifiejgaaGreatDoorXW7
namespace Go.Sx
open Go Go.Proofs Go.Vm Rp
set_option linter.unusedVariables false
set_option linter.unusedSimpArgs false

variable {W W0 : CW} {K : List Nat}
theorem c23 {x0 v0_ r} (h0 : Rd W0 [0] [v0_] x0) (hm : Vm.spec_DrawAncNew x0 = some r) : Q0 23 [v0_] W0 fun Wf v => ∃ u0_0 u0_1, v = .tuple [.agg [u0_0, u0_1].toArray, vI r.2.1, vI r.2.2].toArray ∧ OwS Wf [31] [] [u0_0] r.1.Commits ∧ OwS Wf [32] [] [u0_1] r.1.Heads := by
 unfold Vm.spec_DrawAncNew at hm
 refine CallR.of Tryz.func23 rfl rfl rfl rfl (sr (al 2 [.slice none 0 0, .slice none 0 0] fun g1 W1 l1 b1 => ?_))
 have a2 := l1.o
 refine Gi rfl (Ni rfl (sr (mv v0_ rfl (cr hm (fun _ => p53 (k0 := 3) (k1 := 4) (h0.ul a2)) ?_))))
 rintro z4 _ W6 hm l6 ⟨v0_0_6, v0_1_6, rfl, f6_0, f6_1⟩
 have a7 := a2.n l6
 refine Lw.r rfl (R.ext (vs := [.agg [v0_0_6, v0_1_6].toArray, vI z4.2.1, vI z4.2.2]) (v := .agg [v0_0_6, v0_1_6].toArray) rfl rfl) (Lw.r rfl (R.ext (vs := [.agg [v0_0_6, v0_1_6].toArray, vI z4.2.1, vI z4.2.2]) (v := vI z4.2.1) rfl rfl) (Lw.r rfl (R.ext (vs := [.agg [v0_0_6, v0_1_6].toArray, vI z4.2.1, vI z4.2.2]) (v := vI z4.2.2) rfl rfl) (sta (b1.up l6) (oc_cons f6_0.oc (oc_cons f6_1.oc oc_nil)) fun W9 l9 b9 => ?_)))
 have a10 := a7.t l9
 refine Gi rfl (Ni rfl ?_)
 obtain ⟨W13, ew13, l13, o13⟩ := (f6_0.up l9).dyeO 31
 have a14 := a10.t l13
 obtain ⟨W17, ew17, l17, o17⟩ := ((f6_1.up l9).up l13).dyeO 32
 have a18 := a14.t l17
 cases hm
 rw [← ew17.trans (ew13)]
 exact Cw.ret (retG (ResOk.c rfl ((b9.up l13).up l17) (ResOk.t rfl (ResOk.t rfl ResOk.n))) (Res.mk a18 ⟨v0_0_6, v0_1_6, rfl, (o13.up l17).s, o17.s⟩))

theorem p23 {x0 v0_ k0 k1 r} (h0 : Rd W K [v0_] x0) (hm : Vm.spec_DrawAncNew x0 = some r) : Q1 23 [v0_] W [] fun W' v => ∃ u0_0 u0_1, v = .tuple [.agg [u0_0, u0_1].toArray, vI r.2.1, vI r.2.2].toArray ∧ Ow W' k0 [] [u0_0] r.1.Commits ∧ Ow W' k1 [] [u0_1] r.1.Heads :=
 CallR.adJ (J := []) (fun c => bif Nat.beq c 0 then 0 else bif Nat.beq c 31 then k0 else bif Nat.beq c 32 then k1 else 0) (c23 (h0.view _) hm) fun _ _ ⟨u0_0, u0_1, e, f0, f1⟩ => ⟨u0_0, u0_1, e, f0.one1.backN rfl, f1.one1.backN rfl⟩

theorem c24 {x0 v0_0_ v0_1_ x1 x2 r} (h0 : Rd W0 [0] [v0_0_, v0_1_] x0) (h99 : Gl 0 W0 [0]) (hm : Vm.impl_AncNew x0 x1 x2 = some r) : Q0 24 [.agg [v0_0_, v0_1_].toArray, vI x1, vI x2] W0 fun Wf v => ∃ u0, v = u0 ∧ OwS Wf LL [] [u0] r := by
 unfold Vm.impl_AncNew at hm
 obtain ⟨w0_0, w0_1, he0, h0_0, h0_1⟩ := Repo.split h0
 simp only [List.cons.injEq, and_true, true_and] at he0
 obtain ⟨rfl, rfl⟩ := he0
 refine CallR.of Tryz.func24 rfl rfl rfl rfl (sr (bo 2 rfl fun g1 W1 l1 b1 => ?_))
 have a2 := l1.o
 refine Nv (.slice none 0 0) rfl (ssr (la b1 (mi rfl (mi rfl (Lw.t rfl (T.bsS (α := Int) (xs := [x1, x2]) 3 [] (W := W1) [vI x1, vI x2] (Each.cons ((rdI _)) (Each.cons ((rdI _)) Each.nil)) rfl) ?_)))))
 rintro v3 _ ⟨W3, rfl, l3, o3⟩
 have a4 := a2.n l3
 refine ca hm (fun _ => p37 (K := [0, 3]) ((Repo.rd (K := [0]) x0.Commits x0.Heads (h0_0.ul a4) (h0_1.ul a4)).sub (M := [0, 3]) rfl) (o3.rd.sub (M := [0, 3]) rfl) ((h99.ul a4).sub (M := [0, 3]) rfl)) fun z9 W11 hm l11 => ?_
 have a12 := a4.n l11
 refine Lw.r rfl (R.not rfl) (nl (cn hm (fun hm => ?_) fun hm => ?_))
 ·refine sr (Nv (.slice none 0 0) rfl ?_)
  cases hm
  exact Cw.ret (ret1 rfl (Res.mk a12 ⟨.slice none 0 0, rfl, (owsN []).sub rfl rfl⟩))
 ·refine sk (sr (la ((b1.up l3).up l11) (mi rfl (mi rfl (Lw.t rfl (T.bsS (α := Int) (xs := [x1]) 4 [] (W := W11) [vI x1] (Each.cons ((rdI _)) Each.nil) rfl) ?_)))))
  rintro v16 _ ⟨W16, rfl, l16, o16⟩
  have a17 := a12.n l16
  refine cr hm (fun _ => p56 (K := [0, 4]) (k0 := 5) ((Repo.rd (K := [0]) x0.Commits x0.Heads (h0_0.ul a17) (h0_1.ul a17)).sub (M := [0, 4]) rfl) (o16.rd.sub (M := [0, 4]) rfl)) ?_
  rintro z22 v0_24 W24 hm l24 ⟨_, rfl, f24_0⟩
  have a25 := a17.n l24
  refine Nv v0_24 rfl ?_
  cases hm
  exact Cw.ret (ret1 rfl (Res.mk a25 ⟨v0_24, rfl, f24_0.s.sub rfl rfl⟩))

theorem p24 {x0 v0_0_ v0_1_ x1 x2 k0 r} (h0 : Rd W K [v0_0_, v0_1_] x0) (h99 : Gl 0 W K) (hm : Vm.impl_AncNew x0 x1 x2 = some r) : Q1 24 [.agg [v0_0_, v0_1_].toArray, vI x1, vI x2] W [] fun W' v => ∃ u0, v = u0 ∧ Ow W' k0 [] [u0] r :=
 (c24 (h0.view _) (h99.view _) hm).ad (fk k0) fun _ _ ⟨u0, e, f0⟩ => ⟨u0, e, f0.back (fk_LL _)⟩

theorem c25 {x0 v0_0_ v0_1_ x1 x2 r} (h0 : Rd W0 [0] [v0_0_, v0_1_] x0) (hm : Vm.spec_AncNew x0 x1 x2 = some r) : Q0 25 [.agg [v0_0_, v0_1_].toArray, vI x1, vI x2] W0 fun Wf v => ∃ u0, v = u0 ∧ OwS Wf LL [] [u0] r := by
 unfold Vm.spec_AncNew at hm
 obtain ⟨w0_0, w0_1, he0, h0_0, h0_1⟩ := Repo.split h0
 simp only [List.cons.injEq, and_true, true_and] at he0
 obtain ⟨rfl, rfl⟩ := he0
 refine CallR.of Tryz.func25 rfl rfl rfl rfl (sr (bo 2 rfl fun g1 W1 l1 b1 => ?_))
 have a2 := l1.o
 refine Nv (.slice none 0 0) rfl (sr (Lw.t rfl (T.lit0 (α := Int) 3 []) ?_))
 rintro v3 _ ⟨W3, rfl, l3, o3⟩
 have a4 := a2.n l3
 have b5 := b1.up l3
 refine Nv v3 rfl (Cw.seq ?_)
 obtain ⟨K8, hK8, hm⟩ := jn_e hm
 refine Cw.join 12 32 [32] (fun l w => ∃ y6 W7, CW.w W7 = w ∧ Le [] W3 W7 ∧ l = [vB y6] ∧ K8 y6 = some r) ?_ ?_
 ·rintro _ _ σ ⟨y6, W7, rfl, l7, rfl, hm⟩
  rw [hK8] at hm
  have a9 := a4.n l7
  refine cn hm (fun hm => ?_) fun hm => ?_
  ·refine sr (Nv (.slice none 0 0) rfl ?_)
   cases hm
   exact Cw.ret (ret1 rfl (Res.mk a9 ⟨.slice none 0 0, rfl, (owsN []).sub rfl rfl⟩))
  ·refine sk (sr (la (b5.up l7) (mi rfl (cr hm (fun _ => p47 (k0 := 4) (Repo.rd (K := [0]) x0.Commits x0.Heads (h0_0.ul a9) (h0_1.ul a9))) ?_))))
   rintro z15 v0_17 W17 hm l17 ⟨_, rfl, f17_0⟩
   have a18 := a9.n l17
   refine Nv v0_17 rfl (sr (la ((b5.up l7).up l17) (mi rfl (cr hm (fun _ => p47 (k0 := 5) (Repo.rd (K := [0]) x0.Commits x0.Heads (h0_0.ul a18) (h0_1.ul a18))) ?_))))
   rintro z23 v0_25 W25 hm l25 ⟨_, rfl, f25_0⟩
   have a26 := a18.n l25
   refine Nv v0_25 rfl (ssr (Ni rfl (Cw.block ?_)))
   obtain ⟨K35, hK35, hm⟩ := jn_e hm
   refine Cw.loop 39 58 [7, 10] (fun m l w => ∃ y30 y33 v31 W34, CW.w W34 = w ∧ Le [3] W25 W34 ∧ l = [v31, vI y33] ∧ Ow W34 3 [] [v31] y30 ∧ Vm.spec_AncNew_l1 z15 z23 K35 m y30 y33 = some r) _ ⟨([] : List Int), 0, v3, W25, rfl, Le.refl _ _, rfl, (((o3.up l7).up l17).up l25), hm⟩ ?_
   rintro (_ | m36) _ _ σ ⟨y30, y33, v31, W34, rfl, l34, rfl, o32, hm⟩
   ·cases hm
   unfold Vm.spec_AncNew_l1 at hm
   have a37 := a26.t l34
   have o39 := f25_0.up l34
   refine ssr (mi rfl (mv v0_25 rfl (Lw.ln z23 o39.rd rfl (Lw.lt rfl (nl (cn hm (fun hm => ?_) fun hm => ?_))))))
   ·refine sk ?_
    obtain ⟨K46, hK46, hm⟩ := jn_e hm
    refine Cw.join 45 58 [7] (fun l w => ∃ y42 v43 W45, CW.w W45 = w ∧ Le [3] W34 W45 ∧ l = [v43] ∧ Ow W45 3 [] [v43] y42 ∧ K46 y42 = some r) ?_ ?_
    ·rintro _ _ σ ⟨y42, v43, W45, rfl, l45, rfl, o44, hm⟩
     rw [hK46] at hm
     exact rg (mi rfl (Lw.add rfl (Ni rfl ((agm) ⟨y42, w64 (y33 + 1), v43, W45, rfl, (l34.j l45).w, rfl, o44, hm⟩))))
    ·refine Cw.block (sr (mv v0_17 rfl (mv v0_25 rfl (mi rfl ?_))))
     obtain ⟨u51, e52, hm⟩ := ob hm
     refine Lw.r rfl (R.ix (α := Int) o39.rd e52 rfl rfl rfl) (Lw.r rfl (R.ld rfl rfl (o39.rd.at_ e52).int) (ca hm (fun _ => p57 (K := [4]) ((f17_0.up l25).up l34).rd) fun z53 W55 hm l55 => Lw.r rfl (R.not rfl) (nl (cn hm (fun hm => ?_) fun hm => ?_))))
     ·refine rg (mv v31 rfl (mv v0_25 rfl (mi rfl ?_)))
      obtain ⟨u62, e63, hm⟩ := ob hm
      refine Lw.r rfl (R.ix (α := Int) (o39.up l55).rd e63 rfl rfl rfl) (Lw.r rfl (R.ld rfl rfl ((o39.up l55).rd.at_ e63).int) (Lw.t rfl (T.bs 6 [vI u62] (cs := [vI u62]) rfl rfl (bsv rfl)) ?_))
      rintro _ _ ⟨g64, W64, rfl, rfl, l64, b64⟩
      obtain ⟨q70, e71, hm⟩ := ob hm
      refine Lw.t rfl (T.app1S (α := Int) (K' := []) ((o32.up l55).up l64) b64 (rdI _) rfl rfl e71) ?_
      rintro v72 _ ⟨W72, rfl, l72, o72⟩
      exact Nv v72 rfl ((ag) ⟨q70, v72, W72, rfl, ((l55.j l64).j l72).w, rfl, o72, hm⟩)
     ·exact sk ((ag) ⟨y30, v31, W55, rfl, l55.w, rfl, (o32.up l55), hm⟩)
   ·refine Cw.exit ?_
    rw [hK35] at hm
    refine sr (mv v31 rfl (Nv v31 rfl ?_))
    cases hm
    exact Cw.ret (ret1 rfl (Res.mk a37 ⟨v31, rfl, o32.s.sub rfl rfl⟩))
 ·refine rg (la b5 (ca hm (fun _ => p38 (Repo.rd (K := [0]) x0.Commits x0.Heads (h0_0.ul a4) (h0_1.ul a4))) fun z80 W82 hm l82 => ?_))
  have a83 := a4.n l82
  refine Lw.r rfl (R.not rfl) (mb rfl (bs hm (fun hc86 hm => ?_) fun hc86 hm => ?_))
  ·exact psk 7 hc86 rfl (Pb hc86 rfl (mb rfl (psk 7 rfl rfl (Pb rfl rfl (nl ((ag) ⟨true, W82, rfl, l82, rfl, hm⟩))))))
  ·refine wak 7 hc86 (mi rfl (fl (b5.up l82) rfl (Lw.ln x0.Commits (h0_0.ul a83) rfl (Lw.sub rfl (ca hm (fun _ => p39) fun z88 W90 hm l90 => ?_)))))
   have a91 := a83.n l90
   refine Lw.r rfl (R.not rfl) (Pb hc86 rfl (mb rfl (bs hm (fun hc94 hm => ?_) fun hc94 hm => ?_)))
   ·exact psk 7 hc94 rfl (Pb hc94 rfl (nl ((ag) ⟨true, W90, rfl, (l82.j l90).w, rfl, hm⟩)))
   ·exact wak 7 hc94 (mi rfl (fl ((b5.up l82).up l90) rfl (Lw.ln x0.Commits (h0_0.ul a91) rfl (Lw.sub rfl (ca hm (fun _ => p39) fun z96 W98 hm l98 => Lw.r rfl (R.not rfl) (Pb hc94 rfl (nl ((ag) ⟨(!z96), W98, rfl, ((l82.j l90).j l98).w, rfl, hm⟩))))))))

theorem p25 {x0 v0_0_ v0_1_ x1 x2 k0 r} (h0 : Rd W K [v0_0_, v0_1_] x0) (hm : Vm.spec_AncNew x0 x1 x2 = some r) : Q1 25 [.agg [v0_0_, v0_1_].toArray, vI x1, vI x2] W [] fun W' v => ∃ u0, v = u0 ∧ Ow W' k0 [] [u0] r :=
 (c25 (h0.view _) hm).ad (fk k0) fun _ _ ⟨u0, e, f0⟩ => ⟨u0, e, f0.back (fk_LL _)⟩

theorem c6 {x0 v0_ r} (h0 : Rd W0 [0] [v0_] x0) (h99 : Gl 0 W0 [0]) (hm : Vm.laws_FnAncNew x0 = some r) : Q0 6 [v0_] W0 fun Wf v => v = vB r := by
 unfold Vm.laws_FnAncNew at hm
 refine CallR.of Tryz.func6 rfl rfl rfl rfl (sr (Nb rfl (ssr (mv v0_ rfl (Lw.ln x0 h0 rfl (Lw.gt rfl (nl (cn hm (fun hm => ?_) fun hm => ?_))))))))
 ·exact sr (Nb rfl (.ret (rt hm (Le.refl _ _))))
 ·refine sk (sr (mv v0_ rfl (cr hm (fun _ => p23 (k0 := 2) (k1 := 3) h0) ?_)))
  rintro z2 _ W4 hm l4 ⟨v0_0_4, v0_1_4, rfl, f4_0, f4_1⟩
  have a5 := l4.o
  refine mv (.tuple [.agg [v0_0_4, v0_1_4].toArray, vI z2.2.1, vI z2.2.2].toArray) rfl (Lw.r rfl (R.ext (vs := [.agg [v0_0_4, v0_1_4].toArray, vI z2.2.1, vI z2.2.2]) (v := .agg [v0_0_4, v0_1_4].toArray) rfl rfl) (Lw.r rfl (R.ext (vs := [.agg [v0_0_4, v0_1_4].toArray, vI z2.2.1, vI z2.2.2]) (v := vI z2.2.1) rfl rfl) (Lw.r rfl (R.ext (vs := [.agg [v0_0_4, v0_1_4].toArray, vI z2.2.1, vI z2.2.2]) (v := vI z2.2.2) rfl rfl) (al 4 [.slice none 0 0, .slice none 0 0] fun g6 W6 l6 b6 => ?_))))
  have a7 := a5.n l6
  refine sta b6 (oc_cons (f4_0.up l6).oc (oc_cons (f4_1.up l6).oc oc_nil)) fun W10 l10 b10 => ?_
  have a11 := a7.t l10
  have o12 := (f4_0.up l6).up l10
  have o13 := (f4_1.up l6).up l10
  refine Gi rfl (Ni rfl (sr (la b10 (mi rfl (mi rfl (cr hm (fun _ => p24 (K := [0, 2, 3]) (k0 := 5) (x0 := (Vm.Repo.mk z2.1.Commits z2.1.Heads)) ((Repo.rd (K := [2, 3]) z2.1.Commits z2.1.Heads (o12.rd.sub (M := [2, 3]) rfl) (o13.rd.sub (M := [2, 3]) rfl)).sub (M := [0, 2, 3]) rfl) ((h99.ul a11).sub (M := [0, 2, 3]) rfl)) ?_))))))
  rintro z15 v0_17 W17 hm l17 ⟨_, rfl, f17_0⟩
  have a18 := a11.n l17
  have o19 := o12.up l17
  have o20 := o13.up l17
  have b21 := b10.up l17
  refine Nv v0_17 rfl (Cw.seq ?_)
  obtain ⟨K24, hK24, hm⟩ := jn_e hm
  refine Cw.join 21 54 [54] (fun l w => ∃ y22 W23, CW.w W23 = w ∧ Le [] W17 W23 ∧ l = [vB y22] ∧ K24 y22 = some r) ?_ ?_
  ·rintro _ _ σ ⟨y22, W23, rfl, l23, rfl, hm⟩
   rw [hK24] at hm
   have a25 := a18.n l23
   refine cn hm (fun hm => ?_) fun hm => ?_
   ·refine sr (mv v0_17 rfl (la (b21.up l23) (mi rfl (mi rfl (cr hm (fun _ => p25 (K := [2, 3]) (k0 := 6) (x0 := (Vm.Repo.mk z2.1.Commits z2.1.Heads)) (Repo.rd (K := [2, 3]) z2.1.Commits z2.1.Heads ((o19.up l23).rd.sub (M := [2, 3]) rfl) ((o20.up l23).rd.sub (M := [2, 3]) rfl))) ?_)))))
    rintro z31 v0_33 W33 hm l33 ⟨_, rfl, f33_0⟩
    have a34 := a25.n l33
    refine ca hm (fun _ => p12 (K := [5, 6]) (((f17_0.up l23).up l33).rd.sub (M := [5, 6]) rfl) (f33_0.rd.sub (M := [5, 6]) rfl)) fun z39 W41 hm l41 => ?_
    have a42 := a34.n l41
    exact Nb rfl (.ret (rt hm a42))
   ·refine sk (ssr (Ni rfl (Cw.block ?_)))
    obtain ⟨K51, hK51, hm⟩ := jn_e hm
    refine Cw.loop 61 82 [2, 7] (fun m l w => ∃ y48 y49 W50, CW.w W50 = w ∧ Le [] W23 W50 ∧ l = [vB y48, vI y49] ∧ Vm.laws_FnAncNew_l1 z2 z15 K51 m y48 y49 = some r) _ ⟨false, 0, W23, rfl, Le.refl _ _, rfl, hm⟩ ?_
    rintro (_ | m52) _ _ σ ⟨y48, y49, W50, rfl, l50, rfl, hm⟩
    ·cases hm
    unfold Vm.laws_FnAncNew_l1 at hm
    have a53 := a25.n l50
    have o54 := (o19.up l23).up l50
    have o55 := (o20.up l23).up l50
    have o56 := (f17_0.up l23).up l50
    have b57 := (b21.up l23).up l50
    refine ssr (mi rfl (fl b57 rfl (Lw.ln z2.1.Commits o54.rd rfl (Lw.lt rfl (nl (cn hm (fun hm => ?_) fun hm => ?_))))))
    ·refine sk (Cw.seq (Cw.block ?_))
     obtain ⟨K61, hK61, hm⟩ := jn_e hm
     refine Cw.join 68 82 [82] (fun l w => ∃ y59 W60, CW.w W60 = w ∧ Le [] W50 W60 ∧ l = [vB y59] ∧ K61 y59 = some r) ?_ ?_
     ·rintro _ _ σ ⟨y59, W60, rfl, l60, rfl, hm⟩
      rw [hK61] at hm
      have a62 := a53.n l60
      refine cn hm (fun hm => ?_) fun hm => ?_
      ·exact sr (Nb rfl (.ret (rt hm a62)))
      ·exact sk (rg (mi rfl (Lw.add rfl (Ni rfl ((agm) ⟨y48, w64 (y49 + 1), W60, rfl, (l50.j l60).w, rfl, hm⟩)))))
     ·refine Cw.draw [] [(0, 0), (1, 0), (3, 1), (4, 0), (5, 0), (2, 2), (6, 2), (7, 0), (8, 1), (9, 0), (10, 0), (11, 2), (12, 0), (13, 0), (14, 0)] mixed (by kernel_rfl) fun W68 l68 => ?_
      have a69 := a53.n l68
      refine Dv v0_17 rfl (Di rfl (Mw.q rfl rfl (fun _ c => R.lda (cs := [v0_0_4, v0_1_4]) ((b57.up l68).clcs rfl c) rfl rfl) (Di rfl (Di rfl ?_))))
      obtain ⟨z74, e75, hm⟩ := ob hm
      refine Mw.t rfl rfl (T.call rfl (p26 (K := [5])  (o56.up l68).rd e75)) ?_
      rintro _ _ ⟨W76, rfl, l76, rfl⟩
      have a77 := a69.n l76
      have o78 := (o54.up l68).up l76
      have o79 := (o55.up l68).up l76
      refine m0 l76 fun d76 => ?_
      obtain ⟨z83, e84, hm⟩ := ob hm
      refine Mw.t rfl rfl (T.call rfl (p14 (K := [0, 2, 3])  (x0 := (Vm.Repo.mk z2.1.Commits z2.1.Heads)) ((Repo.rd (K := [2, 3]) z2.1.Commits z2.1.Heads (o78.rd.sub (M := [2, 3]) rfl) (o79.rd.sub (M := [2, 3]) rfl)).sub (M := [0, 2, 3]) rfl) ((h99.ul a77).sub (M := [0, 2, 3]) rfl) e84)) ?_
      rintro _ _ ⟨W85, rfl, l85, rfl⟩
      have a86 := a77.n l85
      refine mc d76 l85 fun d85 => Db rfl (bs hm (fun hc91 hm => ?_) fun hc91 hm => ?_)
      ·refine Wq hc91 rfl (fun _ c => R.lda (cs := [v0_0_4, v0_1_4]) ((b57.up l68).clcs rfl c) rfl rfl) (Wp hc91 rfl (fun _ => R.mv (v := vI y49) rfl) (Wp hc91 rfl (fun _ => R.mv (v := vI z2.2.1) rfl) ?_))
       obtain ⟨z93, e94, hm⟩ := ob hm
       refine Wt hc91 rfl (T.call rfl (p14 (K := [0, 2, 3])  (x0 := (Vm.Repo.mk z2.1.Commits z2.1.Heads)) ((Repo.rd (K := [2, 3]) z2.1.Commits z2.1.Heads ((o78.up l85).rd.sub (M := [2, 3]) rfl) ((o79.up l85).rd.sub (M := [2, 3]) rfl)).sub (M := [0, 2, 3]) rfl) ((h99.ul a86).sub (M := [0, 2, 3]) rfl) e94)) ?_
       rintro _ _ ⟨W95, rfl, l95, rfl⟩
       exact mc d85 l95 fun d95 => Wp hc91 rfl (fun _ => R.not rfl) (Mw.p rfl rfl (fun _ => R.pk hc91 rfl (v := vB (!z93)) rfl) (Mw.p rfl rfl (fun _ => R.bne rfl rfl) (Mw.nil ((ag) ⟨(z74 != (!z93)), W95, rfl, (((l68.j l76).j l85).j l95).w, rfl, hm⟩))))
      ·exact dps 5 hc91 rfl (Mw.p rfl rfl (fun _ => R.pk hc91 rfl (v := vB false) rfl) (Mw.p rfl rfl (fun _ => R.bne rfl rfl) (Mw.nil ((ag) ⟨(z74 != false), W85, rfl, ((l68.j l76).j l85).w, rfl, hm⟩))))
    ·refine Cw.exit ?_
     rw [hK51] at hm
     refine sr (mv v0_17 rfl (Lw.ln z15 o56.rd rfl (Lw.eq rfl (la b57 (mi rfl (mi rfl (ca hm (fun _ => p14 (K := [0, 2, 3]) (x0 := (Vm.Repo.mk z2.1.Commits z2.1.Heads)) ((Repo.rd (K := [2, 3]) z2.1.Commits z2.1.Heads (o54.rd.sub (M := [2, 3]) rfl) (o55.rd.sub (M := [2, 3]) rfl)).sub (M := [0, 2, 3]) rfl) ((h99.ul a53).sub (M := [0, 2, 3]) rfl)) fun z102 W104 hm l104 => ?_)))))))
     have a105 := a53.n l104
     exact Lw.r rfl (R.beq rfl rfl) (Nb rfl (.ret (rt hm a105)))
  ·refine rg (mv v0_17 rfl (la b21 (mi rfl (mi rfl (cr hm (fun _ => p25 (K := [2, 3]) (k0 := 7) (x0 := (Vm.Repo.mk z2.1.Commits z2.1.Heads)) (Repo.rd (K := [2, 3]) z2.1.Commits z2.1.Heads (o19.rd.sub (M := [2, 3]) rfl) (o20.rd.sub (M := [2, 3]) rfl))) ?_)))))
   rintro z110 v0_112 W112 hm l112 ⟨_, rfl, f112_0⟩
   have a113 := a18.n l112
   refine ca hm (fun _ => p12 (K := [5, 7]) ((f17_0.up l112).rd.sub (M := [5, 7]) rfl) (f112_0.rd.sub (M := [5, 7]) rfl)) fun z118 W120 hm l120 => ?_
   have a121 := a113.n l120
   have o122 := (o19.up l112).up l120
   have b126 := (b21.up l112).up l120
   refine Lw.r rfl (R.not rfl) (mb rfl (bs hm (fun hc127 hm => ?_) fun hc127 hm => ?_))
   ·exact psk 3 hc127 rfl (Pb hc127 rfl (mb rfl (psk 2 rfl rfl (Pb rfl rfl (mb rfl (psk 2 rfl rfl (Pb rfl rfl (mb rfl (psk 5 rfl rfl (Pb rfl rfl (mb rfl (psk 5 rfl rfl (Pb rfl rfl (nl ((ag) ⟨true, W120, rfl, (l112.j l120).w, rfl, hm⟩)))))))))))))))
   ·refine wak 3 hc127 (la b126 (ca hm (fun _ => p18 (K := [0, 2, 3]) (x0 := (Vm.Repo.mk z2.1.Commits z2.1.Heads)) ((Repo.rd (K := [2, 3]) z2.1.Commits z2.1.Heads (o122.rd.sub (M := [2, 3]) rfl) (((o20.up l112).up l120).rd.sub (M := [2, 3]) rfl)).sub (M := [0, 2, 3]) rfl) ((h99.ul a121).sub (M := [0, 2, 3]) rfl)) fun z129 W131 hm l131 => Lw.r rfl (R.not rfl) (Pb hc127 rfl (mb rfl (bs hm (fun hc138 hm => ?_) fun hc138 hm => ?_)))))
    ·exact psk 2 hc138 rfl (Pb hc138 rfl (mb rfl (psk 2 rfl rfl (Pb rfl rfl (mb rfl (psk 5 rfl rfl (Pb rfl rfl (mb rfl (psk 5 rfl rfl (Pb rfl rfl (nl ((ag) ⟨true, W131, rfl, ((l112.j l120).j l131).w, rfl, hm⟩))))))))))))
    ·refine wak 2 hc138 (mi rfl (Lw.lt rfl (Pb hc138 rfl (mb rfl (bs hm (fun hc139 hm => ?_) fun hc139 hm => ?_)))))
     ·exact psk 2 hc139 rfl (Pb hc139 rfl (mb rfl (psk 5 rfl rfl (Pb rfl rfl (mb rfl (psk 5 rfl rfl (Pb rfl rfl (nl ((ag) ⟨true, W131, rfl, ((l112.j l120).j l131).w, rfl, hm⟩)))))))))
     ·refine wak 2 hc139 (mi rfl (Lw.lt rfl (Pb hc139 rfl (mb rfl (bs hm (fun hc140 hm => ?_) fun hc140 hm => ?_)))))
      ·exact psk 5 hc140 rfl (Pb hc140 rfl (mb rfl (psk 5 rfl rfl (Pb rfl rfl (nl ((ag) ⟨true, W131, rfl, ((l112.j l120).j l131).w, rfl, hm⟩))))))
      ·refine wak 5 hc140 (mi rfl (fl (b126.up l131) rfl (Lw.ln z2.1.Commits (o122.up l131).rd rfl (Lw.ge rfl (Pb hc140 rfl (mb rfl (bs hm (fun hc141 hm => ?_) fun hc141 hm => ?_)))))))
       ·exact psk 5 hc141 rfl (Pb hc141 rfl (nl ((ag) ⟨true, W131, rfl, ((l112.j l120).j l131).w, rfl, hm⟩)))
       ·exact wak 5 hc141 (mi rfl (fl (b126.up l131) rfl (Lw.ln z2.1.Commits (o122.up l131).rd rfl (Lw.ge rfl (Pb hc141 rfl (nl ((ag) ⟨decide (((z2.1.Commits.length : Int) : Int) ≤ (z2.2.2 : Int)), W131, rfl, ((l112.j l120).j l131).w, rfl, hm⟩)))))))

theorem p6 {x0 v0_ r} (h0 : Rd W K [v0_] x0) (h99 : Gl 0 W K) (hm : Vm.laws_FnAncNew x0 = some r) : Q1 6 [v0_] W [] fun W' v => v = vB r :=
 (c6 (h0.view _) (h99.view _) hm).ad (fk 0) fun _ _ e => e

end Go.Sx
