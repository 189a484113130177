/- Walks: each function answers as its model, printed by a program of ours. Conditions: the arguments read as they are given. -/
import Derived.Test.YtkfeiopifiejgaaGreatDoorXTs
import Derived.Test.YtkfeiopifiejgaaGreatDoorXM12
import Derived.Test.YtkfeiopifiejgaaGreatDoorXW0
import Derived.Test.YtkfeiopifiejgaaGreatDoorXW1
import Derived.Test.YtkfeiopifiejgaaGreatDoorXW10
import Derived.Test.YtkfeiopifiejgaaGreatDoorXW14
import Derived.Test.YtkfeiopifiejgaaGreatDoorXW3
import Derived.Test.YtkfeiopifiejgaaGreatDoorXW6
import Derived.Test.YtkfeiopifiejgaaGreatDoorXW7
import Derived.Test.YtkfeiopifiejgaaGreatDoorXW9
import Derived.Test.YtkfeiopifiejgaaGreatDoorXE
namespace Go.Sx
open Go Go.Proofs Go.Vm Rp
set_option linter.unusedVariables false
set_option linter.unusedSimpArgs false

variable {W W0 : CW} {K : List Nat}
theorem c20 {x0 v0_ r} (h0 : Rd W0 [0] [v0_] x0) (hm : Vm.spec_DrawAncBases x0 = some r) : Q0 20 [v0_] W0 fun Wf v => ∃ u0_0 u0_1, v = .tuple [.agg [u0_0, u0_1].toArray, vI r.2.1, vI r.2.2].toArray ∧ OwS Wf [31] [] [u0_0] r.1.Commits ∧ OwS Wf [32] [] [u0_1] r.1.Heads := by
 unfold Vm.spec_DrawAncBases at hm
 refine CallR.of Tryz.func20 rfl rfl rfl rfl (sr (al 2 [.slice none 0 0, .slice none 0 0] fun g1 W1 l1 b1 => ?_))
 have a2 := l1.o
 refine Gi rfl (Ni rfl (sr (mv v0_ rfl (cr hm (fun _ => p53 (k0 := 3) (k1 := 4) (h0.ul a2)) ?_))))
 rintro z4 _ W6 hm l6 ⟨v0_0_6, v0_1_6, rfl, f6_0, f6_1⟩
 have a7 := a2.n l6
 refine Lw.r rfl (R.ext (vs := [.agg [v0_0_6, v0_1_6].toArray, vI z4.2.1, vI z4.2.2]) (v := .agg [v0_0_6, v0_1_6].toArray) rfl rfl) (Lw.r rfl (R.ext (vs := [.agg [v0_0_6, v0_1_6].toArray, vI z4.2.1, vI z4.2.2]) (v := vI z4.2.1) rfl rfl) (Lw.r rfl (R.ext (vs := [.agg [v0_0_6, v0_1_6].toArray, vI z4.2.1, vI z4.2.2]) (v := vI z4.2.2) rfl rfl) (sta (b1.up l6) (oc_cons f6_0.oc (oc_cons f6_1.oc oc_nil)) fun W9 l9 b9 => ?_)))
 have a10 := a7.t l9
 refine Gi rfl (Ni rfl ?_)
 obtain ⟨W13, ew13, l13, o13⟩ := (f6_0.up l9).dyeO 31
 have a14 := a10.t l13
 obtain ⟨W17, ew17, l17, o17⟩ := ((f6_1.up l9).up l13).dyeO 32
 have a18 := a14.t l17
 cases hm
 rw [← ew17.trans (ew13)]
 exact Cw.ret (retG (ResOk.c rfl ((b9.up l13).up l17) (ResOk.t rfl (ResOk.t rfl ResOk.n))) (Res.mk a18 ⟨v0_0_6, v0_1_6, rfl, (o13.up l17).s, o17.s⟩))

theorem p20 {x0 v0_ k0 k1 r} (h0 : Rd W K [v0_] x0) (hm : Vm.spec_DrawAncBases x0 = some r) : Q1 20 [v0_] W [] fun W' v => ∃ u0_0 u0_1, v = .tuple [.agg [u0_0, u0_1].toArray, vI r.2.1, vI r.2.2].toArray ∧ Ow W' k0 [] [u0_0] r.1.Commits ∧ Ow W' k1 [] [u0_1] r.1.Heads :=
 CallR.adJ (J := []) (fun c => bif Nat.beq c 0 then 0 else bif Nat.beq c 31 then k0 else bif Nat.beq c 32 then k1 else 0) (c20 (h0.view _) hm) fun _ _ ⟨u0_0, u0_1, e, f0, f1⟩ => ⟨u0_0, u0_1, e, f0.one1.backN rfl, f1.one1.backN rfl⟩

theorem c54 {x0 v0_0_ v0_1_ x1 x2 r} (h0 : Rd W0 [0] [v0_0_, v0_1_] x0) (hm : Vm.impl_Repo_bases x0 x1 x2 = some r) : Q0 54 [.agg [v0_0_, v0_1_].toArray, vI x1, vI x2] W0 fun Wf v => ∃ u0, v = u0 ∧ OwS Wf LL [] [u0] r := by
 unfold Vm.impl_Repo_bases at hm
 obtain ⟨w0_0, w0_1, he0, h0_0, h0_1⟩ := Repo.split h0
 simp only [List.cons.injEq, and_true, true_and] at he0
 obtain ⟨rfl, rfl⟩ := he0
 refine CallR.of Tryz.func54 rfl rfl rfl rfl (sr (bo 2 rfl fun g1 W1 l1 b1 => ?_))
 have a2 := l1.o
 refine Nv (.slice none 0 0) rfl (Cw.seq (Cw.draw [] [(0, 1), (1, 0), (3, 1), (4, 0), (2, 2), (5, 2), (6, 0), (7, 0)] mixed (by kernel_rfl) fun W3 l3 => ?_))
 have a4 := a2.n l3
 have b5 := b1.up l3
 refine Mw.q rfl rfl (fun _ c => R.lda (cs := [v0_0_, v0_1_]) (b5.clcs rfl c) rfl rfl) (Di rfl (Mw.q rfl rfl (fun _ c => R.lda (cs := [v0_0_, v0_1_]) (b5.clcs rfl c) rfl rfl) (Di rfl ?_)))
 obtain ⟨z8, e9, hm⟩ := ob hm
 refine Mw.t rfl rfl (T.call rfl (p40 (k0 := 3) (Repo.rd (K := [0]) x0.Commits x0.Heads (h0_0.ul a4) (h0_1.ul a4)) e9)) ?_
 rintro v0_10 _ ⟨W10, rfl, l10, ⟨_, rfl, f10_0⟩⟩
 have a11 := a4.n l10
 refine m0 l10 fun d10 => ?_
 obtain ⟨z15, e16, hm⟩ := ob hm
 refine Mw.t rfl rfl (T.call rfl (p40 (k0 := 4) (Repo.rd (K := [0]) x0.Commits x0.Heads (h0_0.ul a11) (h0_1.ul a11)) e16)) ?_
 rintro v0_17 _ ⟨W17, rfl, l17, ⟨_, rfl, f17_0⟩⟩
 have a18 := a11.n l17
 have b20 := (b5.up l10).up l17
 refine mc d10 l17 fun d17 => Hv v0_10 rfl (Hv v0_17 rfl (Mw.nil (sr (fl b20 rfl (Lw.ln x0.Commits (h0_0.ul a18) rfl ?_)))))
 obtain ⟨q22, e23, hm⟩ := ob hm
 refine Lw.t rfl (T.mk (α := Bool) 5 [] (n := (x0.Commits.length : Int)) rfl rfl e23) ?_
 rintro v24 _ ⟨W24, rfl, l24, o24⟩
 have a25 := a18.n l24
 refine Nv v24 rfl (ssr (mv v24 rfl (Lw.ln q22 o24.rd rfl (mi rfl (nl (Cw.block ?_))))))
 obtain ⟨K34, hK34, hm⟩ := jn_e hm
 refine Cw.loop 28 44 [10, 28] (fun m l w => ∃ y30 y31 j29 W33, CW.w W33 = w ∧ Le [5] W24 W33 ∧ l = [j29, vI y30] ∧ Ow W33 5 [] [v24] y31 ∧ Vm.impl_Repo_bases_l1 z8 z15 q22 K34 m y30 y31 = some r) _ ⟨0, q22, undef, W24, rfl, Le.refl _ _, rfl, o24, hm⟩ ?_
 rintro (_ | m35) _ _ σ ⟨y30, y31, j29, W33, rfl, l33, rfl, o32, hm⟩
 ·cases hm
 unfold Vm.impl_Repo_bases_l1 at hm
 have a36 := a25.t l33
 have o37 := ((f10_0.up l17).up l24).up l33
 have o38 := (f17_0.up l24).up l33
 refine sr (Lw.lt rfl (nl (Cw.seq (cn hm (fun hm => ?_) fun hm => ?_))))
 ·refine sk (Cw.seq (Cw.block (sr (mi rfl (Ni rfl (rg (mv v24 rfl (mi rfl (mv v0_10 rfl (mi rfl ?_))))))))))
  obtain ⟨u41, e42, hm⟩ := ob hm
  refine Lw.r rfl (R.ix (α := Bool) o37.rd e42 rfl rfl rfl) (Lw.r rfl (R.ld rfl rfl (o37.rd.at_ e42).bool) (mb rfl (bs hm (fun hc43 hm => ?_) fun hc43 hm => ?_)))
  ·refine wak 4 hc43 (mv v0_17 rfl (mi rfl ?_))
   obtain ⟨u44, e45, hm⟩ := ob hm
   refine Lw.r rfl (R.ix (α := Bool) o38.rd e45 rfl rfl rfl) (Lw.r rfl (R.ld rfl rfl (o38.rd.at_ e45).bool) (Pb hc43 rfl ?_))
   obtain ⟨u46, e47, hm⟩ := ob hm
   refine Lw.r rfl (R.ix (α := Bool) o32.rd e47 rfl rfl rfl) ?_
   obtain ⟨q49, e50, hm⟩ := ob hm
   refine Lw.u (T.stS (K' := []) o32 (rdB _) e50 rfl rfl rfl) ?_
   rintro _ _ ⟨W48, rfl, l48, o48⟩
   exact nl (rg (Lw.add rfl (mi rfl (nl ((agm) ⟨w64 (y30 + 1), q49, vI y30, W48, rfl, (l33.j l48).w, rfl, o48, hm⟩)))))
  ·refine psk 4 hc43 rfl (Pb hc43 rfl ?_)
   obtain ⟨u55, e56, hm⟩ := ob hm
   refine Lw.r rfl (R.ix (α := Bool) o32.rd e56 rfl rfl rfl) ?_
   obtain ⟨q58, e59, hm⟩ := ob hm
   refine Lw.u (T.stS (K' := []) o32 (rdB _) e59 rfl rfl rfl) ?_
   rintro _ _ ⟨W57, rfl, l57, o57⟩
   exact nl (rg (Lw.add rfl (mi rfl (nl ((agm) ⟨w64 (y30 + 1), q58, vI y30, W57, rfl, (l33.j l57).w, rfl, o57, hm⟩)))))
 ·refine Cw.exit ?_
  rw [hK34] at hm
  refine sr (mv v24 rfl (cr hm (fun _ => p76 (K := [5]) (k0 := 6) o32.rd) ?_))
  rintro z64 v0_66 W66 hm l66 ⟨_, rfl, f66_0⟩
  have a67 := a36.n l66
  refine Nv v0_66 rfl (ssr (mv v24 rfl (cr hm (fun _ => p52 (K := [5]) (k0 := 7) (o32.up l66).rd) ?_)))
  rintro z72 v0_74 W74 hm l74 ⟨_, rfl, f74_0⟩
  have a75 := a67.n l74
  refine Lw.ln z72 f74_0.rd rfl (mi rfl (nl (Cw.block ?_)))
  obtain ⟨K87, hK87, hm⟩ := jn_e hm
  refine Cw.loop 50 70 [13, 15, 50] (fun m l w => ∃ y83 y84 j81 j82 W86, CW.w W86 = w ∧ Le [6] W74 W86 ∧ l = [j81, j82, vI y83] ∧ Ow W86 6 [] [v0_66] y84 ∧ Vm.impl_Repo_bases_l2 x0 z72 K87 m y83 y84 = some r) _ ⟨0, z64, undef, undef, W74, rfl, Le.refl _ _, rfl, (f66_0.up l74), hm⟩ ?_
  rintro (_ | m88) _ _ σ ⟨y83, y84, j81, j82, W86, rfl, l86, rfl, o85, hm⟩
  ·cases hm
  unfold Vm.impl_Repo_bases_l2 at hm
  have a89 := a75.t l86
  refine sr (Lw.lt rfl (nl (Cw.seq (cn hm (fun hm => ?_) fun hm => ?_))))
  ·refine sk (Cw.seq (Cw.block (sr ?_)))
   obtain ⟨u96, e97, hm⟩ := ob hm
   refine Lw.r rfl (R.ix (α := Int) (f74_0.up l86).rd e97 rfl rfl rfl) (Lw.r rfl (R.ld rfl rfl ((f74_0.up l86).rd.at_ e97).int) (Ni rfl (sr (la (((((b20.up l24).up l33).up l66).up l74).up l86) (mi rfl (cr hm (fun _ => p40 (k0 := 8) (Repo.rd (K := [0]) x0.Commits x0.Heads (h0_0.ul a89) (h0_1.ul a89))) ?_))))))
   rintro z100 v0_102 W102 hm l102 ⟨_, rfl, f102_0⟩
   refine cr hm (fun _ => p52 (K := [8]) (k0 := 9) f102_0.rd) ?_
   rintro z110 v0_112 W112 hm l112 ⟨_, rfl, f112_0⟩
   refine Lw.ln z110 f112_0.rd rfl (mi rfl (nl (Cw.block ?_)))
   obtain ⟨K126, hK126, hm⟩ := jn_e hm
   refine Cw.loop 59 69 [15, 59] (fun m l w => ∃ y122 y123 j121 W125, CW.w W125 = w ∧ Le [6] W112 W125 ∧ l = [j121, vI y122] ∧ Ow W125 6 [] [v0_66] y123 ∧ Vm.impl_Repo_bases_l3 u96 z110 K126 m y122 y123 = some r) _ ⟨0, y84, j82, W112, rfl, Le.refl _ _, rfl, ((o85.up l102).up l112), hm⟩ ?_
   rintro (_ | m127) _ _ σ ⟨y122, y123, j121, W125, rfl, l125, rfl, o124, hm⟩
   ·cases hm
   unfold Vm.impl_Repo_bases_l3 at hm
   refine sr (Lw.lt rfl (nl (Cw.seq (cn hm (fun hm => ?_) fun hm => ?_))))
   ·refine sk ?_
    obtain ⟨K141, hK141, hm⟩ := jn_e hm
    refine Cw.join 61 68 [15] (fun l w => ∃ y138 j137 W140, CW.w W140 = w ∧ Le [6] W125 W140 ∧ l = [j137] ∧ Ow W140 6 [] [v0_66] y138 ∧ K141 y138 = some r) ?_ ?_
    ·rintro _ _ σ ⟨y138, j137, W140, rfl, l140, rfl, o139, hm⟩
     rw [hK141] at hm
     exact rg (Lw.add rfl (mi rfl (nl ((agm) ⟨w64 (y122 + 1), y138, j137, W140, rfl, (l125.j l140).w, rfl, o139, hm⟩))))
    ·refine Cw.block (sr ?_)
     obtain ⟨u150, e151, hm⟩ := ob hm
     refine Lw.r rfl (R.ix (α := Int) (f112_0.up l125).rd e151 rfl rfl rfl) (Lw.r rfl (R.ld rfl rfl ((f112_0.up l125).rd.at_ e151).int) (Ni rfl (sr (mi rfl (mi rfl (Lw.ne rfl (nl (cn hm (fun hm => ?_) fun hm => ?_))))))))
     ·refine rg (mv v0_66 rfl (mi rfl ?_))
      obtain ⟨u153, e154, hm⟩ := ob hm
      refine Lw.r rfl (R.ix (α := Bool) o124.rd e154 rfl rfl rfl) ?_
      obtain ⟨q156, e157, hm⟩ := ob hm
      refine Lw.u (T.stS (K' := []) o124 (rdB _) e157 rfl rfl rfl) ?_
      rintro _ _ ⟨W155, rfl, l155, o155⟩
      exact nl ((ag) ⟨q156, vI u150, W155, rfl, l155, rfl, o155, hm⟩)
     ·exact sk ((ag) ⟨y123, vI u150, W125, rfl, Le.refl _ _, rfl, o124, hm⟩)
   ·refine Cw.exit ?_
    rw [hK126] at hm
    exact rg (Lw.add rfl (mi rfl (nl ((agm) ⟨w64 (y83 + 1), y123, vI u96, j121, W125, rfl, (((l86.j l102).j l112).j l125).w, rfl, o124, hm⟩))))
  ·refine Cw.exit ?_
   rw [hK87] at hm
   refine sr (mv v0_66 rfl (cr hm (fun _ => p52 (K := [6]) (k0 := 10) o85.rd) ?_))
   rintro z166 v0_168 W168 hm l168 ⟨_, rfl, f168_0⟩
   have a169 := a89.n l168
   refine Nv v0_168 rfl ?_
   cases hm
   exact Cw.ret (ret1 rfl (Res.mk a169 ⟨v0_168, rfl, f168_0.s.sub rfl rfl⟩))

theorem p54 {x0 v0_0_ v0_1_ x1 x2 k0 r} (h0 : Rd W K [v0_0_, v0_1_] x0) (hm : Vm.impl_Repo_bases x0 x1 x2 = some r) : Q1 54 [.agg [v0_0_, v0_1_].toArray, vI x1, vI x2] W [] fun W' v => ∃ u0, v = u0 ∧ Ow W' k0 [] [u0] r :=
 (c54 (h0.view _) hm).ad (fk k0) fun _ _ ⟨u0, e, f0⟩ => ⟨u0, e, f0.back (fk_LL _)⟩

theorem c21 {x0 v0_0_ v0_1_ x1 x2 r} (h0 : Rd W0 [0] [v0_0_, v0_1_] x0) (h99 : Gl 0 W0 [0]) (hm : Vm.impl_AncBases x0 x1 x2 = some r) : Q0 21 [.agg [v0_0_, v0_1_].toArray, vI x1, vI x2] W0 fun Wf v => ∃ u0, v = u0 ∧ OwS Wf LL [] [u0] r := by
 unfold Vm.impl_AncBases at hm
 obtain ⟨w0_0, w0_1, he0, h0_0, h0_1⟩ := Repo.split h0
 simp only [List.cons.injEq, and_true, true_and] at he0
 obtain ⟨rfl, rfl⟩ := he0
 refine CallR.of Tryz.func21 rfl rfl rfl rfl (sr (bo 2 rfl fun g1 W1 l1 b1 => ?_))
 have a2 := l1.o
 refine Nv (.slice none 0 0) rfl (ssr (la b1 (mi rfl (mi rfl (Lw.t rfl (T.bsS (α := Int) (xs := [x1, x2]) 3 [] (W := W1) [vI x1, vI x2] (Each.cons ((rdI _)) (Each.cons ((rdI _)) Each.nil)) rfl) ?_)))))
 rintro v3 _ ⟨W3, rfl, l3, o3⟩
 have a4 := a2.n l3
 refine ca hm (fun _ => p37 (K := [0, 3]) ((Repo.rd (K := [0]) x0.Commits x0.Heads (h0_0.ul a4) (h0_1.ul a4)).sub (M := [0, 3]) rfl) (o3.rd.sub (M := [0, 3]) rfl) ((h99.ul a4).sub (M := [0, 3]) rfl)) fun z9 W11 hm l11 => ?_
 have a12 := a4.n l11
 refine Lw.r rfl (R.not rfl) (nl (cn hm (fun hm => ?_) fun hm => ?_))
 ·refine sr (Nv (.slice none 0 0) rfl ?_)
  cases hm
  exact Cw.ret (ret1 rfl (Res.mk a12 ⟨.slice none 0 0, rfl, (owsN []).sub rfl rfl⟩))
 ·refine sk (sr (la ((b1.up l3).up l11) (mi rfl (mi rfl (cr hm (fun _ => p54 (k0 := 4) (Repo.rd (K := [0]) x0.Commits x0.Heads (h0_0.ul a12) (h0_1.ul a12))) ?_)))))
  rintro z18 v0_20 W20 hm l20 ⟨_, rfl, f20_0⟩
  have a21 := a12.n l20
  refine Nv v0_20 rfl ?_
  cases hm
  exact Cw.ret (ret1 rfl (Res.mk a21 ⟨v0_20, rfl, f20_0.s.sub rfl rfl⟩))

theorem p21 {x0 v0_0_ v0_1_ x1 x2 k0 r} (h0 : Rd W K [v0_0_, v0_1_] x0) (h99 : Gl 0 W K) (hm : Vm.impl_AncBases x0 x1 x2 = some r) : Q1 21 [.agg [v0_0_, v0_1_].toArray, vI x1, vI x2] W [] fun W' v => ∃ u0, v = u0 ∧ Ow W' k0 [] [u0] r :=
 (c21 (h0.view _) (h99.view _) hm).ad (fk k0) fun _ _ ⟨u0, e, f0⟩ => ⟨u0, e, f0.back (fk_LL _)⟩

theorem c22 {x0 v0_0_ v0_1_ x1 x2 r} (h0 : Rd W0 [0] [v0_0_, v0_1_] x0) (hm : Vm.spec_AncBases x0 x1 x2 = some r) : Q0 22 [.agg [v0_0_, v0_1_].toArray, vI x1, vI x2] W0 fun Wf v => ∃ u0, v = u0 ∧ OwS Wf LL [] [u0] r := by
 unfold Vm.spec_AncBases at hm
 obtain ⟨w0_0, w0_1, he0, h0_0, h0_1⟩ := Repo.split h0
 simp only [List.cons.injEq, and_true, true_and] at he0
 obtain ⟨rfl, rfl⟩ := he0
 refine CallR.of Tryz.func22 rfl rfl rfl rfl (sr (bo 2 rfl fun g1 W1 l1 b1 => ?_))
 have a2 := l1.o
 refine Nv (.slice none 0 0) rfl (Cw.seq ?_)
 obtain ⟨K5, hK5, hm⟩ := jn_e hm
 refine Cw.join 7 27 [27] (fun l w => ∃ y3 W4, CW.w W4 = w ∧ Le [] W1 W4 ∧ l = [vB y3] ∧ K5 y3 = some r) ?_ ?_
 ·rintro _ _ σ ⟨y3, W4, rfl, l4, rfl, hm⟩
  rw [hK5] at hm
  have a6 := a2.n l4
  refine cn hm (fun hm => ?_) fun hm => ?_
  ·refine sr (Nv (.slice none 0 0) rfl ?_)
   cases hm
   exact Cw.ret (ret1 rfl (Res.mk a6 ⟨.slice none 0 0, rfl, (owsN []).sub rfl rfl⟩))
  ·refine sk (sr (la (b1.up l4) (mi rfl (mi rfl (cr hm (fun _ => p55 (k0 := 3) (Repo.rd (K := [0]) x0.Commits x0.Heads (h0_0.ul a6) (h0_1.ul a6))) ?_)))))
   rintro z11 v0_13 W13 hm l13 ⟨_, rfl, f13_0⟩
   have a14 := a6.n l13
   refine Nv v0_13 rfl ?_
   cases hm
   exact Cw.ret (ret1 rfl (Res.mk a14 ⟨v0_13, rfl, f13_0.s.sub rfl rfl⟩))
 ·refine rg (la b1 (ca hm (fun _ => p38 (Repo.rd (K := [0]) x0.Commits x0.Heads (h0_0.ul a2) (h0_1.ul a2))) fun z18 W20 hm l20 => ?_))
  have a21 := a2.n l20
  refine Lw.r rfl (R.not rfl) (mb rfl (bs hm (fun hc23 hm => ?_) fun hc23 hm => ?_))
  ·exact psk 7 hc23 rfl (Pb hc23 rfl (mb rfl (psk 7 rfl rfl (Pb rfl rfl (nl ((ag) ⟨true, W20, rfl, l20, rfl, hm⟩))))))
  ·refine wak 7 hc23 (mi rfl (fl (b1.up l20) rfl (Lw.ln x0.Commits (h0_0.ul a21) rfl (Lw.sub rfl (ca hm (fun _ => p39) fun z25 W27 hm l27 => ?_)))))
   have a28 := a21.n l27
   refine Lw.r rfl (R.not rfl) (Pb hc23 rfl (mb rfl (bs hm (fun hc30 hm => ?_) fun hc30 hm => ?_)))
   ·exact psk 7 hc30 rfl (Pb hc30 rfl (nl ((ag) ⟨true, W27, rfl, (l20.j l27).w, rfl, hm⟩)))
   ·exact wak 7 hc30 (mi rfl (fl ((b1.up l20).up l27) rfl (Lw.ln x0.Commits (h0_0.ul a28) rfl (Lw.sub rfl (ca hm (fun _ => p39) fun z32 W34 hm l34 => Lw.r rfl (R.not rfl) (Pb hc30 rfl (nl ((ag) ⟨(!z32), W34, rfl, ((l20.j l27).j l34).w, rfl, hm⟩))))))))

theorem p22 {x0 v0_0_ v0_1_ x1 x2 k0 r} (h0 : Rd W K [v0_0_, v0_1_] x0) (hm : Vm.spec_AncBases x0 x1 x2 = some r) : Q1 22 [.agg [v0_0_, v0_1_].toArray, vI x1, vI x2] W [] fun W' v => ∃ u0, v = u0 ∧ Ow W' k0 [] [u0] r :=
 (c22 (h0.view _) hm).ad (fk k0) fun _ _ ⟨u0, e, f0⟩ => ⟨u0, e, f0.back (fk_LL _)⟩

theorem c5 {x0 v0_ r} (h0 : Rd W0 [0] [v0_] x0) (h99 : Gl 0 W0 [0]) (hm : Vm.laws_FnAncBases x0 = some r) : Q0 5 [v0_] W0 fun Wf v => v = vB r := by
 unfold Vm.laws_FnAncBases at hm
 refine CallR.of Tryz.func5 rfl rfl rfl rfl (sr (Nb rfl (ssr (mv v0_ rfl (Lw.ln x0 h0 rfl (Lw.gt rfl (nl (cn hm (fun hm => ?_) fun hm => ?_))))))))
 ·exact sr (Nb rfl (.ret (rt hm (Le.refl _ _))))
 ·refine sk (sr (mv v0_ rfl (cr hm (fun _ => p20 (k0 := 2) (k1 := 3) h0) ?_)))
  rintro z2 _ W4 hm l4 ⟨v0_0_4, v0_1_4, rfl, f4_0, f4_1⟩
  have a5 := l4.o
  refine mv (.tuple [.agg [v0_0_4, v0_1_4].toArray, vI z2.2.1, vI z2.2.2].toArray) rfl (Lw.r rfl (R.ext (vs := [.agg [v0_0_4, v0_1_4].toArray, vI z2.2.1, vI z2.2.2]) (v := .agg [v0_0_4, v0_1_4].toArray) rfl rfl) (Lw.r rfl (R.ext (vs := [.agg [v0_0_4, v0_1_4].toArray, vI z2.2.1, vI z2.2.2]) (v := vI z2.2.1) rfl rfl) (Lw.r rfl (R.ext (vs := [.agg [v0_0_4, v0_1_4].toArray, vI z2.2.1, vI z2.2.2]) (v := vI z2.2.2) rfl rfl) (al 4 [.slice none 0 0, .slice none 0 0] fun g6 W6 l6 b6 => ?_))))
  have a7 := a5.n l6
  refine sta b6 (oc_cons (f4_0.up l6).oc (oc_cons (f4_1.up l6).oc oc_nil)) fun W10 l10 b10 => ?_
  have a11 := a7.t l10
  have o12 := (f4_0.up l6).up l10
  have o13 := (f4_1.up l6).up l10
  refine Gi rfl (Ni rfl (sr (la b10 (mi rfl (mi rfl (cr hm (fun _ => p21 (K := [0, 2, 3]) (k0 := 5) (x0 := (Vm.Repo.mk z2.1.Commits z2.1.Heads)) ((Repo.rd (K := [2, 3]) z2.1.Commits z2.1.Heads (o12.rd.sub (M := [2, 3]) rfl) (o13.rd.sub (M := [2, 3]) rfl)).sub (M := [0, 2, 3]) rfl) ((h99.ul a11).sub (M := [0, 2, 3]) rfl)) ?_))))))
  rintro z15 v0_17 W17 hm l17 ⟨_, rfl, f17_0⟩
  have a18 := a11.n l17
  have o19 := o12.up l17
  have o20 := o13.up l17
  have b21 := b10.up l17
  refine Nv v0_17 rfl (Cw.seq ?_)
  obtain ⟨K24, hK24, hm⟩ := jn_e hm
  refine Cw.join 25 58 [58] (fun l w => ∃ y22 W23, CW.w W23 = w ∧ Le [] W17 W23 ∧ l = [vB y22] ∧ K24 y22 = some r) ?_ ?_
  ·rintro _ _ σ ⟨y22, W23, rfl, l23, rfl, hm⟩
   rw [hK24] at hm
   have a25 := a18.n l23
   refine cn hm (fun hm => ?_) fun hm => ?_
   ·refine sr (mv v0_17 rfl (la (b21.up l23) (mi rfl (mi rfl (cr hm (fun _ => p22 (K := [2, 3]) (k0 := 6) (x0 := (Vm.Repo.mk z2.1.Commits z2.1.Heads)) (Repo.rd (K := [2, 3]) z2.1.Commits z2.1.Heads ((o19.up l23).rd.sub (M := [2, 3]) rfl) ((o20.up l23).rd.sub (M := [2, 3]) rfl))) ?_)))))
    rintro z31 v0_33 W33 hm l33 ⟨_, rfl, f33_0⟩
    have a34 := a25.n l33
    refine ca hm (fun _ => p12 (K := [5, 6]) (((f17_0.up l23).up l33).rd.sub (M := [5, 6]) rfl) (f33_0.rd.sub (M := [5, 6]) rfl)) fun z39 W41 hm l41 => ?_
    have a42 := a34.n l41
    exact Nb rfl (.ret (rt hm a42))
   ·refine sk (ssr (Ni rfl (Cw.block ?_)))
    obtain ⟨K52, hK52, hm⟩ := jn_e hm
    refine Cw.loop 65 109 [2, 7, 8] (fun m l w => ∃ y48 y49 j50 W51, CW.w W51 = w ∧ Le [] W23 W51 ∧ l = [vB y48, vI y49, j50] ∧ Vm.laws_FnAncBases_l1 z2 z15 K52 m y48 y49 = some r) _ ⟨false, 0, undef, W23, rfl, Le.refl _ _, rfl, hm⟩ ?_
    rintro (_ | m53) _ _ σ ⟨y48, y49, j50, W51, rfl, l51, rfl, hm⟩
    ·cases hm
    unfold Vm.laws_FnAncBases_l1 at hm
    have a54 := a25.n l51
    have o55 := (o19.up l23).up l51
    have o56 := (o20.up l23).up l51
    have o57 := (f17_0.up l23).up l51
    have b58 := (b21.up l23).up l51
    refine ssr (mi rfl (mv v0_17 rfl (Lw.ln z15 o57.rd rfl (Lw.lt rfl (nl (cn hm (fun hm => ?_) fun hm => ?_))))))
    ·refine sk (Cw.seq (Cw.block (ssr (Ni rfl (Cw.block ?_)))))
     obtain ⟨K63, hK63, hm⟩ := jn_e hm
     refine Cw.loop 71 91 [2, 8] (fun m l w => ∃ y60 y61 W62, CW.w W62 = w ∧ Le [] W51 W62 ∧ l = [vB y60, vI y61] ∧ Vm.laws_FnAncBases_l2 z2 z15 y49 K63 m y60 y61 = some r) _ ⟨y48, 0, W51, rfl, Le.refl _ _, rfl, hm⟩ ?_
     rintro (_ | m64) _ _ σ ⟨y60, y61, W62, rfl, l62, rfl, hm⟩
     ·cases hm
     unfold Vm.laws_FnAncBases_l2 at hm
     have a65 := a54.n l62
     have o68 := o57.up l62
     refine ssr (mi rfl (mv v0_17 rfl (Lw.ln z15 o68.rd rfl (Lw.lt rfl (nl (cn hm (fun hm => ?_) fun hm => ?_))))))
     ·refine sk (Cw.seq (Cw.block ?_))
      obtain ⟨K73, hK73, hm⟩ := jn_e hm
      refine Cw.join 77 91 [91] (fun l w => ∃ y71 W72, CW.w W72 = w ∧ Le [] W62 W72 ∧ l = [vB y71] ∧ K73 y71 = some r) ?_ ?_
      ·rintro _ _ σ ⟨y71, W72, rfl, l72, rfl, hm⟩
       rw [hK73] at hm
       have a74 := a65.n l72
       refine cn hm (fun hm => ?_) fun hm => ?_
       ·exact sr (Nb rfl (.ret (rt hm a74)))
       ·exact sk (rg (mi rfl (Lw.add rfl (Ni rfl ((agm) ⟨y60, w64 (y61 + 1), W72, rfl, (l62.j l72).w, rfl, hm⟩)))))
      ·refine Cw.draw [] [(0, 0), (1, 0), (2, 0), (3, 0), (4, 1), (5, 0), (6, 0), (7, 0), (8, 1), (9, 0), (10, 0), (11, 0), (12, 1), (13, 3), (14, 0)] mixed (by kernel_rfl) fun W80 l80 => ?_
       have a81 := a65.n l80
       have o84 := o68.up l80
       refine Di rfl (Di rfl (Mw.p rfl rfl (fun _ => R.ne rfl rfl) (Db rfl (bs hm (fun hc86 hm => ?_) fun hc86 hm => ?_))))
       ·refine Wq hc86 rfl (fun _ c => R.lda (cs := [v0_0_4, v0_1_4]) (((b58.up l62).up l80).clcs rfl c) rfl rfl) (Wp hc86 rfl (fun _ => R.mv (v := v0_17) rfl) (Wp hc86 rfl (fun _ => R.mv (v := vI y49) rfl) ?_))
        obtain ⟨u87, e88, hm⟩ := ob hm
        refine Wp hc86 rfl (fun _ => R.ix (α := Int) o84.rd e88 rfl rfl rfl) (Wq hc86 rfl (fun _ c => R.ld rfl rfl (cl_cell (o84.rd.at_ e88).1 rfl (o84.rd.at_ e88).int c)) (Wp hc86 rfl (fun _ => R.mv (v := v0_17) rfl) (Wp hc86 rfl (fun _ => R.mv (v := vI y61) rfl) ?_)))
        obtain ⟨u89, e90, hm⟩ := ob hm
        refine Wp hc86 rfl (fun _ => R.ix (α := Int) o84.rd e90 rfl rfl rfl) (Wq hc86 rfl (fun _ c => R.ld rfl rfl (cl_cell (o84.rd.at_ e90).1 rfl (o84.rd.at_ e90).int c)) ?_)
        obtain ⟨z92, e93, hm⟩ := ob hm
        refine Mw.gl hc86 rfl rfl rfl rfl rfl (T.call rfl (p14 (K := [0, 2, 3])  (x0 := (Vm.Repo.mk z2.1.Commits z2.1.Heads)) ((Repo.rd (K := [2, 3]) z2.1.Commits z2.1.Heads (((o55.up l62).up l80).rd.sub (M := [2, 3]) rfl) (((o56.up l62).up l80).rd.sub (M := [2, 3]) rfl)).sub (M := [0, 2, 3]) rfl) ((h99.ul a81).sub (M := [0, 2, 3]) rfl) e93)) ?_
        rintro _ _ ⟨W94, rfl, l94, rfl⟩
        exact Mw.p rfl rfl (fun _ => R.pk hc86 rfl (v := vB z92) rfl) (Mw.nil ((ag) ⟨z92, W94, rfl, (l80.j l94).w, rfl, hm⟩))
       ·exact dps 10 hc86 rfl (Mw.p rfl rfl (fun _ => R.pk hc86 rfl (v := vB false) rfl) (Mw.nil ((ag) ⟨false, W80, rfl, l80, rfl, hm⟩)))
     ·refine Cw.exit ?_
      rw [hK63] at hm
      obtain ⟨K102, hK102, hm⟩ := jn_e hm
      refine Cw.join 92 109 [109] (fun l w => ∃ y100 W101, CW.w W101 = w ∧ Le [] W62 W101 ∧ l = [vB y100] ∧ K102 y100 = some r) ?_ ?_
      ·rintro _ _ σ ⟨y100, W101, rfl, l101, rfl, hm⟩
       rw [hK102] at hm
       have a103 := a65.n l101
       refine cn hm (fun hm => ?_) fun hm => ?_
       ·exact sr (Nb rfl (.ret (rt hm a103)))
       ·exact sk (rg (mi rfl (Lw.add rfl (Ni rfl ((agm) ⟨y60, w64 (y49 + 1), vI y61, W101, rfl, ((l51.j l62).j l101).w, rfl, hm⟩)))))
      ·refine Cw.draw [] [(0, 1), (1, 0), (2, 0), (3, 0), (4, 1), (5, 0), (6, 2), (7, 0), (8, 0), (9, 1), (10, 0), (11, 0), (12, 0), (13, 1), (14, 0), (15, 2), (16, 0), (17, 0)] mixed (by kernel_rfl) fun W109 l109 => ?_
       have a110 := a65.n l109
       have o111 := (o55.up l62).up l109
       have o112 := (o56.up l62).up l109
       have o113 := o68.up l109
       have b114 := (b58.up l62).up l109
       refine Mw.q rfl rfl (fun _ c => R.lda (cs := [v0_0_4, v0_1_4]) (b114.clcs rfl c) rfl rfl) (Dv v0_17 rfl (Di rfl ?_))
       obtain ⟨u115, e116, hm⟩ := ob hm
       refine Mw.p rfl rfl (fun _ => R.ix (α := Int) o113.rd e116 rfl rfl rfl) (Mw.q rfl rfl (fun _ c => R.ld rfl rfl (cl_cell (o113.rd.at_ e116).1 rfl (o113.rd.at_ e116).int c)) (Di rfl ?_))
       obtain ⟨z118, e119, hm⟩ := ob hm
       refine Mw.t rfl rfl (T.call rfl (p14 (K := [0, 2, 3])  (x0 := (Vm.Repo.mk z2.1.Commits z2.1.Heads)) ((Repo.rd (K := [2, 3]) z2.1.Commits z2.1.Heads (o111.rd.sub (M := [2, 3]) rfl) (o112.rd.sub (M := [2, 3]) rfl)).sub (M := [0, 2, 3]) rfl) ((h99.ul a110).sub (M := [0, 2, 3]) rfl) e119)) ?_
       rintro _ _ ⟨W120, rfl, l120, rfl⟩
       have a121 := a110.n l120
       refine m0 l120 fun d120 => Mw.p rfl rfl (fun _ => R.not rfl) (Db rfl (bs hm (fun hc126 hm => ?_) fun hc126 hm => ?_))
       ·exact dps 8 hc126 rfl (Mw.p rfl rfl (fun _ => R.pk hc126 rfl (v := vB true) rfl) (Mw.nil ((ag) ⟨true, W120, rfl, (l109.j l120).w, rfl, hm⟩)))
       ·refine Wq hc126 rfl (fun _ c => R.lda (cs := [v0_0_4, v0_1_4]) (b114.clcs rfl c) rfl rfl) (Wp hc126 rfl (fun _ => R.mv (v := v0_17) rfl) (Wp hc126 rfl (fun _ => R.mv (v := vI y49) rfl) ?_))
        obtain ⟨u127, e128, hm⟩ := ob hm
        refine Wp hc126 rfl (fun _ => R.ix (α := Int) o113.rd e128 rfl rfl rfl) (Wq hc126 rfl (fun _ c => R.ld rfl rfl (cl_cell (o113.rd.at_ e128).1 rfl (o113.rd.at_ e128).int c)) (Wp hc126 rfl (fun _ => R.mv (v := vI z2.2.2) rfl) ?_))
        obtain ⟨z130, e131, hm⟩ := ob hm
        refine Wt hc126 rfl (T.call rfl (p14 (K := [0, 2, 3])  (x0 := (Vm.Repo.mk z2.1.Commits z2.1.Heads)) ((Repo.rd (K := [2, 3]) z2.1.Commits z2.1.Heads ((o111.up l120).rd.sub (M := [2, 3]) rfl) ((o112.up l120).rd.sub (M := [2, 3]) rfl)).sub (M := [0, 2, 3]) rfl) ((h99.ul a121).sub (M := [0, 2, 3]) rfl) e131)) ?_
        rintro _ _ ⟨W132, rfl, l132, rfl⟩
        exact mc d120 l132 fun d132 => Wp hc126 rfl (fun _ => R.not rfl) (Mw.p rfl rfl (fun _ => R.pk hc126 rfl (v := vB (!z130)) rfl) (Mw.nil ((ag) ⟨(!z130), W132, rfl, ((l109.j l120).j l132).w, rfl, hm⟩)))
    ·refine Cw.exit ?_
     rw [hK52] at hm
     refine ssr (Ni rfl (Cw.block ?_))
     obtain ⟨K143, hK143, hm⟩ := jn_e hm
     refine Cw.loop 110 144 [2, 9, 10, 11] (fun m l w => ∃ y138 y139 j140 j141 W142, CW.w W142 = w ∧ Le [] W51 W142 ∧ l = [vB y138, vI y139, j140, j141] ∧ Vm.laws_FnAncBases_l3 z2 z15 K143 m y138 y139 = some r) _ ⟨y48, 0, undef, undef, W51, rfl, Le.refl _ _, rfl, hm⟩ ?_
     rintro (_ | m144) _ _ σ ⟨y138, y139, j140, j141, W142, rfl, l142, rfl, hm⟩
     ·cases hm
     unfold Vm.laws_FnAncBases_l3 at hm
     have a145 := a54.n l142
     have o146 := o55.up l142
     have o147 := o56.up l142
     have b149 := b58.up l142
     refine ssr (mi rfl (fl b149 rfl (Lw.ln z2.1.Commits o146.rd rfl (Lw.lt rfl (nl (cn hm (fun hm => ?_) fun hm => ?_))))))
     ·refine sk (Cw.seq (Cw.block (sr (Nb rfl (ssr (Ni rfl (Cw.block ?_)))))))
      obtain ⟨K154, hK154, hm⟩ := jn_e hm
      refine Cw.loop 117 132 [10, 11] (fun m l w => ∃ y151 y152 W153, CW.w W153 = w ∧ Le [] W142 W153 ∧ l = [vB y151, vI y152] ∧ Vm.laws_FnAncBases_l4 z2 z15 y139 K154 m y151 y152 = some r) _ ⟨false, 0, W142, rfl, Le.refl _ _, rfl, hm⟩ ?_
      rintro (_ | m155) _ _ σ ⟨y151, y152, W153, rfl, l153, rfl, hm⟩
      ·cases hm
      unfold Vm.laws_FnAncBases_l4 at hm
      have a156 := a145.n l153
      have o157 := o146.up l153
      have o158 := o147.up l153
      have o159 := (o57.up l142).up l153
      have b160 := b149.up l153
      refine ssr (mi rfl (mv v0_17 rfl (Lw.ln z15 o159.rd rfl (Lw.lt rfl (nl (cn hm (fun hm => ?_) fun hm => ?_))))))
      ·refine sk (Cw.seq (Cw.block (Cw.draw [] [(0, 0), (1, 0), (2, 1), (3, 0), (4, 0), (5, 0), (6, 0), (7, 1), (8, 3), (9, 0), (10, 0)] mixed (by kernel_rfl) fun W162 l162 => ?_)))
       have a163 := a156.n l162
       have o166 := o159.up l162
       refine Db rfl (Db rfl (bs hm (fun hc168 hm => ?_) fun hc168 hm => ?_))
       ·exact dps 7 hc168 rfl (Mw.p rfl rfl (fun _ => R.pk hc168 rfl (v := vB true) rfl) (Hb rfl (Mw.nil (rg (mi rfl (Lw.add rfl (Ni rfl ((agm) ⟨true, w64 (y152 + 1), W162, rfl, (l153.j l162).w, rfl, hm⟩))))))))
       ·refine Wq hc168 rfl (fun _ c => R.lda (cs := [v0_0_4, v0_1_4]) ((b160.up l162).clcs rfl c) rfl rfl) (Wp hc168 rfl (fun _ => R.mv (v := vI y139) rfl) (Wp hc168 rfl (fun _ => R.mv (v := v0_17) rfl) (Wp hc168 rfl (fun _ => R.mv (v := vI y152) rfl) ?_)))
        obtain ⟨u169, e170, hm⟩ := ob hm
        refine Wp hc168 rfl (fun _ => R.ix (α := Int) o166.rd e170 rfl rfl rfl) (Wq hc168 rfl (fun _ c => R.ld rfl rfl (cl_cell (o166.rd.at_ e170).1 rfl (o166.rd.at_ e170).int c)) ?_)
        obtain ⟨z172, e173, hm⟩ := ob hm
        refine Mw.gl hc168 rfl rfl rfl rfl rfl (T.call rfl (p14 (K := [0, 2, 3])  (x0 := (Vm.Repo.mk z2.1.Commits z2.1.Heads)) ((Repo.rd (K := [2, 3]) z2.1.Commits z2.1.Heads ((o157.up l162).rd.sub (M := [2, 3]) rfl) ((o158.up l162).rd.sub (M := [2, 3]) rfl)).sub (M := [0, 2, 3]) rfl) ((h99.ul a163).sub (M := [0, 2, 3]) rfl) e173)) ?_
        rintro _ _ ⟨W174, rfl, l174, rfl⟩
        exact Mw.p rfl rfl (fun _ => R.pk hc168 rfl (v := vB z172) rfl) (Hb rfl (Mw.nil (rg (mi rfl (Lw.add rfl (Ni rfl ((agm) ⟨z172, w64 (y152 + 1), W174, rfl, ((l153.j l162).j l174).w, rfl, hm⟩)))))))
      ·refine Cw.exit ?_
       rw [hK154] at hm
       obtain ⟨K182, hK182, hm⟩ := jn_e hm
       refine Cw.join 133 144 [144] (fun l w => ∃ y180 W181, CW.w W181 = w ∧ Le [] W153 W181 ∧ l = [vB y180] ∧ K182 y180 = some r) ?_ ?_
       ·rintro _ _ σ ⟨y180, W181, rfl, l181, rfl, hm⟩
        rw [hK182] at hm
        have a183 := a156.n l181
        refine cn hm (fun hm => ?_) fun hm => ?_
        ·exact sr (Nb rfl (.ret (rt hm a183)))
        ·exact sk (rg (mi rfl (Lw.add rfl (Ni rfl ((agm) ⟨y138, w64 (y139 + 1), vB y151, vI y152, W181, rfl, ((l142.j l153).j l181).w, rfl, hm⟩)))))
       ·refine rg (mb rfl (la b160 (mi rfl (mi rfl (ca hm (fun _ => p14 (K := [0, 2, 3]) (x0 := (Vm.Repo.mk z2.1.Commits z2.1.Heads)) ((Repo.rd (K := [2, 3]) z2.1.Commits z2.1.Heads (o157.rd.sub (M := [2, 3]) rfl) (o158.rd.sub (M := [2, 3]) rfl)).sub (M := [0, 2, 3]) rfl) ((h99.ul a156).sub (M := [0, 2, 3]) rfl)) fun z190 W192 hm l192 => ?_)))))
        have a193 := a156.n l192
        refine mb rfl (bs hm (fun hc198 hm => ?_) fun hc198 hm => ?_)
        ·exact wak 4 hc198 (la (b160.up l192) (mi rfl (mi rfl (ca hm (fun _ => p14 (K := [0, 2, 3]) (x0 := (Vm.Repo.mk z2.1.Commits z2.1.Heads)) ((Repo.rd (K := [2, 3]) z2.1.Commits z2.1.Heads ((o157.up l192).rd.sub (M := [2, 3]) rfl) ((o158.up l192).rd.sub (M := [2, 3]) rfl)).sub (M := [0, 2, 3]) rfl) ((h99.ul a193).sub (M := [0, 2, 3]) rfl)) fun z200 W202 hm l202 => Pb hc198 rfl (Lw.r rfl (R.bne rfl rfl) (nl ((ag) ⟨(y151 != z200), W202, rfl, (l192.j l202).w, rfl, hm⟩)))))))
        ·exact psk 4 hc198 rfl (Pb hc198 rfl (Lw.r rfl (R.bne rfl rfl) (nl ((ag) ⟨(y151 != false), W192, rfl, l192, rfl, hm⟩))))
     ·refine Cw.exit ?_
      rw [hK143] at hm
      obtain ⟨K210, hK210, hm⟩ := jn_e hm
      refine Cw.join 145 163 [2] (fun l w => ∃ y208 W209, CW.w W209 = w ∧ Le [] W142 W209 ∧ l = [vB y208] ∧ K210 y208 = some r) ?_ ?_
      ·rintro _ _ σ ⟨y208, W209, rfl, l209, rfl, hm⟩
       rw [hK210] at hm
       have a211 := a145.n l209
       exact .ret (rt hm a211)
      ·refine rg (la b149 (mi rfl (mi rfl (cr hm (fun _ => p21 (K := [0, 2, 3]) (k0 := 7) (x0 := (Vm.Repo.mk z2.1.Commits z2.1.Heads)) ((Repo.rd (K := [2, 3]) z2.1.Commits z2.1.Heads (o146.rd.sub (M := [2, 3]) rfl) (o147.rd.sub (M := [2, 3]) rfl)).sub (M := [0, 2, 3]) rfl) ((h99.ul a145).sub (M := [0, 2, 3]) rfl)) ?_))))
       rintro z217 v0_219 W219 hm l219 ⟨_, rfl, f219_0⟩
       have a220 := a145.n l219
       have o223 := (o57.up l142).up l219
       refine mv v0_17 rfl (ca hm (fun _ => p12 (K := [5, 7]) (f219_0.rd.sub (M := [5, 7]) rfl) (o223.rd.sub (M := [5, 7]) rfl)) fun z225 W227 hm l227 => ?_)
       have a228 := a220.n l227
       refine mb rfl (bs hm (fun hc234 hm => ?_) fun hc234 hm => ?_)
       ·refine wak 6 hc234 (la ((b149.up l219).up l227) (mi rfl (mi rfl (ca hm (fun _ => p14 (K := [0, 2, 3]) (x0 := (Vm.Repo.mk z2.1.Commits z2.1.Heads)) ((Repo.rd (K := [2, 3]) z2.1.Commits z2.1.Heads (((o146.up l219).up l227).rd.sub (M := [2, 3]) rfl) (((o147.up l219).up l227).rd.sub (M := [2, 3]) rfl)).sub (M := [0, 2, 3]) rfl) ((h99.ul a228).sub (M := [0, 2, 3]) rfl)) fun z236 W238 hm l238 => Lw.r rfl (R.not rfl) (mb rfl (bs hm (fun hc245 hm => ?_) fun hc245 hm => ?_))))))
        ·exact psk 4 hc245 rfl (wak 1 hc234 (Pb hc245 rfl (Pb hc234 rfl (Nb rfl ((ag) ⟨true, W238, rfl, ((l219.j l227).j l238).w, rfl, hm⟩)))))
        ·refine wak 4 hc245 (mv v0_17 rfl (mi rfl (Lw.t rfl (T.bsS (α := Int) (xs := [z2.2.1]) 8 [] (W := W238) [vI z2.2.1] (Each.cons ((rdI _)) Each.nil) rfl) ?_)))
         rintro v246 _ ⟨W246, rfl, l246, o246⟩
         exact ca hm (fun _ => p12 (K := [5, 8]) ((((o223.up l227).up l238).up l246).rd.sub (M := [5, 8]) rfl) (o246.rd.sub (M := [5, 8]) rfl)) fun z253 W255 hm l255 => wak 1 hc234 (Pb hc245 rfl (Pb hc234 rfl (Nb rfl ((ag) ⟨z253, W255, rfl, ((((l219.j l227).j l238).j l246).j l255).w, rfl, hm⟩))))
       ·exact psk 6 hc234 rfl (puk 4 rfl (psk 1 hc234 rfl (Pb hc234 rfl (Nb rfl ((ag) ⟨false, W227, rfl, (l219.j l227).w, rfl, hm⟩)))))
  ·refine rg (mv v0_17 rfl (la b21 (mi rfl (mi rfl (cr hm (fun _ => p22 (K := [2, 3]) (k0 := 9) (x0 := (Vm.Repo.mk z2.1.Commits z2.1.Heads)) (Repo.rd (K := [2, 3]) z2.1.Commits z2.1.Heads (o19.rd.sub (M := [2, 3]) rfl) (o20.rd.sub (M := [2, 3]) rfl))) ?_)))))
   rintro z263 v0_265 W265 hm l265 ⟨_, rfl, f265_0⟩
   have a266 := a18.n l265
   refine ca hm (fun _ => p12 (K := [5, 9]) ((f17_0.up l265).rd.sub (M := [5, 9]) rfl) (f265_0.rd.sub (M := [5, 9]) rfl)) fun z271 W273 hm l273 => ?_
   have a274 := a266.n l273
   have o275 := (o19.up l265).up l273
   have b279 := (b21.up l265).up l273
   refine Lw.r rfl (R.not rfl) (mb rfl (bs hm (fun hc280 hm => ?_) fun hc280 hm => ?_))
   ·exact psk 3 hc280 rfl (Pb hc280 rfl (mb rfl (psk 2 rfl rfl (Pb rfl rfl (mb rfl (psk 2 rfl rfl (Pb rfl rfl (mb rfl (psk 5 rfl rfl (Pb rfl rfl (mb rfl (psk 5 rfl rfl (Pb rfl rfl (nl ((ag) ⟨true, W273, rfl, (l265.j l273).w, rfl, hm⟩)))))))))))))))
   ·refine wak 3 hc280 (la b279 (ca hm (fun _ => p18 (K := [0, 2, 3]) (x0 := (Vm.Repo.mk z2.1.Commits z2.1.Heads)) ((Repo.rd (K := [2, 3]) z2.1.Commits z2.1.Heads (o275.rd.sub (M := [2, 3]) rfl) (((o20.up l265).up l273).rd.sub (M := [2, 3]) rfl)).sub (M := [0, 2, 3]) rfl) ((h99.ul a274).sub (M := [0, 2, 3]) rfl)) fun z282 W284 hm l284 => Lw.r rfl (R.not rfl) (Pb hc280 rfl (mb rfl (bs hm (fun hc291 hm => ?_) fun hc291 hm => ?_)))))
    ·exact psk 2 hc291 rfl (Pb hc291 rfl (mb rfl (psk 2 rfl rfl (Pb rfl rfl (mb rfl (psk 5 rfl rfl (Pb rfl rfl (mb rfl (psk 5 rfl rfl (Pb rfl rfl (nl ((ag) ⟨true, W284, rfl, ((l265.j l273).j l284).w, rfl, hm⟩))))))))))))
    ·refine wak 2 hc291 (mi rfl (Lw.lt rfl (Pb hc291 rfl (mb rfl (bs hm (fun hc292 hm => ?_) fun hc292 hm => ?_)))))
     ·exact psk 2 hc292 rfl (Pb hc292 rfl (mb rfl (psk 5 rfl rfl (Pb rfl rfl (mb rfl (psk 5 rfl rfl (Pb rfl rfl (nl ((ag) ⟨true, W284, rfl, ((l265.j l273).j l284).w, rfl, hm⟩)))))))))
     ·refine wak 2 hc292 (mi rfl (Lw.lt rfl (Pb hc292 rfl (mb rfl (bs hm (fun hc293 hm => ?_) fun hc293 hm => ?_)))))
      ·exact psk 5 hc293 rfl (Pb hc293 rfl (mb rfl (psk 5 rfl rfl (Pb rfl rfl (nl ((ag) ⟨true, W284, rfl, ((l265.j l273).j l284).w, rfl, hm⟩))))))
      ·refine wak 5 hc293 (mi rfl (fl (b279.up l284) rfl (Lw.ln z2.1.Commits (o275.up l284).rd rfl (Lw.ge rfl (Pb hc293 rfl (mb rfl (bs hm (fun hc294 hm => ?_) fun hc294 hm => ?_)))))))
       ·exact psk 5 hc294 rfl (Pb hc294 rfl (nl ((ag) ⟨true, W284, rfl, ((l265.j l273).j l284).w, rfl, hm⟩)))
       ·exact wak 5 hc294 (mi rfl (fl (b279.up l284) rfl (Lw.ln z2.1.Commits (o275.up l284).rd rfl (Lw.ge rfl (Pb hc294 rfl (nl ((ag) ⟨decide (((z2.1.Commits.length : Int) : Int) ≤ (z2.2.2 : Int)), W284, rfl, ((l265.j l273).j l284).w, rfl, hm⟩)))))))

theorem p5 {x0 v0_ r} (h0 : Rd W K [v0_] x0) (h99 : Gl 0 W K) (hm : Vm.laws_FnAncBases x0 = some r) : Q1 5 [v0_] W [] fun W' v => v = vB r :=
 (c5 (h0.view _) (h99.view _) hm).ad (fk 0) fun _ _ e => e

end Go.Sx
